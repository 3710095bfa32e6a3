import PyProof.Rows.All
import Wide.All
import OpenK.AllK
import Wide.FinOn
import HandS.ForMost
import HandS.Flow
import HandS.Style
import HandS.DictComp
import HandS.Conv
import HandS.More
import HandS.IsInst
import HandS.Codes
import HandS.Defaults
import HandS.RaiseMore
import HandS.Walk
import HandS.Steps
import HandS.HeadHook1
import HandS.OwnEq
import HandS.DeepEq
import PyProof.InstNe
import HandS.Head0
import HandS.Head1
import HandS.Head2
import HandS.HeadEnd
import HandS.HeadHook2
import PySem.Challenge.RW_retime_k11_distances
import KE.KDictWalk
import KE.KDictList
import PyProof.CollectStr
import HandS.TupSets
import HandS.SortOrd
set_option Elab.async false
set_option linter.all false
set_option maxRecDepth 100000
section
set_option maxHeartbeats 4000000
/-! Cps: readings step by step, one lemma a combinator, the end of each as ONE goal; calls by bundles. -/
namespace Rt
open PySem PySem.Spec PyProof.Rows L2

/-! ### promises by arity -/
def A0 (g : Hp → VK → XK → Prop) : Sp := fun vs H Q E => vs = [] ∧ g H Q E
def A1 (g : V → Hp → VK → XK → Prop) : Sp := fun vs H Q E => ∃ a, vs = [a] ∧ g a H Q E
def A2 (g : V → V → Hp → VK → XK → Prop) : Sp := fun vs H Q E => ∃ a b, vs = [a, b] ∧ g a b H Q E
def A3 (g : V → V → V → Hp → VK → XK → Prop) : Sp := fun vs H Q E => ∃ a b c, vs = [a, b, c] ∧ g a b c H Q E
def A4 (g : V → V → V → V → Hp → VK → XK → Prop) : Sp := fun vs H Q E => ∃ a b c d, vs = [a, b, c, d] ∧ g a b c d H Q E
def A5 (g : V → V → V → V → V → Hp → VK → XK → Prop) : Sp := fun vs H Q E => ∃ a b c d e, vs = [a, b, c, d, e] ∧ g a b c d e H Q E
theorem len0 {g} {vs : List V} {H : Hp} {Q : VK} {E : XK} (h : A0 g vs H Q E) : vs.length = 0 := by
  obtain ⟨rfl, _⟩ := h
  rfl
theorem len1 {g} {vs : List V} {H : Hp} {Q : VK} {E : XK} (h : A1 g vs H Q E) : vs.length = 1 := by
  obtain ⟨_, rfl, _⟩ := h
  rfl
theorem len2 {g} {vs : List V} {H : Hp} {Q : VK} {E : XK} (h : A2 g vs H Q E) : vs.length = 2 := by
  obtain ⟨_, _, rfl, _⟩ := h
  rfl
theorem len3 {g} {vs : List V} {H : Hp} {Q : VK} {E : XK} (h : A3 g vs H Q E) : vs.length = 3 := by
  obtain ⟨_, _, _, rfl, _⟩ := h
  rfl
theorem len4 {g} {vs : List V} {H : Hp} {Q : VK} {E : XK} (h : A4 g vs H Q E) : vs.length = 4 := by
  obtain ⟨_, _, _, _, rfl, _⟩ := h
  rfl
theorem len5 {g} {vs : List V} {H : Hp} {Q : VK} {E : XK} (h : A5 g vs H Q E) : vs.length = 5 := by
  obtain ⟨_, _, _, _, _, rfl, _⟩ := h
  rfl

/-! ### a def that may be called, a method, a class, with what it may let out -/
section
variable {CX : CXT} {P : Program} {w : World} {K : PySem.W.Frag} {mg : Str → Option Value} {base : Heap}
structure Cal (CX : CXT) (P : Program) (w : World) (K : PySem.W.Frag) (mg : Str → Option Value) (base : Heap) (k : Nat) (x : Str) (sp : Sp) (dvs : List V) : Prop where
  ex : ∃ (f : Addr) (fd : FuncData) (ps : List Str) (ds : List Value), FnOk P w K mg base CX k f fd ps sp ∧ mg x = some (.ref f) ∧ PySem.W.keepIn K (.ref f) = true ∧ Binds K fd ps ds ∧ Vals dvs ds
structure Met (CX : CXT) (P : Program) (w : World) (K : PySem.W.Frag) (mg : Str → Option Value) (base : Heap) (k : Nat) (C : Addr) (m : Str) (sp : Sp) (dvs : List V) : Prop where
  ex : ∃ (f : Addr) (fd : FuncData) (ps : List Str) (ds : List Value), Cls K C ∧ Meth K C m f ∧ FnOk P w K mg base CX k f fd ps sp ∧ Binds K fd ps ds ∧ Vals dvs ds
structure Mak (CX : CXT) (P : Program) (w : World) (K : PySem.W.Frag) (mg : Str → Option Value) (base : Heap) (k : Nat) (x : Str) (C : Addr) (sp : Sp) (dvs : List V) : Prop where
  ex : ∃ (f : Addr) (fd : FuncData) (ps : List Str) (ds : List Value), Mk K C f ∧ FnOk P w K mg base CX k f fd ps sp ∧ mg x = some (.ref C) ∧ Binds K fd ps ds ∧ Vals dvs ds
end
section
variable {X : Cx} {CX : CXT} {k j : Nat} {C : Addr} {x m : Str} {sp : Sp} {dvs : List V} {E : XK} {p pos apos : Pos} {e o : Expr} {es : List Expr} {ta : TE} {t : TA}
theorem pc_call (c : Cal CX X.prog X.w X.K X.mg X.base k x sp dvs) (hr : Room j X.A) (hk : k ≤ j) (hx : Passes CX X E) (hg : Gl X x) (ha : PA X (e :: es) t)
    (hdb : (x == ("__debug__" : Str)) = false := by decide) (he : starEach (e :: es) X.env = (false, eval e X.env) :: starEach es X.env := by rfl) (hpl : (backTo pos (starEach es X.env)).any (·.1) = false := by rfl) :
    PE X (.Call (.Name x p) (e :: es) [] pos) (tCall sp dvs E t) := by
  obtain ⟨f, fd, ps, ds, F, hm, kp, b, d⟩ := c.ex
  exact pe_call F (hr.mono hk) hg hm kp b d hx ha hdb he hpl
theorem pc_call0 (c : Cal CX X.prog X.w X.K X.mg X.base k x sp dvs) (hr : Room j X.A) (hk : k ≤ j) (hx : Passes CX X E) (hg : Gl X x) (hdb : (x == ("__debug__" : Str)) = false := by decide) :
    PE X (.Call (.Name x p) [] [] pos) (tCall sp dvs E tNil) := by
  obtain ⟨f, fd, ps, ds, F, hm, kp, b, d⟩ := c.ex
  exact pe_call0 F (hr.mono hk) hg hm kp b d hx hdb
theorem pc_make (c : Mak CX X.prog X.w X.K X.mg X.base k x C sp dvs) (hr : Room j X.A) (hk : k + 1 ≤ j) (hx : Passes CX X E) (hg : Gl X x) (ha : PA X (e :: es) t)
    (hdb : (x == ("__debug__" : Str)) = false := by decide) (he : starEach (e :: es) X.env = (false, eval e X.env) :: starEach es X.env := by rfl) (hpl : (backTo pos (starEach es X.env)).any (·.1) = false := by rfl) :
    PE X (.Call (.Name x p) (e :: es) [] pos) (tMake C sp dvs E t) := by
  obtain ⟨f, fd, ps, ds, M, F, hm, b, d⟩ := c.ex
  exact pe_make M F (hr.mono hk) hg hm b d hx ha hdb he hpl
theorem pc_make0 (c : Mak CX X.prog X.w X.K X.mg X.base k x C sp dvs) (hr : Room j X.A) (hk : k + 1 ≤ j) (hx : Passes CX X E) (hg : Gl X x) (hdb : (x == ("__debug__" : Str)) = false := by decide) :
    PE X (.Call (.Name x p) [] [] pos) (tMake C sp dvs E tNil) := by
  obtain ⟨f, fd, ps, ds, M, F, hm, b, d⟩ := c.ex
  exact pe_make0 M F (hr.mono hk) hg hm b d hx hdb
theorem pc_meth {pl : Sem Bool} (c : Met CX X.prog X.w X.K X.mg X.base k C m sp dvs) (hr : Room j X.A) (hk : k ≤ j) (hx : Passes CX X E) (he : PE X o ta) (ha : PA X (e :: es) t)
    (hst : starEach (e :: es) X.env = (false, eval e X.env) :: starEach es X.env := by rfl) (hpl : (backTo pos (starEach es X.env)).any (·.1) = false := by rfl)
    (ht : eval (.Call (.Attribute o m apos) (e :: es) [] pos) X.env = (do
      let ov ← eval o X.env
      standAt apos.atName
      let (f, first) ← holding [ov] (getMethod ov m pl)
      callWith pos f first (backTo pos (starEach (e :: es) X.env)) (backToKw pos (keywordEach [] X.env))) := by rfl) :
    PE X (.Call (.Attribute o m apos) (e :: es) [] pos) (tMeth C m sp dvs E ta t) := by
  obtain ⟨f, fd, ps, ds, hc, hm, F, b, d⟩ := c.ex
  exact pe_meth (pl := pl) he hc hm F (hr.mono hk) b d hx ha hst hpl ht
theorem pc_meth0 {pl : Sem Bool} (c : Met CX X.prog X.w X.K X.mg X.base k C m sp dvs) (hr : Room j X.A) (hk : k ≤ j) (hx : Passes CX X E) (he : PE X o ta)
    (ht : eval (.Call (.Attribute o m apos) [] [] pos) X.env = (do
      let ov ← eval o X.env
      standAt apos.atName
      let (f, first) ← holding [ov] (getMethod ov m pl)
      callWith pos f first (backTo pos (starEach [] X.env)) (backToKw pos (keywordEach [] X.env))) := by rfl) :
    PE X (.Call (.Attribute o m apos) [] [] pos) (tMeth C m sp dvs E ta tNil) := by
  obtain ⟨f, fd, ps, ds, hc, hm, F, b, d⟩ := c.ex
  exact pe_meth0 (pl := pl) he hc hm F (hr.mono hk) b d hx ht
end

/-! ### operations by names of their own -/
def rAdd : R2 := rI0 fun i j => .int (i + j)
def rSub : R2 := rI0 fun i j => .int (i - j)
def rMul : R2 := rI CMul fun i j => .int (i * j)
def rMod : R2 := rI (fun _ j => 0 < j) fun i j => .int (i % j)
def rFdv : R2 := rI CDiv fun i j => .int (i / j)
def rPow : R2 := rI CPow fun i j => .int (i ^ j.toNat)
def rLt : R2 := rI0 fun i j => .bl (decide (i < j))
def rLe : R2 := rI0 fun i j => .bl (decide (i ≤ j))
def rGt : R2 := rI0 fun i j => .bl (decide (j < i))
def rGe : R2 := rI0 fun i j => .bl (decide (j ≤ i))
def uNeg : V → Hp → VK → Prop := rU fun i => .int (-i)
def rInSg : R2 := fun x y H Q => ∃ (c : Nat) (z : Str), x = .str ⟨#[c]⟩ ∧ y = .str z ∧ Q (.bl (decide (c ∈ z.cps.toList))) H
section
variable {X : Cx}
theorem o_add : OpR X (binaryOp .Add) rAdd := op_add
theorem o_sub : OpR X (binaryOp .Sub) rSub := op_sub
theorem o_mul : OpR X (binaryOp .Mult) rMul := op_mul
theorem o_mod : OpR X (binaryOp .Mod) rMod := op_mod
theorem o_fdv : OpR X (binaryOp .FloorDiv) rFdv := op_fdiv
theorem o_pow : OpR X (binaryOp .Pow) rPow := op_pow
theorem o_lt : OpR X (compareOp .Lt) rLt := op_lt
theorem o_le : OpR X (compareOp .LtE) rLe := op_le
theorem o_gt : OpR X (compareOp .Gt) rGt := op_gt
theorem o_ge : OpR X (compareOp .GtE) rGe := op_ge
theorem u_neg : UnR X (unaryOp .USub) uNeg := un_neg
theorem o_inSg : OpR X (compareOp .In) rInSg := op_in_sign
end

/-! ### one step each -/
section
variable {K : PySem.W.Frag} {σ : L2.St} {H : Hp} {Q : VK} {v x y : V} {i j : Int} {ta tb tc : TE} {r r' : R2} {n : Nat} {QB : Bool → Hp → Prop} {QA : List V → Hp → Prop}
theorem c_var (h : σ[n]? = some (some v)) (q : Q v H) : tVar n σ H Q := ⟨v, h, q⟩
theorem c_c (q : Q v H) : tC v σ H Q := q
theorem c_op (h : ta σ H fun x H1 => tb σ H1 fun y H2 => r x y H2 Q) : tOp r ta tb σ H Q := h
theorem c_un {r : V → Hp → VK → Prop} (h : ta σ H fun x H1 => r x H1 Q) : tUn r ta σ H Q := h
theorem c_add (q : Q (.int (i + j)) H) : rAdd (.int i) (.int j) H Q := ⟨i, j, rfl, rfl, q⟩
theorem c_sub (q : Q (.int (i - j)) H) : rSub (.int i) (.int j) H Q := ⟨i, j, rfl, rfl, q⟩
theorem c_mul (hc : CMul i j) (q : Q (.int (i * j)) H) : rMul (.int i) (.int j) H Q := ⟨i, j, rfl, rfl, hc, q⟩
theorem c_mod (hc : 0 < j) (q : Q (.int (i % j)) H) : rMod (.int i) (.int j) H Q := ⟨i, j, rfl, rfl, hc, q⟩
theorem c_fdv (hc : CDiv i j) (q : Q (.int (i / j)) H) : rFdv (.int i) (.int j) H Q := ⟨i, j, rfl, rfl, hc, q⟩
theorem c_pow (hc : CPow i j) (q : Q (.int (i ^ j.toNat)) H) : rPow (.int i) (.int j) H Q := ⟨i, j, rfl, rfl, hc, q⟩
theorem c_lt (q : Q (.bl (decide (i < j))) H) : rLt (.int i) (.int j) H Q := ⟨i, j, rfl, rfl, q⟩
theorem c_le (q : Q (.bl (decide (i ≤ j))) H) : rLe (.int i) (.int j) H Q := ⟨i, j, rfl, rfl, q⟩
theorem c_gt (q : Q (.bl (decide (j < i))) H) : rGt (.int i) (.int j) H Q := ⟨i, j, rfl, rfl, q⟩
theorem c_ge (q : Q (.bl (decide (j ≤ i))) H) : rGe (.int i) (.int j) H Q := ⟨i, j, rfl, rfl, q⟩
theorem c_neg (q : Q (.int (-i)) H) : uNeg (.int i) H Q := ⟨i, rfl, q⟩
theorem c_eq (hs : scal x y = true) (q : Q (.bl (decide (x = y))) H) : rEq x y H Q := ⟨hs, q⟩
theorem c_ne (hs : scal x y = true) (q : Q (.bl (!decide (x = y))) H) : rNe x y H Q := ⟨hs, q⟩
theorem c_inSg {c : Nat} {z : Str} (q : Q (.bl (decide (c ∈ z.cps.toList))) H) : rInSg (.str ⟨#[c]⟩) (.str z) H Q := ⟨c, z, rfl, rfl, q⟩
theorem c_isN (q : Q (.bl (decide (x = .non))) H) : rIsN x .non H Q := ⟨rfl, q⟩
theorem c_notN (q : Q (.bl (!decide (x = .non))) H) : rNotN x .non H Q := ⟨rfl, q⟩
theorem c_chain (h : ta σ H fun x H1 => tb σ H1 fun y H2 => r x y H2 fun z H3 => ∃ k, z = .bl k ∧ if k = true then tc σ H3 fun w' H4 => r' y w' H4 Q else Q (.bl false) H3) : tChain r r' ta tb tc σ H Q := h
theorem c_test (h : ta σ H fun x H' => ∃ k, x = .bl k ∧ QB k H') : tTest ta σ H QB := h
theorem c_tB (h : ta σ H fun x H' => ∃ k, x = .bl k ∧ QB k H') : tB ta σ H QB := h
theorem c_bl {b : Bool} {P : Bool → Prop} (q : P b) : ∃ k, V.bl b = .bl k ∧ P k := ⟨b, rfl, q⟩
theorem c_and {t u : TT} (h : t σ H fun c H1 => if c = true then u σ H1 QB else QB false H1) : tAnd t u σ H QB := h
theorem c_or {t u : TT} (h : t σ H fun c H1 => if c = true then QB true H1 else u σ H1 QB) : tOr t u σ H QB := h
theorem c_not {t : TT} (h : t σ H fun c H1 => QB (!c) H1) : tNot t σ H QB := h
theorem c_andV (h : ta σ H fun x H1 => ∃ c, x = .bl c ∧ if c = true then tb σ H1 Q else Q (.bl false) H1) : tAndV ta tb σ H Q := h
theorem c_orV (h : ta σ H fun x H1 => ∃ c, x = .bl c ∧ if c = true then Q (.bl true) H1 else tb σ H1 Q) : tOrV ta tb σ H Q := h
theorem c_notV (h : ta σ H fun x H1 => ∃ c, x = .bl c ∧ Q (.bl (!c)) H1) : tNotV ta σ H Q := h
theorem c_if {t : TT} (h : t σ H fun c H1 => if c = true then ta σ H1 Q else tb σ H1 Q) : tIf t ta tb σ H Q := h
theorem c_nil (q : QA [] H) : tNil σ H QA := q
theorem c_cons {tr : TA} (h : ta σ H fun x H1 => tr σ H1 fun xs H2 => QA (x :: xs) H2) : tCons ta tr σ H QA := h
theorem c_CB {r : List V → Hp → VK → Prop} {t : TA} (h : t σ H fun vs H1 => r vs H1 Q) : tCB r t σ H Q := h
theorem c_call {sp : Sp} {dvs : List V} {E : XK} {t : TA} (h : t σ H fun vs H1 => sp (vs ++ dvs) H1 Q E) : tCall sp dvs E t σ H Q := h
def FldG (K : PySem.W.Frag) (f : Str) (x : V) (H1 : Hp) (Q : VK) : Prop := ∃ a C dx fs v, x = .ref a ∧ H1 a = some (.ins C dx fs) ∧ Cls K C ∧ NoAttr K C f ∧ fs.lookup f = some v ∧ Q v H1
theorem c_fld' {f : Str} (h : ta σ H fun x H1 => FldG K f x H1 Q) : tFld K ta f σ H Q := h
/-- .. at a known object -/
theorem c_fldAt {a C dx : Addr} {fs : List (Str × V)} {f : Str} (ho : H a = some (.ins C dx fs)) (hc : Cls K C) (hn : NoAttr K C f) (hl : fs.lookup f = some v) (q : Q v H) : FldG K f (.ref a) H Q := ⟨a, C, dx, fs, v, rfl, ho, hc, hn, hl, q⟩
def MethG (C : Addr) (m : Str) (x : V) (H1 : Hp) (R : Prop) : Prop := ∃ a dx fs, x = .ref a ∧ H1 a = some (.ins C dx fs) ∧ fs.lookup m = none ∧ R
theorem c_meth {C : Addr} {m : Str} {sp : Sp} {dvs : List V} {E : XK} {t : TA} (h : ta σ H fun x H1 => MethG C m x H1 (t σ H1 fun vs H2 => sp (x :: (vs ++ dvs)) H2 Q E)) : tMeth C m sp dvs E ta t σ H Q := by
  refine h
theorem c_methAt {a C dx : Addr} {fs : List (Str × V)} {m : Str} {R : Prop} (ho : H a = some (.ins C dx fs)) (hl : fs.lookup m = none) (q : R) : MethG C m (.ref a) H R := ⟨a, dx, fs, rfl, ho, hl, q⟩
/-- a new object, what follows kept as a function -/
def NewO (o : HO) (H : Hp) (Q : VK) : Prop := ∀ p, H p = none → Q (.ref p) (upd H p o)
theorem c_tup {t : TA} (h : t σ H fun xs H1 => xs.length ≤ sizeLine ∧ NewO (.tup xs) H1 Q) : tTup t σ H Q := h
theorem c_lst {t : TA} (h : t σ H fun xs H1 => xs.length ≤ sizeLine ∧ NewO (.lst xs) H1 Q) : tLst t σ H Q := h
theorem c_dnK (h : NewO (.dK []) H Q) : tDNewK σ H Q := h
theorem c_dnT (h : NewO (.dT []) H Q) : tDNewT σ H Q := h
/-- a new object: what stood stands -/
theorem c_new {o : HO} (h : ∀ p H', H p = none → Same H H' → H' p = some o → Q (.ref p) H') : ∀ p, H p = none → Q (.ref p) (upd H p o) := fun p hp =>
  h p _ hp (fun b u e => by rw [upd_ne (ne_of_none e hp)]; exact e) upd_same
theorem c_nw {o : HO} (h : ∀ p H', H p = none → Same H H' → H' p = some o → Q (.ref p) H') : NewO o H Q := c_new h
theorem c_nl {o : HO} {m : Nat} (hm : Nat.ble m 1000 = true) (h : ∀ p H', H p = none → Same H H' → H' p = some o → Q (.ref p) H') : m ≤ sizeLine ∧ NewO o H Q := ⟨Nat.le_trans (Nat.le_of_ble_eq_true hm) (by decide), c_new h⟩
/-! statements -/
variable {nx bk ct : L2.St → Hp → Prop} {rt : VK} {t u : TS}
theorem c_seq (h : t ⟨u ⟨nx, rt, bk, ct⟩, rt, bk, ct⟩ σ H) : tSeq t u ⟨nx, rt, bk, ct⟩ σ H := h
theorem c_asg {m : Nat} (h : ta σ H fun v H1 => nx (σ.set m (some v)) H1) : tAsg ta (gName m) ⟨nx, rt, bk, ct⟩ σ H := h
theorem c_ret (h : ta σ H rt) : tRet ta ⟨nx, rt, bk, ct⟩ σ H := h
theorem c_retN (h : rt .non H) : tRetN ⟨nx, rt, bk, ct⟩ σ H := h
theorem c_drop (h : ta σ H fun _ H1 => nx σ H1) : tDrop ta ⟨nx, rt, bk, ct⟩ σ H := h
theorem c_next (h : nx σ H) : tNext ⟨nx, rt, bk, ct⟩ σ H := h
theorem c_brk (h : bk σ H) : tBreak ⟨nx, rt, bk, ct⟩ σ H := h
theorem c_cont (h : ct σ H) : tCont ⟨nx, rt, bk, ct⟩ σ H := h
theorem c_ifS {c : TT} (h : c σ H fun b H1 => if b = true then t ⟨nx, rt, bk, ct⟩ σ H1 else u ⟨nx, rt, bk, ct⟩ σ H1) : tIfS c t u ⟨nx, rt, bk, ct⟩ σ H := h
theorem c_set {σ' : L2.St} (e : σ' = σ) (h : nx σ' H) : nx σ H := e ▸ h
theorem c_T {A B : Prop} (h : A) : if true = true then A else B := by
  rw [if_pos rfl]
  exact h
theorem c_F {A B : Prop} (h : B) : if false = true then A else B := by
  rw [if_neg Bool.false_ne_true]
  exact h
theorem c_ite {b : Bool} {A B : Prop} (h1 : b = true → A) (h2 : b = false → B) : if b = true then A else B := by
  cases b with
  | true => exact c_T (h1 rfl)
  | false => exact c_F (h2 rfl)
end
/-! ### heaps -/
theorem same_at {G H : Hp} {a : Addr} {o : HO} (s : Same G H) (h : G a = some o) : H a = some o := s a o h
theorem same_mut {G H : Hp} {p : Addr} {o : HO} (s : Same G H) (h : G p = none) : Same G (upd H p o) := fun a u ha => by
  rw [upd_ne (ne_of_none ha h)]
  exact s a u ha
end Rt
end
section
set_option maxHeartbeats 4000000
/-! Data: plans as data, association lists, how they lie in the heap. -/
namespace Rt
open PySem PySem.Spec PyProof.Rows L2

/-! ### association lists -/
section
variable {α β : Type} [DecidableEq α]
def look (g : List (α × β)) (k : α) : Option β := (g.find? fun e => decide (e.1 = k)).map (·.2)
def put (g : List (α × β)) (k : α) (v : β) : List (α × β) := if (g.any fun e => decide (e.1 = k)) = true then g.map (fun e => if e.1 = k then (e.1, v) else e) else g ++ [(k, v)]
theorem look_nil {k : α} : look ([] : List (α × β)) k = none := rfl
theorem look_pos {e : α × β} {r : List (α × β)} {k : α} (h : e.1 = k) : look (e :: r) k = some e.2 := by simp [look, List.find?_cons, h]
theorem look_neg {e : α × β} {r : List (α × β)} {k : α} (h : ¬ e.1 = k) : look (e :: r) k = look r k := by simp [look, List.find?_cons, h]
theorem look_any (k : α) : ∀ g : List (α × β), (g.any fun e => decide (e.1 = k)) = (look g k).isSome
  | [] => rfl
  | e :: r => by
    by_cases h : e.1 = k
    · rw [look_pos h, List.any_cons, decide_eq_true h]; rfl
    · rw [look_neg h, List.any_cons, decide_eq_false h, Bool.false_or]; exact look_any k r
theorem look_rep (k j : α) (v : β) : ∀ g : List (α × β), look (g.map fun e => if e.1 = k then (e.1, v) else e) j = (look g j).map fun x => if j = k then v else x
  | [] => rfl
  | e :: r => by
    have ih := look_rep k j v r
    rw [List.map_cons]
    by_cases h : e.1 = k
    · rw [if_pos h]
      by_cases q : e.1 = j
      · rw [look_pos (e := (e.1, v)) q, look_pos q, Option.map_some, if_pos (q.symm.trans h)]
      · rw [look_neg (e := (e.1, v)) q, look_neg q, ih]
    · rw [if_neg h]
      by_cases q : e.1 = j
      · rw [look_pos (e := e) q, look_pos q, Option.map_some, if_neg (fun z => h (q.trans z))]
      · rw [look_neg (e := e) q, look_neg q, ih]
theorem look_app (g : List (α × β)) (k j : α) (v : β) (h : look g k = none) : look (g ++ [(k, v)]) j = if j = k then some v else look g j := by
  induction g with
  | nil =>
    by_cases e : k = j
    · rw [if_pos e.symm]; exact look_pos (e := (k, v)) e
    · rw [if_neg (fun z => e z.symm)]; exact look_neg (e := (k, v)) e
  | cons e r ih =>
    rw [List.cons_append]
    have hk : ¬ e.1 = k := fun z => by rw [look_pos z] at h; cases h
    rw [look_neg hk] at h
    by_cases q : e.1 = j
    · rw [look_pos q, look_pos q, if_neg (fun z => hk (q.trans z))]
    · rw [look_neg q, look_neg q, ih h]
theorem look_put (g : List (α × β)) (k j : α) (v : β) : look (put g k v) j = if j = k then some v else look g j := by
  unfold put
  by_cases a : (g.any fun e => decide (e.1 = k)) = true
  · rw [if_pos a, look_rep]
    rw [look_any] at a
    by_cases e : j = k
    · obtain ⟨x, hx⟩ := Option.isSome_iff_exists.mp a
      rw [if_pos e, e, hx, Option.map_some, if_pos rfl]
    · rw [if_neg e]
      cases look g j with
      | none => rfl
      | some x => rw [Option.map_some, if_neg e]
  · rw [if_neg a]
    refine look_app g k j v ?_
    rw [look_any] at a
    cases q : look g k with
    | none => rfl
    | some x => rw [q] at a; exact (a rfl).elim
theorem look_same (g : List (α × β)) (k : α) (v : β) : look (put g k v) k = some v := by rw [look_put, if_pos rfl]
theorem look_other {g : List (α × β)} {k j : α} {v : β} (h : j ≠ k) : look (put g k v) j = look g j := by rw [look_put, if_neg h]
theorem len_put (g : List (α × β)) (k : α) (v : β) : (put g k v).length ≤ g.length + 1 := by
  unfold put
  split
  · rw [List.length_map]; omega
  · rw [List.length_append, List.length_cons, List.length_nil]; omega
/-- the keys of a store -/
theorem keys_put (g : List (α × β)) (k : α) (v : β) : (put g k v).map (·.1) = if k ∈ g.map (·.1) then g.map (·.1) else g.map (·.1) ++ [k] := by
  have hk : (g.any fun e => decide (e.1 = k)) = true ↔ k ∈ g.map (·.1) := by
    rw [List.any_eq_true, List.mem_map]
    constructor
    · rintro ⟨e, he, q⟩; exact ⟨e, he, of_decide_eq_true q⟩
    · rintro ⟨e, he, q⟩; exact ⟨e, he, decide_eq_true q⟩
  unfold put
  by_cases a : (g.any fun e => decide (e.1 = k)) = true
  · rw [if_pos a, if_pos (hk.mp a), List.map_map]
    refine List.map_congr_left fun e _ => ?_
    show (if e.1 = k then (e.1, v) else e).1 = e.1
    split <;> rfl
  · rw [if_neg a, if_neg (fun z => a (hk.mpr z)), List.map_append]
    rfl
theorem nodup_put {g : List (α × β)} {k : α} {v : β} (h : (g.map (·.1)).Nodup) : ((put g k v).map (·.1)).Nodup := by
  rw [keys_put]
  split
  · exact h
  · rename_i hn
    rw [List.nodup_append]
    exact ⟨h, by simp, fun a ha b hb => by
      rw [List.mem_singleton] at hb
      rintro rfl
      exact hn (hb ▸ ha)⟩
theorem look_mem {g : List (α × β)} {k : α} {v : β} (h : look g k = some v) : (k, v) ∈ g := by
  unfold look at h
  obtain ⟨e, he, q⟩ := Option.map_eq_some_iff.mp h
  have := List.find?_some he
  have hm := List.mem_of_find?_eq_some he
  have e1 : e.1 = k := of_decide_eq_true this
  rw [← e1, ← q]
  exact hm
theorem look_of_mem {g : List (α × β)} (nd : (g.map (·.1)).Nodup) : ∀ {k : α} {v : β}, (k, v) ∈ g → look g k = some v := by
  induction g with
  | nil => intro k v h; cases h
  | cons e r ih =>
    intro k v h
    have nd' : (e.1 :: r.map (·.1)).Nodup := nd
    obtain ⟨h1, h2⟩ := List.nodup_cons.mp nd'
    rcases List.mem_cons.mp h with q | q
    · subst q; exact look_pos rfl
    · rw [look_neg, ih h2 q]
      intro z
      exact h1 (List.mem_map.mpr ⟨(k, v), q, z.symm⟩)
theorem look_none {g : List (α × β)} {k : α} : look g k = none ↔ k ∉ g.map (·.1) := by
  have h := look_any k g
  constructor
  · intro e m
    rw [e] at h
    obtain ⟨p, hp, q⟩ := List.mem_map.mp m
    have : (g.any fun e => decide (e.1 = k)) = true := List.any_eq_true.mpr ⟨p, hp, decide_eq_true q⟩
    rw [this] at h
    cases h
  · intro hn
    cases q : look g k with
    | none => rfl
    | some v => exact (hn (List.mem_map.mpr ⟨(k, v), look_mem q, rfl⟩)).elim
theorem look_isSome {g : List (α × β)} {k : α} : (look g k).isSome = true ↔ k ∈ g.map (·.1) := by
  rw [Option.isSome_iff_ne_none, ne_eq, look_none, Classical.not_not]
end
/-! tables of values -/
section
variable {α β κ : Type} [DecidableEq α] [DecidableEq κ] {f : α → κ} {h : β → V}
theorem valV_of (inj : ∀ a b, f a = f b → a = b) (g : List (α × β)) (k : α) : valV (g.map fun e => (f e.1, h e.2)) (f k) = (look g k).map h := by
  induction g with
  | nil => rfl
  | cons e r ih =>
    rw [List.map_cons]
    by_cases q : e.1 = k
    · rw [valV_pos (p := (f e.1, h e.2)) (congrArg f q), look_pos q]; rfl
    · rw [valV_neg (p := (f e.1, h e.2)) (fun z => q (inj _ _ z)), look_neg q]; exact ih
theorem putK_of (inj : ∀ a b, f a = f b → a = b) (g : List (α × β)) (k : α) (v : β) : putK (g.map fun e => (f e.1, h e.2)) (f k) (h v) = (put g k v).map fun e => (f e.1, h e.2) := by
  have e1 : ((g.map fun e => (f e.1, h e.2)).any fun kv => decide (kv.1 = f k)) = g.any fun e => decide (e.1 = k) := by
    rw [List.any_map]
    congr 1
    funext e
    show decide (f e.1 = f k) = decide (e.1 = k)
    by_cases q : e.1 = k
    · rw [decide_eq_true q, decide_eq_true (congrArg f q)]
    · rw [decide_eq_false q, decide_eq_false fun z => q (inj _ _ z)]
  unfold putK put
  rw [e1]
  by_cases a : (g.any fun e => decide (e.1 = k)) = true
  · rw [if_pos a, if_pos a, List.map_map, List.map_map]
    refine List.map_congr_left fun e _ => ?_
    show (if f e.1 = f k then (f e.1, h v) else (f e.1, h e.2)) = (f (if e.1 = k then (e.1, v) else e).1, h (if e.1 = k then (e.1, v) else e).2)
    by_cases q : e.1 = k
    · rw [if_pos (congrArg f q), if_pos q]
    · rw [if_neg (fun z => q (inj _ _ z)), if_neg q]
  · rw [if_neg a, if_neg a, List.map_append]; rfl
end
/-! ### plans -/
abbrev Lag : Type := Str × Str × Int
structure PlanD where
  hz : Int
  ts : List (Str × Int)
  lg : List Lag
abbrev Pr : Type := Str × Str
def kS (x : Str) : Key := .inr x
theorem kS_inj (a b : Str) (h : kS a = kS b) : a = b := Sum.inr.inj h
def kP (p : Pr) : List Key := [.inr p.1, .inr p.2]
theorem kP_inj (a b : Pr) (h : kP a = kP b) : a = b := by
  unfold kP at h
  injection h with h1 h2
  injection h2 with h3 _
  exact Prod.ext (Sum.inr.inj h1) (Sum.inr.inj h3)
/-- names with ints, names with names, pairs with ints, pairs with names -/
def dSI (g : List (Str × Int)) : List (Key × V) := g.map fun e => (kS e.1, .int e.2)
def dSS (g : List (Str × Str)) : List (Key × V) := g.map fun e => (kS e.1, .str e.2)
def dPI (g : List (Pr × Int)) : List (List Key × V) := g.map fun e => (kP e.1, .int e.2)
def dPS (g : List (Pr × Str)) : List (List Key × V) := g.map fun e => (kP e.1, .str e.2)
theorem val_SI (g : List (Str × Int)) (k : Str) : valV (dSI g) (kS k) = (look g k).map V.int := valV_of kS_inj g k
theorem val_SS (g : List (Str × Str)) (k : Str) : valV (dSS g) (kS k) = (look g k).map V.str := valV_of kS_inj g k
theorem val_PI (g : List (Pr × Int)) (k : Pr) : valV (dPI g) (kP k) = (look g k).map V.int := valV_of kP_inj g k
theorem val_PS (g : List (Pr × Str)) (k : Pr) : valV (dPS g) (kP k) = (look g k).map V.str := valV_of kP_inj g k
theorem put_SI (g : List (Str × Int)) (k : Str) (v : Int) : putK (dSI g) (kS k) (.int v) = dSI (put g k v) := putK_of (h := V.int) kS_inj g k v
theorem put_SS (g : List (Str × Str)) (k v : Str) : putK (dSS g) (kS k) (.str v) = dSS (put g k v) := putK_of (h := V.str) kS_inj g k v
theorem put_PI (g : List (Pr × Int)) (k : Pr) (v : Int) : putK (dPI g) (kP k) (.int v) = dPI (put g k v) := putK_of (h := V.int) kP_inj g k v
theorem put_PS (g : List (Pr × Str)) (k : Pr) (v : Str) : putK (dPS g) (kP k) (.str v) = dPS (put g k v) := putK_of (h := V.str) kP_inj g k v
theorem len_SI (g : List (Str × Int)) : (dSI g).length = g.length := List.length_map ..
theorem len_SS (g : List (Str × Str)) : (dSS g).length = g.length := List.length_map ..
theorem len_PI (g : List (Pr × Int)) : (dPI g).length = g.length := List.length_map ..
theorem len_PS (g : List (Pr × Str)) : (dPS g).length = g.length := List.length_map ..
/-- a lag's tuple -/
def lagV (l : Lag) : List V := [.str l.1, .str l.2.1, .int l.2.2]
def lagK (l : Lag) : List Key := [.inr l.1, .inr l.2.1, .inl l.2.2]
theorem lagV_eq (l : Lag) : lagV l = (lagK l).map kV := rfl
def LagRef (H : Hp) (v : V) (l : Lag) : Prop := ∃ p, v = .ref p ∧ H p = some (.tup (lagV l))
abbrev LagRefs (H : Hp) : List V → List Lag → Prop := Paired (LagRef H)
theorem LagRef.same {G H : Hp} {v : V} {l : Lag} (s : Same G H) (h : LagRef G v l) : LagRef H v l := by
  obtain ⟨p, rfl, e⟩ := h
  exact ⟨p, rfl, s _ _ e⟩
theorem LagRefs.same {G H : Hp} {vs : List V} {ls : List Lag} (s : Same G H) (h : LagRefs G vs ls) : LagRefs H vs ls := Paired.mapP h fun _ _ q => q.same s
/-- a tuple, laid or written -/
def TupAt (K : PySem.W.Frag) (H : Hp) (a : Addr) (xs : List V) : Prop := H a = some (.tup xs) ∨ ∃ (o : Obj) (its : Array Value) (n : Nat), K.lookup a = some o ∧ o.cls = .type "tuple" ∧ o.data = .seq its n ∧ its.size ≤ sizeLine ∧ Vals xs its.toList
theorem TupAt.sq {K : PySem.W.Frag} {H : Hp} {a : Addr} {xs : List V} (h : TupAt K H a xs) : SqT K H a xs := h.imp (fun z => .inl z) fun z => z
theorem TupAt.same {K : PySem.W.Frag} {G H : Hp} {a : Addr} {xs : List V} (s : Same G H) (h : TupAt K G a xs) : TupAt K H a xs := h.imp (fun z => s _ _ z) fun z => z
theorem TupAt.ty {K : PySem.W.Frag} {H : Hp} {a : Addr} {xs : List V} (h : TupAt K H a xs) : TyX K H (.ref a) (.type "tuple") := by
  rcases h with h | ⟨o, its, n, h1, h2, _⟩
  · exact .base (.tup h)
  · exact .kTuple h1 h2
theorem sqL_ty {K : PySem.W.Frag} {H : Hp} {a : Addr} {xs : List V} (h : SqL K H a xs) : TyX K H (.ref a) (.type "list") := by
  rcases h with (h | ⟨o, h⟩) | ⟨o, its, n, h1, h2, _⟩
  · exact .base (.lst h)
  · exact .base (.frz h)
  · exact .kList h1 h2
/-- a list or a tuple of lags -/
def LagSeq (K : PySem.W.Frag) (H : Hp) (a : Addr) (ls : List Lag) : Prop := ∃ vs, (SqL K H a vs ∨ TupAt K H a vs) ∧ LagRefs H vs ls
theorem same_seqT {K : PySem.W.Frag} {H H' : Hp} {a : Addr} {xs : List V} (e : Same H H') (h : SqT K H a xs) : SqT K H' a xs := by
  rcases h with (h | ⟨o, h⟩) | h
  · exact .inl (.inl (e _ _ h))
  · exact .inl (.inr ⟨o, e _ _ h⟩)
  · exact .inr h
theorem LagSeq.same {K : PySem.W.Frag} {G H : Hp} {a : Addr} {ls : List Lag} (s : Same G H) (h : LagSeq K G a ls) : LagSeq K H a ls := by
  obtain ⟨vs, h1, h2⟩ := h
  exact ⟨vs, h1.imp (fun z => s.seq z) (fun z => z.same s), h2.same s⟩
def planF (p : PlanD) (bn ol : Addr) : List (Str × V) := [("horizon", .int p.hz), ("by_name", .ref bn), ("own_lags", .ref ol)]
def PlanAt (K : PySem.W.Frag) (H : Hp) (a : Addr) (p : PlanD) : Prop := ∃ dx bn ol vs, H a = some (.ins (He.ga K "Plan") dx (planF p bn ol)) ∧ H bn = some (.dK (dSI p.ts)) ∧ H ol = some (.tup vs) ∧ LagRefs H vs p.lg
theorem PlanAt.same {K : PySem.W.Frag} {G H : Hp} {a : Addr} {p : PlanD} (s : Same G H) (h : PlanAt K G a p) : PlanAt K H a p := by
  obtain ⟨dx, bn, ol, vs, h1, h2, h3, h4⟩ := h
  exact ⟨dx, bn, ol, vs, s _ _ h1, s _ _ h2, s _ _ h3, h4.same s⟩
/-- the value r, all that stood stands -/
def Ret (r : V) (H : Hp) (Q : VK) : Prop := ∀ H', Same H H' → Q r H'
/-- a new object -/
def RetO (o : HO) (H : Hp) (Q : VK) : Prop := ∀ p H', H p = none → Same H H' → H' p = some o → Q (.ref p) H'
theorem Ret.same {r : V} {G H : Hp} {Q : VK} (s : Same G H) (h : Ret r G Q) : Ret r H Q := fun H' s' => h H' (s.trans s')
theorem Ret.now {r : V} {H : Hp} {Q : VK} (h : Ret r H Q) : Q r H := h H (Same.refl H)
theorem Ret.go {r : V} {G H : Hp} {Q : VK} (h : Ret r G Q) (s : Same G H) : Q r H := h H s
theorem RetO.go {o : HO} {G H : Hp} {Q : VK} {p : Addr} (h : RetO o G Q) (s : Same G H) (hn : G p = none) (e : H p = some o) : Q (.ref p) H := h p H hn s e
/-- all but what is at the addresses of S -/
def But (S : List Addr) (G H : Hp) : Prop := ∀ b o, G b = some o → b ∉ S → H b = some o
theorem But.refl (S : List Addr) (G : Hp) : But S G G := fun _ _ h _ => h
theorem But.trans {S : List Addr} {G H J : Hp} (a : But S G H) (b : But S H J) : But S G J := fun c o h n => b c o (a c o h n) n
theorem But.same {S : List Addr} {G H J : Hp} (a : But S G H) (b : Same H J) : But S G J := fun c o h n => b c o (a c o h n)
theorem same_but {S : List Addr} {G H : Hp} (a : Same G H) : But S G H := fun c o h _ => a c o h
theorem But.put {S : List Addr} {G H : Hp} {p : Addr} {o : HO} (a : But S G H) (hp : p ∈ S) : But S G (upd H p o) := fun c u h n => by
  rw [upd_ne (fun z : c = p => n (by rw [z]; exact hp))]
  exact a c u h n
/-- changed things that did not stand ahead: all stands -/
theorem But.toSame {S : List Addr} {G0 G H : Hp} (s : Same G0 G) (a : But S G H) (hn : ∀ p ∈ S, G0 p = none) : Same G0 H := fun b o h => a b o (s b o h) fun m => by rw [hn b m] at h; cases h
/-- lists and tuples, known ones too -/
def isSeqO : HO → Bool
  | .lst _ => true
  | .tup _ => true
  | .frz _ u => isSeqO u
  | _ => false
theorem But.seqL {K : PySem.W.Frag} {S : List Addr} {G H : Hp} {a : Addr} {xs : List V} (b : But S G H) (ok : ∀ p ∈ S, ∀ o, G p = some o → isSeqO o = false) (h : SqL K G a xs) : SqL K H a xs := by
  rcases h with (h | ⟨o, h⟩) | h
  · exact .inl (.inl (b _ _ h fun m => by have := ok a m _ h; cases this))
  · exact .inl (.inr ⟨o, b _ _ h fun m => by have := ok a m _ h; cases this⟩)
  · exact .inr h
theorem But.tupA {K : PySem.W.Frag} {S : List Addr} {G H : Hp} {a : Addr} {xs : List V} (b : But S G H) (ok : ∀ p ∈ S, ∀ o, G p = some o → isSeqO o = false) (h : TupAt K G a xs) : TupAt K H a xs := by
  rcases h with h | h
  · exact .inl (b _ _ h fun m => by have := ok a m _ h; cases this)
  · exact .inr h
theorem But.lagR {S : List Addr} {G H : Hp} {vs : List V} {ls : List Lag} (b : But S G H) (ok : ∀ p ∈ S, ∀ xs, G p ≠ some (.tup xs)) (h : LagRefs G vs ls) : LagRefs H vs ls := Paired.mapP h fun v l ⟨p, e, q⟩ => ⟨p, e, b _ _ q fun m => ok p m _ q⟩
theorem LagSeq.but {K : PySem.W.Frag} {S : List Addr} {G H : Hp} {a : Addr} {ls : List Lag} (h : LagSeq K G a ls) (b : But S G H) (ok : ∀ p ∈ S, ∀ o, G p = some o → isSeqO o = false) : LagSeq K H a ls := by
  obtain ⟨vs, h1, h2⟩ := h
  exact ⟨vs, h1.imp (fun z => b.seqL ok z) (fun z => b.tupA ok z), b.lagR (fun p m xs e => by have := ok p m _ e; cases this) h2⟩
theorem ok1 {G : Hp} {x : Addr} {o : HO} (h : G x = some o) (n : isSeqO o = false) : ∀ p ∈ [x], ∀ u, G p = some u → isSeqO u = false := fun p m u e => by
  rw [List.mem_singleton.mp m, h] at e
  cases e
  exact n
end Rt
end
section
set_option maxHeartbeats 4000000
/-! Rul1: the built-ins' readings under names, the rules of the hand layer behind them. -/
namespace Rt
open PySem PySem.Spec PyProof.Rows L2
def rLenQ (K : PySem.W.Frag) : List V → Hp → VK → Prop := fun xs H Q => ∃ p ys, xs = [.ref p] ∧ (SqL K H p ys ∨ SqT K H p ys) ∧ Q (.int ys.length) H
def rLenD : List V → Hp → VK → Prop := fun xs H Q => ∃ a kvs, xs = [V.ref a] ∧ H a = some (.dK kvs) ∧ Q (.int kvs.length) H
def rLenS : List V → Hp → VK → Prop := fun xs H Q => ∃ x, xs = [.str x] ∧ x.length ≤ sizeLine ∧ Q (.int (x.length : Int)) H
def rMax2 : List V → Hp → VK → Prop := fun xs H Q => ∃ i j, xs = [.int i, .int j] ∧ Q (.int (if j > i then j else i)) H
def rMin2 : List V → Hp → VK → Prop := fun xs H Q => ∃ i j, xs = [.int i, .int j] ∧ Q (.int (if j < i then j else i)) H
def rListOf (K : PySem.W.Frag) : List V → Hp → VK → Prop := fun xs H Q => ∃ p ys, xs = [.ref p] ∧ (SqL K H p ys ∨ SqT K H p ys) ∧ ∀ l, H l = none → Q (.ref l) (upd H l (.lst ys))
def rListDK : List V → Hp → VK → Prop := fun xs H Q => ∃ (a : Addr) (kvs : List (Key × V)), xs = [.ref a] ∧ Rd H a (.dK kvs) ∧ ∀ p, H p = none → Q (.ref p) (upd H p (.lst (kvs.map fun kv => kV kv.1)))
def rTupOf (K : PySem.W.Frag) : List V → Hp → VK → Prop := fun xs H Q => ∃ p ys, xs = [.ref p] ∧ ((SqL K H p ys ∧ ∀ l, H l = none → Q (.ref l) (upd H l (.tup ys))) ∨ (SqT K H p ys ∧ Q (.ref p) H))
def rDictD : List V → Hp → VK → Prop := fun xs H Q => ∃ (a : Addr) (kvs : List (Key × V)), xs = [.ref a] ∧ Rd H a (.dK kvs) ∧ ∀ p, H p = none → Q (.ref p) (upd H p (.dK kvs))
def rDictP (K : PySem.W.Frag) : List V → Hp → VK → Prop := fun xs H Q => ∃ (a : Addr) (ps : List Addr) (kvs : List (Key × V)), xs = [.ref a] ∧ SqL K H a (ps.map V.ref) ∧ Paired (fun p kv => SqT K H p [kV kv.1, kv.2]) ps kvs ∧ ∀ p, H p = none → Q (.ref p) (upd H p (.dK (mergeK [] kvs)))
def rReprI : List V → Hp → VK → Prop := fun xs H Q => ∃ i : Int, xs = [.int i] ∧ i.natAbs.log2 < 1920 ∧ Q (.str (toString i)) H
def rStrI : List V → Hp → VK → Prop := fun xs H Q => ∃ i : Int, xs = [.int i] ∧ i.natAbs.log2 < 1920 ∧ Q (.str (toString i)) H
def rSortD : List V → Hp → VK → Prop := fun xs H Q => ∃ (a : Addr) (kvs : List (Key × V)) (ks : List Str), xs = [.ref a] ∧ Rd H a (.dK kvs) ∧ kvs.map (·.1) = ks.map Sum.inr ∧ ks.length < 64 ∧
  ∀ ys p, ys.Perm ks → sortedS ys = true → H p = none → Q (.ref p) (upd H p (.lst (ys.map V.str)))
def rIsiC (C : Addr) : List V → Hp → VK → Prop := fun xs H Q => ∃ a dx fs, xs = [.ref a, .ref C] ∧ H a = some (.ins C dx fs) ∧ Q (.bl true) H
section
variable {X : Cx}
theorem c_lenQ : CallR X (.builtin "len") (rLenQ X.K) := call_len_seq
theorem c_lenD : CallR X (.builtin "len") rLenD := call_lenD
theorem c_max2 (hc : X.calm = true) : CallR X (.builtin "max") rMax2 := call_max2 hc
theorem c_min2 (hc : X.calm = true) : CallR X (.builtin "min") rMin2 := call_min2 hc
theorem c_listOf : CallR X (.type "list") (rListOf X.K) := call_list_of
theorem c_listD (hc : X.calm = true) : CallR X (.type "list") rListDK := call_listD hc
theorem c_tupOf : CallR X (.type "tuple") (rTupOf X.K) := call_tuple_of
theorem c_dictD : CallR X (.type "dict") rDictD := call_dictD
theorem c_dictP (hc : X.calm = true) : CallR X (.type "dict") (rDictP X.K) := call_dictP hc
theorem c_reprI : CallR X (.builtin "repr") rReprI := SkE.call_repr_int
theorem c_sortD (hc : X.calm = true) : CallR X (.builtin "sorted") rSortD := call_sortedD hc
theorem c_isiC {C : Addr} (c : C8.InsC X.K C) : CallR X (.builtin "isinstance") (rIsiC C) := C8.call_isC c
end
theorem hu64 {A : Around} {k : Nat} (hr : Room k A) : A.units + 64 < cLine := hr.units
end Rt
namespace Rt
open PySem PySem.Spec PyProof.Rows L2
section
variable {K : PySem.W.Frag} {H : Hp} {Q : VK} {x : V}
theorem c_NF {A B : Prop} (h : A) : if (!false) = true then A else B := h
theorem c_NT {A B : Prop} (h : B) : if (!true) = true then A else B := c_F h
theorem c_isi {t n : String} {b : Bool} (ty : TyX K H x (.type t)) (h : kitB t n = some b) (q : Q (.bl b) H) : rIsi K [x, .ty n] H Q := ⟨x, .ty n, .type t, .type n, b, rfl, .ty n, ty, kit_ty h, q⟩
theorem i_int {i : Int} {n : String} {b : Bool} (h : kitB "int" n = some b) (q : Q (.bl b) H) : rIsi K [.int i, .ty n] H Q := c_isi (.base (.int i)) h q
theorem i_str {i : Str} {n : String} {b : Bool} (h : kitB "str" n = some b) (q : Q (.bl b) H) : rIsi K [.str i, .ty n] H Q := c_isi (.base (.str i)) h q
theorem i_non {n : String} {b : Bool} (h : kitB "NoneType" n = some b) (q : Q (.bl b) H) : rIsi K [.non, .ty n] H Q := c_isi (.base .non) h q
theorem i_dK {a : Addr} {kvs : List (Key × V)} {n : String} {b : Bool} (ha : H a = some (.dK kvs)) (h : kitB "dict" n = some b) (q : Q (.bl b) H) : rIsi K [.ref a, .ty n] H Q := c_isi (.base (.dK ha)) h q
theorem i_tup {a : Addr} {xs : List V} {n : String} {b : Bool} (ha : H a = some (.tup xs)) (h : kitB "tuple" n = some b) (q : Q (.bl b) H) : rIsi K [.ref a, .ty n] H Q := c_isi (.base (.tup ha)) h q
theorem i_lst {a : Addr} {xs : List V} {n : String} {b : Bool} (ha : H a = some (.lst xs)) (h : kitB "list" n = some b) (q : Q (.bl b) H) : rIsi K [.ref a, .ty n] H Q := c_isi (.base (.lst ha)) h q
theorem c_lenD' {a : Addr} {kvs : List (Key × V)} (h : H a = some (.dK kvs)) (q : Q (.int kvs.length) H) : rLenD [.ref a] H Q := ⟨a, kvs, rfl, h, q⟩
theorem c_lenQL {a : Addr} {xs : List V} (h : SqL K H a xs) (q : Q (.int xs.length) H) : rLenQ K [.ref a] H Q := ⟨a, xs, rfl, .inl h, q⟩
theorem c_lenQT {a : Addr} {xs : List V} (h : SqT K H a xs) (q : Q (.int xs.length) H) : rLenQ K [.ref a] H Q := ⟨a, xs, rfl, .inr h, q⟩
theorem c_lenS' {z : Str} (h : z.length ≤ sizeLine) (q : Q (.int z.length) H) : rLenS [.str z] H Q := ⟨z, rfl, h, q⟩
theorem c_max2' {i j : Int} (q : Q (.int (if j > i then j else i)) H) : rMax2 [.int i, .int j] H Q := ⟨i, j, rfl, q⟩
theorem c_min2' {i j : Int} (q : Q (.int (if j < i then j else i)) H) : rMin2 [.int i, .int j] H Q := ⟨i, j, rfl, q⟩
theorem c_all' {a : Addr} {bs : List Bool} (h : SqL K H a (bs.map V.bl)) (q : Q (.bl (bs.all id)) H) : rAll K [.ref a] H Q := ⟨a, bs, rfl, h, q⟩
theorem c_any' {a : Addr} {bs : List Bool} (h : SqL K H a (bs.map V.bl)) (q : Q (.bl (bs.any id)) H) : rAny K [.ref a] H Q := ⟨a, bs, rfl, h, q⟩
theorem c_sum' {a : Addr} {ns : List Int} (h : SqL K H a (ns.map V.int)) (q : Q (.int ns.sum) H) : rSum K [.ref a] H Q := ⟨a, ns, rfl, h, q⟩
theorem c_ixL {a : Addr} {xs : List V} {i : Int} {v : V} (h : SqL K H a xs) (e : atI xs i = some v) (q : Q v H) : rIxL K (.ref a) (.int i) H Q := ⟨a, xs, i, v, rfl, rfl, h, e, q⟩
theorem c_ixT {a : Addr} {xs : List V} {i : Int} {v : V} (h : SqT K H a xs) (e : atI xs i = some v) (q : Q v H) : rIxT K (.ref a) (.int i) H Q := ⟨a, xs, i, v, rfl, rfl, h, e, q⟩
theorem c_reprI' {i : Int} (h : i.natAbs.log2 < 1920) (q : Q (.str (toString i)) H) : rReprI [.int i] H Q := ⟨i, rfl, h, q⟩
theorem c_strI' {i : Int} (h : i.natAbs.log2 < 1920) (q : Q (.str (toString i)) H) : rStrI [.int i] H Q := ⟨i, rfl, h, q⟩
theorem c_dictD' {a : Addr} {kvs : List (Key × V)} (h : H a = some (.dK kvs)) (q : ∀ p H', H p = none → Same H H' → H' p = some (.dK kvs) → Q (.ref p) H') : rDictD [.ref a] H Q := ⟨a, kvs, rfl, .inl h, c_new q⟩
theorem c_listD' {a : Addr} {kvs : List (Key × V)} (h : H a = some (.dK kvs)) (q : ∀ p H', H p = none → Same H H' → H' p = some (.lst (kvs.map fun kv => kV kv.1)) → Q (.ref p) H') : rListDK [.ref a] H Q := ⟨a, kvs, rfl, .inl h, c_new q⟩
theorem c_listL {a : Addr} {xs : List V} (h : SqL K H a xs) (q : ∀ p H', H p = none → Same H H' → H' p = some (.lst xs) → Q (.ref p) H') : rListOf K [.ref a] H Q := ⟨a, xs, rfl, .inl h, c_new q⟩
theorem c_tupL {a : Addr} {xs : List V} (h : SqL K H a xs) (q : ∀ p H', H p = none → Same H H' → H' p = some (.tup xs) → Q (.ref p) H') : rTupOf K [.ref a] H Q := ⟨a, xs, rfl, .inl ⟨h, c_new q⟩⟩
theorem c_cat {a b : Addr} {xs ys : List V} (h1 : H a = some (.lst xs)) (h2 : H b = some (.lst ys)) (hz : xs.length + ys.length ≤ sizeLine) (q : ∀ p H', H p = none → Same H H' → H' p = some (.lst (xs ++ ys)) → Q (.ref p) H') : rCat (.ref a) (.ref b) H Q :=
  ⟨a, b, xs, ys, rfl, rfl, h1, h2, hz, c_new q⟩
def GetG (x y : V) (H : Hp) (Q : VK) : Prop := ∃ a v, x = .ref a ∧ DGet H a y (some v) ∧ Q v H
theorem c_dget {td ty : TE} {σ : L2.St} (h : td σ H fun x H1 => ty σ H1 fun y H2 => GetG x y H2 Q) : tDGet td ty σ H Q := h
theorem c_getK {a : Addr} {kvs : List (Key × V)} {k : Str} {v : V} (h : H a = some (.dK kvs)) (e : valV kvs (.inr k) = some v) (q : Q v H) : GetG (.ref a) (.str k) H Q := ⟨a, v, rfl, e ▸ DGet.k (k := .inr k) h, q⟩
theorem c_getT {a b : Addr} {kvs : List (List Key × V)} {k : List Key} {v : V} (h : H a = some (.dT kvs)) (hb : H b = some (.tup (k.map kV))) (e : valV kvs k = some v) (q : Q v H) : GetG (.ref a) (.ref b) H Q := ⟨a, v, rfl, e ▸ DGet.t h hb, q⟩
def InG (x y : V) (H : Hp) (P : Bool → Prop) : Prop := ∃ a o, x = .ref a ∧ DGet H a y o ∧ P o.isSome
theorem c_din {ty td : TE} {σ : L2.St} (h : ty σ H fun y H1 => td σ H1 fun x H2 => InG x y H2 fun b => Q (.bl b) H2) : tDIn ty td σ H Q := h
theorem c_dnin {ty td : TE} {σ : L2.St} (h : ty σ H fun y H1 => td σ H1 fun x H2 => InG x y H2 fun b => Q (.bl (!b)) H2) : tDNotIn ty td σ H Q := h
theorem c_inK {a : Addr} {kvs : List (Key × V)} {k : Str} {P : Bool → Prop} (h : H a = some (.dK kvs)) (q : P (valV kvs (.inr k)).isSome) : InG (.ref a) (.str k) H P := ⟨a, _, rfl, DGet.k (k := .inr k) h, q⟩
theorem c_inT {a b : Addr} {kvs : List (List Key × V)} {k : List Key} {P : Bool → Prop} (h : H a = some (.dT kvs)) (hb : H b = some (.tup (k.map kV))) (q : P (valV kvs k).isSome) : InG (.ref a) (.ref b) H P := ⟨a, _, rfl, DGet.t h hb, q⟩
variable {nx bk ct : L2.St → Hp → Prop} {rt : VK} {σ : L2.St}
def PutG (x y v : V) (H : Hp) (P : Hp → Prop) : Prop := ∃ a H4, x = .ref a ∧ DPut H a y v H4 ∧ P H4
theorem c_put {td ty tv : TE} (h : tv σ H fun v H1 => td σ H1 fun x H2 => ty σ H2 fun y H3 => PutG x y v H3 fun H4 => nx σ H4) : sDPut td ty tv ⟨nx, rt, bk, ct⟩ σ H := h
theorem c_putK {a : Addr} {kvs : List (Key × V)} {k : Str} {v : V} {P : Hp → Prop} (h : H a = some (.dK kvs)) (hl : kvs.length < sizeLine) (q : P (upd H a (.dK (putK kvs (.inr k) v)))) : PutG (.ref a) (.str k) v H P := ⟨a, _, rfl, DPut.k (k := .inr k) h hl, q⟩
theorem c_putT {a b : Addr} {kvs : List (List Key × V)} {k : List Key} {v : V} {P : Hp → Prop} (h : H a = some (.dT kvs)) (hb : H b = some (.tup (k.map kV))) (hl : kvs.length < sizeLine) (q : P (upd H a (.dT (putK kvs k v)))) : PutG (.ref a) (.ref b) v H P := ⟨a, _, rfl, DPut.t h hb hl, q⟩
def Get2A (x : V) (H1 : Hp) (R : Addr → Prop) : Prop := ∃ a, x = .ref a ∧ IsD H1 a ∧ R a
def Get2B (a : Addr) (y z : V) (H3 : Hp) (Q : VK) : Prop := ∃ o, DGet H3 a y o ∧ Q (o.getD z) H3
theorem c_get2 {td ty tx : TE} (h : td σ H fun x H1 => Get2A x H1 fun a => ty σ H1 fun y H2 => tx σ H2 fun z H3 => Get2B a y z H3 Q) : tDGet2 td ty tx σ H Q := h
theorem c_get2T {td : Addr} {kvs : List (List Key × V)} {R : Addr → Prop} (h : H td = some (.dT kvs)) (q : R td) : Get2A (.ref td) H R := ⟨td, rfl, .inr ⟨kvs, .inl h⟩, q⟩
theorem c_get2K {td : Addr} {kvs : List (Key × V)} {R : Addr → Prop} (h : H td = some (.dK kvs)) (q : R td) : Get2A (.ref td) H R := ⟨td, rfl, .inl ⟨kvs, .inl h⟩, q⟩
theorem c_get2Tv {d b : Addr} {kvs : List (List Key × V)} {k : List Key} {z : V} (h : H d = some (.dT kvs)) (hb : H b = some (.tup (k.map kV))) (q : Q ((valV kvs k).getD z) H) : Get2B d (.ref b) z H Q := ⟨_, DGet.t h hb, q⟩
theorem c_get2Kv {d : Addr} {kvs : List (Key × V)} {k : Str} {z : V} (h : H d = some (.dK kvs)) (q : Q ((valV kvs (.inr k)).getD z) H) : Get2B d (.str k) z H Q := ⟨_, DGet.k (k := .inr k) h, q⟩
def SFldG (K : PySem.W.Frag) (f : Str) (x y : V) (H2 : Hp) (P : Hp → Prop) : Prop := ∃ a C dx fs, x = .ref a ∧ H2 a = some (.ins C dx fs) ∧ Cls K C ∧ NoAttr K C f ∧ fs.length < 1000 ∧ P (upd H2 a (.ins C dx (putF f y fs)))
theorem c_sfld {ta tv : TE} {f : Str} (h : tv σ H fun y H1 => ta σ H1 fun x H2 => SFldG K f x y H2 fun H3 => nx σ H3) : sFld K ta tv f ⟨nx, rt, bk, ct⟩ σ H := h
theorem c_sfldAt {a C dx : Addr} {fs : List (Str × V)} {f : Str} {y : V} {P : Hp → Prop} (ho : H a = some (.ins C dx fs)) (hc : Cls K C) (hn : NoAttr K C f) (hl : fs.length < 1000) (q : P (upd H a (.ins C dx (putF f y fs)))) : SFldG K f (.ref a) y H P := ⟨a, C, dx, fs, rfl, ho, hc, hn, hl, q⟩
theorem c_app {a : Addr} {xs : List V} {y : V} (h : H a = some (.lst xs)) (hz : xs.length < sizeLine) (q : Q .non (upd H a (.lst (xs ++ [y])))) : rAppend (.ref a) [y] H Q := ⟨a, xs, y, rfl, rfl, h, hz, q⟩
def BmG (K : PySem.W.Frag) (T : String) (x : V) (H1 : Hp) (R : Prop) : Prop := tyV K T x H1 ∧ R
theorem c_bm {T : String} {r : V → List V → Hp → VK → Prop} {to : TE} {t : TA} (h : to σ H fun x H1 => BmG K T x H1 (t σ H1 fun xs H2 => r x xs H2 Q)) : tBM K T r to t σ H Q := h
theorem c_bmL {a : Addr} {xs : List V} {R : Prop} (h : SqL K H a xs) (q : R) : BmG K "list" (.ref a) H R := ⟨.inl ⟨rfl, _, h⟩, q⟩
/-- the new instance, what follows kept as a function -/
def MadeG (C : Addr) (H1 : Hp) (P : Addr → Hp → Prop) : Prop := ∀ x dx, H1 x = none → H1 dx = none → dx ≠ x → P x (upd (upd H1 dx (.own x)) x (.ins C dx []))
theorem c_make {C : Addr} {sp : Sp} {dvs : List V} {E : XK} {t : TA} (h : t σ H fun vs H1 => MadeG C H1 fun x H2 => sp (.ref x :: (vs ++ dvs)) H2 (fun v H3 => v = .non ∧ Q (.ref x) H3) E) : tMake C sp dvs E t σ H Q := h
theorem c_made {C : Addr} {P : Addr → Hp → Prop} (h : ∀ x dx H', H x = none → Same H H' → H' x = some (.ins C dx []) → P x H') : MadeG C H P := fun x dx nx nd ne =>
  h x dx _ nx (fun b o e => by rw [upd_ne (ne_of_none e nx), upd_ne (ne_of_none e nd)]; exact e) upd_same
theorem kitB_of {a b : String} {r : Bool} (h : kitB a b = some r) : PySem.W.kitOne K (.type a) (.type b) = some r := h
/-- isinstance(x, (tuple, list)) -/
theorem i_seqT {a tp : Addr} (h : H tp = some (.tup [.ty "tuple", .ty "list"])) (t : TyX K H (.ref a) (.type "list") ∨ TyX K H (.ref a) (.type "tuple")) (q : Q (.bl true) H) : rIsiT K [.ref a, .ref tp] H Q := by
  have p : Paired ClsV [.ty "tuple", .ty "list"] [.type "tuple", .type "list"] := .cons (.ty _) (.cons (.ty _) .nil)
  have k1 : PySem.W.kitOne K (.type "list") (.type "tuple") = some false := kit_ty (by decide +kernel)
  have k2 : PySem.W.kitOne K (.type "list") (.type "list") = some true := kit_ty (by decide +kernel)
  have k3 : PySem.W.kitOne K (.type "tuple") (.type "tuple") = some true := kit_ty (by decide +kernel)
  have e1 : PySem.W.kitAny K (.type "list") [.type "tuple", .type "list"] = some true := kitAny_cons k1 (fun _ => kitAny_cons k2 (fun z => nomatch z) fun _ => rfl) fun _ => rfl
  have e2 : PySem.W.kitAny K (.type "tuple") [.type "tuple", .type "list"] = some true := kitAny_cons k3 (fun z => nomatch z) fun _ => rfl
  rcases t with t | t
  · exact ⟨_, tp, _, _, _, true, rfl, h, p, t, e1, q⟩
  · exact ⟨_, tp, _, _, _, true, rfl, h, p, t, e2, q⟩
end
end Rt
end
section
set_option maxHeartbeats 4000000
/-! Mir: what the program's functions compute, in plain Lean. -/
namespace Rt
open PySem
def letters : Str := "abcdefghijklmnopqrstuvwxyz"
def isName (s : Str) : Bool := decide (1 ≤ (s.length : Int)) && (decide ((s.length : Int) ≤ 8) && s.cps.toList.all fun c => decide (c ∈ letters.cps.toList))
def isInt (i lo hi : Int) : Bool := decide (lo ≤ i) && decide (i ≤ hi)
def isTimes (hz : Int) (ts : List (Str × Int)) : Bool := ts.all fun e => isName e.1 && isInt e.2 0 hz
def isNode (ts : List (Str × Int)) (s : Str) : Bool := decide (s = "") || (look ts s).isSome
def isLag (ts : List (Str × Int)) (l : Lag) : Bool := isInt l.2.2 (-1000000) 1000000 && (isNode ts l.1 && (isNode ts l.2.1 && !decide (l.1 = l.2.1)))
def isPlan (hz : Int) (ts : List (Str × Int)) (ls : List Lag) : Bool := isInt hz 0 1000000 && (isTimes hz ts && ls.all (isLag ts))
def max2 (i j : Int) : Int := if j > i then j else i
def min2 (i j : Int) : Int := if j < i then j else i
abbrev GM := List (Pr × Int)
abbrev MM := List (Pr × Str)
/-- greatest_gaps -/
def gapT (hz : Int) (g : GM) (e : Str × Int) : GM := put (put g ("", e.1) 0) (e.1, "") (-hz)
def gapL (g : GM) (l : Lag) : GM := put g (l.1, l.2.1) (max2 l.2.2 ((look g (l.1, l.2.1)).getD l.2.2))
def ggaps (hz : Int) (ts : List (Str × Int)) (ls : List Lag) : GM := ls.foldl gapL (ts.foldl (gapT hz) [])
/-- raise_totals: totals, previous, raised -/
structure Rz where
  tot : List (Str × Int)
  prv : List (Str × Str)
  last : Option Str
def at0 (t : List (Str × Int)) (x : Str) : Int := (look t x).getD 0
def raise1 (r : Rz) (e : Pr × Int) : Rz := if at0 r.tot e.1.2 < at0 r.tot e.1.1 + e.2 then ⟨put r.tot e.1.2 (at0 r.tot e.1.1 + e.2), put r.prv e.1.2 e.1.1, some e.1.2⟩ else r
def raiseT (g : GM) (t : List (Str × Int)) (p : List (Str × Str)) : Rz := g.foldl raise1 ⟨t, p, none⟩
/-- Floyd and Warshall, in place -/
structure Tb where
  tot : GM
  mid : MM
def get0 (g : GM) (a b : Str) : Int := (look g (a, b)).getD 0
def improve (t : Tb) (a b m : Str) : Tb :=
  let z := get0 t.tot a m + get0 t.tot m b
  if (look t.tot (a, b)).isSome = false ∨ get0 t.tot a b < z then ⟨put t.tot (a, b) z, put t.mid (a, b) m⟩ else t
def thru1 (m a : Str) (t : Tb) (b : Str) : Tb := if (look t.tot (a, m)).isSome = true ∧ (look t.tot (m, b)).isSome = true then improve t a b m else t
def thruR (ns : List Str) (m : Str) (t : Tb) (a : Str) : Tb := ns.foldl (thru1 m a) t
def thru (ns : List Str) (t : Tb) (m : Str) : Tb := ns.foldl (thruR ns m) t
def diag (g : GM) (x : Str) : GM := put g (x, x) 0
def dist (ns : List Str) (g : GM) : Tb := ns.foldl (thru ns) ⟨ns.foldl diag g, []⟩
abbrev nds (xs : List Str) : List Str := "" :: xs
def nodesOf (p : PlanD) : List Str := nds (p.ts.map (·.1))
def distP (p : PlanD) : Tb := dist (nodesOf p) (ggaps p.hz p.ts p.lg)
/-- consistent lags: a closed matrix above all gaps, 0 on its diagonal -/
structure Pot (hz : Int) (xs : List Str) (ls : List Lag) (d : Str → Str → Int) : Prop where
  tri : ∀ a ∈ nds xs, ∀ b ∈ nds xs, ∀ c ∈ nds xs, d a b + d b c ≤ d a c
  dia : ∀ a ∈ nds xs, d a a = 0
  up : ∀ a ∈ xs, 0 ≤ d "" a
  dn : ∀ a ∈ xs, -hz ≤ d a ""
  lag : ∀ l ∈ ls, l.2.2 ≤ d l.1 l.2.1
def Cons (hz : Int) (xs : List Str) (ls : List Lag) : Prop := ∃ d, Pot hz xs ls d
/-- the law's own matrix -/
def farB (wide : Int) (ns : List Str) (g : GM) (a : Str) : GM := ns.foldl (fun g b => put g (a, b) (if a = "" ∨ a = b then 0 else -wide)) g
def farL (g : GM) (l : Lag) : GM := put g (l.1, l.2.1) (max2 (get0 g l.1 l.2.1) l.2.2)
def farT (m a : Str) (g : GM) (b : Str) : GM := put g (a, b) (max2 (get0 g a b) (get0 g a m + get0 g m b))
def farM (ns : List Str) (g : GM) (m : Str) : GM := ns.foldl (fun g a => ns.foldl (farT m a) g) g
def far (xs : List Str) (wide : Int) (ls : List Lag) : GM := (nds xs).foldl (farM (nds xs)) (ls.foldl farL ((nds xs).foldl (farB wide (nds xs)) []))
def farOk (xs : List Str) (wide : Int) (ls : List Lag) : Bool := !((nds xs).any fun a => decide (0 < get0 (far xs wide ls) a a))
/-! order of texts, of lags -/
def ltS (a b : Str) : Bool := decide (a.cps.toList < b.cps.toList)
def ltLag (l m : Lag) : Bool := ltS l.1 m.1 || (decide (l.1 = m.1) && (ltS l.2.1 m.2.1 || (decide (l.2.1 = m.2.1) && decide (l.2.2 < m.2.2))))
/-- sorted, without repetitions, the members of ls -/
def SortOf (ls ms : List Lag) : Prop := ms.Pairwise (fun a b => ltLag a b = true) ∧ ∀ l, l ∈ ms ↔ l ∈ ls
/-- the times by ascending names -/
def SortT (ts us : List (Str × Int)) : Prop := us.Pairwise (fun a b => ltS a.1 b.1 = true) ∧ us.Perm ts
end Rt
end
section
set_option maxHeartbeats 4000000
/-! Rul2: rules of our own: walks of the pairs of a dict with tuple keys; sets of lags, sorted; list of a text's signs; != by own ==. -/
namespace Rt
open PySem PySem.Spec PyProof.Rows L2
def Itit (d : Addr) (o : Obj) (kvs : List (List Key × V)) : It :=
  ⟨fun i H => H d = some (.frz o (.dT kvs)) ∧ i < kvs.length, fun i H x H' => ∃ T k v q, kvs[i]? = some (k, v) ∧ x = .ref T ∧ H T = none ∧ H q = some (.tup (k.map kV)) ∧ H' = upd H T (.tup [.ref q, v]), fun i H => H d = some (.frz o (.dT kvs)) ∧ kvs.length ≤ i⟩
def iItemsT (td : TE) : TI := fun σ H R => td σ H fun x H1 => ∃ d o kvs, x = .ref d ∧ H1 d = some (.frz o (.dT kvs)) ∧ R (Itit d o kvs) H1
/-- a list or a tuple -/
def iSq (K : PySem.W.Frag) (tl : TE) : TI := fun σ H R => tl σ H fun x H1 => ∃ a, x = .ref a ∧ ((∃ xs, SqL K H1 a xs ∧ R (Itl K a) H1) ∨ (∃ xs, SqT K H1 a xs ∧ R (Itt K a) H1))
theorem pi_sq {X : Cx} {tg l : Expr} {tl : TE} (hl : PE X l tl) : PI X tg l (iSq X.K tl) := by
  constructor
  intro pins s σ H R I h
  refine thn (hl.run pins s σ H _ I h) ?_
  rintro v s1 ⟨x, H1, I1, r1, a, rfl, hq⟩
  cases r1
  have one : ∀ {o : Obj} {J : It} {tn : Nat → Heap → Prop}, Turn X.prog X.w X.K tg J [s1.heap.objs.size] s1.heap.objs.size tn → tn 0 (s1.heap.push o) → R J H1 → PIE X pins σ tg R (.ref s1.heap.objs.size) { s1 with heap := s1.heap.push o } := fun {o J tn} T st q =>
    ⟨s1.heap.objs.size, [s1.heap.objs.size], _, _, H1, rfl, I1.kept (t' := s1.toks) fun b o e => Heap.get?_push_of_some _ e, T, st, fun b hb => by
      rw [List.mem_singleton.mp hb]
      exact I1.fpOk (Nat.le_refl _) (I1.hok.fresh (Nat.le_refl _)), q⟩
  rcases hq with ⟨xs, hx, q⟩ | ⟨xs, hx, q⟩
  · obtain ⟨its, rv, p, hz⟩ := I1.list hx
    exact wpAny_pyIter_list p.isList (one (turn_list a _) ⟨_, Heap.get?_push_size _ rfl, rfl, rfl⟩ q)
  · obtain ⟨its, rv, p, hz⟩ := I1.tuple hx
    exact wpAny_pyIter_tuple (show s1.heap.IsTuple a its.toArray from p) (one (turn_tuple a _) ⟨_, Heap.get?_push_size _ rfl, rfl, rfl⟩ q)
def SqG (K : PySem.W.Frag) (x : V) (H1 : Hp) (R : It → Prop) : Prop := ∃ a, x = .ref a ∧ ((∃ xs, SqL K H1 a xs ∧ R (Itl K a)) ∨ (∃ xs, SqT K H1 a xs ∧ R (Itt K a)))
theorem c_iSq {K : PySem.W.Frag} {tl : TE} {σ : L2.St} {H : Hp} {R : It → Hp → Prop} (h : tl σ H fun x H1 => SqG K x H1 fun J => R J H1) : iSq K tl σ H R := h
/-- the walk over either, what follows shown once for any -/
theorem c_iSqAt {K : PySem.W.Frag} {H0 H : Hp} {a : Addr} {xs : List V} {R : It → Prop} (h : SqL K H0 a xs ∨ TupAt K H0 a xs) (s : Same H0 H) (q : ∀ J G, Walk J xs.length G (YAt xs) → (∀ H', Same H0 H' → G H') → R J) : SqG K (.ref a) H R := by
  refine ⟨a, rfl, ?_⟩
  rcases h with h | h
  · exact .inl ⟨xs, s.seq h, q _ _ walk_list fun H' s => s.seq h⟩
  · exact .inr ⟨xs, (h.same s).sq, q _ _ walk_tup fun H' s => (h.same s).sq⟩
def ItemTG (x : V) (H1 : Hp) (R : It → Prop) : Prop := ∃ d o kvs, x = .ref d ∧ H1 d = some (.frz o (.dT kvs)) ∧ R (Itit d o kvs)
theorem c_itemsT {td : TE} {σ : L2.St} {H : Hp} {R : It → Hp → Prop} (h : td σ H fun x H1 => ItemTG x H1 fun J => R J H1) : iItemsT td σ H R := h
theorem c_itemsTAt {H : Hp} {a : Addr} {o : Obj} {kvs : List (List Key × V)} {R : It → Prop} (h : H a = some (.frz o (.dT kvs))) (q : R (Itit a o kvs)) : ItemTG (.ref a) H R := ⟨a, o, kvs, rfl, h, q⟩
theorem walk_itemsT {d : Addr} {o : Obj} {kvs : List (List Key × V)} : Walk (Itit d o kvs) kvs.length (fun H => H d = some (.frz o (.dT kvs)))
    (fun i H x H' => ∃ T k v q, kvs[i]? = some (k, v) ∧ x = .ref T ∧ H T = none ∧ H q = some (.tup (k.map kV)) ∧ H' = upd H T (.tup [.ref q, v])) :=
  ⟨fun _ _ hi q => ⟨q, hi⟩, fun _ q => ⟨q, Nat.le_refl _⟩, fun _ _ _ _ _ _ y => y⟩
/-- for (a, b), v in .. -/
theorem c_gNest {K : PySem.W.Frag} {σ : L2.St} {H : Hp} {T q : Addr} {x y v : V} {i j k : Nat} {P : L2.St → Hp → Prop} (hT : SqT K H T [.ref q, v]) (hq : SqT K H q [x, y]) (h : P (((σ.set i (some x)).set j (some y)).set k (some v)) H) :
    gTup K 2 (gCons (gTup K 2 (gCons (gName i) (gCons (gName j) gNil))) (gCons (gName k) gNil)) (.ref T) σ H P :=
  ⟨T, _, rfl, hT, rfl, _, _, rfl, q, _, rfl, hq, rfl, _, _, rfl, _, _, rfl, rfl, _, _, rfl, rfl, h⟩
/-- sorted(set(e)), e a list or a tuple of lags -/
def tSortSet (K : PySem.W.Frag) (te : TE) : TE := fun σ H Q => te σ H fun x H1 => ∃ a vs ls, x = .ref a ∧ (SqL K H1 a vs ∨ TupAt K H1 a vs) ∧ LagRefs H1 vs ls ∧ ls.length ≤ 100 ∧ ∀ p ms us, H1 p = none → LagRefs H1 us ms → SortOf ls ms → Q (.ref p) (upd H1 p (.lst us))
def SortSetG (K : PySem.W.Frag) (x : V) (H1 : Hp) (Q : VK) : Prop := ∃ a vs ls, x = .ref a ∧ (SqL K H1 a vs ∨ TupAt K H1 a vs) ∧ LagRefs H1 vs ls ∧ ls.length ≤ 100 ∧ ∀ p ms us, H1 p = none → LagRefs H1 us ms → SortOf ls ms → Q (.ref p) (upd H1 p (.lst us))
theorem c_sortSet {K : PySem.W.Frag} {te : TE} {σ : L2.St} {H : Hp} {Q : VK} (h : te σ H fun x H1 => SortSetG K x H1 Q) : tSortSet K te σ H Q := h
theorem c_sortSetAt {K : PySem.W.Frag} {H : Hp} {Q : VK} {a : Addr} {ls : List Lag} (h : LagSeq K H a ls) (hl : ls.length ≤ 100) (q : ∀ p H' ms us, H p = none → Same H H' → H' p = some (.lst us) → LagRefs H' us ms → SortOf ls ms → Q (.ref p) H') : SortSetG K (.ref a) H Q := by
  obtain ⟨vs, h1, h2⟩ := h
  refine ⟨a, vs, ls, rfl, h1, h2, hl, fun p ms us hp hr hs => ?_⟩
  have s : Same H (upd H p (.lst us)) := fun b u e => by
    rw [upd_ne (ne_of_none e hp)]
    exact e
  exact q p _ ms us hp s upd_same (hr.same s) hs
def rListSg : List V → Hp → VK → Prop := fun xs H Q => ∃ x : Str, xs = [.str x] ∧ x.length ≤ 1000 ∧ ∀ p, H p = none → Q (.ref p) (upd H p (.lst (x.cps.toList.map fun c => .str ⟨#[c]⟩)))
section
variable {X : Cx}
/-- name = {..} on one line, the name a local -/
theorem ps_setDc {i : Nat} {y : Str} {py : Pos} {kx vx tg iter : Expr} {ifs : List Expr} {scope : Scope} {own : List (Str × Nat)} {pos spos : Pos} {wi : TI} {g : TG} {tt : TT} {tk tv : TE} (hc : X.calm = true) (hN : X.N.Nodup) (hy : X.N[i]? = some y) (hyl : X.env.scope.names.lookup y = some .local)
    (hsw : swapsWith (.DictComp kx vx [⟨tg, iter, ifs, 0⟩] scope pos) (some (.Name y py)) spos.line X.env = pure true) (hi : PI X tg iter wi) (ok : BlkOk X.N X.env.scope scope own)
    (hg : ∀ (s : Shared) (H : Hp) (C : Addr) (cl : List (Str × Addr)) (fp : List Addr), PG (X.blk s H scope (compEnvC scope cl C X.env) fp) tg g) (ht : ∀ (s : Shared) (H : Hp) (C : Addr) (cl : List (Str × Addr)) (fp : List Addr), PTs (X.blk s H scope (compEnvC scope cl C X.env) fp) ifs tt)
    (hk : ∀ (s : Shared) (H : Hp) (C : Addr) (cl : List (Str × Addr)) (fp : List Addr), PE (X.blk s H scope (compEnvC scope cl C X.env) fp) kx tk)
    (he : ∀ (s : Shared) (H : Hp) (C : Addr) (cl : List (Str × Addr)) (fp : List Addr), PE (X.blk s H scope (compEnvC scope cl C X.env) fp) vx tv) (hs : ∀ x, foldedSetIterable iter X.env x = pure x := by intro _; rfl) :
    PS X (.Assign [.Name y py] (.DictComp kx vx [⟨tg, iter, ifs, 0⟩] scope pos) spos) (tAsg (tDc wi g tt tk tv (own.map (·.2))) (gName i)) := by
  constructor
  intro pins s σ H D I h
  rw [exec_Assign_Name_used _ _ _ _ hsw]
  refine wpAny_bind (wpAny_standAt (wpAny_bind ?_))
  show wpAny _ X.A (do
    let _ ← comprehension (.DictComp kx vx [⟨tg, iter, ifs, 0⟩] scope pos) scope X.env (firstIterPos [⟨tg, iter, ifs, 0⟩] pos) newDict false (eval iter X.env) (some (assign (.Name y py) X.env))) _ _ s
  have h1 : tDc wi g tt tk tv (own.map (·.2)) σ H (fun x H1 => gName i x σ H1 D.nx) := h
  refine wpAny_bind (thn (dc_core (Qf := fun _ s' => SP X pins D .next s') hc hN I hi ok hg ht hk he hs h1 ?_) ?_)
  · intro L C s' m H' I' q hn f
    show wpAny _ _ (assign (.Name y py) X.env (.ref L)) _ _ _
    refine wpAny_assign_Name (store_ok2 (v := V.ref L) I' hN hy (.inl hyl) rfl ?_ (.inr hyl))
    rintro s2 I2 ⟨a, sb, ha⟩
    obtain ⟨f0, f1, f2, f3, f4, f5⟩ := f
    have ne : C ≠ a := by
      rcases ha with z | z
      · exact z ▸ f1
      · intro e
        exact f4 y a z e.symm
    refine ⟨m, hn.sameBut sb ne, fun h3 sb3 => ⟨_, H', I2.turned (t' := s2.toks) (fun b o hb e => (sb3.2 b hb).trans e) f0 f1 f3 f4 f5, q⟩⟩
  · intro _ s' hq
    exact wpAny_pure (wpAny_pure hq)
theorem sw_dict {kx vx : Expr} {gs : List Comprehension} {scope : Scope} {pos py : Pos} {y : Str} {l : Nat} {env : Env} (hk : env.scope.kind = .function) (hy : env.scope.names.lookup y = some .local) (hl : (py.line == pos.line) = true)
    (ha : (scope.names.any fun (n, k) => n == y && (k == .local || k == .cell)) = false) : swapsWith (.DictComp kx vx gs scope pos) (some (.Name y py)) l env = pure true := by
  have e1 : env.kindOf y = some .local := hy
  have e2 : env.blockKind = .function := by
    unfold Env.blockKind
    rw [hk] <;> rfl
  unfold swapsWith
  simp only [e2, e1, ha, Expr.pos, hl]
  rfl
theorem c_lenS : CallR X (.builtin "len") rLenS := by
  intro pins s σ H xs us Q I r h
  obtain ⟨x, rfl, hz, q⟩ := h
  exact call_len pins s σ H _ us Q I r ⟨_, _, rfl, ⟨hz, rfl⟩, q⟩
end
end Rt
end
section
set_option maxHeartbeats 4000000
/-! Cmp: comprehensions whose elements change nothing that stands; loops under a lock. -/
namespace Rt
open PySem PySem.Spec PyProof.Rows L2
section
variable {K : PySem.W.Frag} {H : Hp} {Q : VK} {σ : L2.St} {J : It} {n : Nat} {G : Hp → Prop} {Y : Nat → Hp → V → Hp → Prop} {g : TG} {tt : TT} {te tk tv : TE} {vs : List Nat}
/-- what is left of a list comprehension when its walk has begun -/
def LcG (J : It) (g : TG) (tt : TT) (te : TE) (vs : List Nat) (σ : L2.St) (H : Hp) (Q : VK) : Prop := ∀ D, H D = none → ∃ W : Nat → Nat → Hp → Prop, (∃ m, W 0 m (upd H D (.lst []))) ∧ ∀ i m H, W i m H →
  (J.stop i H ∧ Q (.ref D) H) ∨ (J.go i H ∧ ∃ Nx : Hp → Prop, (∀ H', Nx H' → ∃ m', m' < m ∧ W (i + 1) m' H') ∧ ∀ x H', J.yld i H x H' → g x (wipe σ vs) H' fun σ2 H2 => wipe σ2 vs = wipe σ vs ∧ tt σ2 H2 fun b H3 =>
    if b = true then te σ2 H3 fun y H4 => ∃ acc, H4 D = some (.lst acc) ∧ acc.length < sizeLine ∧ Nx (upd H4 D (.lst (acc ++ [y]))) else Nx H3)
theorem c_lc {wi : TI} (h : wi σ H fun J H1 => LcG J g tt te vs σ H1 Q) : tLc wi g tt te vs σ H Q := h
theorem take_snoc {α : Type} {l : List α} {i : Nat} {x : α} (h : l[i]? = some x) : l.take (i + 1) = l.take i ++ [x] := by
  rw [List.take_succ, h]
  rfl
theorem million : (1000000 : Nat) ≤ sizeLine := by rw [sizeLine_eq]; decide
theorem lc_pure (w : Walk J n G Y) (hG : ∀ H', Same H H' → G H') (ys : List V) (hl : ys.length = n) (hz : n ≤ 1000000)
    (el : ∀ i x y H0 H', ys[i]? = some y → Same H H0 → Y i H0 x H' → Same H0 H' ∧ ∀ P : VK, (∀ H4, Same H' H4 → P y H4) → g x (wipe σ vs) H' fun σ2 H2 => wipe σ2 vs = wipe σ vs ∧ te σ2 H2 P)
    (q : ∀ p H', H p = none → Same H H' → H' p = some (.lst ys) → Q (.ref p) H') : LcG J g tYes te vs σ H Q := by
  intro D hD
  refine lc_it (Qd := fun H' => Q (.ref D) H') w (fun i H' => Same H H' ∧ H' D = some (.lst (ys.take i))) ⟨fun b o e => ?_, upd_same⟩ (fun i H' _ p => hG H' p.1) ?_ ?_
  · rw [upd_ne (ne_of_none e hD)]; exact e
  · rintro i x H0 H' hi ⟨s0, h0⟩ y0
    have hy : ys[i]? = some (ys[i]'(by omega)) := List.getElem?_eq_getElem _
    obtain ⟨s1, f⟩ := el i x _ H0 H' hy s0 y0
    refine f _ fun H4 s4 => ?_
    have hz := million
    refine ⟨ys.take i, s4 _ _ (s1 _ _ h0), by rw [List.length_take]; omega, same_mut (s0.trans (s1.trans s4)) hD, ?_⟩
    rw [take_snoc hy]
    exact upd_same
  · rintro H' ⟨s0, h0⟩
    rw [← hl, List.take_length] at h0
    exact q D H' hD s0 h0
/-! a dict comprehension, likewise -/
def DcG (J : It) (g : TG) (tt : TT) (tk tv : TE) (vs : List Nat) (σ : L2.St) (H : Hp) (Q : VK) : Prop := ∀ D, H D = none → ∃ W : Nat → Nat → Hp → Prop, (∃ m, W 0 m (upd H D (.dK []))) ∧ ∀ i m H, W i m H →
  (J.stop i H ∧ Q (.ref D) H) ∨ (J.go i H ∧ ∃ Nx : Hp → Prop, (∀ H', Nx H' → ∃ m', m' < m ∧ W (i + 1) m' H') ∧ ∀ x H', J.yld i H x H' → g x (wipe σ vs) H' fun σ2 H2 => wipe σ2 vs = wipe σ vs ∧ tt σ2 H2 fun b H3 =>
    if b = true then tk σ2 H3 fun y H4 => tv σ2 H4 fun z H5 => ∃ kvs k, y = kV k ∧ H5 D = some (.dK kvs) ∧ kvs.length < sizeLine ∧ Nx (upd H5 D (.dK (putK kvs k z))) else Nx H3)
theorem c_dc {wi : TI} (h : wi σ H fun J H1 => DcG J g tt tk tv vs σ H1 Q) : tDc wi g tt tk tv vs σ H Q := h
theorem dc_it (w : Walk J n G Y) {D : Addr} {Qd : Hp → Prop} (Pv : Nat → Hp → Prop) (h0 : Pv 0 (upd H D (.dK []))) (hG : ∀ i H, i ≤ n → Pv i H → G H)
    (hs : ∀ i x H H', i < n → Pv i H → Y i H x H' → g x (wipe σ vs) H' fun σ2 H2 => wipe σ2 vs = wipe σ vs ∧ tt σ2 H2 fun b H3 =>
      if b = true then tk σ2 H3 fun y H4 => tv σ2 H4 fun z H5 => ∃ kvs k, y = kV k ∧ H5 D = some (.dK kvs) ∧ kvs.length < sizeLine ∧ Pv (i + 1) (upd H5 D (.dK (putK kvs k z))) else Pv (i + 1) H3) (hd : ∀ H, Pv n H → Qd H) :
    ∃ W : Nat → Nat → Hp → Prop, (∃ m, W 0 m (upd H D (.dK []))) ∧ ∀ i m H, W i m H →
      (J.stop i H ∧ Qd H) ∨ (J.go i H ∧ ∃ Nx : Hp → Prop, (∀ H', Nx H' → ∃ m', m' < m ∧ W (i + 1) m' H') ∧ ∀ x H', J.yld i H x H' → g x (wipe σ vs) H' fun σ2 H2 => wipe σ2 vs = wipe σ vs ∧ tt σ2 H2 fun b H3 =>
        if b = true then tk σ2 H3 fun y H4 => tv σ2 H4 fun z H5 => ∃ kvs k, y = kV k ∧ H5 D = some (.dK kvs) ∧ kvs.length < sizeLine ∧ Nx (upd H5 D (.dK (putK kvs k z))) else Nx H3) := by
  refine ⟨fun i m H => m = n - i ∧ i ≤ n ∧ Pv i H, ⟨n, rfl, Nat.zero_le _, h0⟩, ?_⟩
  rintro i m H3 ⟨rfl, hi, p⟩
  have q := hG i H3 hi p
  rcases Nat.lt_or_eq_of_le hi with hlt | rfl
  · exact .inr ⟨w.goes i H3 hlt q, Pv (i + 1), fun H' p' => ⟨n - (i + 1), by omega, rfl, hlt, p'⟩, fun x H' y => hs i x H3 H' hlt p (w.yields i H3 x H' hlt q y)⟩
  · exact .inl ⟨w.stops H3 q, hd H3 p⟩
theorem dc_pure (w : Walk J n G Y) (hG : ∀ H', Same H H' → G H') (ys : List (Key × V)) (hl : ys.length = n) (hz : n ≤ 1000000)
    (el : ∀ i x k y H0 H', ys[i]? = some (k, y) → Same H H0 → Y i H0 x H' → Same H0 H' ∧ ∀ P : V → V → Hp → Prop, (∀ H4, Same H' H4 → P (kV k) y H4) → g x (wipe σ vs) H' fun σ2 H2 => wipe σ2 vs = wipe σ vs ∧ tk σ2 H2 fun a H3 => tv σ2 H3 fun b H4 => P a b H4)
    (q : ∀ p H', H p = none → Same H H' → H' p = some (.dK (mergeK [] ys)) → Q (.ref p) H') : DcG J g tYes tk tv vs σ H Q := by
  intro D hD
  refine dc_it (Qd := fun H' => Q (.ref D) H') w (fun i H' => Same H H' ∧ H' D = some (.dK (mergeK [] (ys.take i)))) ⟨fun b o e => ?_, upd_same⟩ (fun i H' _ p => hG H' p.1) ?_ ?_
  · rw [upd_ne (ne_of_none e hD)]; exact e
  · rintro i x H0 H' hi ⟨s0, h0⟩ y0
    have hy : ys[i]? = some (ys[i]'(by omega)) := List.getElem?_eq_getElem _
    obtain ⟨s1, f⟩ := el i x _ _ H0 H' hy s0 y0
    have hlen := length_mergeK (ys.take i) []
    have hz := million
    refine f _ fun H4 s4 => ⟨mergeK [] (ys.take i), _, rfl, s4 _ _ (s1 _ _ h0), ?_, same_mut (s0.trans (s1.trans s4)) hD, ?_⟩
    · rw [List.length_take] at hlen
      have e0 : ([] : List (Key × V)).length = 0 := rfl
      omega
    · rw [take_snoc hy, upd_same]
      unfold mergeK
      rw [List.foldl_append]
      rfl
  · rintro H' ⟨s0, h0⟩
    rw [← hl, List.take_length] at h0
    exact q D H' hD s0 h0
/-! a lock around an expression, a statement -/
theorem unlock {H H' : Hp} {d : Addr} {od : Obj} {u : HO} {S : List Addr} (h : H d = some u) (hd : d ∉ S) (s : But S (upd H d (.frz od u)) H') : H' d = some (.frz od u) ∧ But S H (upd H' d u) := by
  refine ⟨s _ _ upd_same hd, fun b o q n => ?_⟩
  by_cases z : b = d
  · subst z
    rw [upd_same, ← q, h]
  · rw [upd_ne z]
    exact s _ _ (by rw [upd_ne z]; exact q) n
/-- what holds of the heap in which d is locked -/
structure Lk (d : Addr) (od : Obj) (u : HO) (H G : Hp) : Prop where
  at_ : G d = some (.frz od u)
  but : But [d] H G
  free : ∀ b, G b = none → H b = none
  back : ∀ b o, b ≠ d → G b = some o → H b = some o
  new : ∀ b, H b = none → G b = none
theorem Lk.mk' {d : Addr} {od : Obj} {u : HO} {H : Hp} (h : H d = some u) : Lk d od u H (upd H d (.frz od u)) := by
  refine ⟨upd_same, fun b o e n => ?_, fun b e => ?_, fun b o n e => ?_, fun b e => ?_⟩
  · rw [upd_ne fun z : b = d => n (by rw [z]; exact List.mem_singleton.mpr rfl)]
    exact e
  · by_cases z : b = d
    · subst z
      rw [upd_same] at e
      cases e
    · rw [upd_ne z] at e
      exact e
  · rw [upd_ne n] at e
    exact e
  · rw [upd_ne fun z : b = d => by rw [z, h] at e; cases e]
    exact e
theorem c_lockE {t : TE} {d : Addr} {u : HO} (h : H d = some u) (mu : Mut (some u))
    (q : ∀ od G (Q' : VK), Lk d od u H G → (∀ v H' S, d ∉ S → But S G H' → (∀ H2, But S H H2 → (∀ b o, b ≠ d → H' b = some o → H2 b = some o) → Q v H2) → Q' v H') → t σ G Q') : tLockE t σ H Q := by
  refine ⟨d, u, h, mu, fun od => q od _ _ (Lk.mk' h) fun v H' S hd s k => ?_⟩
  obtain ⟨e, s2⟩ := unlock h hd s
  exact ⟨e, k _ s2 fun b o n x => by rw [upd_ne n]; exact x⟩
variable {nx bk ct : L2.St → Hp → Prop} {rt : VK}
/-- a loop under a lock that is neither left nor returned from -/
theorem c_lock {t : TS} {d : Addr} {u : HO} (h : H d = some u) (mu : Mut (some u))
    (q : ∀ od G (nx' : L2.St → Hp → Prop) rt' bk' ct', Lk d od u H G → (∀ σ' H' S, d ∉ S → But S G H' → (∀ H2, But S H H2 → (∀ b o, b ≠ d → H' b = some o → H2 b = some o) → nx σ' H2) → nx' σ' H') → t ⟨nx', rt', bk', ct'⟩ σ G) : tLock t ⟨nx, rt, bk, ct⟩ σ H := by
  refine ⟨d, u, h, mu, fun od => q od _ _ _ _ _ (Lk.mk' h) fun σ' H' S hd s k => ?_⟩
  obtain ⟨e, s2⟩ := unlock h hd s
  exact ⟨e, k _ s2 fun b o n x => by rw [upd_ne n]; exact x⟩
theorem but_nil {G H' : Hp} (s : But [] G H') : Same G H' := fun b o e => s b o e (List.not_mem_nil)
/-! loops -/
theorem c_for {wi : TI} {g : TG} {tb : TS} (h : wi σ H fun J H1 => ∃ W : Nat → Nat → L2.St → Hp → Prop, (∃ m, W 0 m σ H1) ∧ ∀ i m σ H, W i m σ H →
  (J.stop i H ∧ nx σ H) ∨ (J.go i H ∧ ∃ N : L2.St → Hp → Prop, (∀ σ' H', N σ' H' → ∃ m', m' < m ∧ W (i + 1) m' σ' H') ∧ ∀ x H', J.yld i H x H' → g x σ H' fun σ2 H2 => tb ⟨N, rt, nx, N⟩ σ2 H2)) : tFor wi g tb ⟨nx, rt, bk, ct⟩ σ H := h
/-- over a walk: Pv by the turn -/
theorem for_w {J : It} {n : Nat} {G : Hp → Prop} {Y : Nat → Hp → V → Hp → Prop} {g : TG} {tb : TS} (w : Walk J n G Y) (Pv : Nat → L2.St → Hp → Prop) (h0 : Pv 0 σ H) (hG : ∀ i σ H, i ≤ n → Pv i σ H → G H)
    (hs : ∀ i x σ H H', i < n → Pv i σ H → Y i H x H' → g x σ H' fun σ2 H2 => tb ⟨Pv (i + 1), rt, nx, Pv (i + 1)⟩ σ2 H2) (hd : ∀ σ H, Pv n σ H → nx σ H) :
    ∃ W : Nat → Nat → L2.St → Hp → Prop, (∃ m, W 0 m σ H) ∧ ∀ i m σ H, W i m σ H →
  (J.stop i H ∧ nx σ H) ∨ (J.go i H ∧ ∃ N : L2.St → Hp → Prop, (∀ σ' H', N σ' H' → ∃ m', m' < m ∧ W (i + 1) m' σ' H') ∧ ∀ x H', J.yld i H x H' → g x σ H' fun σ2 H2 => tb ⟨N, rt, nx, N⟩ σ2 H2) :=
  for_it (D := ⟨nx, rt, nx, nx⟩) w Pv h0 hG hs hd
/-! what is walked -/
variable {tl : TE} {a : Addr} {xs : List V} {R : It → Hp → Prop}
def LstG (K : PySem.W.Frag) (x : V) (H1 : Hp) (R : It → Prop) : Prop := ∃ a, x = .ref a ∧ (∃ xs, SqL K H1 a xs) ∧ R (Itl K a)
def TupG (K : PySem.W.Frag) (x : V) (H1 : Hp) (R : It → Prop) : Prop := ∃ a, x = .ref a ∧ (∃ xs, SqT K H1 a xs) ∧ R (Itt K a)
theorem c_iList (h : tl σ H fun x H1 => LstG K x H1 fun J => R J H1) : iList K tl σ H R := h
theorem c_iListAt {R : It → Prop} (h : SqL K H a xs) (q : R (Itl K a)) : LstG K (.ref a) H R := ⟨a, rfl, ⟨xs, h⟩, q⟩
theorem c_iTup (h : tl σ H fun x H1 => TupG K x H1 fun J => R J H1) : iTup K tl σ H R := h
theorem c_iTupAt {R : It → Prop} (h : SqT K H a xs) (q : R (Itt K a)) : TupG K (.ref a) H R := ⟨a, rfl, ⟨xs, h⟩, q⟩
def StrG (v : V) (R : It → Prop) : Prop := ∃ z, v = .str z ∧ R (Its z)
theorem c_iStr (h : tl σ H fun x H1 => StrG x fun J => R J H1) : iStr tl σ H R := h
theorem c_iStrAt {z : Str} {R : It → Prop} (q : R (Its z)) : StrG (.str z) R := ⟨z, rfl, q⟩
def RngG (vs : List V) (R : It → Prop) : Prop := ∃ j : Int, vs = [.int j] ∧ -(2 ^ 62) ≤ j ∧ j < 2 ^ 62 ∧ R (Itr 0 j.toNat)
theorem c_rng1 {ta : TA} (h : ta σ H fun vs H1 => RngG vs fun J => R J H1) : iRng1 ta σ H R := h
theorem c_rng1At {j : Int} {R : It → Prop} (h0 : -1000000 ≤ j) (h1 : j ≤ 1000000) (q : R (Itr 0 j.toNat)) : RngG [V.int j] R := ⟨j, rfl, by omega, by omega, q⟩
def ItemG (x : V) (H1 : Hp) (R : It → Prop) : Prop := ∃ d o kvs, x = .ref d ∧ H1 d = some (.frz o (.dK kvs)) ∧ R (Iti d o kvs)
theorem c_items (h : tl σ H fun x H1 => ItemG x H1 fun J => R J H1) : iItems tl σ H R := h
theorem c_itemsAt {o : Obj} {kvs : List (Key × V)} {R : It → Prop} (h : H a = some (.frz o (.dK kvs))) (q : R (Iti a o kvs)) : ItemG (.ref a) H R := ⟨a, o, kvs, rfl, h, q⟩
def KeysG (x : V) (H1 : Hp) (R : It → Prop) : Prop := ∃ d o, x = .ref d ∧ ((∃ kvs, H1 d = some (.frz o (.dK kvs)) ∧ R (Itk d o kvs)) ∨ ∃ kvs, H1 d = some (.frz o (.dT kvs)) ∧ R (Itkt d o kvs))
theorem c_keys (h : tl σ H fun x H1 => KeysG x H1 fun J => R J H1) : iKeys tl σ H R := h
theorem c_keysK {o : Obj} {kvs : List (Key × V)} {R : It → Prop} (h : H a = some (.frz o (.dK kvs))) (q : R (Itk a o kvs)) : KeysG (.ref a) H R := ⟨a, o, rfl, .inl ⟨kvs, h, q⟩⟩
theorem c_keysT {o : Obj} {kvs : List (List Key × V)} {R : It → Prop} (h : H a = some (.frz o (.dT kvs))) (q : R (Itkt a o kvs)) : KeysG (.ref a) H R := ⟨a, o, rfl, .inr ⟨kvs, h, q⟩⟩
theorem c_g2 {i j : Nat} {x y : V} {P : L2.St → Hp → Prop} (q : P ((σ.set i (some x)).set j (some y)) H) : gCons (gName i) (gCons (gName j) gNil) [x, y] σ H P := ⟨_, _, rfl, _, _, rfl, rfl, q⟩
theorem c_g3 {i j k : Nat} {x y z : V} {P : L2.St → Hp → Prop} (q : P (((σ.set i (some x)).set j (some y)).set k (some z)) H) : gCons (gName i) (gCons (gName j) (gCons (gName k) gNil)) [x, y, z] σ H P := ⟨_, _, rfl, _, _, rfl, _, _, rfl, rfl, q⟩
theorem same_new {p : Addr} {o : HO} (h : H p = none) : Same H (upd H p o) := fun b u e => by
  rw [upd_ne (ne_of_none e h)]
  exact e
theorem c_gTup {n : Nat} {ts : TGs} {P : L2.St → Hp → Prop} {T : Addr} (h : SqT K H T xs) (hn : xs.length = n) (q : ts xs σ H P) : gTup K n ts (.ref T) σ H P := ⟨T, xs, rfl, h, hn, q⟩
/-! stores into an object that is new since G0; what is left of a tuple key -/
theorem upd_at {H : Hp} {p : Addr} {o : HO} : (upd H p o) p = some o := upd_same
end
theorem pair_key (x y : Str) : [V.str x, V.str y] = (kP (x, y)).map kV := rfl
theorem but_self {S : List Addr} {G H : Hp} {b : Addr} {o : HO} (a : But S G H) (h : G b = some o) (n : b ∉ S) : H b = some o := a b o h n
theorem not1 {a b : Addr} (h : a ≠ b) : a ∉ [b] := fun m => h (List.mem_singleton.mp m)
theorem not2 {a b c : Addr} (h : a ≠ b) (h2 : a ≠ c) : a ∉ [b, c] := fun m => by
  rcases List.mem_cons.mp m with q | q
  · exact h q
  · exact h2 (List.mem_singleton.mp q)
theorem in1 {a : Addr} : a ∈ [a] := List.mem_singleton.mpr rfl
theorem in21 {a b : Addr} : a ∈ [a, b] := List.mem_cons_self
theorem in22 {a b : Addr} : b ∈ [a, b] := List.mem_cons_of_mem _ in1
end Rt
end
section
set_option maxHeartbeats 4000000
/-! Rul3: slices, stores at an index, membership in short sequences, pops. -/
namespace Rt
open PySem PySem.Spec PyProof.Rows L2
section
variable {K : PySem.W.Frag} {σ : L2.St} {H : Hp} {Q : VK} {v x y : V}
theorem c_sl {r : V → Option Int → Option Int → Hp → VK → Prop} {te : TE} {tl th : TO} (h : te σ H fun x H1 => tl σ H1 fun l H2 => th σ H2 fun u H3 => r x l u H3 Q) : tSl r te tl th σ H Q := h
theorem c_mulL {i j : Int} (h0 : -18446744073709551616 < i) (h1 : i < 18446744073709551616) (q : Q (.int (i * j)) H) : rMul (.int i) (.int j) H Q := c_mul (.inl ⟨by omega, by omega⟩) q
theorem c_mulR {i j : Int} (h0 : -18446744073709551616 < j) (h1 : j < 18446744073709551616) (q : Q (.int (i * j)) H) : rMul (.int i) (.int j) H Q := c_mul (.inr ⟨by omega, by omega⟩) q
theorem c_fdv' {i j : Int} (h0 : 0 < j) (h1 : j < 1073741824) (q : Q (.int (i / j)) H) : rFdv (.int i) (.int j) H Q := c_fdv ⟨h0, h1⟩ q
theorem c_yes {P : Bool → Hp → Prop} (h : P true H) : tYes σ H P := h
theorem c_noPart {P : Option Int → Hp → Prop} (h : P none H) : tNoPart σ H P := h
theorem c_part {t : TE} {P : Option Int → Hp → Prop} (h : t σ H fun x H1 => ∃ i, x = .int i ∧ P (some i) H1) : tPart t σ H P := h
theorem c_ex {j : Int} {P : Int → Prop} (h : P j) : ∃ i, V.int j = V.int i ∧ P i := ⟨j, rfl, h⟩
theorem c_slL {a : Addr} {xs : List V} {lo hi : Option Int} (h : SqL K H a xs) (q : ∀ p H', H p = none → Same H H' → H' p = some (.lst (cutV xs lo hi)) → Q (.ref p) H') : rSlL K (.ref a) lo hi H Q := ⟨a, xs, rfl, h, c_new q⟩
theorem cut_to (xs : List V) (k : Nat) : cutV xs none (some (k : Int)) = xs.take k := by
  unfold cutV
  rw [HT.sIx_none, HT.sIx_nat, List.drop_zero, Nat.sub_zero]
  rcases Nat.le_total k xs.length with h | h
  · rw [Nat.min_eq_left h]
  · rw [Nat.min_eq_right h, List.take_of_length_le (Nat.le_refl _), List.take_of_length_le h]
theorem c_gSub {to ti : TE} {t : TSet} {P : L2.St → Hp → Prop} (h : to σ H fun o H1 => ti σ H1 fun i H2 => t o i v H2 fun H3 => P σ H3) : gSub to ti t v σ H P := h
theorem c_setL {a : Addr} {xs : List V} {i : Int} {j : Nat} {P : Hp → Prop} (h : H a = some (.lst xs)) (e : ixN xs.length i = some j) (q : P (upd H a (.lst (xs.set j v)))) : rSetL (.ref a) (.int i) v H P := ⟨a, xs, i, j, rfl, rfl, h, e, q⟩
theorem c_asgS {nx bk ct : L2.St → Hp → Prop} {rt : VK} {ta to ti : TE} {t : TSet} (h : ta σ H fun v H1 => gSub to ti t v σ H1 nx) : tAsg ta (gSub to ti t) ⟨nx, rt, bk, ct⟩ σ H := h
theorem c_inT' {a : Addr} {xs : List V} (h : SqT K H a xs) (f1 : flatV x = true) (f2 : xs.all flatV = true) (q : Q (.bl (inV x xs)) H) : rIn K false x (.ref a) H Q := ⟨a, xs, rfl, .inr h, f1, f2, q⟩
theorem c_pop {a : Addr} {xs : List V} {i : Int} {k : Nat} (h : H a = some (.lst xs)) (h0 : -1000000 ≤ i) (h1 : i ≤ 1000000) (e : seqIndex? i xs.length = some k) (g : xs[k]? = some y) (q : Q y (upd H a (.lst (xs.eraseIdx k)))) : rPopAt (.ref a) [.int i] H Q := ⟨a, xs, i, k, y, rfl, rfl, h, by omega, by omega, e, g, q⟩
theorem ixN_nat {n k : Nat} (h : k < n) : ixN n (k : Int) = some k := by
  unfold ixN
  rw [if_pos (by omega), if_pos (by omega), Int.toNat_natCast]
theorem atI_nat {α : Type} {xs : List α} {k : Nat} : atI xs (k : Int) = xs[k]? := by
  unfold atI
  by_cases h : k < xs.length
  · rw [ixN_nat h]
    rfl
  · unfold ixN
    rw [if_pos (by omega), if_neg (by omega), List.getElem?_eq_none (by omega)]
    rfl
theorem atI_int {α : Type} {xs : List α} {i : Int} (h : 0 ≤ i) : atI xs i = xs[i.toNat]? := by
  have : i = ((i.toNat : Nat) : Int) := by omega
  rw [this, atI_nat, Int.toNat_natCast]
theorem seqIx {i : Int} {n : Nat} (h0 : 0 ≤ i) (h1 : i < n) : seqIndex? i n = some i.toNat := by
  unfold seqIndex?
  rw [if_neg (show ¬ i < 0 by omega)]
  simp [h0, h1]
end
theorem Paired.snoc' {α β : Type} {R : α → β → Prop} {xs : List α} {ys : List β} {x : α} {y : β} (h : Paired R xs ys) (q : R x y) : Paired R (xs ++ [x]) (ys ++ [y]) := by
  induction h with
  | nil => exact .cons q .nil
  | cons a _ ih => exact .cons a ih
theorem Paired.app {α β : Type} {R : α → β → Prop} {xs xs' : List α} {ys ys' : List β} (h : Paired R xs ys) (q : Paired R xs' ys') : Paired R (xs ++ xs') (ys ++ ys') := by
  induction h with
  | nil => exact q
  | cons a _ ih => exact .cons a ih
section
variable {K : PySem.W.Frag} {H : Hp} {Q : VK} {σ : L2.St} {J : It} {n : Nat} {Gd : Hp → Prop} {Y : Nat → Hp → V → Hp → Prop} {g : TG} {t : TA} {vs : List Nat}
/-- a list of new tuples -/
theorem lc_tups (w : Walk J n Gd Y) (hG : ∀ H', Same H H' → Gd H') (hz : n ≤ 1000000) (c : Nat → List V) (hc : ∀ i, (c i).length ≤ 10)
    (el : ∀ i x H0 H', i < n → Same H H0 → Y i H0 x H' → Same H0 H' ∧ ∀ P : List V → Hp → Prop, (∀ H4, Same H' H4 → P (c i) H4) → g x (wipe σ vs) H' fun σ2 H2 => wipe σ2 vs = wipe σ vs ∧ t σ2 H2 P)
    (q : ∀ D H' (ps : List Addr), H D = none → Same H H' → H' D = some (.lst (ps.map V.ref)) → Paired (fun q v => H' q = some (.tup v)) ps ((List.range n).map c) → Q (.ref D) H') : LcG J g tYes (tTup t) vs σ H Q := by
  have hM := million
  intro D hD
  refine lc_it (Qd := fun H' => Q (.ref D) H') w (fun i H' => Same H H' ∧ ∃ ps : List Addr, H' D = some (.lst (ps.map V.ref)) ∧ Paired (fun q v => H' q = some (.tup v)) ps ((List.range i).map c)) ⟨fun b o e => ?_, [], upd_same, .nil⟩ (fun i H' _ p => hG H' p.1) ?_ ?_
  · rw [upd_ne (ne_of_none e hD)]; exact e
  · rintro i x H0 H' hi ⟨s0, ps, h0, hr⟩ y0
    obtain ⟨s1, f⟩ := el i x H0 H' hi s0 y0
    have hlen := Paired.length hr
    rw [List.length_map, List.length_range] at hlen
    refine f _ fun H4 s4 => ⟨Nat.le_trans (hc i) (by omega), fun p n5 => ?_⟩
    have s5 : Same H4 (upd H4 p (.tup (c i))) := fun b u e => by
      rw [upd_ne (ne_of_none e n5)]
      exact e
    have e5 : (upd H4 p (.tup (c i))) p = some (.tup (c i)) := upd_same
    generalize upd H4 p (.tup (c i)) = H5 at *
    have s45 := s1.trans (s4.trans s5)
    refine ⟨ps.map V.ref, s45 _ _ h0, by rw [List.length_map]; omega, same_mut (s0.trans s45) hD, ps ++ [p], ?_, ?_⟩
    · rw [upd_same, List.map_append]
      rfl
    · rw [List.range_succ, List.map_append]
      refine Paired.snoc' (Paired.mapP hr fun z v he => ?_) ?_
      · have h1 := s45 _ _ he
        rw [upd_ne fun y => by rw [y, s45 _ _ h0] at h1; cases h1]
        exact h1
      · rw [upd_ne fun y => by rw [y, s45 _ _ h0] at e5; cases e5]
        exact e5
  · rintro H' ⟨s0, ps, h0, hr⟩
    exact q D H' ps hD s0 h0 hr
theorem tups_lags {H : Hp} {f : Nat → Lag} {ps : List Addr} {l : List Nat} (h : Paired (fun q v => H q = some (.tup v)) ps (l.map fun i => lagV (f i))) : LagRefs H (ps.map V.ref) (l.map f) := by
  induction l generalizing ps with
  | nil =>
    cases h
    exact .nil
  | cons a l ih =>
    cases h with
    | cons a1 a2 => exact .cons ⟨_, rfl, a1⟩ (ih a2)
end
end Rt
end
section
set_option maxHeartbeats 4000000
/-! Ker2: != of two instances by their own ==. -/
namespace Rt
open PySem PySem.Spec PyProof.Rows L2
open PySem.W (InstAt findIn isFn ifBound_K mroIn)
section
variable {prog : Program} {w : World} {A : Around} {E : Value → Shared → Prop} {s : Shared} {K : PySem.W.Frag} {x C f : Addr} {ox : Obj} {od : Option Obj} {b : Value}
theorem ne_entry {Q : PySem.Fin → Shared → Prop} (hu : A.units < cLine) (X : K.In s.heap) (I : InstAt s.heap x ox C od) (he : findIn K (.ref C) "__eq__" = some (some (.ref f))) (hf : isFn K (.ref f) = true)
    (hcall : wpAny (model prog w) A (call (.ref f) [.ref x, b]) (fun v s' => ∃ r, v = .bool r ∧ Q (.done (.ret (.bool (!r)))) s') E s) : wpAny (model prog w) A (Builtin.«object.__ne__» ⟨[.ref x, b], []⟩) Q E s := by
  unfold Builtin.«object.__ne__»
  repeat (first
    | with_reducible refine wpAny_cRoomFor hu ?_
    | (refine wpAny_bind (m := callSpecialIfBound? (.ref x) (Str.ofString "__eq__") [b])
        (ifBound_K X I he hf (wpAny_mono hcall (fun v s' hv => by
          obtain ⟨r, rfl, hq⟩ := hv
          repeat (first | exact hq | exact wpAny_pure hq | exact wpAny_truthy_bool hq | (refine wpAny_bind (m := truthy (.bool _)) (wpAny_truthy_bool ?_)) | wp_step)) fun _ _ e => e)))
    | wp_step)
theorem ne_bound {args : List Value} {Q : Option Value → Shared → Prop} (X : K.In s.heap) (I : InstAt s.heap x ox C od) (hs : findIn K (.ref C) "__ne__" = some (some (.builtin "object.__ne__")))
    (h : wpAny (model prog w) A (call (.builtin "object.__ne__") (.ref x :: args)) (fun v => Q (some v)) E s) : wpAny (model prog w) A (callSpecialIfBound? (.ref x) "__ne__" args) Q E s := by
  simp only [callSpecialIfBound?, bindSpecialIfBound?]
  refine wpAny_holding (wpAny_bind (wpAny_bind (wpAny_bind (I.type.here ((PySem.W.looks_findIn X hs).here ?_)))))
  refine wpAny_bind (wpAny_askSetting (wpAny_ite ?_))
  have fin : wpAny (model prog w) A (call (.builtin "object.__ne__") ([.ref x] ++ args) >>= fun v => pure (some v)) Q E s := wpAny_bind (wpAny_mono h (fun v s' h' => wpAny_pure h') fun _ _ h' => h')
  split
  · exact wpAny_bind (wpAny_of_eq (F.cmp_object.ne.bind _) (wpAny_pure (by exact fin)))
  · exact wpAny_tryCatch (wpAny_bind (wpAny_of_eq (F.cmp_object.ne.bind _) (wpAny_pure (by exact fin))))
theorem ne_rich {y : Addr} {oy : Obj} {od' : Option Obj} {Q : Value → Shared → Prop} (hu : A.units + 1 < cLine) (X : K.In s.heap) (I : InstAt s.heap x ox C od) (J : InstAt s.heap y oy C od') (hm : mroIn K C (.type "object") = some true)
    (hs : findIn K (.ref C) "__ne__" = some (some (.builtin "object.__ne__"))) (he : findIn K (.ref C) "__eq__" = some (some (.ref f))) (hf : isFn K (.ref f) = true)
    (hcall : wpAny (model prog w) A.in1 (call (.ref f) [.ref x, .ref y]) (fun v s' => ∃ r, v = .bool r ∧ Q (.bool (!r)) s') E s) : wpAny (model prog w) A (richCompare .NotEq (.ref x) (.ref y)) Q E s := by
  have one : wpAny (model prog w) A (tryCompare (.ref x) "__ne__" (.ref y)) (fun r s' => ∃ k, r = some (.bool k) ∧ Q (.bool k) s') E s := by
    unfold tryCompare
    refine wpAny_bind (ne_bound X I hs (wpAny_call (codeAny_call_builtin F.cmp_object.ne.plain F.cmpEntry_ne (PySem.W.check_slot F.cmpKind_ne F.cmpSplit_ne (I.type.andThen (PySem.W.looks_mroIn X hm)) (F.cmpArgs_ne _ _)
      (ne_entry (A := A.in1) (by simpa using hu) X I he hf (wpAny_mono hcall (fun v s' hv => ?_) fun _ _ e => e))))))
    obtain ⟨r, rfl, hq⟩ := hv
    exact ⟨r, rfl, wpAny_pure ⟨_, rfl, hq⟩⟩
  unfold richCompare
  simp only [oneThing_ref]
  refine wpAny_holding (wpAny_bind (wpAny_cRoomFor (Nat.lt_of_succ_lt hu) ?_))
  rw [cmpInfo_NotEq]
  dsimp only
  refine wpAny_bind (I.type.here (wpAny_bind (J.type.here ?_)))
  rw [show (Value.ref C != Value.ref C) = false from by simp]
  simp only [Bool.false_eq_true, if_false]
  refine wpAny_bind (wpAny_pure ?_)
  simp only [Bool.false_eq_true, if_false]
  refine wpAny_bind (wpAny_mono one (fun r s' hv => ?_) fun _ _ e => e)
  obtain ⟨k, rfl, hq⟩ := hv
  exact wpAny_pure hq
end
/-- x != y: the class' own == answers, its word turned -/
def rNeOwn (C : Addr) (sp : Sp) (E : XK) : R2 := fun x y H Q => ∃ a b dx dy fs gs, x = .ref a ∧ y = .ref b ∧ H a = some (.ins C dx fs) ∧ H b = some (.ins C dy gs) ∧ sp [.ref a, .ref b] H (fun v H' => ∃ r, v = .bl r ∧ Q (.bl (!r)) H') E
theorem o_neOwn {X : Cx} {CX : CXT} {k j : Nat} {C : Addr} {sp : Sp} {E : XK} (c : Met CX X.prog X.w X.K X.mg X.base k C "__eq__" sp []) (hr : Room j X.A) (hk : k + 1 ≤ j) (hx : Passes CX X E)
    (hn : findIn X.K (.ref C) "__ne__" = some (some (.builtin "object.__ne__"))) (hm : mroIn X.K C (.type "object") = some true) : OpR X (compareOp .NotEq) (rNeOwn C sp E) := by
  intro pins s σ H x y v u Q I rx ry h
  obtain ⟨a, b, dx, dy, fs, gs, rfl, rfl, ha, hb, hsp⟩ := h
  obtain ⟨f, fd, ps, ds, hcl, hme, F, hbi, hd⟩ := c.ex
  cases hd
  cases rx
  cases ry
  have hr1 : Room (k + 1) X.A := hr.mono hk
  show wpAny (model X.prog X.w) X.A (richCompare .NotEq (.ref a) (.ref b)) (EP X pins σ Q) X.xe s
  obtain ⟨mA, J, _⟩ := ins_get I.hok ha
  obtain ⟨mB, J', _⟩ := ins_get I.hok hb
  obtain ⟨od, J, _⟩ := J.look
  obtain ⟨od', J', _⟩ := J'.look
  refine ne_rich (by have := hr1.units; omega) I.kIn J J' hm hn hme.at_ hme.fn ?_
  have e0 : Env0 X.prog X.w X.K X.mg X.base X.A.in1 X.stack s H := let e := I.env0; ⟨e.frames, e.mod, e.bs, e.bsz, e.funs, e.frf, e.hok, e.bare⟩
  have hl := F.len _ _ _ _ hsp
  have r2 : Vals [V.ref a, V.ref b] [Value.ref a, Value.ref b] := .cons rfl (.cons rfl .nil)
  refine wpAny_call (codeAny_mono (F.run X.A.in1 X.stack s H ⟨[.ref a, .ref b], []⟩ [.ref a, .ref b] [.ref a, .ref b] _ E hr1.in1 e0 (by
    have := hbi s [.ref a, .ref b] I.kIn (by simpa using hl)
    simpa using this) r2 hsp) fun r s' hq => ?_)
  cases r with
  | error e => exact hx pins σ H s e s' I hq
  | ok fl =>
    cases fl with
    | ret w =>
      obtain ⟨z, H', I', rz, r, ez, q⟩ := I.after hq
      subst ez
      cases rz
      exact ⟨r, rfl, .bl (!r), H', I', rfl, q⟩
    | next => exact False.elim hq
    | brk => exact False.elim hq
    | cont => exact False.elim hq
end Rt
end
section
set_option maxHeartbeats 4000000
/-! HookR: the head's facts: HeadHook2's, and any test of the written part besides. -/
namespace Rt
open PySem PySem.Spec PyProof.Rows L2
abbrev Fb : Type := PySem.W.Frag → Bool
def obsR (fa : List He.Fa) (fb : List Fb) (fn : List He.DefD) (K : PySem.W.Frag) : He.AlD := ((fa.all fun f => f.ok K) && ((fb.all fun f => f K) && fn.all fun d => d.ok K), fn.map fun d => He.fnW K d.at_)
def SaysR (fa : List He.Fa) (fb : List Fb) (fn : List He.DefD) (K : PySem.W.Frag) : Prop := obsR fa fb fn K = He.valD fn
def obsRG (n : Nat) (fa : List He.Fa) (fb : List Fb) (fn : List He.DefD) (g : Addr → Option Obj) : He.AlD := obsR fa fb fn (He.frG g (He.asD g n))
def hookR (n : Nat) (fa : List He.Fa) (fb : List Fb) (fn : List He.DefD) : PySem.W.Hook where
  α := He.AlD
  obs := fun s => obsRG n fa fb fn s.heap.get?
  val := fun _ => He.valD fn
  says := fun _ h => ∃ K : PySem.W.Frag, K.In h ∧ SaysR fa fb fn K
  of := fun _ _ e => ⟨_, He.frG_in, e⟩
  keeps := fun _ _ _ ⟨K, hK, c⟩ k => ⟨K, PySem.W.Frag.In.keeps hK k, c⟩
theorem obsRG_eq {n : Nat} {fa : List He.Fa} {fb : List Fb} {fn : List He.DefD} {g : Addr → Option Obj} {s : Shared} (h : ∀ a, g a = s.heap.get? a) : obsRG n fa fb fn g = (hookR n fa fb fn).obs s := by
  have e : g = s.heap.get? := funext h
  rw [e] <;> rfl
section
variable {fa : List He.Fa} {fb : List Fb} {fn : List He.DefD} {K : PySem.W.Frag}
theorem SaysR.all (c : SaysR fa fb fn K) : ((fa.all fun f => f.ok K) && ((fb.all fun f => f K) && fn.all fun d => d.ok K)) = true := congrArg (fun z : He.AlD => z.1) c
theorem SaysR.fact (c : SaysR fa fb fn K) (i : Nat) {f : He.Fa} (h : fa[i]? = some f := by rfl) : f.ok K = true :=
  List.all_eq_true.mp (He.ba c.all).1 f (List.mem_of_getElem? h)
theorem SaysR.test (c : SaysR fa fb fn K) (i : Nat) {f : Fb} (h : fb[i]? = some f := by rfl) : f K = true :=
  List.all_eq_true.mp (He.ba (He.ba c.all).2).1 f (List.mem_of_getElem? h)
theorem SaysR.def_ (c : SaysR fa fb fn K) (i : Nat) {d : He.DefD} (h : fn[i]? = some d := by rfl) : ∃ fd, FunD K d.name d.qual d.params d.body d.scope (d.dvs K) (d.kws K) (He.fAd K d.at_) fd := by
  have c2 := (He.ba (He.ba c.all).2).2
  have e : fn.map (fun d => He.fnW K d.at_) = fn.map He.DefD.val := congrArg (fun z : He.AlD => z.2) c
  have e2 : (fn.map fun d => He.fnW K d.at_)[i]? = (fn.map He.DefD.val)[i]? := by rw [e]
  rw [List.getElem?_map, List.getElem?_map, h] at e2
  exact He.DefD.funD (Option.some.inj e2) (List.all_eq_true.mp c2 d (List.mem_of_getElem? h))
end
/-- what isinstance asks of an own class -/
def fIns (x : Str) : Fb := fun K => He.eqO (PySem.W.findIn K (.ref (He.ga K x)) "__class__") (some (some (.builtin "object.__class__"))) && (He.eqO (PySem.W.specialIn K (.builtin "object.__class__") "__get__") (some (some (.builtin "getset_descriptor.__get__"))) &&
  (decide (PySem.W.takesIn K (.builtin "object.__class__") = some true) && (decide (PySem.W.mroIn K (He.ga K x) (.type "object") = some true) && decide (PySem.W.kitOne K (.ref (He.ga K x)) (.ref (He.ga K x)) = some true))))
theorem fIns_ok {K : PySem.W.Frag} {x : Str} (cl : Cls K (He.ga K x)) (h : fIns x K = true) : C8.InsC K (He.ga K x) := by
  obtain ⟨h1, h⟩ := He.ba h
  obtain ⟨h2, h⟩ := He.ba h
  obtain ⟨h3, h⟩ := He.ba h
  obtain ⟨h4, h5⟩ := He.ba h
  exact ⟨cl, He.eqO_ok h1, He.eqO_ok h2, of_decide_eq_true h3, of_decide_eq_true h4, of_decide_eq_true h5⟩
/-- no own != -/
def fNe (x : Str) : Fb := fun K => He.eqO (PySem.W.findIn K (.ref (He.ga K x)) "__ne__") (some (some (.builtin "object.__ne__"))) && decide (PySem.W.mroIn K (He.ga K x) (.type "object") = some true)
theorem fNe_ok {K : PySem.W.Frag} {x : Str} (h : fNe x K = true) : PySem.W.findIn K (.ref (He.ga K x)) "__ne__" = some (some (.builtin "object.__ne__")) ∧ PySem.W.mroIn K (He.ga K x) (.type "object") = some true := by
  obtain ⟨h1, h2⟩ := He.ba h
  exact ⟨He.eqO_ok h1, of_decide_eq_true h2⟩
/-- a default that is the empty tuple -/
def fEmp (p : Str × Option Str) (i : Nat) : Fb := fun K => match K.lookup (He.dflAt p i K) with
  | some o => decide (o.cls = .type "tuple") && (match o.data with
    | .seq its _ => its.size == 0
    | _ => false)
  | none => false
theorem fEmp_ok {K : PySem.W.Frag} {p : Str × Option Str} {i : Nat} (h : fEmp p i K = true) : ∃ (o : Obj) (its : Array Value) (n : Nat), K.lookup (He.dflAt p i K) = some o ∧ o.cls = .type "tuple" ∧ o.data = .seq its n ∧ its.size ≤ sizeLine ∧ Vals [] its.toList := by
  unfold fEmp at h
  cases hl : K.lookup (He.dflAt p i K) with
  | none => rw [hl] at h; cases h
  | some o =>
    rw [hl] at h
    obtain ⟨h1, h2⟩ := He.ba h
    cases hd : o.data with
    | seq its n =>
      rw [hd] at h2
      have hz : its.size = 0 := by simpa using h2
      refine ⟨o, its, n, rfl, of_decide_eq_true h1, hd, by omega, ?_⟩
      have e : its.toList = [] := List.eq_nil_of_length_eq_zero (by rw [Array.length_toList]; exact hz)
      rw [e]
      exact .nil
    | _ => rw [hd] at h2; cases h2
end Rt
end
section
set_option maxHeartbeats 4000000
/-! the promises -/
namespace Rt
open PySem PySem.Spec PyProof.Rows L2
def sp_is_integer (K : PySem.W.Frag) : Sp := A3 fun a b c H Q _ => ∃ i lo hi : Int, a = .int i ∧ b = .int lo ∧ c = .int hi ∧ Ret (.bl (isInt i lo hi)) H Q
def sp_is_name (K : PySem.W.Frag) : Sp := A1 fun a H Q _ => ∃ s : Str, a = .str s ∧ s.length ≤ 1000 ∧ Ret (.bl (isName s)) H Q
def sp_is_times (K : PySem.W.Frag) : Sp := A2 fun a b H Q _ => ∃ (hz : Int) (t : Addr) (ts : List (Str × Int)), a = .int hz ∧ b = .ref t ∧ H t = some (.dK (dSI ts)) ∧ ts.length ≤ 1000 ∧ (∀ e ∈ ts, e.1.length ≤ 1000) ∧ Ret (.bl (isTimes hz ts)) H Q
def sp_is_node (K : PySem.W.Frag) : Sp := A2 fun a b H Q _ => ∃ (t : Addr) (ts : List (Str × Int)) (s : Str), a = .ref t ∧ b = .str s ∧ H t = some (.dK (dSI ts)) ∧ Ret (.bl (isNode ts s)) H Q
def sp_is_lag (K : PySem.W.Frag) : Sp := A2 fun a b H Q _ => ∃ (t : Addr) (ts : List (Str × Int)) (l : Lag), a = .ref t ∧ H t = some (.dK (dSI ts)) ∧ LagRef H b l ∧ Ret (.bl (isLag ts l)) H Q
def sp_is_plan (K : PySem.W.Frag) : Sp := A3 fun a b c H Q _ => ∃ (hz : Int) (t l : Addr) (ts : List (Str × Int)) (ls : List Lag), a = .int hz ∧ b = .ref t ∧ c = .ref l ∧ H t = some (.dK (dSI ts)) ∧ ts.length ≤ 1000 ∧ (∀ e ∈ ts, e.1.length ≤ 1000) ∧ LagSeq K H l ls ∧ ls.length ≤ 1000 ∧
  Ret (.bl (isPlan hz ts ls)) H Q
def sp_greatest_gaps (K : PySem.W.Frag) : Sp := A3 fun a b c H Q _ => ∃ (hz : Int) (t l : Addr) (ts : List (Str × Int)) (ls : List Lag), a = .int hz ∧ b = .ref t ∧ c = .ref l ∧ H t = some (.dK (dSI ts)) ∧ ts.length ≤ 1000 ∧ LagSeq K H l ls ∧ ls.length ≤ 1000 ∧
  RetO (.dT (dPI (ggaps hz ts ls))) H Q
/-- the default of Plan's lags -/
def dv_Plan (K : PySem.W.Frag) : List V := [.ref (He.dflAt ("Plan", some "__init__") 0 K)]
def optS : Option Str → V
  | none => .non
  | some x => .str x
def sp_raise_totals (K : PySem.W.Frag) : Sp := A3 fun a b c H Q _ => ∃ (ga gb gc : Addr) (g : GM) (t : List (Str × Int)) (p : List (Str × Str)), a = .ref ga ∧ b = .ref gb ∧ c = .ref gc ∧ H ga = some (.dT (dPI g)) ∧ H gb = some (.dK (dSI t)) ∧ H gc = some (.dK (dSS p)) ∧ gb ≠ gc ∧
  (∀ e ∈ g, (look t e.1.1).isSome = true ∧ (look t e.1.2).isSome = true) ∧ t.length + g.length < 1000000 ∧ p.length + g.length < 1000000 ∧
  ∀ H', But [gb, gc] H H' → H' gb = some (.dK (dSI (raiseT g t p).tot)) → H' gc = some (.dK (dSS (raiseT g t p).prv)) → Q (optS (raiseT g t p).last) H'
def sp_cycle_behind (K : PySem.W.Frag) : Sp := A2 fun _ _ _ _ _ => False
def sp_positive_cycle (K : PySem.W.Frag) : Sp := A3 fun a b c H Q _ => ∃ (hz : Int) (t l : Addr) (ts : List (Str × Int)) (ls : List Lag), a = .int hz ∧ b = .ref t ∧ c = .ref l ∧ H t = some (.dK (dSI ts)) ∧ ts.length ≤ 100 ∧ LagSeq K H l ls ∧ ls.length ≤ 1000 ∧
  isPlan hz ts ls = true ∧ (ts.map (·.1)).Nodup ∧ Cons hz (ts.map (·.1)) ls ∧ Ret .non H Q
def sp_Plan_init (K : PySem.W.Frag) : Sp := A4 fun a b c d H Q _ => ∃ (x dx : Addr) (hz : Int) (t l : Addr) (ts : List (Str × Int)) (ls : List Lag), a = .ref x ∧ b = .int hz ∧ c = .ref t ∧ d = .ref l ∧ H x = some (.ins (He.ga K "Plan") dx []) ∧ H t = some (.dK (dSI ts)) ∧ ts.length ≤ 60 ∧ LagSeq K H l ls ∧ ls.length ≤ 100 ∧
  isPlan hz ts ls = true ∧ (ts.map (·.1)).Nodup ∧ Cons hz (ts.map (·.1)) ls ∧ ∀ H' us ms, But [x] H H' → PlanAt K H' x ⟨hz, us, ms⟩ → SortT ts us → SortOf ls ms → Q .non H'
def sp_Plan_times (K : PySem.W.Frag) : Sp := A1 fun a H Q _ => ∃ x p, a = .ref x ∧ PlanAt K H x p ∧ RetO (.dK (dSI p.ts)) H Q
def sp_Plan_time (K : PySem.W.Frag) : Sp := A2 fun _ _ _ _ _ => False
def sp_Plan_lags (K : PySem.W.Frag) : Sp := A1 fun a H Q _ => ∃ x p, a = .ref x ∧ PlanAt K H x p ∧ ∀ H' l vs, Same H H' → H' l = some (.tup vs) → LagRefs H' vs p.lg → Q (.ref l) H'
def sp_Plan_len (K : PySem.W.Frag) : Sp := A1 fun a H Q _ => False
def sp_Plan_eq (K : PySem.W.Frag) : Sp := A2 fun a b H Q _ => ∃ x y p q, a = .ref x ∧ b = .ref y ∧ PlanAt K H x p ∧ PlanAt K H y q ∧ p = q ∧ (p.ts.map (·.1)).Nodup ∧ Ret (.bl true) H Q
def sp_nodes_of (K : PySem.W.Frag) : Sp := A1 fun a H Q _ => ∃ x p, a = .ref x ∧ PlanAt K H x p ∧ (p.ts.map (·.1)).Pairwise (fun a b => ltS a b = true) ∧ p.ts.length < 60 ∧ RetO (.lst ((nodesOf p).map V.str)) H Q
def sp_check_node (K : PySem.W.Frag) : Sp := A2 fun a b H Q _ => ∃ x p s, a = .ref x ∧ b = .str s ∧ PlanAt K H x p ∧ s ∈ nodesOf p ∧ Ret .non H Q
/-- the distances' object: its nodes, totals, middles -/
def distF (nd tt mm : Addr) : List (Str × V) := [("nodes", .ref nd), ("totals", .ref tt), ("middles", .ref mm)]
structure DistAt (K : PySem.W.Frag) (H : Hp) (x : Addr) (dx nd tt mm : Addr) (ns : List Str) (t : Tb) : Prop where
  hob : H x = some (.ins (He.ga K "Distances") dx (distF nd tt mm))
  hnd : H nd = some (.lst (ns.map V.str))
  htt : H tt = some (.dT (dPI t.tot))
  hmm : H mm = some (.dT (dPS t.mid))
  hne : tt ≠ mm
def sp_Distances_improve (K : PySem.W.Frag) : Sp := A4 fun a b c d H Q _ => ∃ x dx nd tt mm ns t s1 s2 m, a = .ref x ∧ b = .str s1 ∧ c = .str s2 ∧ d = .str m ∧ DistAt K H x dx nd tt mm ns t ∧ (look t.tot (s1, m)).isSome = true ∧ (look t.tot (m, s2)).isSome = true ∧ t.tot.length < 1000000 ∧ t.mid.length < 1000000 ∧
  ∀ H', But [tt, mm] H H' → DistAt K H' x dx nd tt mm ns (improve t s1 s2 m) → Q .non H'
def sp_Distances_pass_through (K : PySem.W.Frag) : Sp := A2 fun a b H Q _ => ∃ x dx nd tt mm ns t m, a = .ref x ∧ b = .str m ∧ DistAt K H x dx nd tt mm ns t ∧ ns.length ≤ 100 ∧ t.tot.length + 10000 ≤ 1000000 ∧ t.mid.length + 10000 ≤ 1000000 ∧
  ∀ H', But [tt, mm] H H' → DistAt K H' x dx nd tt mm ns (thru ns t m) → Q .non H'
def sp_Distances_init (K : PySem.W.Frag) : Sp := A2 fun a b H Q _ => ∃ x dx y p, a = .ref x ∧ b = .ref y ∧ H x = some (.ins (He.ga K "Distances") dx []) ∧ PlanAt K H y p ∧ (p.ts.map (·.1)).Pairwise (fun a b => ltS a b = true) ∧ p.ts.length < 60 ∧ p.lg.length ≤ 1000 ∧
  ∀ H' nd tt mm, But [x] H H' → DistAt K H' x dx nd tt mm (nodesOf p) (distP p) → Q .non H'
def sp_Distances_between (K : PySem.W.Frag) : Sp := A3 fun a b c H Q _ => ∃ x dx nd tt mm ns t s1 s2 z, a = .ref x ∧ b = .str s1 ∧ c = .str s2 ∧ DistAt K H x dx nd tt mm ns t ∧ look t.tot (s1, s2) = some z ∧ Ret (.int z) H Q
def sp_distance (K : PySem.W.Frag) : Sp := A3 fun a b c H Q _ => ∃ x p s1 s2 z, a = .ref x ∧ b = .str s1 ∧ c = .str s2 ∧ PlanAt K H x p ∧ s1 ∈ nodesOf p ∧ s2 ∈ nodesOf p ∧ (p.ts.map (·.1)).Pairwise (fun a b => ltS a b = true) ∧ p.ts.length < 60 ∧ p.lg.length ≤ 1000 ∧
  look (distP p).tot (s1, s2) = some z ∧ Ret (.int z) H Q
/-! ### the law -/
/-- a list of lags -/
def LagLst (K : PySem.W.Frag) (H : Hp) (a : Addr) (ls : List Lag) : Prop := ∃ vs, SqL K H a vs ∧ LagRefs H vs ls
theorem LagLst.seq {K : PySem.W.Frag} {H : Hp} {a : Addr} {ls : List Lag} (h : LagLst K H a ls) : LagSeq K H a ls := h.imp fun _ h => ⟨.inl h.1, h.2⟩
theorem LagLst.same {K : PySem.W.Frag} {G H : Hp} {a : Addr} {ls : List Lag} (s : Same G H) (h : LagLst K G a ls) : LagLst K H a ls := by
  obtain ⟨vs, h1, h2⟩ := h
  exact ⟨vs, s.seq h1, h2.same s⟩
/-- the pen at a: the script's cells, a count up to b, a number -/
def PenOf (H : Hp) (a s : Addr) (b : Nat) : Prop := ∃ (ns : List Int) (n : Nat) (r : Int), H a = some (.lst [.ref s, .int (n : Int), .int r]) ∧ H s = some (.lst (ns.map V.int)) ∧ ns.length ≤ 60 ∧ n ≤ b
def PenAt (H : Hp) (a : Addr) (b : Nat) : Prop := ∃ s, PenOf H a s b
def sp_law_pen (K : PySem.W.Frag) : Sp := A1 fun a H Q _ => ∃ (s : Addr) (ns : List Int), a = .ref s ∧ SqL K H s (ns.map V.int) ∧ ns.length ≤ 63 ∧ ∀ H' p, Same H H' → H p = none → PenAt H' p 0 → Q (.ref p) H'
def sp_law_next (K : PySem.W.Frag) : Sp := A1 fun a H Q _ => ∃ (p s : Addr) (ns : List Int) (n : Nat) (r : Int), a = .ref p ∧ H p = some (.lst [.ref s, .int ((n : Nat) : Int), .int r]) ∧ H s = some (.lst (ns.map V.int)) ∧ ns.length ≤ 60 ∧ n ≤ 100000 ∧
  ∀ H' z, But [p] H H' → H' p = some (.lst [.ref s, .int ((n + 1 : Nat) : Int), .int r]) → Q (.int z) H'
def sp_law_draw (K : PySem.W.Frag) : Sp := A2 fun a c H Q _ => ∃ (p s : Addr) (b : Nat) (j : Int), a = .ref p ∧ c = .int j ∧ PenOf H p s b ∧ b ≤ 100000 ∧ 0 < j ∧ j < 1073741824 ∧ ∀ H' d, But [p] H H' → PenOf H' p s (b + 1) → 0 ≤ d → d < j → Q (.int d) H'
def pool11 : List Str := ["a", "b", "c", "d", "e", "f", "ab", "aa", "zz", "abcdefgh", "m"]
def sp_law_names (K : PySem.W.Frag) : Sp := A2 fun a c H Q _ => ∃ (p : Addr) (b : Nat) (j : Int), a = .ref p ∧ c = .int j ∧ PenAt H p b ∧ b ≤ 90000 ∧ 0 ≤ j ∧ j ≤ 11 ∧ ∀ H' q (xs : List Str), But [p] H H' → H q = none → H' q = some (.lst (xs.map V.str)) → PenAt H' p (b + 11) → xs.Nodup → (∀ x ∈ xs, x ∈ pool11) → (xs.length : Int) = j → Q (.ref q) H'
def sp_law_starts (K : PySem.W.Frag) : Sp := A3 fun a c d H Q _ => ∃ (p : Addr) (b : Nat) (l : Addr) (xs : List Str) (wd : Int), a = .ref p ∧ c = .ref l ∧ d = .int wd ∧ PenAt H p b ∧ b ≤ 90000 ∧ H l = some (.lst (xs.map V.str)) ∧ xs.Nodup ∧ xs.length ≤ 30 ∧ 0 ≤ wd ∧ wd ≤ 1000000 ∧
  ∀ H' q (ts : List (Str × Int)), But [p] H H' → H q = none → H' q = some (.dK (dSI ts)) → PenAt H' p (b + 30) → ts.map (·.1) = xs → (∀ e ∈ ts, 0 ≤ e.2 ∧ e.2 ≤ wd) → Q (.ref q) H'
def sp_law_far (K : PySem.W.Frag) : Sp := A3 fun a c d H Q _ => ∃ (l : Addr) (xs : List Str) (wd : Int) (m : Addr) (ls : List Lag), a = .ref l ∧ c = .int wd ∧ d = .ref m ∧ H l = some (.lst (xs.map V.str)) ∧ xs.length ≤ 40 ∧ LagLst K H m ls ∧ ls.length ≤ 1000 ∧ (∀ z ∈ ls, z.1 ∈ nds xs ∧ z.2.1 ∈ nds xs) ∧
  (farOk xs wd ls = false → Ret .non H Q) ∧ (farOk xs wd ls = true → RetO (.dT (dPI (far xs wd ls))) H Q)
def sp_law_limits (K : PySem.W.Frag) : Sp := A5 fun a c d e f H Q _ => ∃ (p : Addr) (b : Nat) (l : Addr) (xs : List Str) (t : Addr) (ts : List (Str × Int)) (wd j : Int), a = .ref p ∧ c = .ref l ∧ d = .ref t ∧ e = .int wd ∧ f = .int j ∧ PenAt H p b ∧ b ≤ 90000 ∧ H l = some (.lst (xs.map V.str)) ∧ xs.length ≤ 30 ∧ H t = some (.dK (dSI ts)) ∧ ts.map (·.1) = xs ∧ (∀ e ∈ ts, 0 ≤ e.2 ∧ e.2 ≤ 1000000) ∧ 0 ≤ j ∧ j ≤ 90 ∧
  ∀ H' q (ls : List Lag), But [p] H H' → LagLst K H' q ls → PenAt H' p (b + 3 * j.toNat) → (ls.length : Int) ≤ j → (∀ z ∈ ls, z.1 ∈ nds xs ∧ z.2.1 ∈ nds xs ∧ z.1 ≠ z.2.1 ∧ -1000000 ≤ z.2.2) → (ls = [] ∨ farOk xs wd ls = true) → Q (.ref q) H'
def sp_law_parts (K : PySem.W.Frag) : Sp := A2 fun a c H Q _ => ∃ (p : Addr) (b : Nat) (j : Int), a = .ref p ∧ c = .int j ∧ PenAt H p b ∧ b ≤ 80000 ∧ 1 ≤ j ∧ j ≤ 6 ∧
  ∀ H' q t l (wd : Int) (ts : List (Str × Int)) (ls : List Lag), But [p] H H' → H' q = some (.tup [.int wd, .ref t, .ref l]) → H' t = some (.dK (dSI ts)) → LagLst K H' l ls → PenAt H' p (b + 100) → 0 ≤ wd → wd ≤ 1000000 → (ts.map (·.1)).Nodup → ts.length ≤ 6 → (∀ e ∈ ts, e.1 ∈ pool11 ∧ 0 ≤ e.2 ∧ e.2 ≤ wd) → ls.length ≤ 12 →
    (∀ z ∈ ls, z.1 ∈ nds (ts.map (·.1)) ∧ z.2.1 ∈ nds (ts.map (·.1)) ∧ z.1 ≠ z.2.1 ∧ -1000000 ≤ z.2.2) → (ls = [] ∨ farOk (ts.map (·.1)) wd ls = true) → Q (.ref q) H'
/-- a row's plan: names, sums of gaps -/
def sp_law_row (K : PySem.W.Frag) : Sp := A1 fun a H Q _ => ∃ p b, a = .ref p ∧ PenAt H p b ∧ b ≤ 80000 ∧
  ∀ H' q l m y (xs : List Str) (ss : List Int) (pl : PlanD), But [p] H H' → H' q = some (.tup [.ref l, .ref m, .ref y]) → H' l = some (.lst (xs.map V.str)) → H' m = some (.lst (ss.map V.int)) → PlanAt K H' y pl → PenAt H' p (b + 100) → xs.length = 30 → xs.Nodup → ss.length = 30 →
    (pl.ts.map (·.1)).Pairwise (fun a b => ltS a b = true) → pl.ts.length < 60 → pl.lg.length ≤ 1000 → (∀ x ∈ xs, x ∈ nodesOf pl) → (∀ (i j : Nat) (x y : Str) (u v : Int), i ≤ j → xs[i]? = some x → xs[j]? = some y → ss[i]? = some u → ss[j]? = some v → look (distP pl).tot (x, y) = some (v - u)) → Q (.ref q) H'
def sp_law (K : PySem.W.Frag) : Sp := A1 fun a H Q _ => ∃ (s : Addr) (ns : List Int), a = .ref s ∧ SqL K H s (ns.map V.int) ∧ ns.length ≤ 63 ∧ ∀ H', Q (.bl true) H'
end Rt
end
section
set_option maxHeartbeats 4000000
namespace Rt
open PySem PySem.Spec PyProof.Rows L2
def t_is_integer (P : Program) (w : World) (K : PySem.W.Frag) : TS := tRet (tAndV (tCB (rIsi K) (tCons (tVar 0) (tCons (tC (.ty "int")) (tNil)))) (tAndV (tNotV (tCB (rIsi K) (tCons (tVar 0) (tCons (tC (.ty "bool")) (tNil))))) (tChain rLe rLe (tVar 1) (tVar 0) (tVar 2))))
def t_is_name (P : Program) (w : World) (K : PySem.W.Frag) : TS := tRet (tAndV (tCB (rIsi K) (tCons (tVar 0) (tCons (tC (.ty "str")) (tNil)))) (tAndV (tChain rLe rLe (tC (.int 1)) (tCB (rLenS) (tCons (tVar 0) (tNil))) (tC (.int 8))) (tCB (rAll K) (tCons (tLc (iStr (tVar 0)) (gName 1) (tYes) (tOp rInSg (tVar 1) (tC (.str "abcdefghijklmnopqrstuvwxyz"))) [1]) (tNil)))))
def t_is_times (P : Program) (w : World) (K : PySem.W.Frag) : TS := tSeq (tIfS (tNot (tB (tCB (rIsi K) (tCons (tVar 1) (tCons (tC (.ty "dict")) (tNil)))))) (tRet (tC (.bl false))) (tNext)) (tRet (tCB (rAll K) (tCons (tLockE (tLc (iItems (tVar 1)) (gTup K 2 (gCons (gName 2) (gCons (gName 3) (gNil)))) (tYes) (tAndV (tCall (sp_is_name K) [] E0 (tCons (tVar 2) (tNil))) (tCall (sp_is_integer K) [] E0 (tCons (tVar 3) (tCons (tC (.int 0)) (tCons (tVar 0) (tNil)))))) [2, 3])) (tNil))))
def t_is_node (P : Program) (w : World) (K : PySem.W.Frag) : TS := tRet (tAndV (tCB (rIsi K) (tCons (tVar 1) (tCons (tC (.ty "str")) (tNil)))) (tOrV (tOp rEq (tVar 1) (tC (.str ""))) (tDIn (tVar 1) (tVar 0))))
def t_is_lag (P : Program) (w : World) (K : PySem.W.Frag) : TS := tSeq (tIfS (tOr (tNot (tB (tCB (rIsi K) (tCons (tVar 1) (tCons (tC (.ty "tuple")) (tNil)))))) (tOr (tTest (tOp rNe (tCB (rLenQ K) (tCons (tVar 1) (tNil))) (tC (.int 3)))) (tNot (tB (tCall (sp_is_integer K) [] E0 (tCons (tOp (rIxT K) (tVar 1) (tC (.int 2))) (tCons (tUn uNeg (tC (.int 1000000))) (tCons (tC (.int 1000000)) (tNil))))))))) (tRet (tC (.bl false))) (tNext)) (tRet (tAndV (tCall (sp_is_node K) [] E0 (tCons (tVar 0) (tCons (tOp (rIxT K) (tVar 1) (tC (.int 0))) (tNil)))) (tAndV (tCall (sp_is_node K) [] E0 (tCons (tVar 0) (tCons (tOp (rIxT K) (tVar 1) (tC (.int 1))) (tNil)))) (tOp rNe (tOp (rIxT K) (tVar 1) (tC (.int 0))) (tOp (rIxT K) (tVar 1) (tC (.int 1)))))))
def t_is_plan (P : Program) (w : World) (K : PySem.W.Frag) : TS := tSeq (tIfS (tOr (tNot (tB (tCall (sp_is_integer K) [] E0 (tCons (tVar 0) (tCons (tC (.int 0)) (tCons (tC (.int 1000000)) (tNil))))))) (tNot (tB (tCall (sp_is_times K) [] E0 (tCons (tVar 0) (tCons (tVar 1) (tNil))))))) (tRet (tC (.bl false))) (tNext)) (tRet (tAndV (tCB (rIsiT K) (tCons (tVar 2) (tCons (tTup (tCons (tC (.ty "tuple")) (tCons (tC (.ty "list")) (tNil)))) (tNil)))) (tCB (rAll K) (tCons (tLc (iSq K (tVar 2)) (gName 3) (tYes) (tCall (sp_is_lag K) [] E0 (tCons (tVar 1) (tCons (tVar 3) (tNil)))) [3]) (tNil)))))
def t_greatest_gaps (P : Program) (w : World) (K : PySem.W.Frag) : TS := tSeq (tAsg (tDNewT) (gName 3)) (tSeq (tLock (tFor (iKeys (tVar 1)) (gName 4) (tSeq (sDPut (tVar 3) (tTup (tCons (tC (.str "")) (tCons (tVar 4) (tNil)))) (tC (.int 0))) (sDPut (tVar 3) (tTup (tCons (tVar 4) (tCons (tC (.str "")) (tNil)))) (tUn uNeg (tVar 0)))))) (tSeq (tFor (iSq K (tVar 2)) (gTup K 3 (gCons (gName 5) (gCons (gName 6) (gCons (gName 7) (gNil))))) (sDPut (tVar 3) (tTup (tCons (tVar 5) (tCons (tVar 6) (tNil)))) (tCB (rMax2) (tCons (tVar 7) (tCons (tDGet2 (tVar 3) (tTup (tCons (tVar 5) (tCons (tVar 6) (tNil)))) (tVar 7)) (tNil)))))) (tRet (tVar 3))))
def t_raise_totals (P : Program) (w : World) (K : PySem.W.Frag) : TS := tSeq (tAsg (tC .non) (gName 3)) (tSeq (tLock (tFor (iItemsT (tVar 0)) (gTup K 2 (gCons (gTup K 2 (gCons (gName 4) (gCons (gName 5) (gNil)))) (gCons (gName 6) (gNil)))) (tIfS (tTest (tOp rGt (tOp rAdd (tDGet (tVar 1) (tVar 4)) (tVar 6)) (tDGet (tVar 1) (tVar 5)))) (tSeq (sDPut (tVar 1) (tVar 5) (tOp rAdd (tDGet (tVar 1) (tVar 4)) (tVar 6))) (tSeq (sDPut (tVar 2) (tVar 5) (tVar 4)) (tAsg (tVar 5) (gName 3)))) (tNext)))) (tRet (tVar 3)))
def t_cycle_behind (P : Program) (w : World) (K : PySem.W.Frag) : TS := tSeq (tFor (iRng1 (tCons (tCB (rLenD) (tCons (tVar 0) (tNil))) (tNil))) (gName 2) (tAsg (tDGet (tVar 0) (tVar 1)) (gName 1))) (tSeq (tAsg (tLst (tCons (tVar 1) (tNil))) (gName 3)) (tSeq (tWhile (tTest (tOp rNe (tDGet (tVar 0) (tOp (rIxL K) (tVar 3) (tUn uNeg (tC (.int 1))))) (tVar 1))) (tDrop (tBM K "list" rAppend (tVar 3) (tCons (tDGet (tVar 0) (tOp (rIxL K) (tVar 3) (tUn uNeg (tC (.int 1))))) (tNil))))) (tRet (tCB (rTupOf K) (tCons (tRevL K (tVar 3)) (tNil))))))
def t_positive_cycle (P : Program) (w : World) (K : PySem.W.Frag) : TS := tSeq (tAsg (tCall (sp_greatest_gaps K) [] E0 (tCons (tVar 0) (tCons (tVar 1) (tCons (tVar 2) (tNil))))) (gName 3)) (tSeq (tAsg (tDc (iList K (tOp rCat (tLst (tCons (tC (.str "")) (tNil))) (tCB (rListDK) (tCons (tVar 1) (tNil))))) (gName 8) (tYes) (tVar 8) (tC (.int 0)) [8]) (gName 4)) (tSeq (tAsg (tDNewK) (gName 5)) (tSeq (tAsg (tC (.str "")) (gName 6)) (tSeq (tFor (iRng1 (tCons (tOp rAdd (tCB (rLenD) (tCons (tVar 4) (tNil))) (tC (.int 1))) (tNil))) (gName 7) (tSeq (tAsg (tCall (sp_raise_totals K) [] E0 (tCons (tVar 3) (tCons (tVar 4) (tCons (tVar 5) (tNil))))) (gName 6)) (tIfS (tTest (tOp rIsN (tVar 6) (tC .non))) (tRet (tC .non)) (tNext)))) (tRet (tCall (sp_cycle_behind K) [] E0 (tCons (tVar 5) (tCons (tVar 6) (tNil)))))))))
def t_Plan_init (P : Program) (w : World) (K : PySem.W.Frag) : TS := tSeq (tIfS (tNot (tB (tCall (sp_is_plan K) [] E0 (tCons (tVar 1) (tCons (tVar 2) (tCons (tVar 3) (tNil))))))) (tNever) (tNext)) (tSeq (tAsg (tCall (sp_positive_cycle K) [] E0 (tCons (tVar 1) (tCons (tVar 2) (tCons (tVar 3) (tNil))))) (gName 4)) (tSeq (tIfS (tTest (tOp rNotN (tVar 4) (tC .non))) (tNever) (tNext)) (tSeq (sFld K (tVar 0) (tVar 1) "horizon") (tSeq (sFld K (tVar 0) (tDc (iList K (tCB (rSortD) (tCons (tVar 2) (tNil)))) (gName 5) (tYes) (tVar 5) (tDGet (tVar 2) (tVar 5)) [5]) "by_name") (sFld K (tVar 0) (tCB (rTupOf K) (tCons (tSortSet K (tVar 3)) (tNil))) "own_lags")))))
def t_Plan_times (P : Program) (w : World) (K : PySem.W.Frag) : TS := tRet (tCB (rDictD) (tCons (tFld K (tVar 0) "by_name") (tNil)))
def t_Plan_time (P : Program) (w : World) (K : PySem.W.Frag) : TS := tSeq (tIfS (tOr (tNot (tB (tCB (rIsi K) (tCons (tVar 1) (tCons (tC (.ty "str")) (tNil)))))) (tB (tDNotIn (tVar 1) (tFld K (tVar 0) "by_name")))) (tNever) (tNext)) (tRet (tDGet (tFld K (tVar 0) "by_name") (tVar 1)))
def t_Plan_lags (P : Program) (w : World) (K : PySem.W.Frag) : TS := tRet (tFld K (tVar 0) "own_lags")
def t_Plan_len (P : Program) (w : World) (K : PySem.W.Frag) : TS := tRet (tCB (rLenD) (tCons (tFld K (tVar 0) "by_name") (tNil)))
def t_Plan_eq (P : Program) (w : World) (K : PySem.W.Frag) : TS := tSeq (tIfS (tOr (tNot (tB (tCB (rIsiC (He.ga K "Plan")) (tCons (tVar 1) (tCons (tC (.ref (He.ga K "Plan"))) (tNil)))))) (tTest (tOp rNe (tFld K (tVar 0) "horizon") (tFld K (tVar 1) "horizon")))) (tRet (tC (.bl false))) (tNext)) (tRet (tAndV (tOp (rEqV K) (tFld K (tVar 0) "by_name") (tFld K (tVar 1) "by_name")) (tOp (rEqG (DTup K (DTup K DFlat))) (tFld K (tVar 0) "own_lags") (tFld K (tVar 1) "own_lags"))))
def t_nodes_of (P : Program) (w : World) (K : PySem.W.Frag) : TS := tRet (tOp rCat (tLst (tCons (tC (.str "")) (tNil))) (tCB (rSortD) (tCons (tMeth (He.ga K "Plan") "times" (sp_Plan_times K) [] E0 (tVar 0) tNil) (tNil))))
def t_check_node (P : Program) (w : World) (K : PySem.W.Frag) : TS := tIfS (tOr (tNot (tB (tCB (rIsi K) (tCons (tVar 1) (tCons (tC (.ty "str")) (tNil)))))) (tAnd (tTest (tOp rNe (tVar 1) (tC (.str "")))) (tB (tDNotIn (tVar 1) (tMeth (He.ga K "Plan") "times" (sp_Plan_times K) [] E0 (tVar 0) tNil))))) (tNever) (tNext)
def t_Distances_improve (P : Program) (w : World) (K : PySem.W.Frag) : TS := tSeq (tAsg (tOp rAdd (tDGet (tFld K (tVar 0) "totals") (tTup (tCons (tVar 1) (tCons (tVar 3) (tNil))))) (tDGet (tFld K (tVar 0) "totals") (tTup (tCons (tVar 3) (tCons (tVar 2) (tNil)))))) (gName 4)) (tIfS (tOr (tB (tDNotIn (tTup (tCons (tVar 1) (tCons (tVar 2) (tNil)))) (tFld K (tVar 0) "totals"))) (tTest (tOp rLt (tDGet (tFld K (tVar 0) "totals") (tTup (tCons (tVar 1) (tCons (tVar 2) (tNil))))) (tVar 4)))) (tSeq (sDPut (tFld K (tVar 0) "totals") (tTup (tCons (tVar 1) (tCons (tVar 2) (tNil)))) (tVar 4)) (sDPut (tFld K (tVar 0) "middles") (tTup (tCons (tVar 1) (tCons (tVar 2) (tNil)))) (tVar 3))) (tNext))
def t_Distances_pass_through (P : Program) (w : World) (K : PySem.W.Frag) : TS := tFor (iList K (tFld K (tVar 0) "nodes")) (gName 2) (tFor (iList K (tFld K (tVar 0) "nodes")) (gName 3) (tIfS (tAnd (tB (tDIn (tTup (tCons (tVar 2) (tCons (tVar 1) (tNil)))) (tFld K (tVar 0) "totals"))) (tB (tDIn (tTup (tCons (tVar 1) (tCons (tVar 3) (tNil)))) (tFld K (tVar 0) "totals")))) (tDrop (tMeth (He.ga K "Distances") "improve" (sp_Distances_improve K) [] E0 (tVar 0) (tCons (tVar 2) (tCons (tVar 3) (tCons (tVar 1) (tNil)))))) (tNext)))
def t_Distances_init (P : Program) (w : World) (K : PySem.W.Frag) : TS := tSeq (sFld K (tVar 0) (tCall (sp_nodes_of K) [] E0 (tCons (tVar 1) (tNil))) "nodes") (tSeq (sFld K (tVar 0) (tCall (sp_greatest_gaps K) [] E0 (tCons (tFld K (tVar 1) "horizon") (tCons (tMeth (He.ga K "Plan") "times" (sp_Plan_times K) [] E0 (tVar 1) tNil) (tCons (tMeth (He.ga K "Plan") "lags" (sp_Plan_lags K) [] E0 (tVar 1) tNil) (tNil))))) "totals") (tSeq (sFld K (tVar 0) (tDNewT) "middles") (tSeq (tFor (iList K (tFld K (tVar 0) "nodes")) (gName 2) (sDPut (tFld K (tVar 0) "totals") (tTup (tCons (tVar 2) (tCons (tVar 2) (tNil)))) (tC (.int 0)))) (tFor (iList K (tFld K (tVar 0) "nodes")) (gName 3) (tDrop (tMeth (He.ga K "Distances") "pass_through" (sp_Distances_pass_through K) [] E0 (tVar 0) (tCons (tVar 3) (tNil))))))))
def t_Distances_between (P : Program) (w : World) (K : PySem.W.Frag) : TS := tRet (tDGet (tFld K (tVar 0) "totals") (tTup (tCons (tVar 1) (tCons (tVar 2) (tNil)))))
def t_distance (P : Program) (w : World) (K : PySem.W.Frag) : TS := tSeq (tDrop (tCall (sp_check_node K) [] E0 (tCons (tVar 0) (tCons (tVar 1) (tNil))))) (tSeq (tDrop (tCall (sp_check_node K) [] E0 (tCons (tVar 0) (tCons (tVar 2) (tNil))))) (tRet (tMeth (He.ga K "Distances") "between" (sp_Distances_between K) [] E0 (tMake (He.ga K "Distances") (sp_Distances_init K) [] E0 (tCons (tVar 0) (tNil))) (tCons (tVar 1) (tCons (tVar 2) (tNil))))))
def t_law_pen (P : Program) (w : World) (K : PySem.W.Frag) : TS := tRet (tLst (tCons (tCB (rListOf K) (tCons (tSl (rSlL K) (tVar 0) (tNoPart) (tPart (tC (.int 60)))) (tNil))) (tCons (tC (.int 0)) (tCons (tC (.int 0)) (tNil)))))
def t_law_next (P : Program) (w : World) (K : PySem.W.Frag) : TS := tSeq (tAsg (tOp (rIxL K) (tVar 0) (tC (.int 1))) (gName 1)) (tSeq (tAsg (tOp rAdd (tVar 1) (tC (.int 1))) (gSub (tVar 0) (tC (.int 1)) rSetL)) (tSeq (tAsg (tOp rAdd (tOp rMul (tC (.int 31)) (tVar 1)) (tC (.int 17))) (gName 2)) (tSeq (tIfS (tTest (tOp rGt (tCB (rLenQ K) (tCons (tOp (rIxL K) (tVar 0) (tC (.int 0))) (tNil))) (tC (.int 0)))) (tAsg (tOp (rIxL K) (tOp (rIxL K) (tVar 0) (tC (.int 0))) (tOp rMod (tVar 1) (tCB (rLenQ K) (tCons (tOp (rIxL K) (tVar 0) (tC (.int 0))) (tNil))))) (gName 2)) (tNext)) (tSeq (tIfS (tAnd (tTest (tOp rLt (tVar 1) (tCB (rLenQ K) (tCons (tOp (rIxL K) (tVar 0) (tC (.int 0))) (tNil))))) (tTest (tOp rGe (tVar 2) (tOp rPow (tC (.int 10)) (tC (.int 18)))))) (tRet (tVar 2)) (tNext)) (tSeq (tAsg (tOp rMod (tOp rPow (tOp rAdd (tOp rAdd (tOp rMul (tOp rMod (tVar 2) (tC (.int 1000000021))) (tOp rAdd (tVar 1) (tC (.int 5)))) (tOp rMul (tC (.int 88001)) (tVar 1))) (tC (.int 41))) (tC (.int 3))) (tC (.int 2147483587))) (gName 3)) (tSeq (tAsg (tOp rMod (tOp rPow (tOp rAdd (tOp rAdd (tOp rMul (tVar 3) (tOp rAdd (tVar 1) (tC (.int 9)))) (tOp rMod (tVar 2) (tC (.int 65537)))) (tC (.int 3))) (tC (.int 5))) (tC (.int 2147483563))) (gName 4)) (tSeq (tAsg (tOp rMod (tOp rAdd (tOp rAdd (tOp rMul (tVar 4) (tVar 4)) (tVar 3)) (tOp rMul (tC (.int 7)) (tVar 1))) (tC (.int 2147483549))) (gName 5)) (tRet (tOp rAdd (tOp rMul (tOp rAdd (tOp rMul (tVar 5) (tC (.int 2147483587))) (tVar 4)) (tC (.int 2147483563))) (tVar 3))))))))))
def t_law_draw (P : Program) (w : World) (K : PySem.W.Frag) : TS := tSeq (tIfS (tTest (tOp rLt (tOp (rIxL K) (tVar 0) (tC (.int 2))) (tVar 1))) (tAsg (tCall (sp_law_next K) [] E0 (tCons (tVar 0) (tNil))) (gSub (tVar 0) (tC (.int 2)) rSetL)) (tNext)) (tSeq (tAsg (tOp rMod (tOp (rIxL K) (tVar 0) (tC (.int 2))) (tVar 1)) (gName 2)) (tSeq (tAsg (tOp rFdv (tOp (rIxL K) (tVar 0) (tC (.int 2))) (tVar 1)) (gSub (tVar 0) (tC (.int 2)) rSetL)) (tRet (tVar 2))))
def t_law_names (P : Program) (w : World) (K : PySem.W.Frag) : TS := tSeq (tAsg (tLst (tCons (tC (.str "a")) (tCons (tC (.str "b")) (tCons (tC (.str "c")) (tCons (tC (.str "d")) (tCons (tC (.str "e")) (tCons (tC (.str "f")) (tCons (tC (.str "ab")) (tCons (tC (.str "aa")) (tCons (tC (.str "zz")) (tCons (tC (.str "abcdefgh")) (tCons (tC (.str "m")) (tNil))))))))))))) (gName 2)) (tRet (tLc (iRng1 (tCons (tVar 1) (tNil))) (gName 3) (tYes) (tBM K "list" rPopAt (tVar 2) (tCons (tCall (sp_law_draw K) [] E0 (tCons (tVar 0) (tCons (tCB (rLenQ K) (tCons (tVar 2) (tNil))) (tNil)))) (tNil))) [3]))
def t_law_starts (P : Program) (w : World) (K : PySem.W.Frag) : TS := tRet (tCB (rDictP K) (tCons (tLc (iList K (tVar 1)) (gName 3) (tYes) (tTup (tCons (tVar 3) (tCons (tCall (sp_law_draw K) [] E0 (tCons (tVar 0) (tCons (tOp rAdd (tVar 2) (tC (.int 1))) (tNil)))) (tNil)))) [3]) (tNil)))
def t_law_far (P : Program) (w : World) (K : PySem.W.Frag) : TS := tSeq (tAsg (tOp rCat (tLst (tCons (tC (.str "")) (tNil))) (tCB (rListOf K) (tCons (tVar 0) (tNil)))) (gName 3)) (tSeq (tAsg (tDNewT) (gName 4)) (tSeq (tFor (iList K (tVar 3)) (gName 5) (tFor (iList K (tVar 3)) (gName 6) (sDPut (tVar 4) (tTup (tCons (tVar 5) (tCons (tVar 6) (tNil)))) (tIf (tTest (tOp (rIn K false) (tVar 5) (tTup (tCons (tC (.str "")) (tCons (tVar 6) (tNil)))))) (tC (.int 0)) (tUn uNeg (tVar 1)))))) (tSeq (tFor (iList K (tVar 2)) (gTup K 3 (gCons (gName 5) (gCons (gName 6) (gCons (gName 7) (gNil))))) (sDPut (tVar 4) (tTup (tCons (tVar 5) (tCons (tVar 6) (tNil)))) (tCB (rMax2) (tCons (tDGet (tVar 4) (tTup (tCons (tVar 5) (tCons (tVar 6) (tNil))))) (tCons (tVar 7) (tNil)))))) (tSeq (tFor (iList K (tVar 3)) (gName 8) (tFor (iList K (tVar 3)) (gName 5) (tFor (iList K (tVar 3)) (gName 6) (tSeq (tAsg (tOp rAdd (tDGet (tVar 4) (tTup (tCons (tVar 5) (tCons (tVar 8) (tNil))))) (tDGet (tVar 4) (tTup (tCons (tVar 8) (tCons (tVar 6) (tNil)))))) (gName 9)) (sDPut (tVar 4) (tTup (tCons (tVar 5) (tCons (tVar 6) (tNil)))) (tCB (rMax2) (tCons (tDGet (tVar 4) (tTup (tCons (tVar 5) (tCons (tVar 6) (tNil))))) (tCons (tVar 9) (tNil))))))))) (tSeq (tIfS (tB (tCB (rAny K) (tCons (tLc (iList K (tVar 3)) (gName 5) (tYes) (tOp rGt (tDGet (tVar 4) (tTup (tCons (tVar 5) (tCons (tVar 5) (tNil))))) (tC (.int 0))) [5]) (tNil)))) (tRet (tC .non)) (tNext)) (tRet (tVar 4)))))))
def t_law_limits (P : Program) (w : World) (K : PySem.W.Frag) : TS := tSeq (tAsg (tOp rCat (tLst (tCons (tC (.str "")) (tNil))) (tCB (rListOf K) (tCons (tVar 1) (tNil)))) (gName 5)) (tSeq (tAsg (tLst (tNil)) (gName 6)) (tSeq (tFor (iRng1 (tCons (tVar 4) (tNil))) (gName 7) (tSeq (tAsg (tOp (rIxL K) (tVar 5) (tCall (sp_law_draw K) [] E0 (tCons (tVar 0) (tCons (tCB (rLenQ K) (tCons (tVar 5) (tNil))) (tNil))))) (gName 8)) (tSeq (tAsg (tOp (rIxL K) (tVar 5) (tCall (sp_law_draw K) [] E0 (tCons (tVar 0) (tCons (tCB (rLenQ K) (tCons (tVar 5) (tNil))) (tNil))))) (gName 9)) (tSeq (tAsg (tOp rSub (tOp rAdd (tOp rSub (tDGet2 (tVar 2) (tVar 9) (tC (.int 0))) (tDGet2 (tVar 2) (tVar 8) (tC (.int 0)))) (tCall (sp_law_draw K) [] E0 (tCons (tVar 0) (tCons (tC (.int 9)) (tNil))))) (tC (.int 5))) (gName 10)) (tSeq (tAsg (tCB (rMax2) (tCons (tVar 10) (tCons (tOp rSub (tC (.int 0)) (tOp rPow (tC (.int 10)) (tC (.int 6)))) (tNil)))) (gName 10)) (tIfS (tAnd (tTest (tOp rNe (tVar 8) (tVar 9))) (tTest (tOp rNotN (tCall (sp_law_far K) [] E0 (tCons (tVar 1) (tCons (tVar 3) (tCons (tOp rCat (tVar 6) (tLst (tCons (tTup (tCons (tVar 8) (tCons (tVar 9) (tCons (tVar 10) (tNil))))) (tNil)))) (tNil))))) (tC .non)))) (tDrop (tBM K "list" rAppend (tVar 6) (tCons (tTup (tCons (tVar 8) (tCons (tVar 9) (tCons (tVar 10) (tNil))))) (tNil)))) (tNext))))))) (tRet (tVar 6))))
def t_law_parts (P : Program) (w : World) (K : PySem.W.Frag) : TS := tSeq (tAsg (tCall (sp_law_names K) [] E0 (tCons (tVar 0) (tCons (tOp rAdd (tC (.int 1)) (tCall (sp_law_draw K) [] E0 (tCons (tVar 0) (tCons (tVar 1) (tNil))))) (tNil)))) (gName 2)) (tSeq (tAsg (tOp (rIxL K) (tLst (tCons (tC (.int 6)) (tCons (tC (.int 12)) (tCons (tC (.int 30)) (tCons (tOp rPow (tC (.int 10)) (tC (.int 6))) (tCons (tC (.int 0)) (tCons (tC (.int 3)) (tNil)))))))) (tCall (sp_law_draw K) [] E0 (tCons (tVar 0) (tCons (tC (.int 6)) (tNil))))) (gName 3)) (tSeq (tAsg (tCall (sp_law_starts K) [] E0 (tCons (tVar 0) (tCons (tVar 2) (tCons (tOp (rIxL K) (tLst (tCons (tCB (rMin2) (tCons (tVar 3) (tCons (tC (.int 15)) (tNil)))) (tCons (tVar 3) (tNil)))) (tOp rFdv (tCall (sp_law_draw K) [] E0 (tCons (tVar 0) (tCons (tC (.int 4)) (tNil)))) (tC (.int 3)))) (tNil))))) (gName 4)) (tRet (tTup (tCons (tVar 3) (tCons (tVar 4) (tCons (tCall (sp_law_limits K) [] E0 (tCons (tVar 0) (tCons (tVar 2) (tCons (tVar 4) (tCons (tVar 3) (tCons (tCall (sp_law_draw K) [] E0 (tCons (tVar 0) (tCons (tOp rAdd (tOp rMul (tC (.int 2)) (tCB (rLenQ K) (tCons (tVar 2) (tNil)))) (tC (.int 1))) (tNil)))) (tNil))))))) (tNil))))))))
def t_law_row (P : Program) (w : World) (K : PySem.W.Frag) : TS := tSeq (tAsg (tC (.str "abcdefghijklmnopqrstuvwxyz")) (gName 1)) (tSeq (tAsg (tOp rCat (tCB (rListSg) (tCons (tVar 1) (tNil))) (tLst (tCons (tC (.str "ab")) (tCons (tC (.str "cd")) (tCons (tC (.str "yz")) (tCons (tC (.str "zzz")) (tNil))))))) (gName 2)) (tSeq (tAsg (tLc (iRng1 (tCons (tC (.int 30)) (tNil))) (gName 7) (tYes) (tBM K "list" rPopAt (tVar 2) (tCons (tCall (sp_law_draw K) [] E0 (tCons (tVar 0) (tCons (tCB (rLenQ K) (tCons (tVar 2) (tNil))) (tNil)))) (tNil))) [7]) (gName 3)) (tSeq (tAsg (tLc (iRng1 (tCons (tC (.int 29)) (tNil))) (gName 7) (tYes) (tOp rSub (tCall (sp_law_draw K) [] E0 (tCons (tVar 0) (tCons (tC (.int 7)) (tNil)))) (tC (.int 2))) [7]) (gName 4)) (tSeq (tAsg (tLc (iRng1 (tCons (tC (.int 30)) (tNil))) (gName 7) (tYes) (tCB (rSum K) (tCons (tSl (rSlL K) (tVar 4) (tNoPart) (tPart (tVar 7))) (tNil))) [7]) (gName 5)) (tSeq (tAsg (tLc (iRng1 (tCons (tC (.int 29)) (tNil))) (gName 7) (tYes) (tTup (tCons (tOp (rIxL K) (tVar 3) (tVar 7)) (tCons (tOp (rIxL K) (tVar 3) (tOp rAdd (tVar 7) (tC (.int 1)))) (tCons (tOp (rIxL K) (tVar 4) (tVar 7)) (tNil))))) [7]) (gName 6)) (tSeq (tAsg (tOp rCat (tVar 6) (tLc (iRng1 (tCons (tC (.int 70)) (tNil))) (gName 7) (tYes) (tTup (tCons (tOp (rIxL K) (tVar 3) (tOp rMod (tVar 7) (tC (.int 29)))) (tCons (tOp (rIxL K) (tVar 3) (tOp rAdd (tOp rMod (tVar 7) (tC (.int 29))) (tC (.int 1)))) (tCons (tOp rSub (tOp rSub (tOp (rIxL K) (tVar 4) (tOp rMod (tVar 7) (tC (.int 29)))) (tC (.int 1))) (tOp rFdv (tVar 7) (tC (.int 29)))) (tNil))))) [7])) (gName 6)) (tRet (tTup (tCons (tVar 3) (tCons (tVar 5) (tCons (tMake (He.ga K "Plan") (sp_Plan_init K) [] E0 (tCons (tOp rPow (tC (.int 10)) (tC (.int 6))) (tCons (tCB (rDictP K) (tCons (tLc (iList K (tVar 3)) (gName 8) (tYes) (tTup (tCons (tVar 8) (tCons (tC (.int 0)) (tNil)))) [8]) (tNil))) (tCons (tVar 6) (tNil))))) (tNil))))))))))))
def t_law (P : Program) (w : World) (K : PySem.W.Frag) : TS := tSeq (tAsg (tCall (sp_law_pen K) [] E0 (tCons (tVar 0) (tNil))) (gName 1)) (tSeq (tFor (iRng1 (tCons (tC (.int 6)) (tNil))) (gName 2) (tSeq (tAsg (tCall (sp_law_parts K) [] E0 (tCons (tVar 1) (tCons (tC (.int 6)) (tNil)))) (gTup K 3 (gCons (gName 3) (gCons (gName 4) (gCons (gName 5) (gNil)))))) (tSeq (tAsg (tMake (He.ga K "Plan") (sp_Plan_init K) [] E0 (tCons (tVar 3) (tCons (tVar 4) (tCons (tVar 5) (tNil))))) (gName 6)) (tSeq (tAsg (tCall (sp_law_far K) [] E0 (tCons (tCB (rListDK) (tCons (tVar 4) (tNil))) (tCons (tVar 3) (tCons (tVar 5) (tNil))))) (gName 7)) (tSeq (tAsg (tOp rCat (tLst (tCons (tC (.str "")) (tNil))) (tCB (rSortD) (tCons (tVar 4) (tNil)))) (gName 8)) (tSeq (tFor (iList K (tVar 8)) (gName 9) (tFor (iList K (tVar 8)) (gName 10) (tIfS (tTest (tOp rNe (tCB (rReprI) (tCons (tCall (sp_distance K) [] E0 (tCons (tVar 6) (tCons (tVar 9) (tCons (tVar 10) (tNil))))) (tNil))) (tCB (rReprI) (tCons (tDGet (tVar 7) (tTup (tCons (tVar 9) (tCons (tVar 10) (tNil))))) (tNil))))) (tRet (tC (.bl false))) (tNext)))) (tIfS (tTest (tOp (rNeOwn (He.ga K "Plan") (sp_Plan_eq K) E0) (tVar 6) (tMake (He.ga K "Plan") (sp_Plan_init K) [] E0 (tCons (tVar 3) (tCons (tVar 4) (tCons (tVar 5) (tNil))))))) (tRet (tC (.bl false))) (tNext)))))))) (tSeq (tAsg (tCall (sp_law_row K) [] E0 (tCons (tVar 1) (tNil))) (gTup K 3 (gCons (gName 11) (gCons (gName 12) (gCons (gName 6) (gNil)))))) (tSeq (tAsg (tCall (sp_law_draw K) [] E0 (tCons (tVar 1) (tCons (tC (.int 3)) (tNil)))) (gName 9)) (tSeq (tFor (iTup K (tTup (tCons (tC (.int 29)) (tCons (tOp rSub (tC (.int 28)) (tCall (sp_law_draw K) [] E0 (tCons (tVar 1) (tCons (tC (.int 9)) (tNil))))) (tCons (tOp rAdd (tC (.int 8)) (tCall (sp_law_draw K) [] E0 (tCons (tVar 1) (tCons (tC (.int 9)) (tNil))))) (tNil)))))) (gName 10) (tIfS (tTest (tOp rNe (tCall (sp_distance K) [] E0 (tCons (tVar 6) (tCons (tOp (rIxL K) (tVar 11) (tVar 9)) (tCons (tOp (rIxL K) (tVar 11) (tVar 10)) (tNil))))) (tOp rSub (tOp (rIxL K) (tVar 12) (tVar 10)) (tOp (rIxL K) (tVar 12) (tVar 9))))) (tRet (tC (.bl false))) (tNext))) (tRet (tOp rEq (tCall (sp_distance K) [] E0 (tCons (tMake (He.ga K "Plan") (sp_Plan_init K) (dv_Plan K) E0 (tCons (tC (.int 0)) (tCons (tDNewK) (tNil)))) (tCons (tC (.str "")) (tCons (tC (.str "")) (tNil))))) (tC (.int 0))))))))
end Rt
end
section
set_option maxHeartbeats 0
namespace Rt
open PySem PySem.Spec PyProof.Rows L2
/-! ### the text by places (printed by gen.py) -/
def top (i : Nat) : Stmt := PySem.Challenge.pw_retime_k11_distances.main.body.getD i (.Pass ⟨0, 0, 0, 0⟩)
abbrev s_is_integer : Stmt := top 12
def d_is_integer : He.DefD := ⟨("is_integer", none), "is_integer", "is_integer", defArgs s_is_integer, defBody s_is_integer, defScope s_is_integer, [], []⟩
abbrev s_is_name : Stmt := top 13
def d_is_name : He.DefD := ⟨("is_name", none), "is_name", "is_name", defArgs s_is_name, defBody s_is_name, defScope s_is_name, [], []⟩
abbrev s_is_times : Stmt := top 14
def d_is_times : He.DefD := ⟨("is_times", none), "is_times", "is_times", defArgs s_is_times, defBody s_is_times, defScope s_is_times, [], []⟩
abbrev s_is_node : Stmt := top 15
def d_is_node : He.DefD := ⟨("is_node", none), "is_node", "is_node", defArgs s_is_node, defBody s_is_node, defScope s_is_node, [], []⟩
abbrev s_is_lag : Stmt := top 16
def d_is_lag : He.DefD := ⟨("is_lag", none), "is_lag", "is_lag", defArgs s_is_lag, defBody s_is_lag, defScope s_is_lag, [], []⟩
abbrev s_is_plan : Stmt := top 17
def d_is_plan : He.DefD := ⟨("is_plan", none), "is_plan", "is_plan", defArgs s_is_plan, defBody s_is_plan, defScope s_is_plan, [], []⟩
abbrev s_greatest_gaps : Stmt := top 18
def d_greatest_gaps : He.DefD := ⟨("greatest_gaps", none), "greatest_gaps", "greatest_gaps", defArgs s_greatest_gaps, defBody s_greatest_gaps, defScope s_greatest_gaps, [], []⟩
abbrev s_raise_totals : Stmt := top 19
def d_raise_totals : He.DefD := ⟨("raise_totals", none), "raise_totals", "raise_totals", defArgs s_raise_totals, defBody s_raise_totals, defScope s_raise_totals, [], []⟩
abbrev s_cycle_behind : Stmt := top 20
def d_cycle_behind : He.DefD := ⟨("cycle_behind", none), "cycle_behind", "cycle_behind", defArgs s_cycle_behind, defBody s_cycle_behind, defScope s_cycle_behind, [], []⟩
abbrev s_positive_cycle : Stmt := top 21
def d_positive_cycle : He.DefD := ⟨("positive_cycle", none), "positive_cycle", "positive_cycle", defArgs s_positive_cycle, defBody s_positive_cycle, defScope s_positive_cycle, [], []⟩
abbrev s_Plan_init : Stmt := inClass (top 22) 0
def d_Plan_init : He.DefD := ⟨("Plan", some "__init__"), "__init__", "Plan.__init__", defArgs s_Plan_init, defBody s_Plan_init, defScope s_Plan_init, [.adr (He.dflAt ("Plan", some "__init__") 0)], []⟩
abbrev s_Plan_times : Stmt := inClass (top 22) 1
def d_Plan_times : He.DefD := ⟨("Plan", some "times"), "times", "Plan.times", defArgs s_Plan_times, defBody s_Plan_times, defScope s_Plan_times, [], []⟩
abbrev s_Plan_time : Stmt := inClass (top 22) 2
def d_Plan_time : He.DefD := ⟨("Plan", some "time"), "time", "Plan.time", defArgs s_Plan_time, defBody s_Plan_time, defScope s_Plan_time, [], []⟩
abbrev s_Plan_lags : Stmt := inClass (top 22) 3
def d_Plan_lags : He.DefD := ⟨("Plan", some "lags"), "lags", "Plan.lags", defArgs s_Plan_lags, defBody s_Plan_lags, defScope s_Plan_lags, [], []⟩
abbrev s_Plan_len : Stmt := inClass (top 22) 4
def d_Plan_len : He.DefD := ⟨("Plan", some "__len__"), "__len__", "Plan.__len__", defArgs s_Plan_len, defBody s_Plan_len, defScope s_Plan_len, [], []⟩
abbrev s_Plan_eq : Stmt := inClass (top 22) 5
def d_Plan_eq : He.DefD := ⟨("Plan", some "__eq__"), "__eq__", "Plan.__eq__", defArgs s_Plan_eq, defBody s_Plan_eq, defScope s_Plan_eq, [], []⟩
abbrev s_nodes_of : Stmt := top 24
def d_nodes_of : He.DefD := ⟨("nodes_of", none), "nodes_of", "nodes_of", defArgs s_nodes_of, defBody s_nodes_of, defScope s_nodes_of, [], []⟩
abbrev s_check_node : Stmt := top 25
def d_check_node : He.DefD := ⟨("check_node", none), "check_node", "check_node", defArgs s_check_node, defBody s_check_node, defScope s_check_node, [], []⟩
abbrev s_Distances_init : Stmt := inClass (top 26) 0
def d_Distances_init : He.DefD := ⟨("Distances", some "__init__"), "__init__", "Distances.__init__", defArgs s_Distances_init, defBody s_Distances_init, defScope s_Distances_init, [], []⟩
abbrev s_Distances_pass_through : Stmt := inClass (top 26) 1
def d_Distances_pass_through : He.DefD := ⟨("Distances", some "pass_through"), "pass_through", "Distances.pass_through", defArgs s_Distances_pass_through, defBody s_Distances_pass_through, defScope s_Distances_pass_through, [], []⟩
abbrev s_Distances_improve : Stmt := inClass (top 26) 2
def d_Distances_improve : He.DefD := ⟨("Distances", some "improve"), "improve", "Distances.improve", defArgs s_Distances_improve, defBody s_Distances_improve, defScope s_Distances_improve, [], []⟩
abbrev s_Distances_between : Stmt := inClass (top 26) 3
def d_Distances_between : He.DefD := ⟨("Distances", some "between"), "between", "Distances.between", defArgs s_Distances_between, defBody s_Distances_between, defScope s_Distances_between, [], []⟩
abbrev s_Distances_way : Stmt := inClass (top 26) 4
def d_Distances_way : He.DefD := ⟨("Distances", some "way"), "way", "Distances.way", defArgs s_Distances_way, defBody s_Distances_way, defScope s_Distances_way, [], []⟩
abbrev s_distance : Stmt := top 27
def d_distance : He.DefD := ⟨("distance", none), "distance", "distance", defArgs s_distance, defBody s_distance, defScope s_distance, [], []⟩
abbrev s_law_pen : Stmt := top 29
def d_law_pen : He.DefD := ⟨("_law_pen", none), "_law_pen", "_law_pen", defArgs s_law_pen, defBody s_law_pen, defScope s_law_pen, [], []⟩
abbrev s_law_next : Stmt := top 30
def d_law_next : He.DefD := ⟨("_law_next", none), "_law_next", "_law_next", defArgs s_law_next, defBody s_law_next, defScope s_law_next, [], []⟩
abbrev s_law_draw : Stmt := top 31
def d_law_draw : He.DefD := ⟨("_law_draw", none), "_law_draw", "_law_draw", defArgs s_law_draw, defBody s_law_draw, defScope s_law_draw, [], []⟩
abbrev s_law_names : Stmt := top 32
def d_law_names : He.DefD := ⟨("_law_names", none), "_law_names", "_law_names", defArgs s_law_names, defBody s_law_names, defScope s_law_names, [], []⟩
abbrev s_law_starts : Stmt := top 33
def d_law_starts : He.DefD := ⟨("_law_starts", none), "_law_starts", "_law_starts", defArgs s_law_starts, defBody s_law_starts, defScope s_law_starts, [], []⟩
abbrev s_law_far : Stmt := top 34
def d_law_far : He.DefD := ⟨("_law_far", none), "_law_far", "_law_far", defArgs s_law_far, defBody s_law_far, defScope s_law_far, [], []⟩
abbrev s_law_limits : Stmt := top 35
def d_law_limits : He.DefD := ⟨("_law_limits", none), "_law_limits", "_law_limits", defArgs s_law_limits, defBody s_law_limits, defScope s_law_limits, [], []⟩
abbrev s_law_parts : Stmt := top 36
def d_law_parts : He.DefD := ⟨("_law_parts", none), "_law_parts", "_law_parts", defArgs s_law_parts, defBody s_law_parts, defScope s_law_parts, [], []⟩
abbrev s_law_row : Stmt := top 37
def d_law_row : He.DefD := ⟨("_law_row", none), "_law_row", "_law_row", defArgs s_law_row, defBody s_law_row, defScope s_law_row, [], []⟩
abbrev s_law : Stmt := top 38
def d_law : He.DefD := ⟨("law", none), "law", "law", defArgs s_law, defBody s_law, defScope s_law, [], []⟩
def fn : List He.DefD := [d_is_integer, d_is_name, d_is_times, d_is_node, d_is_lag, d_is_plan, d_greatest_gaps, d_raise_totals, d_cycle_behind, d_positive_cycle, d_Plan_init, d_Plan_times, d_Plan_time, d_Plan_lags, d_Plan_len, d_Plan_eq, d_nodes_of, d_check_node, d_Distances_init, d_Distances_pass_through, d_Distances_improve, d_Distances_between, d_Distances_way, d_distance, d_law_pen, d_law_next, d_law_draw, d_law_names, d_law_starts, d_law_far, d_law_limits, d_law_parts, d_law_row, d_law]
def fa : List He.Fa := [.free "isinstance", .free "int", .free "bool", .free "str", .free "all", .free "len", .free "dict", .free "tuple", .free "list", .free "max", .free "range", .free "sorted", .free "set", .free "any", .free "min", .free "sum", .free "repr", .glo "is_integer", .glo "is_name", .glo "is_times", .glo "is_node", .glo "is_lag", .glo "is_plan", .glo "greatest_gaps", .glo "raise_totals", .glo "cycle_behind", .glo "positive_cycle", .glo "nodes_of", .glo "check_node", .glo "distance", .glo "_law_pen", .glo "_law_next", .glo "_law_draw", .glo "_law_names", .glo "_law_starts", .glo "_law_far", .glo "_law_limits", .glo "_law_parts", .glo "_law_row", .glo "law", .str "ORIGIN" "", .str "LETTERS" "abcdefghijklmnopqrstuvwxyz", .int "MAX_NAME" (8), .int "MAX_HORIZON" (1000000), .int "MAX_GAP" (1000000), .glo "RetimeError", .glo "InconsistentLags", .glo "InvalidPlan", .glo "UnknownName", .glo "Plan", .cls "Plan", .mkr "Plan", .meth "Plan" "times", .meth "Plan" "time", .meth "Plan" "lags", .meth "Plan" "__len__", .meth "Plan" "__eq__", .noat "Plan" "horizon", .noat "Plan" "by_name", .noat "Plan" "own_lags", .glo "Distances", .cls "Distances", .mkr "Distances", .meth "Distances" "pass_through", .meth "Distances" "improve", .meth "Distances" "between", .meth "Distances" "way", .noat "Distances" "nodes", .noat "Distances" "totals", .noat "Distances" "middles"]
def fb : List Fb := [fIns "Plan", fIns "Distances", fNe "Plan", fEmp ("Plan", some "__init__") 0]
def loose0 : List Str := ["_wall", "__name__", "RetimeError", "InconsistentLags", "InvalidPlan", "UnknownName", "ORIGIN", "LETTERS", "MAX_NAME", "MAX_HORIZON", "MAX_GAP", "is_integer", "is_name", "is_times", "is_node", "is_lag", "is_plan", "greatest_gaps", "raise_totals", "cycle_behind", "positive_cycle", "Plan", "nodes_of", "check_node", "Distances", "distance", "_law_pen", "_law_next", "_law_draw", "_law_names"]
def loose1 : List Str := ["_law_starts", "_law_far", "_law_limits", "_law_parts", "_law_row"]
def looseA : List Str := loose0 ++ loose1
abbrev R : PySem.W.OpenRow := PySem.W.OpenLaw.row PySem.Challenge.rw_retime_k11_distances
/-! ### what the top has written -/
structure Tx (K : PySem.W.Frag) (mg : Str → Option Value) : Prop where
  says : SaysR fa fb fn K
  glb : ∃ h : Heap, K.In h ∧ h.Ns mainGlobals mg
section
variable {K : PySem.W.Frag} {mg : Str → Option Value}
theorem Tx.free_isinstance (T : Tx K mg) : mg "isinstance" = none := let ⟨_, X, G⟩ := T.glb; He.free_ok X G (T.says.fact 0)
theorem Tx.free_int (T : Tx K mg) : mg "int" = none := let ⟨_, X, G⟩ := T.glb; He.free_ok X G (T.says.fact 1)
theorem Tx.free_bool (T : Tx K mg) : mg "bool" = none := let ⟨_, X, G⟩ := T.glb; He.free_ok X G (T.says.fact 2)
theorem Tx.free_str (T : Tx K mg) : mg "str" = none := let ⟨_, X, G⟩ := T.glb; He.free_ok X G (T.says.fact 3)
theorem Tx.free_all (T : Tx K mg) : mg "all" = none := let ⟨_, X, G⟩ := T.glb; He.free_ok X G (T.says.fact 4)
theorem Tx.free_len (T : Tx K mg) : mg "len" = none := let ⟨_, X, G⟩ := T.glb; He.free_ok X G (T.says.fact 5)
theorem Tx.free_dict (T : Tx K mg) : mg "dict" = none := let ⟨_, X, G⟩ := T.glb; He.free_ok X G (T.says.fact 6)
theorem Tx.free_tuple (T : Tx K mg) : mg "tuple" = none := let ⟨_, X, G⟩ := T.glb; He.free_ok X G (T.says.fact 7)
theorem Tx.free_list (T : Tx K mg) : mg "list" = none := let ⟨_, X, G⟩ := T.glb; He.free_ok X G (T.says.fact 8)
theorem Tx.free_max (T : Tx K mg) : mg "max" = none := let ⟨_, X, G⟩ := T.glb; He.free_ok X G (T.says.fact 9)
theorem Tx.free_range (T : Tx K mg) : mg "range" = none := let ⟨_, X, G⟩ := T.glb; He.free_ok X G (T.says.fact 10)
theorem Tx.free_sorted (T : Tx K mg) : mg "sorted" = none := let ⟨_, X, G⟩ := T.glb; He.free_ok X G (T.says.fact 11)
theorem Tx.free_set (T : Tx K mg) : mg "set" = none := let ⟨_, X, G⟩ := T.glb; He.free_ok X G (T.says.fact 12)
theorem Tx.free_any (T : Tx K mg) : mg "any" = none := let ⟨_, X, G⟩ := T.glb; He.free_ok X G (T.says.fact 13)
theorem Tx.free_min (T : Tx K mg) : mg "min" = none := let ⟨_, X, G⟩ := T.glb; He.free_ok X G (T.says.fact 14)
theorem Tx.free_sum (T : Tx K mg) : mg "sum" = none := let ⟨_, X, G⟩ := T.glb; He.free_ok X G (T.says.fact 15)
theorem Tx.free_repr (T : Tx K mg) : mg "repr" = none := let ⟨_, X, G⟩ := T.glb; He.free_ok X G (T.says.fact 16)
theorem Tx.glo_is_integer (T : Tx K mg) : mg "is_integer" = some (.ref (He.ga K "is_integer")) := let ⟨_, X, G⟩ := T.glb; He.glo_ok X G (T.says.fact 17)
theorem Tx.glo_is_name (T : Tx K mg) : mg "is_name" = some (.ref (He.ga K "is_name")) := let ⟨_, X, G⟩ := T.glb; He.glo_ok X G (T.says.fact 18)
theorem Tx.glo_is_times (T : Tx K mg) : mg "is_times" = some (.ref (He.ga K "is_times")) := let ⟨_, X, G⟩ := T.glb; He.glo_ok X G (T.says.fact 19)
theorem Tx.glo_is_node (T : Tx K mg) : mg "is_node" = some (.ref (He.ga K "is_node")) := let ⟨_, X, G⟩ := T.glb; He.glo_ok X G (T.says.fact 20)
theorem Tx.glo_is_lag (T : Tx K mg) : mg "is_lag" = some (.ref (He.ga K "is_lag")) := let ⟨_, X, G⟩ := T.glb; He.glo_ok X G (T.says.fact 21)
theorem Tx.glo_is_plan (T : Tx K mg) : mg "is_plan" = some (.ref (He.ga K "is_plan")) := let ⟨_, X, G⟩ := T.glb; He.glo_ok X G (T.says.fact 22)
theorem Tx.glo_greatest_gaps (T : Tx K mg) : mg "greatest_gaps" = some (.ref (He.ga K "greatest_gaps")) := let ⟨_, X, G⟩ := T.glb; He.glo_ok X G (T.says.fact 23)
theorem Tx.glo_raise_totals (T : Tx K mg) : mg "raise_totals" = some (.ref (He.ga K "raise_totals")) := let ⟨_, X, G⟩ := T.glb; He.glo_ok X G (T.says.fact 24)
theorem Tx.glo_cycle_behind (T : Tx K mg) : mg "cycle_behind" = some (.ref (He.ga K "cycle_behind")) := let ⟨_, X, G⟩ := T.glb; He.glo_ok X G (T.says.fact 25)
theorem Tx.glo_positive_cycle (T : Tx K mg) : mg "positive_cycle" = some (.ref (He.ga K "positive_cycle")) := let ⟨_, X, G⟩ := T.glb; He.glo_ok X G (T.says.fact 26)
theorem Tx.glo_nodes_of (T : Tx K mg) : mg "nodes_of" = some (.ref (He.ga K "nodes_of")) := let ⟨_, X, G⟩ := T.glb; He.glo_ok X G (T.says.fact 27)
theorem Tx.glo_check_node (T : Tx K mg) : mg "check_node" = some (.ref (He.ga K "check_node")) := let ⟨_, X, G⟩ := T.glb; He.glo_ok X G (T.says.fact 28)
theorem Tx.glo_distance (T : Tx K mg) : mg "distance" = some (.ref (He.ga K "distance")) := let ⟨_, X, G⟩ := T.glb; He.glo_ok X G (T.says.fact 29)
theorem Tx.glo_law_pen (T : Tx K mg) : mg "_law_pen" = some (.ref (He.ga K "_law_pen")) := let ⟨_, X, G⟩ := T.glb; He.glo_ok X G (T.says.fact 30)
theorem Tx.glo_law_next (T : Tx K mg) : mg "_law_next" = some (.ref (He.ga K "_law_next")) := let ⟨_, X, G⟩ := T.glb; He.glo_ok X G (T.says.fact 31)
theorem Tx.glo_law_draw (T : Tx K mg) : mg "_law_draw" = some (.ref (He.ga K "_law_draw")) := let ⟨_, X, G⟩ := T.glb; He.glo_ok X G (T.says.fact 32)
theorem Tx.glo_law_names (T : Tx K mg) : mg "_law_names" = some (.ref (He.ga K "_law_names")) := let ⟨_, X, G⟩ := T.glb; He.glo_ok X G (T.says.fact 33)
theorem Tx.glo_law_starts (T : Tx K mg) : mg "_law_starts" = some (.ref (He.ga K "_law_starts")) := let ⟨_, X, G⟩ := T.glb; He.glo_ok X G (T.says.fact 34)
theorem Tx.glo_law_far (T : Tx K mg) : mg "_law_far" = some (.ref (He.ga K "_law_far")) := let ⟨_, X, G⟩ := T.glb; He.glo_ok X G (T.says.fact 35)
theorem Tx.glo_law_limits (T : Tx K mg) : mg "_law_limits" = some (.ref (He.ga K "_law_limits")) := let ⟨_, X, G⟩ := T.glb; He.glo_ok X G (T.says.fact 36)
theorem Tx.glo_law_parts (T : Tx K mg) : mg "_law_parts" = some (.ref (He.ga K "_law_parts")) := let ⟨_, X, G⟩ := T.glb; He.glo_ok X G (T.says.fact 37)
theorem Tx.glo_law_row (T : Tx K mg) : mg "_law_row" = some (.ref (He.ga K "_law_row")) := let ⟨_, X, G⟩ := T.glb; He.glo_ok X G (T.says.fact 38)
theorem Tx.glo_law (T : Tx K mg) : mg "law" = some (.ref (He.ga K "law")) := let ⟨_, X, G⟩ := T.glb; He.glo_ok X G (T.says.fact 39)
theorem Tx.str_ORIGIN (T : Tx K mg) : ∃ u, mg "ORIGIN" = some u ∧ RelV (.str "") u := let ⟨_, X, G⟩ := T.glb; let ⟨t, e⟩ := He.str_ok X G (T.says.fact 40); ⟨_, e, t, rfl⟩
theorem Tx.str_LETTERS (T : Tx K mg) : ∃ u, mg "LETTERS" = some u ∧ RelV (.str "abcdefghijklmnopqrstuvwxyz") u := let ⟨_, X, G⟩ := T.glb; let ⟨t, e⟩ := He.str_ok X G (T.says.fact 41); ⟨_, e, t, rfl⟩
theorem Tx.int_MAX_NAME (T : Tx K mg) : ∃ u, mg "MAX_NAME" = some u ∧ RelV (.int (8)) u := let ⟨_, X, G⟩ := T.glb; let ⟨t, e⟩ := He.int_ok X G (T.says.fact 42); ⟨_, e, t, rfl⟩
theorem Tx.int_MAX_HORIZON (T : Tx K mg) : ∃ u, mg "MAX_HORIZON" = some u ∧ RelV (.int (1000000)) u := let ⟨_, X, G⟩ := T.glb; let ⟨t, e⟩ := He.int_ok X G (T.says.fact 43); ⟨_, e, t, rfl⟩
theorem Tx.int_MAX_GAP (T : Tx K mg) : ∃ u, mg "MAX_GAP" = some u ∧ RelV (.int (1000000)) u := let ⟨_, X, G⟩ := T.glb; let ⟨t, e⟩ := He.int_ok X G (T.says.fact 44); ⟨_, e, t, rfl⟩
theorem Tx.glo_RetimeError (T : Tx K mg) : mg "RetimeError" = some (.ref (He.ga K "RetimeError")) := let ⟨_, X, G⟩ := T.glb; He.glo_ok X G (T.says.fact 45)
theorem Tx.glo_InconsistentLags (T : Tx K mg) : mg "InconsistentLags" = some (.ref (He.ga K "InconsistentLags")) := let ⟨_, X, G⟩ := T.glb; He.glo_ok X G (T.says.fact 46)
theorem Tx.glo_InvalidPlan (T : Tx K mg) : mg "InvalidPlan" = some (.ref (He.ga K "InvalidPlan")) := let ⟨_, X, G⟩ := T.glb; He.glo_ok X G (T.says.fact 47)
theorem Tx.glo_UnknownName (T : Tx K mg) : mg "UnknownName" = some (.ref (He.ga K "UnknownName")) := let ⟨_, X, G⟩ := T.glb; He.glo_ok X G (T.says.fact 48)
theorem Tx.glo_Plan (T : Tx K mg) : mg "Plan" = some (.ref (He.ga K "Plan")) := let ⟨_, X, G⟩ := T.glb; He.glo_ok X G (T.says.fact 49)
theorem Tx.cls_Plan (T : Tx K mg) : Cls K (He.ga K "Plan") := He.cls_ok (T.says.fact 50)
theorem Tx.mkr_Plan (T : Tx K mg) : Mk K (He.ga K "Plan") (He.ma K (He.ga K "Plan") "__init__") := He.mkr_ok (T.says.fact 51)
theorem Tx.meth_Plan_times (T : Tx K mg) : Meth K (He.ga K "Plan") "times" (He.ma K (He.ga K "Plan") "times") := He.meth_ok (T.says.fact 52)
theorem Tx.meth_Plan_time (T : Tx K mg) : Meth K (He.ga K "Plan") "time" (He.ma K (He.ga K "Plan") "time") := He.meth_ok (T.says.fact 53)
theorem Tx.meth_Plan_lags (T : Tx K mg) : Meth K (He.ga K "Plan") "lags" (He.ma K (He.ga K "Plan") "lags") := He.meth_ok (T.says.fact 54)
theorem Tx.meth_Plan_len (T : Tx K mg) : Meth K (He.ga K "Plan") "__len__" (He.ma K (He.ga K "Plan") "__len__") := He.meth_ok (T.says.fact 55)
theorem Tx.meth_Plan_eq (T : Tx K mg) : Meth K (He.ga K "Plan") "__eq__" (He.ma K (He.ga K "Plan") "__eq__") := He.meth_ok (T.says.fact 56)
theorem Tx.noat_Plan_horizon (T : Tx K mg) : NoAttr K (He.ga K "Plan") "horizon" := He.noat_ok (T.says.fact 57)
theorem Tx.noat_Plan_by_name (T : Tx K mg) : NoAttr K (He.ga K "Plan") "by_name" := He.noat_ok (T.says.fact 58)
theorem Tx.noat_Plan_own_lags (T : Tx K mg) : NoAttr K (He.ga K "Plan") "own_lags" := He.noat_ok (T.says.fact 59)
theorem Tx.glo_Distances (T : Tx K mg) : mg "Distances" = some (.ref (He.ga K "Distances")) := let ⟨_, X, G⟩ := T.glb; He.glo_ok X G (T.says.fact 60)
theorem Tx.cls_Distances (T : Tx K mg) : Cls K (He.ga K "Distances") := He.cls_ok (T.says.fact 61)
theorem Tx.mkr_Distances (T : Tx K mg) : Mk K (He.ga K "Distances") (He.ma K (He.ga K "Distances") "__init__") := He.mkr_ok (T.says.fact 62)
theorem Tx.meth_Distances_pass_through (T : Tx K mg) : Meth K (He.ga K "Distances") "pass_through" (He.ma K (He.ga K "Distances") "pass_through") := He.meth_ok (T.says.fact 63)
theorem Tx.meth_Distances_improve (T : Tx K mg) : Meth K (He.ga K "Distances") "improve" (He.ma K (He.ga K "Distances") "improve") := He.meth_ok (T.says.fact 64)
theorem Tx.meth_Distances_between (T : Tx K mg) : Meth K (He.ga K "Distances") "between" (He.ma K (He.ga K "Distances") "between") := He.meth_ok (T.says.fact 65)
theorem Tx.meth_Distances_way (T : Tx K mg) : Meth K (He.ga K "Distances") "way" (He.ma K (He.ga K "Distances") "way") := He.meth_ok (T.says.fact 66)
theorem Tx.noat_Distances_nodes (T : Tx K mg) : NoAttr K (He.ga K "Distances") "nodes" := He.noat_ok (T.says.fact 67)
theorem Tx.noat_Distances_totals (T : Tx K mg) : NoAttr K (He.ga K "Distances") "totals" := He.noat_ok (T.says.fact 68)
theorem Tx.noat_Distances_middles (T : Tx K mg) : NoAttr K (He.ga K "Distances") "middles" := He.noat_ok (T.says.fact 69)
theorem Tx.isc_Plan (T : Tx K mg) : C8.InsC K (He.ga K "Plan") := fIns_ok T.cls_Plan (T.says.test 0)
theorem Tx.isc_Distances (T : Tx K mg) : C8.InsC K (He.ga K "Distances") := fIns_ok T.cls_Distances (T.says.test 1)
theorem Tx.ne_Plan (T : Tx K mg) : PySem.W.findIn K (.ref (He.ga K "Plan")) "__ne__" = some (some (.builtin "object.__ne__")) ∧ PySem.W.mroIn K (He.ga K "Plan") (.type "object") = some true := fNe_ok (T.says.test 2)
theorem Tx.emp_Plan_init (T : Tx K mg) (H : Hp) : TupAt K H (He.dflAt ("Plan", some "__init__") 0 K) [] := .inr (fEmp_ok (T.says.test 3))
end
abbrev nm_is_integer : List Str := ["thing", "low", "high"]
abbrev pr_is_integer : List Str := ["thing", "low", "high"]
theorem sc_is_integer : FnScope nm_is_integer pr_is_integer (defScope s_is_integer) := ⟨rfl, rfl, rfl, by decide +kernel, rfl, by decide +kernel, by decide +kernel⟩
abbrev nm_is_name : List Str := ["thing", "sign"]
abbrev pr_is_name : List Str := ["thing"]
theorem sc_is_name : FnScope nm_is_name pr_is_name (defScope s_is_name) := ⟨rfl, rfl, rfl, by decide +kernel, rfl, by decide +kernel, by decide +kernel⟩
abbrev nm_is_times : List Str := ["horizon", "thing", "name", "time"]
abbrev pr_is_times : List Str := ["horizon", "thing"]
theorem sc_is_times : FnScope nm_is_times pr_is_times (defScope s_is_times) := ⟨rfl, rfl, rfl, by decide +kernel, rfl, by decide +kernel, by decide +kernel⟩
abbrev nm_is_node : List Str := ["times", "thing"]
abbrev pr_is_node : List Str := ["times", "thing"]
theorem sc_is_node : FnScope nm_is_node pr_is_node (defScope s_is_node) := ⟨rfl, rfl, rfl, by decide +kernel, rfl, by decide +kernel, by decide +kernel⟩
abbrev nm_is_lag : List Str := ["times", "thing"]
abbrev pr_is_lag : List Str := ["times", "thing"]
theorem sc_is_lag : FnScope nm_is_lag pr_is_lag (defScope s_is_lag) := ⟨rfl, rfl, rfl, by decide +kernel, rfl, by decide +kernel, by decide +kernel⟩
abbrev nm_is_plan : List Str := ["horizon", "times", "lags", "lag"]
abbrev pr_is_plan : List Str := ["horizon", "times", "lags"]
theorem sc_is_plan : FnScope nm_is_plan pr_is_plan (defScope s_is_plan) := ⟨rfl, rfl, rfl, by decide +kernel, rfl, by decide +kernel, by decide +kernel⟩
abbrev nm_greatest_gaps : List Str := ["horizon", "times", "lags", "found", "name", "first", "second", "gap"]
abbrev pr_greatest_gaps : List Str := ["horizon", "times", "lags"]
theorem sc_greatest_gaps : FnScope nm_greatest_gaps pr_greatest_gaps (defScope s_greatest_gaps) := ⟨rfl, rfl, rfl, by decide +kernel, rfl, by decide +kernel, by decide +kernel⟩
abbrev nm_raise_totals : List Str := ["gaps", "totals", "previous", "raised", "first", "second", "gap"]
abbrev pr_raise_totals : List Str := ["gaps", "totals", "previous"]
theorem sc_raise_totals : FnScope nm_raise_totals pr_raise_totals (defScope s_raise_totals) := ⟨rfl, rfl, rfl, by decide +kernel, rfl, by decide +kernel, by decide +kernel⟩
abbrev nm_cycle_behind : List Str := ["previous", "node", "turn", "found"]
abbrev pr_cycle_behind : List Str := ["previous", "node"]
theorem sc_cycle_behind : FnScope nm_cycle_behind pr_cycle_behind (defScope s_cycle_behind) := ⟨rfl, rfl, rfl, by decide +kernel, rfl, by decide +kernel, by decide +kernel⟩
abbrev nm_positive_cycle : List Str := ["horizon", "times", "lags", "gaps", "totals", "previous", "raised", "turn", "node"]
abbrev pr_positive_cycle : List Str := ["horizon", "times", "lags"]
theorem sc_positive_cycle : FnScope nm_positive_cycle pr_positive_cycle (defScope s_positive_cycle) := ⟨rfl, rfl, rfl, by decide +kernel, rfl, by decide +kernel, by decide +kernel⟩
abbrev nm_Plan_init : List Str := ["self", "horizon", "times", "lags", "cycle", "name"]
abbrev pr_Plan_init : List Str := ["self", "horizon", "times", "lags"]
theorem sc_Plan_init : FnScope nm_Plan_init pr_Plan_init (defScope s_Plan_init) := ⟨rfl, rfl, rfl, by decide +kernel, rfl, by decide +kernel, by decide +kernel⟩
abbrev nm_Plan_times : List Str := ["self"]
abbrev pr_Plan_times : List Str := ["self"]
theorem sc_Plan_times : FnScope nm_Plan_times pr_Plan_times (defScope s_Plan_times) := ⟨rfl, rfl, rfl, by decide +kernel, rfl, by decide +kernel, by decide +kernel⟩
abbrev nm_Plan_time : List Str := ["self", "name"]
abbrev pr_Plan_time : List Str := ["self", "name"]
theorem sc_Plan_time : FnScope nm_Plan_time pr_Plan_time (defScope s_Plan_time) := ⟨rfl, rfl, rfl, by decide +kernel, rfl, by decide +kernel, by decide +kernel⟩
abbrev nm_Plan_lags : List Str := ["self"]
abbrev pr_Plan_lags : List Str := ["self"]
theorem sc_Plan_lags : FnScope nm_Plan_lags pr_Plan_lags (defScope s_Plan_lags) := ⟨rfl, rfl, rfl, by decide +kernel, rfl, by decide +kernel, by decide +kernel⟩
abbrev nm_Plan_len : List Str := ["self"]
abbrev pr_Plan_len : List Str := ["self"]
theorem sc_Plan_len : FnScope nm_Plan_len pr_Plan_len (defScope s_Plan_len) := ⟨rfl, rfl, rfl, by decide +kernel, rfl, by decide +kernel, by decide +kernel⟩
abbrev nm_Plan_eq : List Str := ["self", "other"]
abbrev pr_Plan_eq : List Str := ["self", "other"]
theorem sc_Plan_eq : FnScope nm_Plan_eq pr_Plan_eq (defScope s_Plan_eq) := ⟨rfl, rfl, rfl, by decide +kernel, rfl, by decide +kernel, by decide +kernel⟩
abbrev nm_nodes_of : List Str := ["plan"]
abbrev pr_nodes_of : List Str := ["plan"]
theorem sc_nodes_of : FnScope nm_nodes_of pr_nodes_of (defScope s_nodes_of) := ⟨rfl, rfl, rfl, by decide +kernel, rfl, by decide +kernel, by decide +kernel⟩
abbrev nm_check_node : List Str := ["plan", "thing"]
abbrev pr_check_node : List Str := ["plan", "thing"]
theorem sc_check_node : FnScope nm_check_node pr_check_node (defScope s_check_node) := ⟨rfl, rfl, rfl, by decide +kernel, rfl, by decide +kernel, by decide +kernel⟩
abbrev nm_Distances_improve : List Str := ["self", "first", "second", "middle", "total"]
abbrev pr_Distances_improve : List Str := ["self", "first", "second", "middle"]
theorem sc_Distances_improve : FnScope nm_Distances_improve pr_Distances_improve (defScope s_Distances_improve) := ⟨rfl, rfl, rfl, by decide +kernel, rfl, by decide +kernel, by decide +kernel⟩
abbrev nm_Distances_pass_through : List Str := ["self", "middle", "first", "second"]
abbrev pr_Distances_pass_through : List Str := ["self", "middle"]
theorem sc_Distances_pass_through : FnScope nm_Distances_pass_through pr_Distances_pass_through (defScope s_Distances_pass_through) := ⟨rfl, rfl, rfl, by decide +kernel, rfl, by decide +kernel, by decide +kernel⟩
abbrev nm_Distances_init : List Str := ["self", "plan", "node", "middle"]
abbrev pr_Distances_init : List Str := ["self", "plan"]
theorem sc_Distances_init : FnScope nm_Distances_init pr_Distances_init (defScope s_Distances_init) := ⟨rfl, rfl, rfl, by decide +kernel, rfl, by decide +kernel, by decide +kernel⟩
abbrev nm_Distances_between : List Str := ["self", "first", "second"]
abbrev pr_Distances_between : List Str := ["self", "first", "second"]
theorem sc_Distances_between : FnScope nm_Distances_between pr_Distances_between (defScope s_Distances_between) := ⟨rfl, rfl, rfl, by decide +kernel, rfl, by decide +kernel, by decide +kernel⟩
abbrev nm_distance : List Str := ["plan", "first", "second"]
abbrev pr_distance : List Str := ["plan", "first", "second"]
theorem sc_distance : FnScope nm_distance pr_distance (defScope s_distance) := ⟨rfl, rfl, rfl, by decide +kernel, rfl, by decide +kernel, by decide +kernel⟩
abbrev nm_law_pen : List Str := ["_law_script"]
abbrev pr_law_pen : List Str := ["_law_script"]
theorem sc_law_pen : FnScope nm_law_pen pr_law_pen (defScope s_law_pen) := ⟨rfl, rfl, rfl, by decide +kernel, rfl, by decide +kernel, by decide +kernel⟩
abbrev nm_law_next : List Str := ["_law_pen_here", "_law_nth", "_law_cell", "_law_one", "_law_two", "_law_three"]
abbrev pr_law_next : List Str := ["_law_pen_here"]
theorem sc_law_next : FnScope nm_law_next pr_law_next (defScope s_law_next) := ⟨rfl, rfl, rfl, by decide +kernel, rfl, by decide +kernel, by decide +kernel⟩
abbrev nm_law_draw : List Str := ["_law_pen_here", "_law_below", "_law_digit"]
abbrev pr_law_draw : List Str := ["_law_pen_here", "_law_below"]
theorem sc_law_draw : FnScope nm_law_draw pr_law_draw (defScope s_law_draw) := ⟨rfl, rfl, rfl, by decide +kernel, rfl, by decide +kernel, by decide +kernel⟩
abbrev nm_law_names : List Str := ["_law_pen_here", "_law_tally", "_law_pool", "_law_turn"]
abbrev pr_law_names : List Str := ["_law_pen_here", "_law_tally"]
theorem sc_law_names : FnScope nm_law_names pr_law_names (defScope s_law_names) := ⟨rfl, rfl, rfl, by decide +kernel, rfl, by decide +kernel, by decide +kernel⟩
abbrev nm_law_starts : List Str := ["_law_pen_here", "_law_names_here", "_law_wide", "_law_one"]
abbrev pr_law_starts : List Str := ["_law_pen_here", "_law_names_here", "_law_wide"]
theorem sc_law_starts : FnScope nm_law_starts pr_law_starts (defScope s_law_starts) := ⟨rfl, rfl, rfl, by decide +kernel, rfl, by decide +kernel, by decide +kernel⟩
abbrev nm_law_far : List Str := ["_law_names_here", "_law_wide", "_law_limits_here", "_law_nodes", "_law_far_here", "_law_one", "_law_other", "_law_gap", "_law_mid", "_law_total"]
abbrev pr_law_far : List Str := ["_law_names_here", "_law_wide", "_law_limits_here"]
theorem sc_law_far : FnScope nm_law_far pr_law_far (defScope s_law_far) := ⟨rfl, rfl, rfl, by decide +kernel, rfl, by decide +kernel, by decide +kernel⟩
abbrev nm_law_limits : List Str := ["_law_pen_here", "_law_names_here", "_law_starts_here", "_law_wide", "_law_tally", "_law_nodes", "_law_found", "_law_turn", "_law_one", "_law_other", "_law_gap"]
abbrev pr_law_limits : List Str := ["_law_pen_here", "_law_names_here", "_law_starts_here", "_law_wide", "_law_tally"]
theorem sc_law_limits : FnScope nm_law_limits pr_law_limits (defScope s_law_limits) := ⟨rfl, rfl, rfl, by decide +kernel, rfl, by decide +kernel, by decide +kernel⟩
abbrev nm_law_parts : List Str := ["_law_pen_here", "_law_most", "_law_names_here", "_law_wide", "_law_starts_here"]
abbrev pr_law_parts : List Str := ["_law_pen_here", "_law_most"]
theorem sc_law_parts : FnScope nm_law_parts pr_law_parts (defScope s_law_parts) := ⟨rfl, rfl, rfl, by decide +kernel, rfl, by decide +kernel, by decide +kernel⟩
abbrev nm_law_row : List Str := ["_law_pen_here", "_law_letters", "_law_pool", "_law_names_here", "_law_gaps", "_law_sums", "_law_some", "_law_k", "_law_name"]
abbrev pr_law_row : List Str := ["_law_pen_here"]
theorem sc_law_row : FnScope nm_law_row pr_law_row (defScope s_law_row) := ⟨rfl, rfl, rfl, by decide +kernel, rfl, by decide +kernel, by decide +kernel⟩
abbrev nm_law : List Str := ["_law_script", "_law_pen_here", "_law_turn", "_law_wide", "_law_starts_here", "_law_some", "_law_plan", "_law_far_here", "_law_nodes", "_law_one", "_law_other", "_law_names_here", "_law_sums"]
abbrev pr_law : List Str := ["_law_script"]
theorem sc_law : FnScope nm_law pr_law (defScope s_law) := ⟨rfl, rfl, rfl, by decide +kernel, rfl, by decide +kernel, by decide +kernel⟩
end Rt
end
section
set_option maxHeartbeats 4000000
namespace Rt
open PySem PySem.Spec PyProof.Rows L2
theorem frzT2 {X : Cx} {pins : List (Addr × Obj)} {σ : L2.St} {H : Hp} {s : Shared} {d : Addr} {o : Obj} {kvs : List (List Key × V)} (I : Inv X pins σ H s) (h : H d = some (.frz o (.dT kvs))) :
    (d == sysModules) = false ∧ s.heap.get? d = some o ∧ o.ExactDict ∧ ∃ (es : Array DictEntry) (ep : Nat), o.data = .dict es ep ∧ es.size = kvs.length ∧
      ∀ (i : Nat) (k : List Key) (v : V), kvs[i]? = some (k, v) → ∃ (en : DictEntry) (q : Addr), es[i]? = some en ∧ en.key = .ref q ∧ H q = some (.tup (k.map kV)) ∧ RelV v en.val := by
  obtain ⟨hd, z, hs, xs, pr, o', es, ep, ho, hx, hdt, he, _⟩ := I.hok d _ h
  rw [hd] at ho
  cases ho
  refine ⟨hs, hd, hx, es, ep, hdt, ?_, fun i k v e => ?_⟩
  · have l1 : es.size = xs.length := size_of_entries he
    have l2 : kvs.length = xs.length := Paired.length pr
    omega
  · obtain ⟨b, hb, e1, e2, e3⟩ := paired_get pr e
    have q := entry_at he i
    rw [hb] at q
    exact ⟨_, b.2.1, q, rfl, e2, e3⟩
theorem turn_itemsT {P : Program} {w : World} {K : PySem.W.Frag} {d : Addr} {o : Obj} {es : Array DictEntry} {ep : Nat} {kvs : List (List Key × V)} {elts : List Expr} {kk : Nat} {tpos : Pos} (it : Addr) (hod : o.data = .dict es ep) :
    Turn P w K (.Tuple elts kk tpos) (Itit d o kvs) [it] it (fun i h => ∃ ok ov, IsItemIter h it d i kvs.length ep ok ov) where
  mem := by simp
  obj := fun i h st b hb => by
    have e : b = it := by simpa using hb
    subst e
    obtain ⟨ok, ov, e⟩ := st
    exact ⟨_, e, fun v z => nomatch z⟩
  keep := fun i h h' st k => let ⟨ok, ov, e⟩ := st; ⟨ok, ov, k it (by simp) _ e⟩
  item := by
    intro X hP hw hK hc i pins s σ H E I hf st hg
    subst hP hw hK
    obtain ⟨hd, hi⟩ := hg
    obtain ⟨hs, hgd, hx, es', ep', hdt, hsz, ent⟩ := frzT2 I hd
    obtain ⟨rfl, rfl⟩ := dict_ep hod hdt
    obtain ⟨⟨k, v⟩, hkv⟩ : ∃ p, kvs[i]? = some p := ⟨kvs[i], List.getElem?_eq_getElem hi⟩
    obtain ⟨en, q, hen, hkey, hq, rv⟩ := ent i k v hkv
    obtain ⟨hlt', hge⟩ := Array.getElem?_eq_some_iff.mp hen
    obtain ⟨ok, ov, he⟩ := st
    rw [← hsz] at he
    have hlt : it < s.heap.objs.size := Heap.lt_size he
    refine wpAny_pyNext_items_item_raw he ⟨o, hgd, hx, hod⟩ hlt' fun h' ho hT hz hk => ?_
    refine ⟨_, rfl, wpAny_letOwnedTupleGo_items (s := { s with heap := h' }) ho fun h'' he' sb => ?_⟩
    rw [hge, hkey] at hT
    have hT2 : h''.get? s.heap.objs.size = some { cls := .type "tuple", data := .seq #[.ref q, en.val] } := (sb.2 _ (Nat.ne_of_gt hlt)).trans hT
    have new : ObjOk X.prog X.w (upd H s.heap.objs.size (.tup [.ref q, v])) h'' s.heap.objs.size (.tup [.ref q, v]) :=
      ⟨by show 2 ≤ sizeLine; decide, [.ref q, en.val], .cons rfl (.cons rv .nil), ⟨_, hT2, rfl, _, rfl⟩⟩
    have I1 : Inv X pins σ (upd H s.heap.objs.size (.tup [.ref q, v])) { s with heap := h'' } :=
      I.turnedNew (t' := s.toks) (ch := [it]) (fun b ob hb e => (sb.2 b (by simpa using hb)).trans (hk b ob (by simpa using hb) e)) hf (Nat.le_refl _) new
    refine ⟨.ref s.heap.objs.size, _, I1, rfl, ⟨_, k, v, q, hkv, rfl, I.hok.fresh (Nat.le_refl _), hq, rfl⟩, ⟨es'[i].key, es'[i].val, ?_⟩, fun b hb => ?_⟩
    · rw [← hsz]; exact he'
    · have e : b = it := by simpa using hb
      rw [e, upd_ne (Nat.ne_of_lt hlt)]
      exact (hf it (by simp)).1
  done := by
    intro X hP hw hK hc i pins s σ H E I hf st hg
    subst hP hw hK
    obtain ⟨hd, hi⟩ := hg
    obtain ⟨f0, f1, f2, f3, f4, f5⟩ := hf it (by simp)
    obtain ⟨hs, hgd, hx, es', ep', hdt, hsz, ent⟩ := frzT2 I hd
    obtain ⟨rfl, rfl⟩ := dict_ep hod hdt
    obtain ⟨ok, ov, he⟩ := st
    rw [← hsz] at he
    exact wpAny_pyNext_items_end_raw (I.ok.hd hc) he ⟨o, hgd, hx, hod⟩ (by omega) fun h' eb => ⟨rfl, I.turned (t' := s.toks) (fun b ob hb e => eb b ob hb e) f0 f1 f3 f4 f5⟩
  self := fun A i s Q E st h => let ⟨_, _, e⟩ := st; PySem.W.kcp_self e h
section
variable {X : Cx}
theorem pi_itemsT {elts : List Expr} {kk : Nat} {tpos apos cpos : Pos} {e : Expr} {td : TE} (he : PE X e td) (hbase : attributeBase e "items" X.env (eval e X.env) = eval e X.env := by rfl) (hline : (apos.endLine == cpos.line) = true := by rfl) :
    PI X (.Tuple elts kk tpos) (.Call (.Attribute e "items" apos) [] [] cpos) (iItemsT td) := by
  refine ⟨fun pins s σ H R I h => ?_⟩
  refine wpAny_Call_method (T := "dict") (id := "dict.items") hbase rfl hline F.plainAttrs_dict F.slot_dict_items F.type_dict_items (thn (he.run pins s σ H _ I h) fun u s1 ⟨x, H1, I1, rx, d, o, kvs, ex, hd, q⟩ => ?_)
  subst ex
  obtain rfl : u = Value.ref d := rx
  obtain ⟨hs, hgd, hx, es, ep, hdt, hsz, ent⟩ := frzT2 I1 hd
  have hm : s1.heap.DictRaw d es ep := ⟨o, hgd, hx, hdt⟩
  refine ⟨hm.typeIs, ?_, ?_⟩
  · exact fun b e => by cases e; exact ⟨o, hgd, hx.2.1⟩
  have I2 : Inv X pins σ H1 { s1 with heap := s1.heap.push { cls := .type "dict_items", data := .fields #[.ref d] } } := I1.kept (t' := s1.toks) fun b ob q => Heap.get?_push_of_some _ q
  have fin : wpAny (model X.prog X.w) X.A (pyIter (.ref s1.heap.objs.size)) (PIE X pins σ (.Tuple elts kk tpos) R) X.xe { s1 with heap := s1.heap.push { cls := .type "dict_items", data := .fields #[.ref d] } } := by
    refine wpAny_pyIter_items_raw (d := d) ⟨_, Heap.get?_push_size _ rfl, rfl, rfl⟩ (hm.at fun o e => Heap.get?_push_of_some _ e) (pi_one (tk := s1.toks) I2 _ (turn_itemsT _ hdt) ⟨.none, .none, ?_⟩ q)
    rw [← hsz]
    exact Heap.get?_push_size _ rfl
  show wpAny _ _ (callWith cpos (.builtin "dict.items") [.ref d] [] []) _ X.xe s1
  exact method_meetsIn F.slot_dict_items F.entry_dict_items rfl (PySem.evalArgs_none ⟨rfl, hm.typeIs, F.args_dict_items_1 _, _, meets_dict_items_raw d hs, ⟨es, ep, hm⟩, fin⟩)
end
end Rt
end
section
set_option maxHeartbeats 4000000
/-! Ker3: list(a text). -/
namespace Rt
open PySem PySem.Spec PyProof.Rows L2
section
variable {prog : Program} {w : World} {A : Around} {E : Value → Shared → Prop} {s : Shared} {x : Str} {t : Tok}
/-- how the signs come into the list at S -/
theorem sg_extend {R : Result → Shared → Prop} (hh : A.handled = none) (S : Addr) (c₀ : Nat) (hS : s.heap.get? S = some { cls := .type "list", data := .seq #[] c₀ })
    (hR : ∀ h' tk acc' c', (∀ b o, b ≠ S → s.heap.get? b = some o → h'.get? b = some o) → h'.get? S = some { cls := .type "list", dict := none, data := .seq acc' c', slots := #[] } → ItemsOf (SignAt x) acc' x.cps.size → R (.ok (.ret .none)) { s with heap := h', toks := tk }) (hn : x.cps.size ≤ sizeLine) :
    wpAny (model prog w) A.in1 (Builtin.List.listExtendWith (.ref S) (.str x t) .none)
      (fun fin s' => match fin with | .done f => R (.ok f) s' | .again c' => c'.quiet = true ∧ codeAny (model prog w) A c' R s') (fun e s' => R (.error e) s') s := by
  unfold Builtin.List.listExtendWith
  refine wpAny_bind (wpAny_typeOf (T := "str") (v := .str x t) rfl ?_)
  have h1 : Builtin.List.listSameRef (.ref S) (.str x t) = false := rfl
  have h2 : (Value.type "str" == Value.type "list") = false := by decide
  have h3 : (Value.type "str" == Value.type "tuple") = false := by decide
  simp only [h1, h2, h3, Bool.or_false, Bool.false_eq_true, if_false]
  refine wpAny_bind (wpAny_pyIter_str fun o St W hst => ?_)
  refine wpAny_bind (wpAny_holding ?_)
  unfold Builtin.List.listLengthHint
  refine wpAny_bind (wpAny_specialOf (T := "str") (v := .str x t) rfl F.str_len ?_)
  wp_delta
  refine wpAny_bind (wpAny_isInstance (T := "str") (v := .str x t) (b := true) rfl (by rw [isSubtype_type]; kernel_rfl) ?_)
  show wpAny _ A.in1 (typeOf (Value.str x t) >>= _) _ _ _
  refine wpAny_bind (wpAny_typeOf (T := "str") (v := .str x t) rfl ?_)
  refine wpAny_pure ?_
  rw [if_neg (by decide)]
  have hlt : S < s.heap.objs.size := Heap.lt_size hS
  have hSf : S ∉ [s.heap.objs.size] := fun hm => by rw [List.mem_singleton.mp hm] at hlt; exact absurd hlt (Nat.lt_irrefl _)
  have hS1 : (s.heap.push o).get? S = some { cls := .type "list", data := .seq #[] c₀ } := Heap.get?_push_of_some _ hS
  refine wpAny_pure ⟨plainId_quiet F.plain_extend_loop _, codeAny_extend_loopS (W A.in1 hh).toS hn _ hSf _ x.cps.size 0 _ #[] c₀ rfl (Nat.zero_le _) hst hS1 (ItemsOf.nil _) fun s' acc' c' hm hS' hacc => ?_⟩
  rw [Moved.eq_with hm]
  refine hR s'.heap s'.toks acc' c' (fun b ob hb e => hm.heap b ob (fun hmem => ?_) (Heap.get?_push_of_some _ e)) hS' hacc
  have hl := Heap.lt_size e
  rcases List.mem_cons.mp hmem with h | h
  · exact hb h
  · rw [List.mem_singleton.mp h] at hl; exact absurd hl (Nat.lt_irrefl _)
theorem sg_call {Q : Value → Shared → Prop} (hh : A.handled = none) (hn : x.cps.size ≤ sizeLine)
    (hQ : ∀ h' tk acc' c', (∀ b o, s.heap.get? b = some o → h'.get? b = some o) → h'.get? s.heap.objs.size = some { cls := .type "list", dict := none, data := .seq acc' c', slots := #[] } → ItemsOf (SignAt x) acc' x.cps.size → Q (.ref s.heap.objs.size) { s with heap := h', toks := tk }) :
    wpAny (model prog w) A (call (.type "list") [.str x t]) Q E s := by
  refine callType_codes (Q₁ := fun obj s₁ => obj = .ref s.heap.objs.size ∧ s₁ = { s with heap := s.heap.push { cls := .type "list", data := .seq #[] } }) PySem.F.called_list (PySem.F.typeCall_list_1 _) PySem.F.entry_list_init
    (code_list_new _ ⟨rfl, rfl⟩) fun obj s₁ h₁ => ?_
  obtain ⟨rfl, rfl⟩ := h₁
  have hS : (s.heap.push { cls := .type "list", data := .seq #[] }).get? s.heap.objs.size = some { cls := .type "list", data := .seq #[] } := Heap.get?_push_size _ rfl
  refine ⟨⟨_, hS, rfl⟩, PySem.F.args_list_init_2 _ _, ?_⟩
  show wpAny _ _ (do let old ← Builtin.List.listItems (.ref s.heap.objs.size); Builtin.List.listUpdate (.ref s.heap.objs.size) (fun _ => #[]); letGo old.toList.reverse; Builtin.List.listExtendWith (.ref s.heap.objs.size) (.str x t) .none) _ _ _
  refine wpAny_bind ?_
  unfold Builtin.List.listItems
  refine wpAny_bind (wpAny_seqItems hS rfl (wpAny_pure ?_))
  show wpAny _ _ (updateSeq s.heap.objs.size (fun _ => #[]) >>= fun _ => letGo (#[] : Array Value).toList.reverse >>= fun _ => Builtin.List.listExtendWith (.ref s.heap.objs.size) (.str x t) .none) _ _ _
  refine wpAny_bind (wpAny_updateSeq hS rfl ?_)
  have hS₂ := Heap.get?_update_self (Obj.mapSeq (fun _ => (#[] : Array Value))) hS rfl
  refine wpAny_bind (wpAny_letGo ?_)
  refine sg_extend (A := A.in1) hh s.heap.objs.size _ hS₂ (fun h' tk acc' c' hk hS' hacc => ?_) hn
  exact ⟨rfl, hQ h' tk acc' c' (fun b o e => hk b o (Nat.ne_of_lt (Heap.lt_size e)) ((Heap.get?_update_other _ _ (Nat.ne_of_gt (Heap.lt_size e))).trans (Heap.get?_push_of_some _ e))) hS' hacc⟩
end
theorem signs_at : ∀ (l : List Nat) (us : List Value), us.length = l.length → (∀ (j : Nat) (v : Value), us[j]? = some v → ∃ c u, l[j]? = some c ∧ v = .str ⟨#[c]⟩ u) → Vals (l.map fun c => V.str ⟨#[c]⟩) us
  | [], [], _, _ => .nil
  | [], _ :: _, h, _ => by cases h
  | _ :: _, [], h, _ => by cases h
  | c :: l, u :: us, hl, h => by
    obtain ⟨d, t, e1, e2⟩ := h 0 u rfl
    cases Option.some.inj e1
    exact .cons ⟨t, e2⟩ (signs_at l us (by simpa using hl) fun j v e => h (j + 1) v e)
theorem c_listS {X : Cx} (hc : X.calm = true) : CallR X (.type "list") rListSg := by
  intro pins s σ H xs us Q I r h
  obtain ⟨x, ex, hl, q⟩ := h
  subst ex
  obtain ⟨u, eu, rx⟩ := vals1 r
  subst eu
  obtain ⟨t, rfl⟩ := rx
  have hM : (1000 : Nat) ≤ sizeLine := by rw [sizeLine_eq]; decide
  have hlen : x.cps.size = x.length := rfl
  refine sg_call (I.ok.hd hc) (by omega) fun h' tk acc c' hk hD hacc => ?_
  have hv : Vals (x.cps.toList.map fun c => V.str ⟨#[c]⟩) acc.toList := by
    exact signs_at _ _ (by rw [Array.length_toList, Array.length_toList]; exact hacc.1) fun j v e => by
      obtain ⟨c, u, e1, e2⟩ := hacc.2 j v (by rw [← Array.getElem?_toList]; exact e)
      exact ⟨c, u, by rw [Array.getElem?_toList]; exact e1, e2⟩
  refine ⟨.ref s.heap.objs.size, upd H s.heap.objs.size (.lst (x.cps.toList.map fun c => V.str ⟨#[c]⟩)), I.laid (t' := tk) hk (Nat.le_refl _)
    (show ObjOk X.prog X.w _ _ _ (.lst (x.cps.toList.map fun c => V.str ⟨#[c]⟩)) from ⟨by rw [List.length_map, Array.length_toList]; omega, acc.toList, c', hv, by rw [Array.toArray_toList]; exact hD⟩), rfl, q _ (I.hok.fresh (Nat.le_refl _))⟩
end Rt
end
section
set_option maxHeartbeats 4000000
/-! KerT: the slots of a set's table, by the mask alone: masks up to 511. -/
namespace Rt
open PySem PySem.Spec PyProof.Rows L2
/-! ### the round i -> 5 i + 1 meets each slot -/
def trail (m : Nat) : Nat → Nat → List Nat
  | 0, _ => []
  | n + 1, x => x :: trail m n ((x * 5 + 1) % (m + 1))
theorem trail_at (m : Nat) : ∀ (n a k : Nat), k < n → (trail m n (lcgN m a))[k]? = some (lcgN m (a + k))
  | 0, _, _, h => absurd h (Nat.not_lt_zero _)
  | n + 1, a, 0, _ => rfl
  | n + 1, a, k + 1, h => by
    have e : lcgN m (a + 1) = (lcgN m a * 5 + 1) % (m + 1) := rfl
    show (trail m n ((lcgN m a * 5 + 1) % (m + 1)))[k]? = _
    rw [← e, trail_at m n (a + 1) k (Nat.lt_of_succ_lt_succ h)]
    congr 2
    omega
theorem trail_len (m : Nat) : ∀ (n x : Nat), (trail m n x).length = n
  | 0, _ => rfl
  | n + 1, x => by
    show (trail m n _).length + 1 = n + 1
    rw [trail_len m n]
/-- a mask whose round is whole -/
structure Msk (m : Nat) : Prop where
  met : ∀ j, j ≤ m → ∃ b, b ≤ m ∧ lcgN m b = j
  rnd : lcgN m (m + 1) = 0
  odd : m % 2 = 1
  top : m ≤ 511
def mskB (m : Nat) : Bool := ((List.range (m + 1)).all fun j => (trail m (m + 1) 0).contains j) && ((trail m (m + 2) 0).getLast? == some 0 && (m % 2 == 1 && decide (m ≤ 511)))
theorem msk_of {m : Nat} (h : mskB m = true) : Msk m := by
  unfold mskB at h
  simp only [Bool.and_eq_true, beq_iff_eq, decide_eq_true_eq, List.all_eq_true] at h
  obtain ⟨h1, h2, h3, h4⟩ := h
  refine ⟨fun j hj => ?_, ?_, h3, h4⟩
  · have := h1 j (List.mem_range.mpr (Nat.lt_succ_of_le hj))
    have hm : j ∈ trail m (m + 1) 0 := List.contains_iff_mem.mp this
    obtain ⟨k, hk, e⟩ := List.getElem_of_mem hm
    rw [trail_len] at hk
    have e2 := trail_at m (m + 1) 0 k hk
    have e3 : (trail m (m + 1) (lcgN m 0))[k]? = some j := by
      rw [← e]
      exact List.getElem?_eq_getElem _
    rw [e3] at e2
    refine ⟨k, Nat.le_of_lt_succ hk, ?_⟩
    have := Option.some.inj e2
    rw [Nat.zero_add] at this
    exact this.symm
  · rw [List.getLast?_eq_getElem?, trail_len] at h2
    have e2 := trail_at m (m + 2) 0 (m + 1) (Nat.lt_succ_self _)
    have e3 : (trail m (m + 2) (lcgN m 0))[m + 1]? = some 0 := h2
    rw [e3] at e2
    have := Option.some.inj e2
    rw [Nat.zero_add] at this
    exact this.symm
theorem msk7 : Msk 7 := msk_of (by decide +kernel)
theorem msk31 : Msk 31 := msk_of (by decide +kernel)
theorem msk127 : Msk 127 := msk_of (by decide +kernel)
theorem msk511 : Msk 511 := msk_of (by decide +kernel)
section
variable {m : Nat}
theorem Msk.turn (M : Msk m) : ∀ k, lcgN m (m + 1 + k) = lcgN m k
  | 0 => M.rnd
  | k + 1 => congrArg (fun z => (z * 5 + 1) % (m + 1)) (M.turn k)
theorem Msk.reach (M : Msk m) {i j : Nat} (hi : i ≤ m) (hj : j ≤ m) : ∃ k, k ≤ m ∧ lcgI m i k = j := by
  obtain ⟨a, ha, rfl⟩ := M.met i hi
  obtain ⟨b, hb, rfl⟩ := M.met j hj
  by_cases c : a ≤ b
  · refine ⟨b - a, by omega, ?_⟩
    rw [lcgN_add]
    congr 1
    omega
  · refine ⟨m + 1 + b - a, by omega, ?_⟩
    rw [lcgN_add, ← M.turn b]
    congr 1
    omega
/-- the first state of a search -/
abbrev from0 (m : Nat) (h : Int) : SetTable.Probe := runAt m (SetTable.bits h % (m + 1)) (SetTable.bits h)
/-- the k-th slot on the way of the hash h -/
abbrev on (m : Nat) (h : Int) (k : Nat) : Nat := (nth m (from0 m h) k).j
theorem on_le (h : Int) (k : Nat) : on m h k ≤ m := by
  have hi : SetTable.bits h % (m + 1) ≤ m := Nat.le_of_lt_succ (Nat.mod_lt _ (Nat.succ_pos _))
  have r := runEnd_bd hi
  have q := nth_in (m := m) k (from0 m h) (show SetTable.bits h % (m + 1) + (SetTable.runEnd m (SetTable.bits h % (m + 1)) - SetTable.bits h % (m + 1)) ≤ m by omega)
  exact Nat.le_trans (Nat.le_add_right _ _) q
theorem Msk.runs (M : Msk m) (h : Int) {j : Nat} (hj : j ≤ m) : ∃ n, n ≤ m + 12 ∧ runI m (SetTable.bits h) n = j := by
  obtain ⟨k, hk, e⟩ := M.reach (runI_le m (SetTable.bits h) 12) hj
  refine ⟨12 + k, by omega, ?_⟩
  rw [runI_tail (bits_lt h)]
  exact e
theorem Msk.meets (M : Msk m) (h : Int) {j : Nat} (hj : j ≤ m) : ∃ k, k < 10 * SetTable.turns m ∧ on m h k = j := by
  obtain ⟨n, hn, e⟩ := M.runs h hj
  obtain ⟨k, hk, e2⟩ := run_nth m (SetTable.bits h) n
  refine ⟨k, by unfold SetTable.turns; omega, ?_⟩
  show (nth m (from0 m h) k).j = j
  rw [e2]
  exact e
end
/-! ### a table whose live slots are found from their hashes -/
structure TabK (t : SetTable) (hs : List Int) : Prop where
  up : Ris t.place.toList
  dm : t.dummies = #[]
  sz : t.place.size = hs.length
  msk : Msk t.mask
  bd : ∀ x ∈ t.place.toList, x ≤ t.mask
  find : ∀ (i : Nat) (h : Int) (j : Nat), hs[i]? = some h → t.place.toList[i]? = some j → ∃ k, on t.mask h k = j ∧ ∀ k', k' < k → on t.mask h k' ∈ t.place.toList
section
variable {t : SetTable} {hs : List Int}
theorem TabK.plen (T : TabK t hs) : t.place.toList.length = hs.length := by
  rw [Array.length_toList]
  exact T.sz
theorem TabK.empty (T : TabK t hs) (hl : hs.length ≤ t.mask) (h : Int) : ∃ n, n < 10 * SetTable.turns t.mask ∧ on t.mask h n ∉ t.place.toList ∧ ∀ k, k < n → on t.mask h k ∈ t.place.toList := by
  obtain ⟨j, hj, hn⟩ := st_missing t.place.toList (t.mask + 1) (by rw [T.plen]; omega)
  obtain ⟨k, hk, e⟩ := T.msk.meets h (Nat.le_of_lt_succ hj)
  obtain ⟨n, h1, h2, h3⟩ := st_least (p := fun k => on t.mask h k ∉ t.place.toList) k (by show on t.mask h k ∉ _; rw [e]; exact hn)
  exact ⟨n, Nat.lt_of_le_of_lt h1 hk, h2, fun k' hk' => Classical.not_not.mp (h3 k' hk')⟩
theorem TabK.ahead (T : TabK t hs) {h : Int} {n i j : Nat} (hn : on t.mask h n ∉ t.place.toList) (hi : hs[i]? = some h) (hj : t.place.toList[i]? = some j) : ∃ k, k < n ∧ on t.mask h k = j := by
  obtain ⟨k, e, hb⟩ := T.find i h j hi hj
  refine ⟨k, ?_, e⟩
  rcases Nat.lt_trichotomy k n with c | c | c
  · exact c
  · exact absurd (List.mem_of_getElem? hj) (by rw [← e, c]; exact hn)
  · exact absurd (hb n c) hn
/-- one more -/
theorem TabK.more (T : TabK t hs) {h : Int} {n : Nat} (hn : on t.mask h n ∉ t.place.toList) (hb : ∀ k, k < n → on t.mask h k ∈ t.place.toList) :
    (t.put (on t.mask h n)).2 = SetTable.below t.place (on t.mask h n) ∧ SetTable.below t.place (on t.mask h n) ≤ hs.length ∧
    TabK (t.put (on t.mask h n)).1 (hs.take (SetTable.below t.place (on t.mask h n)) ++ h :: hs.drop (SetTable.below t.place (on t.mask h n))) ∧
    (t.put (on t.mask h n)).1.mask = t.mask ∧ (t.put (on t.mask h n)).1.led = t.led ∧ (t.put (on t.mask h n)).1.plain = t.plain ∧ (t.put (on t.mask h n)).1.fill = hs.length + 1 := by
  generalize hj : on t.mask h n = j at hn ⊢
  have hjm : j ≤ t.mask := by rw [← hj]; exact on_le h n
  have cut := (below_cut T.up j).1
  have hph : SetTable.below t.place j ≤ hs.length := by rw [← T.sz]; exact cut
  have hpl : SetTable.below t.place j ≤ t.place.toList.length := by rw [T.plen]; exact hph
  have hpp := put_place t j
  have hsize : (t.put j).1.place.size = hs.length + 1 := by rw [← Array.length_toList, hpp, len_ins _ hpl, T.plen]
  have keep : ∀ {x : Nat}, x ∈ t.place.toList → x ∈ (t.put j).1.place.toList := fun hx => by
    rw [hpp]
    exact mem_ins.2 (.inr hx)
  refine ⟨rfl, hph, ⟨ris_insert T.up fun e => hn (List.mem_of_getElem? (by rw [Array.getElem?_toList]; exact e)), put_dm T.dm j, by rw [len_ins _ hph]; exact hsize, T.msk, fun x hx => ?_, fun i h' j' h1 h2 => ?_⟩, rfl, rfl, rfl, ?_⟩
  · rw [hpp] at hx
    rcases mem_ins.1 hx with z | z
    · rw [z]; exact hjm
    · exact T.bd x z
  · show ∃ k, on t.mask h' k = j' ∧ ∀ k', k' < k → on t.mask h' k' ∈ (t.put j).1.place.toList
    rw [tins_get hs hph] at h1
    rw [hpp, tins_get _ hpl] at h2
    have old : ∀ i', hs[i']? = some h' → t.place.toList[i']? = some j' → ∃ k, on t.mask h' k = j' ∧ ∀ k', k' < k → on t.mask h' k' ∈ (t.put j).1.place.toList := fun i' a b => by
      obtain ⟨k, e, z⟩ := T.find i' h' j' a b
      exact ⟨k, e, fun k' hk' => keep (z k' hk')⟩
    by_cases c : i < SetTable.below t.place j
    · rw [if_pos c] at h1 h2
      exact old i h1 h2
    · rw [if_neg c] at h1 h2
      by_cases d : i = SetTable.below t.place j
      · rw [if_pos d] at h1 h2
        cases h1
        cases h2
        exact ⟨n, hj, fun k' hk' => keep (hb k' hk')⟩
      · rw [if_neg d] at h1 h2
        exact old (i - 1) h1 h2
  · show (t.put j).1.place.size + (t.put j).1.dummies.size = hs.length + 1
    rw [hsize, put_dm T.dm j]
    rfl
end
/-! ### all laid anew -/
theorem lay_free {m : Nat} (M : Msk m) (owner : Array (Option Nat)) (h : Int) {j : Nat} (hj : j ≤ m) (hf : oAt owner j = none) :
    ∃ n, SetTable.layClean.free m owner (SetTable.turns m) (SetTable.bits h % (m + 1)) (SetTable.bits h) = some (on m h n) ∧ oAt owner (on m h n) = none ∧ ∀ k, k < n → oAt owner (on m h k) ≠ none := by
  obtain ⟨r, hr, e⟩ := M.runs h hj
  have hw : on m h (off m (SetTable.bits h % (m + 1)) (SetTable.bits h) r) = j := by
    show (nth m (from0 m h) _).j = j
    rw [nth_off, itL_run]
    exact e
  obtain ⟨n, k1, k2, k3⟩ := st_least (p := fun k => oAt owner (on m h k) = none) (off m (SetTable.bits h % (m + 1)) (SetTable.bits h) r) (by
    show oAt owner (on m h _) = none
    rw [hw]
    exact hf)
  refine ⟨n, free_spec m owner (SetTable.turns m) r _ _ n (by unfold SetTable.turns; omega) k1 (fun k hk => ?_) ?_, k2, k3⟩
  · cases z : oAt owner (on m h k) with
    | none => exact absurd z (k3 k hk)
    | some _ => rfl
  · rw [show oAt owner (nth m (runAt m (SetTable.bits h % (m + 1)) (SetTable.bits h)) n).j = none from k2]
    rfl
theorem lay_step {m : Nat} (M : Msk m) {done : List Int} {owner : Array (Option Nat)} (W : Own m done owner) (hl : done.length ≤ m) (h : Int) :
    ∃ j, SetTable.layClean.free m owner (SetTable.turns m) (SetTable.bits h % (m + 1)) (SetTable.bits h) = some j ∧ Own m (done ++ [h]) (owner.setIfInBounds j (some done.length)) := by
  obtain ⟨ps, hps, hin⟩ := W.ps
  obtain ⟨j0, h0, hn0⟩ := st_missing ps (m + 1) (by omega)
  have hj0 : oAt owner j0 = none := Classical.byContradiction fun z => hn0 (hin j0 (Nat.le_of_lt_succ h0) z)
  obtain ⟨n, e1, e2, e3⟩ := lay_free M owner h (Nat.le_of_lt_succ h0) hj0
  have hjm : on m h n ≤ m := on_le h n
  have hself := oAt_set_self (some done.length) (show on m h n < owner.size by rw [W.sz]; exact Nat.lt_succ_of_le hjm)
  generalize hjj : on m h n = j at e1 e2 hjm hself
  have mono : ∀ {i : Nat}, oAt owner i ≠ none → oAt (owner.setIfInBounds j (some done.length)) i ≠ none := fun {i} hi => by
    by_cases c : i = j
    · rw [c, hself]
      exact fun e => nomatch e
    · rw [oAt_set_ne _ c]
      exact hi
  refine ⟨j, e1, ⟨by rw [Array.size_setIfInBounds]; exact W.sz, fun i k hi e => ?_, fun k hk => ?_, j :: ps, by rw [List.length_cons, List.length_append, hps]; rfl, fun i hi e => ?_⟩⟩
  · by_cases c : i = j
    · rw [c, hself] at e
      have ek := Option.some.inj e
      refine ⟨h, n, ?_, by rw [c]; exact hjj, fun k' hk' => mono (e3 k' hk')⟩
      rw [← ek, List.getElem?_append_right (Nat.le_refl _), Nat.sub_self]
      rfl
    · rw [oAt_set_ne _ c] at e
      obtain ⟨h', n', a1, a2, a3⟩ := W.at_ i k hi e
      refine ⟨h', n', ?_, a2, fun k' hk' => mono (a3 k' hk')⟩
      rw [List.getElem?_append_left (List.getElem?_eq_some_iff.mp a1).1]
      exact a1
  · rw [List.length_append, List.length_singleton] at hk
    by_cases c : k < done.length
    · obtain ⟨i, hi, e⟩ := W.all k c
      exact ⟨i, hi, by rw [oAt_set_ne _ (fun z => by rw [z, e2] at e; cases e)]; exact e⟩
    · exact ⟨j, hjm, by rw [hself]; congr 1; omega⟩
  · by_cases c : i = j
    · rw [c]; exact List.mem_cons_self
    · rw [oAt_set_ne _ c] at e
      exact List.mem_cons_of_mem _ (hin i hi e)
theorem lay_all {m : Nat} (M : Msk m) : ∀ (rest done : List Int) (owner : Array (Option Nat)), Own m done owner → done.length + rest.length ≤ m →
    ∃ owner', rest.foldl (stepF m) (some (owner, done.length)) = some (owner', (done ++ rest).length) ∧ Own m (done ++ rest) owner'
  | [], done, owner, W, _ => ⟨owner, by rw [List.append_nil]; rfl, by rw [List.append_nil]; exact W⟩
  | h :: rest, done, owner, W, hl => by
    rw [List.length_cons] at hl
    obtain ⟨j, e, W'⟩ := lay_step M W (by omega) h
    have hl' : (done ++ [h]).length = done.length + 1 := by rw [List.length_append]; rfl
    obtain ⟨owner', f, W2⟩ := lay_all M rest (done ++ [h]) _ W' (by rw [hl']; omega)
    have ea : done ++ [h] ++ rest = done ++ h :: rest := by rw [List.append_assoc]; rfl
    rw [ea, hl'] at f
    rw [ea] at W2
    exact ⟨owner', by rw [List.foldl_cons, stepF_some e]; exact f, W2⟩
theorem relay_ok (t : SetTable) {hs : Array Int} {wanted m : Nat} (hw : SetTable.sizeAbove wanted - 1 = m) (M : Msk m) (hn : hs.size ≤ m) :
    ∃ t' order, t.relaid hs wanted = some (t', order) ∧ order.toList.Perm (List.range hs.size) ∧ TabK t' (order.toList.map fun i => hs.getD i 0) ∧ t'.mask = m ∧ t'.led = t.led ∧ t'.plain = t.plain := by
  obtain ⟨owner, f, W⟩ := lay_all M hs.toList [] _ (Own.init m) (by rw [Array.length_toList]; show 0 + hs.size ≤ m; omega)
  rw [List.nil_append] at W
  have hr : t.relaid hs wanted = some (tabOf t m owner, ((liveOf m owner).map (·.2)).toArray) := by
    have f' : hs.toList.foldl (stepF m) (some (Array.replicate (m + 1) none, 0)) = some (owner, ([] ++ hs.toList).length) := f
    rw [relaid_eq, hw, layClean_eq, f']
    rfl
  have ris := ris_live (fun j => owner.getD j none) (List.range (m + 1)) (by
    unfold Ris
    first | exact List.pairwise_lt_range | exact List.pairwise_lt_range _)
  have r1 : Ris ((liveOf m owner).map (·.1)) := ris.1
  have r2 : ∀ x ∈ (liveOf m owner).map (·.1), x ∈ List.range (m + 1) := ris.2
  have nd : ((liveOf m owner).map (·.1)).Nodup := r1.imp fun h => Nat.ne_of_lt h
  have hlen : (liveOf m owner).length = hs.size := by
    obtain ⟨ps, p1, p2⟩ := W.ps
    have a := nat_nodup_len ((liveOf m owner).map (·.1)) ps nd fun x hx => by
      obtain ⟨⟨y, k⟩, hq, rfl⟩ := List.mem_map.mp hx
      obtain ⟨b1, b2⟩ := (mem_live W.sz).1 hq
      exact p2 y b1 (by rw [b2]; exact fun z => nomatch z)
    have b := nat_nodup_len (List.range hs.size) ((liveOf m owner).map (·.2)) List.nodup_range fun k hk => by
      obtain ⟨j, b1, b2⟩ := W.all k (by rw [Array.length_toList]; exact List.mem_range.mp hk)
      exact List.mem_map.mpr ⟨(j, k), (mem_live W.sz).2 ⟨b1, b2⟩, rfl⟩
    rw [List.length_map, p1] at a
    rw [List.length_map, List.length_range] at b
    have hz : hs.toList.length = hs.size := rfl
    omega
  refine ⟨_, _, hr, ?_, ⟨r1, rfl, ?_, M, fun x hx => Nat.le_of_lt_succ (List.mem_range.mp (r2 x hx)), fun i h j h1 h2 => ?_⟩, rfl, rfl, rfl⟩
  · refine perm_range hs.size _ ?_ fun k hk => ?_
    · show ((liveOf m owner).map (·.2)).length = hs.size
      rw [List.length_map]
      exact hlen
    · obtain ⟨j, b1, b2⟩ := W.all k (by rw [Array.length_toList]; exact hk)
      exact List.mem_map.mpr ⟨(j, k), (mem_live W.sz).2 ⟨b1, b2⟩, rfl⟩
  · show ((liveOf m owner).map (·.1)).toArray.size = (((liveOf m owner).map (·.2)).map fun i => hs.getD i 0).length
    rw [List.size_toArray, List.length_map, List.length_map, List.length_map]
  · have h1' : (((liveOf m owner).map (·.2)).map fun i => hs.getD i 0)[i]? = some h := h1
    have h2' : ((liveOf m owner).map (·.1))[i]? = some j := h2
    rw [List.map_map, List.getElem?_map] at h1'
    rw [List.getElem?_map] at h2'
    cases hq : (liveOf m owner)[i]? with
    | none => rw [hq] at h2'; cases h2'
    | some q =>
      obtain ⟨y, k⟩ := q
      rw [hq] at h1' h2'
      cases h2'
      have eh : hs.getD k 0 = h := Option.some.inj h1'
      obtain ⟨b1, b2⟩ := (mem_live W.sz).1 (List.mem_of_getElem? hq)
      obtain ⟨h0, n, a1, a2, a3⟩ := W.at_ y k b1 b2
      have e0 : hs.getD k 0 = h0 := by
        rw [Array.getD_eq_getD_getElem?, ← Array.getElem?_toList, a1]
        rfl
      have ehh : h0 = h := e0.symm.trans eh
      subst ehh
      refine ⟨n, a2, fun k' hk' => ?_⟩
      show on m h0 k' ∈ (liveOf m owner).map (·.1)
      cases z : oAt owner (on m h0 k') with
      | none => exact absurd z (a3 k' hk')
      | some k2 => exact List.mem_map.mpr ⟨(on m h0 k', k2), (mem_live W.sz).2 ⟨on_le h0 k', z⟩, rfl⟩
theorem size_308 : SetTable.sizeAbove (SetTable.grown 77) = 512 := by decide +kernel
end Rt
end
section
set_option maxHeartbeats 4000000
/-! KerS: sets of tuples of texts and ints, up to 200 of them. -/
namespace Rt
open PySem PySem.Spec PyProof.Rows L2
abbrev thK (P : Program) (w : World) (k : List Key) : Int := tupleKeyHash (mixKind P w) k
/-- at a stands the tuple of the key k -/
abbrev IsK (P : Program) (w : World) (h : Heap) (k : List Key) (a : Addr) : Prop := IsTupleKey (mixKind P w) h k a
abbrev Mem : Type := Addr × List Key
section
variable {P : Program} {w : World} {A : Around} {E : Value → Shared → Prop} {s : Shared}
/-- texts and ints -/
def Plain1 (v : Value) : Prop := (∃ i t, v = Value.int i t) ∨ ∃ x t, v = Value.str x t
theorem plain_items {k : List Key} {vs : List Value} (h : ItemsAre (mixKind P w) k vs) : ∀ v ∈ vs, Plain1 v := by
  induction h with
  | nil => intro v hv; cases hv
  | @cons k0 v' ks vs h1 _ ih =>
    intro v hv
    rcases List.mem_cons.mp hv with e | hv
    · rcases keyIs_shape h1 with ⟨i, t, _, z⟩ | ⟨x, t, _, z⟩
      · exact .inl ⟨i, t, e.trans z⟩
      · exact .inr ⟨x, t, e.trans z⟩
    · exact ih v hv
theorem plain_cls (n : Nat) {v : Value} (h : Plain1 v) : ofAClassStatement n v = pure false := by
  rcases h with ⟨i, t, rfl⟩ | ⟨x, t, rfl⟩ <;> cases n <;> rfl
theorem plain_hash (n : Nat) {v : Value} (h : Plain1 v) : hashByValue n v = pure true ∨ hashByValue n v = pure false := by
  rcases h with ⟨i, t, rfl⟩ | ⟨x, t, rfl⟩
  · left
    cases n <;> rfl
  · right
    cases n <;> rfl
theorem k_cls {k : List Key} {b : Addr} {Q : Bool → Shared → Prop} (hk : IsK P w s.heap k b) (h : Q false s) : wpAny (model P w) A (ofAClassStatement 8 (.ref b)) Q E s := by
  have hT := hk.typeIs
  obtain ⟨o, items, n, ho, _, hd, hi⟩ := hk
  unfold ofAClassStatement
  refine wpAny_bind (wpAny_typeOf hT ?_)
  dsimp only
  have e : (("tuple" : String) == "tuple") = true := by decide
  simp only [e, if_true, Bool.not_true, Bool.false_eq_true, if_false]
  try refine wpAny_bind (wpAny_pure ?_)
  try simp only [Bool.not_true, Bool.false_eq_true, if_false]
  show wpAny _ _ (seqItems? (.ref b) >>= _) _ _ s
  refine wpAny_bind (wpAny_seqItems ho hd ?_)
  dsimp only
  refine wpAny_bind ?_
  show wpAny _ _ (forIn items _ _) _ _ s
  rw [← Array.forIn_toList]
  refine wpAny_forIn_list _ (fun rest r s' => r.1 = none ∧ s' = s ∧ ∀ v ∈ rest, Plain1 v) _ ?_ ?_ _ _ ⟨rfl, rfl, plain_items hi⟩
  · rintro v rest r s' ⟨hr, rfl, hall⟩
    rw [plain_cls _ (hall v List.mem_cons_self)]
    refine wpAny_bind (wpAny_pure ?_)
    simp only [Bool.false_eq_true, if_false]
    exact wpAny_pure ⟨rfl, rfl, fun u hu' => hall u (List.mem_cons_of_mem _ hu')⟩
  · rintro ⟨r1, r2⟩ s' ⟨hr, rfl, _⟩
    simp only at hr
    subst hr
    exact wpAny_pure h
theorem k_hash {k : List Key} {b : Addr} {Q : Bool → Shared → Prop} (hk : IsK P w s.heap k b) (h : ∀ r, Q r s) : wpAny (model P w) A (hashByValue 8 (.ref b)) Q E s := by
  have hT := hk.typeIs
  obtain ⟨o, items, n, ho, _, hd, hi⟩ := hk
  unfold hashByValue
  refine wpAny_bind (wpAny_specialOf hT F.slot_tuple_hash.lookup ?_)
  show wpAny _ _ (seqItems? (.ref b) >>= _) _ _ s
  refine wpAny_bind (wpAny_seqItems ho hd ?_)
  refine wpAny_bind ?_
  show wpAny _ _ (forIn items _ _) _ _ s
  rw [← Array.forIn_toList]
  refine wpAny_forIn_list _ (fun rest r s' => r.1 = none ∧ s' = s ∧ ∀ v ∈ rest, Plain1 v) _ ?_ ?_ _ _ ⟨rfl, rfl, plain_items hi⟩
  · rintro v rest r s' ⟨hr, rfl, hall⟩
    rcases plain_hash 7 (hall v List.mem_cons_self) with e | e
    · rw [e]
      refine wpAny_bind (wpAny_pure ?_)
      simp only [Bool.not_true, Bool.false_eq_true, if_false]
      exact wpAny_pure ⟨rfl, rfl, fun u hu' => hall u (List.mem_cons_of_mem _ hu')⟩
    · rw [e]
      refine wpAny_bind (wpAny_pure ?_)
      simp only [Bool.not_false, if_true]
      exact wpAny_pure (wpAny_pure (h false))
  · rintro ⟨r1, r2⟩ s' ⟨hr, rfl, _⟩
    simp only at hr
    subst hr
    exact wpAny_pure (h true)
/-- a search among such tuples shows nothing -/
theorem k_seen {k : List Key} {b : Addr} {Q : Bool → Shared → Prop} (hk : IsK P w s.heap k b) {ys : List Value} (hy : ∀ y ∈ ys, ∃ k' c, y = Value.ref c ∧ IsK P w s.heap k' c) (h : Q false s) :
    wpAny (model P w) A (searchCouldBeSeen (.ref b) ys) Q E s := by
  unfold searchCouldBeSeen
  refine wpAny_bind ?_
  refine wpAny_forIn_list _ (fun rest r s' => r.1 = none ∧ s' = s ∧ ∀ y ∈ rest, ∃ k' c, y = Value.ref c ∧ IsK P w s.heap k' c) _ ?_ ?_ _ _ ⟨rfl, rfl, hy⟩
  · rintro v rest r s' ⟨hr, rfl, hall⟩
    obtain ⟨k', c, rfl, hc⟩ := hall v List.mem_cons_self
    have rest' : ∀ y ∈ rest, ∃ k' c, y = Value.ref c ∧ IsK P w s'.heap k' c := fun u hu' => hall u (List.mem_cons_of_mem _ hu')
    dsimp only
    by_cases hv : (b == c || (carriedByValue (.ref b) && carriedByValue (.ref c))) = true
    · exact wp_if_pos hv (wpAny_pure ⟨rfl, rfl, rest'⟩)
    · refine wp_if_neg hv ?_
      refine wpAny_bind (wpAny_eqIsQuiet_tuple hk ?_)
      simp only [Bool.not_true, Bool.false_eq_true, if_false]
      refine wpAny_bind (wpAny_eqIsQuiet_tuple hc ?_)
      simp only [Bool.not_true, Bool.false_eq_true, if_false]
      refine wpAny_bind (k_cls hk ?_)
      simp only [Bool.false_eq_true, if_false]
      refine wpAny_bind (k_cls hc ?_)
      simp only [Bool.false_eq_true, if_false]
      exact wpAny_pure ⟨rfl, rfl, rest'⟩
  · rintro ⟨r1, r2⟩ s' ⟨hr, rfl, _⟩
    simp only at hr
    subst hr
    exact wpAny_pure h
/-- what is kept at the set's address -/
def lines (P : Program) (w : World) (L : List Mem) : List (Int × Value) := L.map fun p => (thK P w p.2, Value.ref p.1)
structure SetK (P : Program) (w : World) (h : Heap) (a : Addr) (L : List Mem) (es : Array (Int × Value)) (ep : Nat) (t : SetTable) : Prop where
  ob : ∃ o, h.get? a = some o ∧ o.ExactSet ∧ o.data = .set es ep t
  rows : es.toList = lines P w L
  tab : TabK t (L.map fun p => thK P w p.2)
  nd : (L.map (·.2)).Nodup
  tup : ∀ p ∈ L, IsK P w h p.2 p.1
  led : w.params.followText "set-order" = true ∨ t.led = true
  room : L.length * 5 < t.mask * 3
  small : t.mask = 7 ∨ t.mask = 31 ∨ t.mask = 127 ∨ t.mask = 511
variable {a : Addr} {L : List Mem} {es : Array (Int × Value)} {ep : Nat} {t : SetTable}
theorem lines_len {es : Array (Int × Value)} {L : List Mem} (h : es.toList = lines P w L) : es.size = L.length := by
  have q := congrArg List.length h
  unfold lines at q
  rw [Array.length_toList, List.length_map] at q
  exact q
theorem lines_at {es : Array (Int × Value)} {L : List Mem} (h : es.toList = lines P w L) {i : Nat} {p : Mem} (e : L[i]? = some p) : es[i]? = some (thK P w p.2, Value.ref p.1) := by
  rw [← Array.getElem?_toList, h]
  unfold lines
  rw [List.getElem?_map, e]
  rfl
theorem fits_of {t : SetTable} {n : Nat} (h1 : t.place.size = n) (h2 : t.dummies = #[]) (h3 : n ≤ t.mask) : t.fits n = true := by
  unfold SetTable.fits SetTable.fill
  rw [h2, Bool.and_eq_true, beq_iff_eq, decide_eq_true_eq]
  show t.place.size = n ∧ t.place.size + 0 ≤ t.mask
  omega
theorem SetK.psz (R : SetK P w s.heap a L es ep t) : t.place.size = L.length := by
  have := R.tab.sz
  rw [List.length_map] at this
  exact this
theorem SetK.fits (R : SetK P w s.heap a L es ep t) : t.fits es.size = true := by
  rw [lines_len R.rows]
  have := R.room
  exact fits_of R.psz R.tab.dm (by omega)
theorem SetK.gw (R : SetK P w s.heap a L es ep t) : ¬ t.gaveWay = true := by
  unfold SetTable.gaveWay
  rw [R.tab.msk.odd]
  decide
theorem nth_dm (m : Nat) : ∀ (n : Nat) (p : SetTable.Probe), p.dummy = none → (nth m p n).dummy = none
  | 0, _, h => h
  | n + 1, p, h => nth_dm m n (adv m p) (by
    unfold adv
    split <;> exact h)
/-- the search, from the c-th slot of its way -/
theorem k_search (R : SetK P w s.heap a L es ep t) {x : Addr} {k : List Key} (hx : IsK P w s.heap k x) (hu : A.units < cLine) {n : Nat} (hnf : n < 10 * SetTable.turns t.mask)
    (hn : on t.mask (thK P w k) n ∉ t.place.toList) (hb : ∀ c, c < n → on t.mask (thK P w k) c ∈ t.place.toList) {Q : SetFound → Shared → Prop}
    (hin : k ∈ L.map (·.2) → Q (.there none) s) (hout : k ∉ L.map (·.2) → Q (.free (on t.mask (thK P w k) n) false) s) :
    ∀ (f c : Nat) (stand : Option SetTable.Probe), stand.getD (t.probeStart (thK P w k)) = nth t.mask (from0 t.mask (thK P w k)) c → c ≤ n → n - c < f →
      (∀ (i : Nat) p, L[i]? = some p → p.2 = k → ∃ c', c ≤ c' ∧ c' < n ∧ t.place.toList[i]? = some (on t.mask (thK P w k) c')) →
      wpAny (model P w) A (setSearchFrom a (.ref x) (thK P w k) true f stand) Q E s
  | 0, c, stand, _, _, hf, _ => absurd hf (Nat.not_lt_zero _)
  | f + 1, c, stand, hst, hc, hf, hre => by
    obtain ⟨o, ho, hex, hd⟩ := R.ob
    rw [setSearchFrom_succ]
    refine wpAny_bind (wpAny_setState_of ho hd R.fits ?_)
    dsimp only
    refine wp_if_neg R.gw ?_
    try refine wpAny_bind (wpAny_pure ?_)
    have sh : ∀ q, nth t.mask (nth t.mask (from0 t.mask (thK P w k)) c) q = nth t.mask (from0 t.mask (thK P w k)) (c + q) := fun q => (nth_add t.mask c _ q).symm
    have e1 : ∀ q, (nth t.mask (nth t.mask (from0 t.mask (thK P w k)) c) q).j = on t.mask (thK P w k) (c + q) := fun q => congrArg SetTable.Probe.j (sh q)
    have cn : c + (n - c) = n := by omega
    have spec := go_spec t R.tab.up R.tab.dm (fun i => (es[i]?.map (·.1)).getD 0) (thK P w k) (10 * SetTable.turns t.mask) (n - c) _ (nth_dm t.mask c _ rfl) (by omega)
      (fun q hq => by rw [e1]; exact hb (c + q) (by omega)) (by rw [e1, cn]; exact hn)
    have hashAt : ∀ (i : Nat) p, L[i]? = some p → (fun i => (es[i]?.map (·.1)).getD 0) i = thK P w p.2 := fun i p hp => by
      show (es[i]?.map (·.1)).getD 0 = _
      rw [lines_at R.rows hp]
      rfl
    rcases spec with ⟨q, i, hq, hi, hh, hno, hpr⟩ | ⟨hno, hpr⟩
    · have hpr' : t.probe (fun i => (es[i]?.map (·.1)).getD 0) (thK P w k) (stand.getD (t.probeStart (thK P w k))) = some (.candidate (on t.mask (thK P w k) (c + q)) i (nth t.mask (from0 t.mask (thK P w k)) (c + (q + 1)))) := by
        rw [hst, ← e1, ← sh]
        exact hpr
      rw [hpr']
      dsimp only
      rw [e1] at hi
      have hil : i < L.length := by
        have h1 := (List.getElem?_eq_some_iff.mp hi).1
        have h2 := R.tab.plen
        rw [List.length_map] at h2
        omega
      obtain ⟨p, hp⟩ : ∃ p, L[i]? = some p := ⟨_, List.getElem?_eq_getElem hil⟩
      have hmem : p ∈ L := List.mem_of_getElem? hp
      have rest : wpAny (model P w) A (searchRest a (.ref x) (thK P w k) true f es t (on t.mask (thK P w k) (c + q)) i (nth t.mask (from0 t.mask (thK P w k)) (c + (q + 1)))) Q E s := by
        unfold searchRest
        rw [lines_at R.rows hp]
        dsimp only
        refine wpAny_bind (wpAny_holding (wpAny_eqBool_tuple hu (R.tup p hmem) hx ?_))
        refine wpAny_bind (wpAny_setState_of ho hd R.fits ?_)
        dsimp only
        by_cases hkk : p.2 = k
        · exact wp_if_pos (by simp [hkk]) (wpAny_pure (hin (List.mem_map.mpr ⟨p, hmem, hkk⟩)))
        · refine wp_if_neg (by simp [hkk]) ?_
          try refine wpAny_bind (wpAny_pure ?_)
          rw [sameMem]
          dsimp only
          have hsl : t.slot (on t.mask (thK P w k) (c + q)) = .live i := slot_live R.tab.up hi
          simp only [if_true, hsl, lines_at R.rows hp]
          refine wpAny_bind (wpAny_isSame_ref_self (wpAny_bind (wpAny_pure ?_)))
          simp only [if_true]
          refine wp_if_neg (by simp [hkk]) ?_
          refine k_search R hx hu hnf hn hb hin hout f (c + (q + 1)) _ rfl (by omega) (by omega) fun i0 p0 h0 hk0 => ?_
          obtain ⟨c', a1, a2, a3⟩ := hre i0 p0 h0 hk0
          refine ⟨c', ?_, a2, a3⟩
          rcases Nat.lt_trichotomy c' (c + q) with z | z | z
          · refine absurd ((hashAt i0 p0 h0).trans (congrArg (thK P w) hk0)) (hno (c' - c) i0 (by omega) ?_)
            rw [e1, show c + (c' - c) = c' by omega]
            exact a3
          · rw [z] at a3
            have s0 := slot_live R.tab.up a3
            rw [hsl] at s0
            injection s0 with s0
            rw [← s0, hp] at h0
            exact absurd ((congrArg Prod.snd (Option.some.inj h0)).trans hk0) hkk
          · omega
      by_cases hl : t.led = true
      · refine wp_if_neg (by simp [hl]) ?_
        try refine wpAny_bind (wpAny_pure ?_)
        exact rest
      · refine wp_if_pos (by simp [hl]) ?_
        refine wpAny_bind (k_seen hx (fun y hy => ?_) ?_)
        · obtain ⟨e, he, ee⟩ := List.mem_map.mp hy
          have he1 : e ∈ es ∧ e.1 = thK P w k := by simpa using he
          have he2 : e ∈ es.toList := by simpa using he1.1
          rw [R.rows] at he2
          obtain ⟨p2, hp2, e2⟩ := List.mem_map.mp he2
          exact ⟨p2.2, p2.1, by rw [← ee, ← e2], R.tup p2 hp2⟩
        · refine wp_if_neg (by decide) ?_
          try refine wpAny_bind (wpAny_pure ?_)
          exact rest
    · have hpr' : t.probe (fun i => (es[i]?.map (·.1)).getD 0) (thK P w k) (stand.getD (t.probeStart (thK P w k))) = some (.empty (on t.mask (thK P w k) n) none) := by
        have e2 := e1 (n - c)
        rw [cn] at e2
        rw [hst, ← e2]
        exact hpr
      rw [hpr']
      dsimp only
      refine wpAny_pure (hout fun hm => ?_)
      obtain ⟨p0, h0, hk0⟩ := List.mem_map.mp hm
      obtain ⟨i0, h00⟩ := List.getElem?_of_mem h0
      obtain ⟨c', a1, a2, a3⟩ := hre i0 p0 h00 hk0
      refine hno (c' - c) i0 (by omega) (by rw [e1, show c + (c' - c) = c' by omega]; exact a3) ?_
      exact (hashAt i0 p0 h00).trans (congrArg (thK P w) hk0)
theorem k_search0 (R : SetK P w s.heap a L es ep t) {x : Addr} {k : List Key} (hx : IsK P w s.heap k x) (hu : A.units < cLine) {Q : SetFound → Shared → Prop}
    (hin : k ∈ L.map (·.2) → Q (.there none) s)
    (hout : ∀ n, k ∉ L.map (·.2) → on t.mask (thK P w k) n ∉ t.place.toList → (∀ c, c < n → on t.mask (thK P w k) c ∈ t.place.toList) → Q (.free (on t.mask (thK P w k) n) false) s) :
    wpAny (model P w) A (setSearch a (.ref x) (thK P w k) true) Q E s := by
  have hroom := R.room
  obtain ⟨n, hnf, hn, hb⟩ := R.tab.empty (by rw [List.length_map]; omega) (thK P w k)
  have hbig : n < 100000 := by
    have h1 := R.tab.msk.top
    have h2 : SetTable.turns t.mask ≤ t.mask + 100 := by unfold SetTable.turns; omega
    omega
  unfold setSearch
  refine k_search R hx hu hnf hn hb hin (fun z => hout n z hn hb) 100000 0 none rfl (Nat.zero_le _) (by omega) fun i p hp hk => ?_
  have hi : (L.map fun p => thK P w p.2)[i]? = some (thK P w k) := by
    rw [List.getElem?_map, hp, ← hk]
    rfl
  have hil : i < t.place.toList.length := by
    have h1 := (List.getElem?_eq_some_iff.mp hp).1
    have h2 := R.tab.plen
    rw [List.length_map] at h2
    omega
  have hj := List.getElem?_eq_getElem hil
  obtain ⟨c, hc, e⟩ := R.tab.ahead hn hi hj
  exact ⟨c, Nat.zero_le _, hc, by rw [hj, e]⟩
theorem k_other {h h' : Heap} {k : List Key} {a b : Addr} {o : Obj} {es : Array (Int × Value)} {ep : Nat} {t : SetTable} (hb : IsK P w h k b) (ho : h.get? a = some o) (hd : o.data = .set es ep t) (hs : Heap.SameBut a h h') : IsK P w h' k b := by
  obtain ⟨o', items, n, ho', hc, hd', hi⟩ := hb
  refine ⟨o', items, n, (hs.2 b fun z => ?_).trans ho', hc, hd', hi⟩
  subst z
  obtain rfl : o' = o := Option.some.inj (ho'.symm.trans ho)
  rw [hd] at hd'
  exact nomatch hd'
theorem k_keep {h h' : Heap} {k : List Key} {b : Addr} (x : IsK P w h k b) (hk : ∀ c o, h.get? c = some o → h'.get? c = some o) : IsK P w h' k b := by
  obtain ⟨o, items, n, ho, r⟩ := x
  exact ⟨o, items, n, hk b o ho, r⟩
/-- the rows in another order -/
theorem lines_order {L : List Mem} {es : Array (Int × Value)} (order : Array Nat) (hr : es.toList = lines P w L) (hp : order.toList.Perm (List.range L.length)) :
    ∃ L2, (order.filterMap (es[·]?)).toList = lines P w L2 ∧ L2.Perm L ∧ (L2.map fun p => thK P w p.2) = order.toList.map fun i => (es.map (·.1)).getD i 0 := by
  have hsz := lines_len hr
  have key : ∀ l : List Nat, (∀ i ∈ l, i < L.length) → l.filterMap (fun i => es[i]?) = lines P w (l.filterMap fun i => L[i]?) ∧ ((l.filterMap fun i => L[i]?).map fun p => thK P w p.2) = l.map fun i => (es.map (·.1)).getD i 0 := by
    intro l
    induction l with
    | nil => intro _; exact ⟨rfl, rfl⟩
    | cons i l ih =>
      intro hl
      have hi := hl i List.mem_cons_self
      obtain ⟨e1, e3⟩ := ih fun j hj => hl j (List.mem_cons_of_mem _ hj)
      have hg : L[i]? = some L[i] := List.getElem?_eq_getElem hi
      rw [List.filterMap_cons_some (lines_at hr hg), List.filterMap_cons_some hg, e1, List.map_cons, List.map_cons, e3]
      have e5 : (es.map (·.1))[i]? = some (thK P w (L[i]).2) := by
        rw [Array.getElem?_map, lines_at hr hg]
        rfl
      have e4 : (es.map (·.1)).getD i 0 = thK P w (L[i]).2 := by simp [Array.getD_eq_getD_getElem?, e5]
      rw [e4]
      exact ⟨rfl, rfl⟩
  obtain ⟨e1, e3⟩ := key order.toList fun i hi => List.mem_range.mp (hp.mem_iff.mp hi)
  refine ⟨_, by first | (rw [Array.toList_filterMap]; exact e1) | simpa using e1, ?_, e3⟩
  have h1 := hp.filterMap fun i => L[i]?
  have h2 : (List.range L.length).filterMap (fun i => L[i]?) = L := by
    have key2 : ∀ n, n ≤ L.length → (List.range n).filterMap (fun i => L[i]?) = L.take n := by
      intro n
      induction n with
      | zero => intro _; rfl
      | succ n ih =>
        intro hn
        have hg : L[n]? = some L[n] := List.getElem?_eq_getElem hn
        rw [List.range_succ, List.filterMap_append, ih (Nat.le_of_lt hn), List.take_succ, hg, List.filterMap_cons_some hg]
        rfl
    rw [key2 L.length (Nat.le_refl _), List.take_length]
  rw [h2] at h1
  exact h1
/-- laid anew, larger -/
theorem k_relay {o : Obj} (ho : s.heap.get? a = some o) (hex : o.ExactSet) (hd : o.data = .set es ep t) (hrows : es.toList = lines P w L) (hsz : t.place.size = es.size) (hdm : t.dummies = #[]) (hfl : es.size ≤ t.mask)
    (nd : (L.map (·.2)).Nodup) (tup : ∀ p ∈ L, IsK P w s.heap p.2 p.1) (ld : w.params.followText "set-order" = true ∨ t.led = true) {wanted m : Nat}
    (hw : SetTable.sizeAbove wanted - 1 = m) (M : Msk m) (sm : m = 7 ∨ m = 31 ∨ m = 127 ∨ m = 511) (hn : L.length * 5 < m * 3) {Q : Unit → Shared → Prop}
    (hQ : ∀ h' L' es' ep' t', Heap.SameBut a s.heap h' → SetK P w h' a L' es' ep' t' → L'.Perm L → Q () { s with heap := h' }) : wpAny (model P w) A (setRelay a wanted) Q E s := by
  have hsl := lines_len hrows
  have hbig : (1000 : Nat) ≤ sizeLine := by rw [sizeLine_eq]; decide
  have htop := M.top
  obtain ⟨t', order, e, hp, T, em, el, ep'⟩ := relay_ok t (hs := es.map (·.1)) (wanted := wanted) hw M (by rw [Array.size_map, hsl]; omega)
  rw [Array.size_map, hsl] at hp
  obtain ⟨L2, r1, r2, r3⟩ := lines_order order hrows hp
  rw [← r3] at T
  have hs2 : (order.filterMap (es[·]?)).size = es.size := by rw [lines_len r1, r2.length_eq, hsl]
  rw [setRelay_eq]
  refine wpAny_bind (wpAny_setState_of ho hd (fits_of hsz hdm hfl) ?_)
  dsimp only
  refine wp_if_neg (by omega) ?_
  try refine wpAny_bind (wpAny_pure ?_)
  rw [e]
  dsimp only
  refine wpAny_bind ?_
  refine wp_if_neg (by rw [hs2]; simp) ?_
  try refine wpAny_bind (wpAny_pure ?_)
  refine wpAny_pure ?_
  dsimp only
  refine wpAny_storeSet_of ho hd ?_ (by rw [hs2, hsl]; omega)
  have sb : Heap.SameBut a s.heap (s.heap.update a (Obj.putSet (order.filterMap (es[·]?)) t')) := Heap.SameBut.update ..
  refine hQ _ L2 (order.filterMap (es[·]?)) (ep + 1) t' sb ⟨⟨_, store_at ho hd, ⟨hex.1, hex.2.1, hex.2.2⟩, rfl⟩, r1, T, (r2.map (·.2)).nodup_iff.mpr nd, fun p hpm => k_other (tup p (r2.mem_iff.mp hpm)) ho hd sb, by rw [el]; exact ld, by rw [r2.length_eq, em]; exact hn, by rw [em]; exact sm⟩ r2
/-- one more put in -/
theorem k_add (R : SetK P w s.heap a L es ep t) {x : Addr} {k : List Key} (hx : IsK P w s.heap k x) (hu : A.units < cLine) (hfew : L.length < 200) {Q : Bool → Shared → Prop}
    (hQ : ∀ b h' L' es' ep' t', Heap.SameBut a s.heap h' → SetK P w h' a L' es' ep' t' → (k ∈ L.map (·.2) → L' = L) → (k ∉ L.map (·.2) → L'.Perm ((x, k) :: L)) → Q b { s with heap := h' }) :
    wpAny (model P w) A (setAddHashed a (.ref x) (thK P w k)) Q E s := by
  obtain ⟨o, ho, hex, hd⟩ := R.ob
  have hsl := lines_len R.rows
  have hroom := R.room
  have hbig : (1000 : Nat) ≤ sizeLine := by rw [sizeLine_eq]; decide
  unfold setAddHashed
  refine wpAny_holding ?_
  rw [show (100000 : Nat) = 99999 + 1 from rfl, setAddHashedIn_succ]
  refine wpAny_bind (wpAny_setState_of ho hd R.fits ?_)
  dsimp only
  refine wp_if_neg (by simp [byScan, Value.scannable]) ?_
  try refine wpAny_bind (wpAny_pure ?_)
  refine wpAny_bind (k_search0 R hx hu (fun hm => ?_) fun n hm hn hb => ?_)
  · dsimp only
    exact wpAny_pure (hQ false s.heap L es ep t (Heap.SameBut.refl a s.heap) R (fun _ => rfl) fun z => absurd hm z)
  · dsimp only
    refine wpAny_bind (wpAny_setState_of ho hd R.fits ?_)
    dsimp only
    obtain ⟨q1, q2, q3, q4, q5, q6, q7⟩ := R.tab.more hn hb
    generalize t.put (on t.mask (thK P w k) n) = pt at q1 q3 q4 q5 q6 q7 ⊢
    obtain ⟨t1, p⟩ := pt
    dsimp only at q1 q3 q4 q5 q6 q7 ⊢
    subst q1
    have any : ∀ (cont : Bool → Sem Bool), (∀ b, wpAny (model P w) A (cont b) Q E s) → wpAny (model P w) A (if t1.plain = true then hashByValue 8 (.ref x) >>= cont else (pure true : Sem Bool) >>= cont) Q E s := fun cont h => by
      by_cases c : t1.plain = true
      · exact wp_if_pos c (wpAny_bind (k_hash hx h))
      · exact wp_if_neg c (wpAny_bind (wpAny_pure (h true)))
    refine any _ fun bv => ?_
    have tb : ∃ t2 : SetTable, (if bv = true then t1 else { t1 with plain := false }) = t2 ∧ TabK t2 ((L.map fun p => thK P w p.2).take (SetTable.below t.place (on t.mask (thK P w k) n)) ++ thK P w k :: (L.map fun p => thK P w p.2).drop (SetTable.below t.place (on t.mask (thK P w k) n))) ∧ t2.mask = t.mask ∧ t2.led = t.led ∧ t2.fill = L.length + 1 := by
      rw [List.length_map] at q7
      cases bv with
      | true => exact ⟨t1, rfl, q3, q4, q5, q7⟩
      | false => exact ⟨{ t1 with plain := false }, rfl, ⟨q3.up, q3.dm, q3.sz, q3.msk, q3.bd, q3.find⟩, q4, q5, q7⟩
    clear q3 q4 q5 q7
    obtain ⟨t2, et2, q3, q4, q5, q7⟩ := tb
    rw [et2]
    clear et2 q6 any
    have hin : (SetTable.insertAt es (SetTable.below t.place (on t.mask (thK P w k) n)) (thK P w k, Value.ref x)).toList = lines P w (L.take (SetTable.below t.place (on t.mask (thK P w k) n)) ++ (x, k) :: L.drop (SetTable.below t.place (on t.mask (thK P w k) n))) := by
      rw [SetTable.toList_insertAt, R.rows]
      unfold lines
      rw [List.map_append, List.map_cons, List.map_take, List.map_drop]
    generalize SetTable.below t.place (on t.mask (thK P w k) n) = p at q2 q3 hin ⊢
    have pm : (L.take p ++ (x, k) :: L.drop p).Perm ((x, k) :: L) := by
      have h := List.perm_middle (a := (x, k)) (l₁ := L.take p) (l₂ := L.drop p)
      rw [List.take_append_drop] at h
      exact h
    have hlen : (L.take p ++ (x, k) :: L.drop p).length = L.length + 1 := pm.length_eq
    have hhs : (L.take p ++ (x, k) :: L.drop p).map (fun p => thK P w p.2) = (L.map fun p => thK P w p.2).take p ++ thK P w k :: (L.map fun p => thK P w p.2).drop p := by
      rw [List.map_append, List.map_cons, List.map_take, List.map_drop]
    rw [← hhs] at q3
    have nd1 : ((L.take p ++ (x, k) :: L.drop p).map (·.2)).Nodup := (pm.map (·.2)).nodup_iff.mpr (by rw [List.map_cons]; exact List.nodup_cons.mpr ⟨hm, R.nd⟩)
    have hes : (SetTable.insertAt es p (thK P w k, Value.ref x)).size = L.length + 1 := by rw [lines_len hin, hlen]
    generalize SetTable.insertAt es p (thK P w k, Value.ref x) = es1 at hin hes ⊢
    generalize L.take p ++ (x, k) :: L.drop p = L1 at pm hlen q3 nd1 hin
    refine wpAny_bind (wpAny_storeSet_of ho hd ?_ (by rw [hes]; omega))
    have sb : Heap.SameBut a s.heap (s.heap.update a (Obj.putSet es1 t2)) := Heap.SameBut.update ..
    have ho1 := store_at (es' := es1) (t' := t2) ho hd
    generalize s.heap.update a (Obj.putSet es1 t2) = h1 at sb ho1 ⊢
    have tup1 : ∀ p ∈ L1, IsK P w h1 p.2 p.1 := fun p hp => by
      rcases List.mem_cons.mp (pm.mem_iff.mp hp) with e | hp
      · rw [e]; exact k_other hx ho hd sb
      · exact k_other (R.tup p hp) ho hd sb
    have ld1 : w.params.followText "set-order" = true ∨ t2.led = true := by rw [q5]; exact R.led
    have full : t2.tooFull = true ↔ t2.mask * 3 ≤ (L.length + 1) * 5 := by
      unfold SetTable.tooFull
      rw [decide_eq_true_eq, q7]
    by_cases hf : t2.tooFull = true
    · first
        | (refine wpAny_bind ?_; refine wp_if_pos (by simp [hf]) ?_)
        | (refine wp_if_pos (by simp [hf]) ?_; refine wpAny_bind ?_)
      have hfull := full.mp hf
      rw [hsl]
      have hsz1 : t2.place.size = es1.size := by
        have h := q3.sz
        rw [List.length_map, hlen] at h
        rw [h, hes]
      have go : ∀ m, SetTable.sizeAbove (SetTable.grown (L.length + 1)) - 1 = m → Msk m → (m = 7 ∨ m = 31 ∨ m = 127 ∨ m = 511) → (L.length + 1) * 5 < m * 3 →
          wpAny (model P w) A (setRelay a (SetTable.grown (L.length + 1))) (fun _ s' => wpAny (model P w) A (pure true) Q E s') E { s with heap := h1 } := fun m h1' M sm h4' => by
        refine k_relay (s := { s with heap := h1 }) ho1 ⟨hex.1, hex.2.1, hex.2.2⟩ rfl hin hsz1 q3.dm (by rw [hes, q4]; omega) nd1 tup1 ld1 h1' M sm (by rw [hlen]; exact h4') ?_
        intro h2 L2 es2 ep2 t3 sb2 R2 pm2
        exact wpAny_pure (hQ true h2 L2 es2 ep2 t3 (sb.trans sb2) R2 (fun z => absurd z hm) fun _ => pm2.trans pm)
      have top := q3.msk.top
      have few : (t.mask = 7 ∧ L.length = 4) ∨ (t.mask = 31 ∧ L.length = 18) ∨ (t.mask = 127 ∧ L.length = 76) := by
        rw [q4] at hfull
        rcases R.small with e | e | e | e <;> rw [e] at hfull hroom <;> omega
      rcases few with ⟨_, e2⟩ | ⟨_, e2⟩ | ⟨_, e2⟩
      · exact go 31 (by rw [e2, size_20]) msk31 (.inr (.inl rfl)) (by omega)
      · exact go 127 (by rw [e2, size_76]) msk127 (.inr (.inr (.inl rfl))) (by omega)
      · exact go 511 (by rw [e2, size_308]) msk511 (.inr (.inr (.inr rfl))) (by omega)
    · first
        | refine wp_if_neg (by simp [hf]) ?_
        | (refine wpAny_bind ?_; refine wp_if_neg (by simp [hf]) ?_; refine wpAny_pure ?_)
      refine wpAny_pure (hQ true h1 L1 es1 (ep + 1) t2 sb ⟨⟨_, ho1, ⟨hex.1, hex.2.1, hex.2.2⟩, rfl⟩, hin, q3, nd1, tup1, ld1, by rw [hlen]; exact Nat.lt_of_not_le fun z => hf (full.mpr z), by rw [q4]; exact R.small⟩ (fun z => absurd z hm) fun _ => pm)
end
end Rt
end
section
set_option maxHeartbeats 4000000
/-! KerU: set(a list or a tuple of tuples). -/
namespace Rt
open PySem PySem.Spec PyProof.Rows L2
/-- what the set has of the first i -/
structure Taken (ks : List Mem) (i : Nat) (L : List Mem) : Prop where
  sub : ∀ p ∈ L, p ∈ ks.take i
  all : ∀ p ∈ ks.take i, p.2 ∈ L.map (·.2)
  len : L.length ≤ i
theorem Taken.next {ks L L' : List Mem} {i : Nat} {x : Mem} (g : Taken ks i L) (h : ks[i]? = some x) (c1 : x.2 ∈ L.map (·.2) → L' = L) (c2 : x.2 ∉ L.map (·.2) → L'.Perm (x :: L)) : Taken ks (i + 1) L' := by
  have tk : ks.take (i + 1) = ks.take i ++ [x] := by
    rw [List.take_succ, h]
    rfl
  by_cases c : x.2 ∈ L.map (·.2)
  · rw [c1 c]
    refine ⟨fun p hp => by rw [tk]; exact List.mem_append_left _ (g.sub p hp), fun p hp => ?_, Nat.le_succ_of_le g.len⟩
    rw [tk] at hp
    rcases List.mem_append.mp hp with z | z
    · exact g.all p z
    · rw [List.mem_singleton.mp z]; exact c
  · have pm := c2 c
    refine ⟨fun p hp => ?_, fun p hp => ?_, by rw [pm.length_eq, List.length_cons]; exact Nat.succ_le_succ g.len⟩
    · rw [tk]
      rcases List.mem_cons.mp (pm.mem_iff.mp hp) with e | z
      · rw [e]; exact List.mem_append_right _ (List.mem_singleton.mpr rfl)
      · exact List.mem_append_left _ (g.sub p z)
    · rw [(pm.map (·.2)).mem_iff, List.map_cons]
      rw [tk] at hp
      rcases List.mem_append.mp hp with z | z
      · exact List.mem_cons_of_mem _ (g.all p z)
      · rw [List.mem_singleton.mp z]; exact List.mem_cons_self
section
variable {P : Program} {w : World} {A : Around} {E : Value → Shared → Prop} {s : Shared}
theorem SetK.keep {h h' : Heap} {a : Addr} {L : List Mem} {es : Array (Int × Value)} {ep : Nat} {t : SetTable} (R : SetK P w h a L es ep t) (ha : ∀ o, h.get? a = some o → h'.get? a = some o) (ht : ∀ p ∈ L, IsK P w h' p.2 p.1) : SetK P w h' a L es ep t := by
  obtain ⟨o, ho, r⟩ := R.ob
  exact ⟨⟨o, ha o ho, r⟩, R.rows, R.tab, R.nd, ht, R.led, R.room, R.small⟩
/-- the table of a new set -/
abbrev tab0 (w : World) : SetTable := .fresh 0 0 (!w.params.followText "set-order")
abbrev set0 (w : World) : Obj := { cls := .type "set", dict := none, data := .set #[] 0 (tab0 w) }
theorem set0_ok {h : Heap} {a : Addr} (ho : h.get? a = some (set0 w)) : SetK P w h a [] #[] 0 (tab0 w) where
  ob := ⟨_, ho, ⟨rfl, rfl, rfl⟩, rfl⟩
  rows := rfl
  tab := ⟨List.Pairwise.nil, rfl, rfl, msk7, fun x hx => (by cases hx), fun i h j hi => (by simp at hi)⟩
  nd := List.nodup_nil
  tup := fun p hp => (by cases hp)
  led := by
    show _ ∨ (!w.params.followText "set-order") = true
    cases w.params.followText "set-order"
    · exact .inr rfl
    · exact .inl rfl
  room := by
    show 0 * 5 < 7 * 3
    decide
  small := .inl rfl
/-- the loop that takes them in -/
theorem k_update {I : Addr} {fp wr : List Addr} {G : Array GenState → Array GenState → Prop} {n : Nat} {Pv : Nat → Value → Prop} {St : Nat → Shared → Prop} {R : Result → Shared → Prop}
    (W : WalksS P w A.in1 I fp wr G n Pv St) (S : Addr) (hSf : S ∉ fp) (ks : List Mem) (hn : n = ks.length) (hfew : ks.length ≤ 200) (hval : ∀ i v, Pv i v → ∃ p, ks[i]? = some p ∧ v = .ref p.1)
    (h0 : Heap) (hk : ∀ p ∈ ks, IsK P w h0 p.2 p.1) (hS0 : h0.get? S = none) (hw0 : ∀ b ∈ wr, h0.get? b = none) (hu : A.in1.units < cLine) :
    ∀ (k i : Nat) (s : Shared), n - i = k → i ≤ n → St i s → (∀ b o, h0.get? b = some o → s.heap.get? b = some o) → (∃ L es ep t, SetK P w s.heap S L es ep t ∧ Taken ks i L) →
      (∀ s' L es ep t, Moved (S :: wr) G s s' → SetK P w s'.heap S L es ep t → Taken ks n L → (∀ b o, h0.get? b = some o → s'.heap.get? b = some o) → R (.ok (.ret .none)) s') →
      codeAny (model P w) A (.builtin "set.update.loop" ⟨[.ref S, .ref I], []⟩) R s := by
  have hSw : S ∉ wr := fun h => hSf (W.sub _ h)
  have hsub : ∀ b ∈ wr, b ∈ S :: wr := fun b hb => List.mem_cons_of_mem _ hb
  have keepM : ∀ {s s' : Shared}, Moved wr G s s' → (∀ b o, h0.get? b = some o → s.heap.get? b = some o) → ∀ b o, h0.get? b = some o → s'.heap.get? b = some o := fun hm hkp b o e =>
    hm.heap b o (fun hb => by rw [hw0 b hb] at e; cases e) (hkp b o e)
  intro k
  induction k with
  | zero =>
    intro i s hk' hi hst hkp ⟨L, es, ep, t, hS, g⟩ hR
    obtain rfl : i = n := by omega
    refine codeAny_builtin F.entry_set_update_loop ?_
    rw [Around.under_plainId F.plain_set_update_loop _]
    show wpAny _ A.in1 (pyNext (.ref I) >>= _) _ _ s
    refine wpAny_bind (W.done s _ _ hst fun s' hm => ?_)
    show wpAny _ A.in1 (ret Value.none) _ _ s'
    have hkp' := keepM hm hkp
    exact wpAny_pure (hR s' L es ep t (hm.mono hsub) (hS.keep (fun o e => hm.heap S o hSw e) fun p hp => k_keep (hk p (List.mem_of_mem_take (g.sub p hp))) hkp') g hkp')
  | succ k ih =>
    intro i s hk' hi hst hkp ⟨L, es, ep, t, hS, g⟩ hR
    have hlt : i < n := by omega
    refine codeAny_builtin F.entry_set_update_loop ?_
    rw [Around.under_plainId F.plain_set_update_loop _]
    show wpAny _ A.in1 (pyNext (.ref I) >>= _) _ _ s
    refine wpAny_bind (W.item i s _ _ hlt hst fun v s' hP hst' hm => ?_)
    obtain ⟨p, hp, rfl⟩ := hval i v hP
    have hkp' := keepM hm hkp
    have hS' : SetK P w s'.heap S L es ep t := hS.keep (fun o e => hm.heap S o hSw e) fun q hq => k_keep (hk q (List.mem_of_mem_take (g.sub q hq))) hkp'
    have hx : IsK P w s'.heap p.2 p.1 := k_keep (hk p (List.mem_of_getElem? hp)) hkp'
    show wpAny _ A.in1 (holding [Value.ref p.1] (setAdd S (.ref p.1)) >>= _) _ _ s'
    refine wpAny_bind (wpAny_holding ?_)
    unfold setAdd
    refine wpAny_holding ?_
    refine wpAny_bind (wpAny_pyHash_tuple hu hx ?_)
    refine k_add (s := { s' with toks := s'.toks + (p.2.length + 1) }) hS' hx hu (by have := g.len; omega) fun b h' L' es' ep' t' hsb hS2 c1 c2 => ?_
    have hkp2 : ∀ b o, h0.get? b = some o → h'.get? b = some o := fun b o e => (hsb.2 b (fun z => by rw [z, hS0] at e; cases e)).trans (hkp' b o e)
    refine wpAny_pure ⟨plainId_quiet F.plain_set_update_loop _, ih (i + 1) _ (by omega) hlt (W.frame _ s' _ _ hst' (Nat.le_add_right _ _) fun b hb o e => ?_) hkp2 ⟨L', es', ep', t', hS2, g.next hp c1 c2⟩ fun s'' L2 es2 ep2 t2 hm'' hS'' g'' hkp'' => ?_⟩
    · rw [hsb.2 b (fun h : b = S => hSf (by rw [← h]; exact hb))]; exact e
    · refine hR s'' L2 es2 ep2 t2 (Moved.trans W.gtrans ((hm.mono hsub).then_heap (Nat.le_add_right _ _) fun b o hb e => ?_) hm'') hS'' g'' hkp''
      rw [hsb.2 b (fun h : b = S => hb (by rw [h]; exact List.mem_cons_self))]; exact e
/-- the body of set(..) behind the iterator, whatever is walked -/
theorem k_taken {l : Addr} {items : Array Value} {ks : List Mem} {St : Nat → Heap → Prop} {oI : Obj} {R : Result → Shared → Prop} (hlt : l < s.heap.objs.size) (hit : items.toList = ks.map fun p => Value.ref p.1) (hk : ∀ p ∈ ks, IsK P w s.heap p.2 p.1) (hfew : ks.length ≤ 200) (hu : A.in1.units < cLine)
    (W : Walks P w A.in1 (s.heap.push (set0 w)).objs.size [(s.heap.push (set0 w)).objs.size, l] [(s.heap.push (set0 w)).objs.size] items.size (fun i v => items[i]? = some v) St)
    (hst : St 0 ((s.heap.push (set0 w)).push oI))
    (hR : ∀ h' tk L es ep t, SetK P w h' s.heap.objs.size L es ep t → Taken ks ks.length L → (∀ b o, s.heap.get? b = some o → h'.get? b = some o) → R (.ok (.ret .none)) { s with heap := h', toks := tk }) :
    codeAny (model P w) A (.builtin "set.update.loop" ⟨[.ref s.heap.objs.size, .ref (s.heap.push (set0 w)).objs.size], []⟩) R { s with heap := (s.heap.push (set0 w)).push oI } := by
  have hisz : items.size = ks.length := by
    have q := congrArg List.length hit
    rw [Array.length_toList, List.length_map] at q
    exact q
  have hS : (s.heap.push (set0 w)).get? s.heap.objs.size = some (set0 w) := Heap.get?_push_size _ rfl
  have hSf : s.heap.objs.size ∉ [(s.heap.push (set0 w)).objs.size, l] := by
    rw [Heap.size_push]
    simp only [List.mem_cons, List.mem_singleton, List.not_mem_nil, or_false, not_or]
    exact ⟨Nat.ne_of_lt (Nat.lt_succ_self _), Nat.ne_of_gt hlt⟩
  have hval : ∀ (i : Nat) (v : Value), items[i]? = some v → ∃ p, ks[i]? = some p ∧ v = .ref p.1 := fun i v hv => by
    have q : items.toList[i]? = some v := by rw [Array.getElem?_toList]; exact hv
    rw [hit, List.getElem?_map] at q
    cases hq : ks[i]? with
    | none => rw [hq] at q; cases q
    | some p =>
      rw [hq] at q
      exact ⟨p, rfl, (Option.some.inj q).symm⟩
  have none_of : ∀ b, s.heap.objs.size ≤ b → s.heap.get? b = none := fun b hb => by
    cases q : s.heap.get? b with
    | none => rfl
    | some o => exact absurd (Nat.lt_of_lt_of_le (Heap.lt_size q) hb) (Nat.lt_irrefl _)
  refine k_update W.toS s.heap.objs.size hSf ks hisz hfew hval s.heap hk (none_of _ (Nat.le_refl _)) (fun b hb => none_of b (by
    rw [List.mem_singleton.mp hb, Heap.size_push]
    exact Nat.le_succ _)) hu (items.size - 0) 0 _ (by omega) (Nat.zero_le _) hst (fun b o e => Heap.get?_push_of_some _ (Heap.get?_push_of_some _ e)) ?_ ?_
  · exact ⟨[], #[], 0, _, set0_ok (Heap.get?_push_of_some _ hS), ⟨fun p h => (by cases h), fun p h => (by simp at h), Nat.le_refl _⟩⟩
  · intro s' L es ep t hm hS' g' hkp
    obtain ⟨h', g2, d', tk', os'⟩ := s'
    have eg : g2 = s.gens := hm.gens
    have ed : d' = s.drawn := hm.drawn
    have eo : os' = s.os := hm.os
    subst eg; subst ed; subst eo
    rw [hisz] at g'
    exact hR h' tk' L es ep t hS' g' hkp
set_option maxRecDepth 100000 in
set_option maxHeartbeats 3200000 in
/-- set(xs), xs a list or a tuple -/
theorem k_set {l : Addr} {items : Array Value} (ks : List Mem) {Q : Value → Shared → Prop} (hh : A.handled = none) (hl : s.heap.IsList l items ∨ s.heap.IsTuple l items) (hit : items.toList = ks.map fun p => Value.ref p.1)
    (hk : ∀ p ∈ ks, IsK P w s.heap p.2 p.1) (hfew : ks.length ≤ 200) (hu : A.units + 3 < cLine)
    (h : ∀ (h' : Heap) (tk : Nat) L es ep t, SetK P w h' s.heap.objs.size L es ep t → Taken ks ks.length L → (∀ b o, s.heap.get? b = some o → h'.get? b = some o) → Q (.ref s.heap.objs.size) { s with heap := h', toks := tk }) :
    wpAny (model P w) A (call (.type "set") [.ref l]) Q E s := by
  obtain ⟨c, tl, hmro⟩ := F.called_set.mro
  have hmade := F.called_set.made
  have hsub := F.called_set.sub
  refine wpAny_call (codeAny_of_tree ?_)
  show wpAny _ _ (callAny (.type "set") _) _ _ _
  refine wpAny_pure ⟨Code.quiet_builtin _ (by decide +kernel), codeAny_builtin F.entry_type_call ?_⟩
  rw [Around.under_plain (weight_type_call_type "set" [.ref l] []) rfl]
  have h1 := F.called_set.notType
  have h2 := F.called_set.canCreate
  have hct := F.typeCall_set_1 (.ref l)
  repeat (any_goals (first | assumption | wp_step))
  refine codeAny_mono (code_set_led1 (.ref l) (E := E) (Q₁ := fun obj s₁ => obj = .ref s.heap.objs.size ∧ s₁ = { s with heap := s.heap.push (set0 w) }) ⟨rfl, rfl⟩) fun r s₁ hr => ?_
  cases r with
  | error e => exact hr
  | ok fl =>
    cases fl with
    | ret obj =>
      obtain ⟨rfl, rfl⟩ := hr
      have hS : (s.heap.push (set0 w)).get? s.heap.objs.size = some (set0 w) := Heap.get?_push_size _ rfl
      have hT : Shared.TypeIs { s with heap := s.heap.push (set0 w) } (.ref s.heap.objs.size) "set" := ⟨_, hS, rfl⟩
      have hli := F.called_set.init.lookup
      have hbi := F.called_set.init.bind (.ref s.heap.objs.size)
      repeat (any_goals (first | assumption | wp_step))
      refine codeAny_mono (codeAny_call_builtin (R := wants (fun r s₂ => r = .none ∧ ∃ h' tk L es ep t, s₂ = { s with heap := h', toks := tk } ∧ SetK P w h' s.heap.objs.size L es ep t ∧ Taken ks ks.length L ∧
          (∀ b o, s.heap.get? b = some o → h'.get? b = some o)) E) F.called_set.init.plain F.entry_set_init (check_set_init_1 hT ?_)) fun r₂ s₂ hr₂ => ?_
      · have hh3 : A.in1.in1.in1.handled = none := by simp [hh]
        rcases hl with hl | hl
        · obtain ⟨ol, hol, hcl, nl, hdl⟩ := hl
          obtain ⟨ocls, odict, odata, oslots⟩ := ol
          simp only at hcl hdl
          subst hcl; subst hdl
          have hlS : l < s.heap.objs.size := Heap.lt_size hol
          have hol' : (s.heap.push (set0 w)).get? l = some { cls := .type "list", dict := odict, data := .seq items nl, slots := oslots } := Heap.get?_push_of_some _ hol
          have hsls := F.sub_list_set
          have hslf := F.sub_list_frozenset
          have hne : (Value.type "list" == Value.type "dict") = false := by decide
          have hl1 : (s.heap.push (set0 w)).IsList l items := ⟨_, hol', rfl, nl, rfl⟩
          unfold Builtin.«set.__init__» noKeywords Builtin.Frozenset.updateFrom
          generalize hPI : pyIter = PI
          wp_walk
          subst hPI
          refine wpAny_pyIter_list hl1 ?_
          refine wpAny_bind (wpAny_runValue ?_)
          have hneI : l ≠ (s.heap.push (set0 w)).objs.size := by rw [Heap.size_push]; exact Nat.ne_of_lt (Nat.lt_succ_of_lt hlS)
          refine k_taken hlS hit hk hfew hu (Walks.list hh3 _ l hneI items) ⟨⟨_, Heap.get?_push_size _ rfl, rfl, rfl⟩, (hl1.push _)⟩ fun h' tk L es ep t hS' g' hkp => ?_
          refine wpAny_pure ?_
          show wpAny _ _ (ret Value.none) _ _ _
          exact wpAny_pure ⟨rfl, h', tk, L, es, ep, t, rfl, hS', g', hkp⟩
        · obtain ⟨ol, hol, hcl, nl, hdl⟩ := hl
          obtain ⟨ocls, odict, odata, oslots⟩ := ol
          simp only at hcl hdl
          subst hcl; subst hdl
          have hlS : l < s.heap.objs.size := Heap.lt_size hol
          have hol' : (s.heap.push (set0 w)).get? l = some { cls := .type "tuple", dict := odict, data := .seq items nl, slots := oslots } := Heap.get?_push_of_some _ hol
          have hsls := F.sub_tuple_set
          have hslf := F.sub_tuple_frozenset
          have hne : (Value.type "tuple" == Value.type "dict") = false := by decide
          have hl1 : (s.heap.push (set0 w)).IsTuple l items := ⟨_, hol', rfl, nl, rfl⟩
          unfold Builtin.«set.__init__» noKeywords Builtin.Frozenset.updateFrom
          generalize hPI : pyIter = PI
          wp_walk
          subst hPI
          refine wpAny_pyIter_tuple hl1 ?_
          refine wpAny_bind (wpAny_runValue ?_)
          have hneI : l ≠ (s.heap.push (set0 w)).objs.size := by rw [Heap.size_push]; exact Nat.ne_of_lt (Nat.lt_succ_of_lt hlS)
          refine k_taken hlS hit hk hfew hu (Walks.tuple hh3 _ l hneI items) ⟨⟨_, Heap.get?_push_size _ rfl, rfl, rfl⟩, ⟨_, Heap.get?_push_of_some _ hol', rfl, nl, rfl⟩⟩ fun h' tk L es ep t hS' g' hkp => ?_
          refine wpAny_pure ?_
          show wpAny _ _ (ret Value.none) _ _ _
          exact wpAny_pure ⟨rfl, h', tk, L, es, ep, t, rfl, hS', g', hkp⟩
      · cases r₂ with
        | error e => exact hr₂
        | ok fl₂ =>
          cases fl₂ with
          | ret r =>
            obtain ⟨rfl, h', tk, L, es, ep, t, rfl, hS', g', hk'⟩ := hr₂
            repeat (any_goals (first | assumption | wp_step))
            exact h _ _ _ _ _ _ hS' g' hk'
          | _ => exact hr₂.elim
    | _ => exact hr.elim
end
end Rt
end
section
set_option maxHeartbeats 4000000
/-! Ord: the order of texts; sorted lists without repetitions are one. -/
namespace Rt
open PySem PySem.Spec L2 PyProof.Rows
theorem lex_tri : ∀ a b : List Nat, a < b ∨ a = b ∨ b < a
  | [], [] => .inr (.inl rfl)
  | [], y :: ys => .inl (List.nil_lt_cons y ys)
  | x :: xs, [] => .inr (.inr (List.nil_lt_cons x xs))
  | x :: xs, y :: ys => by
    rcases Nat.lt_trichotomy x y with h | h | h
    · exact .inl (List.cons_lt_cons_iff.mpr (.inl h))
    · rcases lex_tri xs ys with q | q | q
      · exact .inl (List.cons_lt_cons_iff.mpr (.inr ⟨h, q⟩))
      · exact .inr (.inl (by rw [h, q]))
      · exact .inr (.inr (List.cons_lt_cons_iff.mpr (.inr ⟨h.symm, q⟩)))
    · exact .inr (.inr (List.cons_lt_cons_iff.mpr (.inl h)))
theorem lex_irr (a : List Nat) : ¬ a < a := List.lt_irrefl a
theorem lex_tr {a b c : List Nat} (h1 : a < b) (h2 : b < c) : a < c := List.lt_trans h1 h2
theorem str_ext {a b : Str} (h : a.cps.toList = b.cps.toList) : a = b := by
  cases a with
  | mk x => cases b with
    | mk y =>
      have : x = y := by
        apply Array.ext'
        exact h
      rw [this]
theorem ltS_iff {a b : Str} : ltS a b = true ↔ a.cps.toList < b.cps.toList := decide_eq_true_iff
theorem ltS_irr (a : Str) : ltS a a = false := decide_eq_false (lex_irr _)
theorem ltS_tr {a b c : Str} (h1 : ltS a b = true) (h2 : ltS b c = true) : ltS a c = true := ltS_iff.mpr (lex_tr (ltS_iff.mp h1) (ltS_iff.mp h2))
theorem ltS_tri (a b : Str) : ltS a b = true ∨ a = b ∨ ltS b a = true := by
  rcases lex_tri a.cps.toList b.cps.toList with h | h | h
  · exact .inl (ltS_iff.mpr h)
  · exact .inr (.inl (str_ext h))
  · exact .inr (.inr (ltS_iff.mpr h))
theorem ltS_asym {a b : Str} (h : ltS a b = true) : ltS b a = false := by
  cases q : ltS b a with
  | false => rfl
  | true => rw [← ltS_irr a, ltS_tr h q]
/-- two strictly ascending lists with the same members -/
theorem asc_one {α : Type} {lt : α → α → Bool} (irr : ∀ a, lt a a = false) (tr : ∀ a b c, lt a b = true → lt b c = true → lt a c = true) : ∀ {l m : List α}, l.Pairwise (fun a b => lt a b = true) → m.Pairwise (fun a b => lt a b = true) → (∀ x, x ∈ l ↔ x ∈ m) → l = m
  | [], [], _, _, _ => rfl
  | [], y :: m, _, _, h => absurd ((h y).mpr List.mem_cons_self) (List.not_mem_nil)
  | x :: l, [], _, _, h => absurd ((h x).mp List.mem_cons_self) (List.not_mem_nil)
  | x :: l, y :: m, hl, hm, h => by
    obtain ⟨h1, h2⟩ := List.pairwise_cons.mp hl
    obtain ⟨h3, h4⟩ := List.pairwise_cons.mp hm
    have e : x = y := by
      rcases List.mem_cons.mp ((h x).mp List.mem_cons_self) with q | q
      · exact q
      · rcases List.mem_cons.mp ((h y).mpr List.mem_cons_self) with r | r
        · exact r.symm
        · have := tr _ _ _ (h3 x q) (h1 y r)
          rw [irr] at this
          cases this
    subst e
    rw [asc_one irr tr h2 h4 fun z => ?_]
    constructor
    · intro hz
      rcases List.mem_cons.mp ((h z).mp (List.mem_cons_of_mem _ hz)) with q | q
      · subst q
        have := h1 z hz
        rw [irr] at this
        cases this
      · exact q
    · intro hz
      rcases List.mem_cons.mp ((h z).mpr (List.mem_cons_of_mem _ hz)) with q | q
      · subst q
        have := h3 z hz
        rw [irr] at this
        cases this
      · exact q
theorem asc_nodup {α : Type} {lt : α → α → Bool} (irr : ∀ a, lt a a = false) {l : List α} (h : l.Pairwise (fun a b => lt a b = true)) : l.Nodup := h.imp fun {a b} q e => by
  rw [e, irr] at q
  cases q
/-- what sorted leaves of texts that differ -/
theorem rising_asc : ∀ {l : List Str} {p : Str}, risingS p l = true → (p :: l).Nodup → (p :: l).Pairwise (fun a b => ltS a b = true)
  | [], p, _, _ => List.pairwise_singleton _ _
  | x :: r, p, h, nd => by
    have h' : (!ltCps x.cps.toList p.cps.toList && risingS x r) = true := h
    rw [Bool.and_eq_true, Bool.not_eq_true', ltCps_eq] at h'
    obtain ⟨h1, h2⟩ := h'
    obtain ⟨n1, n2⟩ := List.nodup_cons.mp nd
    have ih := rising_asc h2 n2
    have hpx : ltS p x = true := by
      rcases ltS_tri p x with q | q | q
      · exact q
      · exact absurd (q ▸ List.mem_cons_self) n1
      · have : decide (x.cps.toList < p.cps.toList) = true := q
        rw [this] at h1
        cases h1
    refine List.pairwise_cons.mpr ⟨fun z hz => ?_, ih⟩
    rcases List.mem_cons.mp hz with q | q
    · rw [q]; exact hpx
    · exact ltS_tr hpx ((List.pairwise_cons.mp ih).1 z q)
theorem asc_of_sorted : ∀ {l : List Str}, sortedS l = true → l.Nodup → l.Pairwise (fun a b => ltS a b = true)
  | [], _, _ => .nil
  | x :: r, h, nd => rising_asc h nd
theorem perm_nodup {α : Type} {l m : List α} (p : l.Perm m) (h : m.Nodup) : l.Nodup := p.nodup_iff.mpr h
/-- sorted names -/
theorem sorted_is {ys ks : List Str} (p : ys.Perm ks) (s : sortedS ys = true) (nd : ks.Nodup) : ys.Pairwise (fun a b => ltS a b = true) := asc_of_sorted s (perm_nodup p nd)
theorem sorted_same {ys ks : List Str} (p : ys.Perm ks) (s : sortedS ys = true) (h : ks.Pairwise (fun a b => ltS a b = true)) : ys = ks :=
  asc_one ltS_irr (fun _ _ _ => ltS_tr) (sorted_is p s (asc_nodup ltS_irr h)) h fun x => p.mem_iff
end Rt
end
section
set_option maxHeartbeats 4000000
/-! Ker4: sorted(set(..)) of lags. -/
namespace Rt
open PySem PySem.Spec PyProof.Rows L2
theorem ltLag_irr (l : Lag) : ltLag l l = false := by
  unfold ltLag
  simp [ltS_irr]
theorem ltLag_tr (a b c : Lag) (h1 : ltLag a b = true) (h2 : ltLag b c = true) : ltLag a c = true := by
  unfold ltLag at *
  simp only [Bool.or_eq_true, Bool.and_eq_true, decide_eq_true_eq] at *
  rcases h1 with h1 | ⟨e1, h1⟩
  · rcases h2 with h2 | ⟨e2, h2⟩
    · exact .inl (ltS_tr h1 h2)
    · exact .inl (by rw [← e2]; exact h1)
  · rcases h2 with h2 | ⟨e2, h2⟩
    · exact .inl (by rw [e1]; exact h2)
    · refine .inr ⟨e1.trans e2, ?_⟩
      rcases h1 with h1 | ⟨f1, h1⟩
      · rcases h2 with h2 | ⟨f2, h2⟩
        · exact .inl (ltS_tr h1 h2)
        · exact .inl (by rw [← f2]; exact h1)
      · rcases h2 with h2 | ⟨f2, h2⟩
        · exact .inl (by rw [f1]; exact h2)
        · exact .inr ⟨f1.trans f2, by omega⟩
theorem ltLag_tri (a b : Lag) : ltLag a b = true ∨ a = b ∨ ltLag b a = true := by
  obtain ⟨a1, a2, a3⟩ := a
  obtain ⟨b1, b2, b3⟩ := b
  unfold ltLag
  simp only [Bool.or_eq_true, Bool.and_eq_true, decide_eq_true_eq]
  rcases ltS_tri a1 b1 with h | h | h
  · exact .inl (.inl h)
  · subst h
    rcases ltS_tri a2 b2 with h | h | h
    · exact .inl (.inr ⟨rfl, .inl h⟩)
    · subst h
      rcases Int.lt_trichotomy a3 b3 with h | h | h
      · exact .inl (.inr ⟨rfl, .inr ⟨rfl, h⟩⟩)
      · exact .inr (.inl (by rw [h]))
      · exact .inr (.inr (.inr ⟨rfl, .inr ⟨rfl, h⟩⟩))
    · exact .inr (.inr (.inr ⟨rfl, .inl h⟩))
  · exact .inr (.inr (.inl h))
theorem swo_lag (k : Value → Lag) : SrtO.Swo fun v u => ltLag (k v) (k u) := by
  refine ⟨fun x y h => ?_, fun x y z h1 h2 => ?_⟩
  · cases q : ltLag (k y) (k x) with
    | false => rfl
    | true => rw [← ltLag_irr (k x), ltLag_tr _ _ _ h q]
  · cases q : ltLag (k z) (k x) with
    | false => rfl
    | true =>
      rcases ltLag_tri (k y) (k x) with c | c | c
      · rw [h1] at c; cases c
      · rw [← c] at q; rw [h2] at q; cases q
      · have := ltLag_tr _ _ _ q c
        rw [h2] at this
        cases this
/-- at v stands the tuple of the lag l -/
def IsLagV (h : Heap) (v : Value) (l : Lag) : Prop := ∃ a o t1 t2 t3 n, v = .ref a ∧ h.get? a = some o ∧ o.cls = .type "tuple" ∧ o.data = .seq #[.str l.1 t1, .str l.2.1 t2, .int l.2.2 t3] n
theorem IsLagV.keeps {h h' : Heap} {v : Value} {l : Lag} (x : IsLagV h v l) (k : ∀ b o, h.get? b = some o → o.cls = .type "tuple" → h'.get? b = some o) : IsLagV h' v l := by
  obtain ⟨a, o, t1, t2, t3, n, e, ho, hc, hd⟩ := x
  exact ⟨a, o, t1, t2, t3, n, e, k _ _ ho hc, hc, hd⟩
section
variable {prog : Program} {w : World} {A : Around} {E : Value → Shared → Prop} {s : Shared}
theorem lag_cmp {vs : List Value} {k : Value → Lag} (hp : ∀ v ∈ vs, IsLagV s.heap v (k v)) : SrtO.Cmp prog w A s (tuples' true) (fun p => p.1 ∈ vs) (SrtO.lt2 fun v u => ltLag (k v) (k u)) := by
  intro p q hm hm'
  have h1 := hp _ hm
  have h2 := hp _ hm'
  show wpAny (model prog w) A (keyLt' (tuples' true) p.1 q.1) (fun r s' => s' = s ∧ r = ltLag (k p.1) (k q.1)) (fun _ _ => False) s
  generalize k p.1 = l at h1 ⊢
  generalize k q.1 = m at h2 ⊢
  obtain ⟨x1, x2, x3⟩ := l
  obtain ⟨y1, y2, y3⟩ := m
  obtain ⟨a, o, t1, t2, t3, n, e, ho, hc, hd⟩ := h1
  obtain ⟨a', o', u1, u2, u3, n', e', ho', hc', hd'⟩ := h2
  rw [e, e']
  refine PySem.W.kat_lt ho hd ho' hd' ?_
  have eL : ltLag (x1, x2, x3) (y1, y2, y3) = (ltS x1 y1 || (decide (x1 = y1) && (ltS x2 y2 || (decide (x2 = y2) && decide (x3 < y3))))) := rfl
  show PySem.W.KatLex prog w A true (decide (3 < 3)) _ [(.str x1 t1, .str y1 u1), (.str x2 t2, .str y2 u2), (.int x3 t3, .int y3 u3)] 0 s
  refine PySem.W.kat_cons (SeqAt.EqAt.str_str x1 t1 y1 u1 prog w _ _ ?_)
  refine PySem.W.kat_go (fun c1 => ?_) (fun c1 => ?_)
  · have ex : x1 = y1 := by simpa using c1
    subst ex
    refine PySem.W.kat_yes (PySem.W.kat_cons (SeqAt.EqAt.str_str x2 t2 y2 u2 prog w _ _ ?_))
    refine PySem.W.kat_go (fun c2 => ?_) (fun c2 => ?_)
    · have ey : x2 = y2 := by simpa using c2
      subst ey
      refine PySem.W.kat_yes (PySem.W.kat_cons (SeqAt.EqAt.int_int x3 t3 y3 u3 prog w _ _ ?_))
      refine PySem.W.kat_go (fun c3 => ?_) (fun c3 => ?_)
      · have ez : x3 = y3 := by simpa using c3
        subst ez
        refine PySem.W.kat_yes (PySem.W.kat_nil ⟨rfl, ?_⟩)
        rw [ltLag_irr]
        rfl
      · refine PySem.W.kat_no (PySem.W.kat_one _ _ (PyProof.Rows.lt_int ?_))
        refine (show s = s ∧ decide (x3 < y3) = ltLag (x1, x2, x3) (x1, x2, y3) from ⟨rfl, ?_⟩)
        rw [eL, ltS_irr, ltS_irr, decide_eq_true (rfl : x1 = x1), decide_eq_true (rfl : x2 = x2)]
        rfl
    · have ey : ¬ x2 = y2 := by simpa using c2
      refine PySem.W.kat_no (PySem.W.kat_one _ _ (PyProof.Rows.lt_str ?_))
      refine (show s = s ∧ decide (x2.cps.toList < y2.cps.toList) = ltLag (x1, x2, x3) (x1, y2, y3) from ⟨rfl, ?_⟩)
      rw [eL, ltS_irr, decide_eq_true (rfl : x1 = x1), decide_eq_false ey, Bool.false_and, Bool.or_false, Bool.true_and, Bool.false_or]
      rfl
  · have ex : ¬ x1 = y1 := by simpa using c1
    refine PySem.W.kat_no (oneLt_str ⟨rfl, ?_⟩)
    rw [eL, decide_eq_false ex, Bool.false_and, Bool.or_false]
    rfl
theorem lag_firsts {h : Heap} {k : Value → Lag} : ∀ {vs : List Value}, (∀ v ∈ vs, IsLagV h v (k v)) → ∃ fs : List Value, PySem.W.KatTups h vs fs ∧ fs.length = vs.length ∧ ∀ f ∈ fs, ∃ x t, f = Value.str x t
  | [], _ => ⟨[], PySem.W.KatTups.nil, rfl, fun _ hm => by simp at hm⟩
  | v :: vs, hp => by
    obtain ⟨fs, h1, h2, h3⟩ := lag_firsts (vs := vs) fun v' hm => hp v' (List.mem_cons_of_mem _ hm)
    obtain ⟨a, o, t1, t2, t3, n, e, ho, hc, hd⟩ := hp v (List.mem_cons_self ..)
    subst e
    refine ⟨.str (k (.ref a)).1 t1 :: fs, PySem.W.KatTups.cons ho hc hd rfl h1, by rw [List.length_cons, List.length_cons, h2], fun f hm => ?_⟩
    rcases List.mem_cons.mp hm with rfl | hm
    · exact ⟨_, t1, rfl⟩
    · exact h3 f hm
theorem lags_sortable {a : Addr} {vs : List Value} {k : Value → Lag} (h0 : 0 < vs.length) (hp : ∀ v ∈ vs, IsLagV s.heap v (k v)) (ha : ∀ o, s.heap.get? a = some o → o.cls ≠ .type "tuple") : SrtO.SortableO prog w A s a vs fun v u => ltLag (k v) (k u) := by
  intro h' keep
  have hp' : ∀ v ∈ vs, IsLagV h' v (k v) := fun v hm => (hp v hm).keeps fun b o e c => keep b o (fun z => by subst z; exact ha o e c) e
  obtain ⟨fs, h1, h2, h3⟩ := lag_firsts hp'
  refine ⟨tuples' true, fun Q E hq => ?_, lag_cmp hp'⟩
  refine PySem.W.kat_kind (T := .type "str") h1 (by omega) (fun f hm => ?_) (by rfl) ?_
  · obtain ⟨x, t, rfl⟩ := h3 f hm
    exact PySem.W.Looks.now
  · have e : (Value.type "str" != Value.type "tuple") = true := by first | decide +kernel | rfl | decide
    rw [e]
    exact hq
theorem isLagV_of {P : Program} {w : World} {h : Heap} {b : Addr} {l : Lag} (x : IsK P w h (lagK l) b) : IsLagV h (.ref b) l := by
  obtain ⟨o, items, n, ho, hc, hd, hi⟩ := x
  obtain ⟨its⟩ := items
  have hi' : ItemsAre (mixKind P w) [.inr l.1, .inr l.2.1, .inl l.2.2] its := hi
  cases hi' with
  | cons a1 r =>
    cases r with
    | cons a2 r =>
      cases r with
      | cons a3 r =>
        cases r
        have b1 : keyIs (.inr l.1) _ = true := a1
        have b2 : keyIs (.inr l.2.1) _ = true := a2
        have b3 : keyIs (.inl l.2.2) _ = true := a3
        rcases keyIs_shape b1 with ⟨i, t, z, _⟩ | ⟨x, t1, z, e1⟩
        · cases z
        · cases z
          rcases keyIs_shape b2 with ⟨i, t, z, _⟩ | ⟨x, t2, z, e2⟩
          · cases z
          · cases z
            rcases keyIs_shape b3 with ⟨i, t3, z, e3⟩ | ⟨x, t, z, _⟩
            · cases z
              rw [e1, e2, e3] at hd
              exact ⟨b, o, t1, t2, t3, n, rfl, ho, hc, hd⟩
            · cases z
theorem lagK_inj {l m : Lag} (h : lagK l = lagK m) : l = m := by
  obtain ⟨a, b, c⟩ := l
  obtain ⟨a', b', c'⟩ := m
  unfold lagK at h
  injection h with h1 h
  injection h with h2 h
  injection h with h3 _
  cases Sum.inr.inj h1
  cases Sum.inr.inj h2
  cases Sum.inl.inj h3
  rfl
/-- the lag behind a value, by a list of members -/
def lagAt (M : List (Addr × Lag)) (v : Value) : Lag := ((M.find? fun q => decide (v = .ref q.1)).map (·.2)).getD ("", "", 0)
theorem lagAt_of {M : List (Addr × Lag)} (one : ∀ q ∈ M, ∀ r ∈ M, q.1 = r.1 → q = r) {q : Addr × Lag} (hq : q ∈ M) : lagAt M (.ref q.1) = q.2 := by
  unfold lagAt
  cases f : M.find? fun r => decide (Value.ref q.1 = .ref r.1) with
  | none =>
    have := List.find?_eq_none.mp f q hq
    simp at this
  | some r =>
    have h1 := List.mem_of_find?_eq_some f
    have h2 := List.find?_some f
    have h3 : q.1 = r.1 := by
      have := of_decide_eq_true h2
      injection this
    rw [one q hq r h1 h3]
    rfl
/-- sorted(a set of lags) -/
theorem k_sorted {P : Program} {a : Addr} {M : List (Addr × Lag)} {es : Array (Int × Value)} {ep : Nat} {t : SetTable} {Q : Value → Shared → Prop} (R : SetK P w s.heap a (M.map fun q => (q.1, lagK q.2)) es ep t) (hh : A.handled = none) (hfew : M.length ≤ 200)
    (hQ : ∀ s' p (c : Nat) (M' : List (Addr × Lag)), (∀ b o, s.heap.get? b = some o → s'.heap.get? b = some o) → s'.gens = s.gens → s'.os = s.os → s.heap.objs.size ≤ p →
      s'.heap.get? p = some (seqObj "list" (M'.map fun q => Value.ref q.1).toArray c) → M'.Perm M → M'.Pairwise (fun q r => ltLag q.2 r.2 = true) → Q (.ref p) s') :
    wpAny (model P w) A (call (.builtin "sorted") [.ref a]) Q E s := by
  obtain ⟨o, ho, hex, hd⟩ := R.ob
  have hsz := lines_len R.rows
  rw [List.length_map] at hsz
  have hbig : (1000 : Nat) ≤ sizeLine := by rw [sizeLine_eq]; decide
  have isL : ∀ q ∈ M, IsLagV s.heap (.ref q.1) q.2 := fun q hq => isLagV_of (R.tup _ (List.mem_map.mpr ⟨q, hq, rfl⟩))
  have nd2 : (M.map (·.2)).Nodup := by
    have h := R.nd
    rw [List.map_map] at h
    have h' : (M.map fun q => lagK q.2).Nodup := h
    unfold List.Nodup at h' ⊢
    rw [List.pairwise_map] at h' ⊢
    exact h'.imp fun n e => n (congrArg lagK e)
  have one : ∀ q ∈ M, ∀ r ∈ M, q.1 = r.1 → q = r := fun q hq r hr e => by
    have a1 := R.tup _ (List.mem_map.mpr ⟨q, hq, rfl⟩)
    have a2 := R.tup _ (List.mem_map.mpr ⟨r, hr, rfl⟩)
    have a2' : IsK P w s.heap (lagK r.2) q.1 := by rw [e]; exact a2
    exact Prod.ext e (lagK_inj (IsTupleKey.inj a1 a2'))
  refine Calls.call_function_entry kind_sorted plain_sorted entry_sorted (args_sorted1 _) ?_
  unfold Builtin.«sorted»
  refine wpAny_bind (m := checkCount "sorted" 1 1 _) (wpAny_pure ?_)
  refine wpAny_bind (collect_set (A := A.in1) hh ⟨o, ho, hex.1, hd⟩ R.fits (by unfold scanBound; omega) R.tab.up R.led fun s1 vs k1 hz g1 o1 pm => ?_)
  have hes : es.toList.map (·.2) = M.map fun q => Value.ref q.1 := by
    rw [R.rows]
    unfold lines
    rw [List.map_map, List.map_map]
    rfl
  rw [hes] at pm
  have hvl : vs.length = M.length := by rw [pm.length_eq, List.length_map]
  refine wpAny_bind (wpAny_newList ?_ (by omega))
  have hoL : (s1.heap.push (seqObj "list" vs.toArray 0)).get? s1.heap.objs.size = some (seqObj "list" vs.toArray 0) := Heap.get?_push_size _ rfl
  have isV : ∀ v ∈ vs, IsLagV (s1.heap.push (seqObj "list" vs.toArray 0)) v (lagAt M v) := fun v hv => by
    obtain ⟨q, hq, e⟩ := List.mem_map.mp (pm.mem_iff.mp hv)
    rw [← e, lagAt_of one hq]
    exact (isL q hq).keeps fun b u z _ => Heap.get?_push_of_some _ (k1 b u z)
  refine wpAny_bind (wpAny_holding (wpAny_call_entry slot_list_sort ⟨_, hoL, rfl⟩ entry_list_sort (SrtO.list_sort_ord (s := { s1 with heap := s1.heap.push (seqObj "list" vs.toArray 0) }) (swo_lag (lagAt M)) hoL (by omega) (fun h2 => lags_sortable (by omega) isV fun u e => ?_) fun out hs hb => ⟨_, rfl, ?_⟩) (args_list_sort _)))
  · have e' : some u = some (seqObj "list" vs.toArray 0) := e.symm.trans hoL
    cases e'
    intro c
    exact absurd (Value.type.inj c) (by decide)
  · -- the members in their new order
    have ord : ∀ l : List Value, (∀ v ∈ l, ∃ q ∈ M, v = Value.ref q.1) → ∃ M1 : List (Addr × Lag), l = M1.map (fun q => Value.ref q.1) ∧ ∀ q ∈ M1, q ∈ M := by
      intro l
      induction l with
      | nil => intro _; exact ⟨[], rfl, fun q hq => (by cases hq)⟩
      | cons v l ih =>
        intro hv
        obtain ⟨q, hq, e⟩ := hv v List.mem_cons_self
        obtain ⟨M1, e1, hs⟩ := ih fun u hu => hv u (List.mem_cons_of_mem _ hu)
        refine ⟨q :: M1, by rw [List.map_cons, e, e1], fun r hr => ?_⟩
        rcases List.mem_cons.mp hr with z | z
        · rw [z]; exact hq
        · exact hs r z
    have pmo : out.Perm (M.map fun q => Value.ref q.1) := hb.perm.trans pm
    obtain ⟨M', eM, sM⟩ := ord out fun v hv => by
      obtain ⟨q, hq, e⟩ := List.mem_map.mp (pmo.mem_iff.mp hv)
      exact ⟨q, hq, e.symm⟩
    have ndM : M.Nodup := by
      have := nd2
      unfold List.Nodup at this ⊢
      rw [List.pairwise_map] at this
      exact this.imp fun n e => n (congrArg Prod.snd e)
    have nref : (M.map fun q => Value.ref q.1).Nodup := by
      unfold List.Nodup
      rw [List.pairwise_map]
      refine List.Pairwise.imp_of_mem (fun {q r} hq hr hne e => ?_) ndM
      injection e with e
      exact hne (one q hq r hr e)
    have nM' : M'.Nodup := by
      have h : (M'.map fun q => Value.ref q.1).Nodup := by rw [← eM]; exact pmo.nodup_iff.mpr nref
      unfold List.Nodup at h ⊢
      rw [List.pairwise_map] at h
      exact h.imp fun n e => n (congrArg (fun q : Addr × Lag => Value.ref q.1) e)
    have pM : M'.Perm M := by
      refine (List.perm_ext_iff_of_nodup nM' ndM).mpr fun q => ⟨sM q, fun hq => ?_⟩
      have hm : Value.ref q.1 ∈ M'.map (fun q => Value.ref q.1) := by
        rw [← eM]
        exact pmo.mem_iff.mpr (List.mem_map.mpr ⟨q, hq, rfl⟩)
      obtain ⟨r, hr, e⟩ := List.mem_map.mp hm
      injection e with e
      rw [← one r (sM r hr) q hq e]
      exact hr
    have asc : M'.Pairwise (fun q r => ltLag q.2 r.2 = true) := by
      have hs' : (M'.map fun q => Value.ref q.1).Pairwise (fun x y => ltLag (lagAt M y) (lagAt M x) = false) := by
        rw [← eM]
        exact hs
      rw [List.pairwise_map] at hs'
      have nl : M'.Pairwise (fun q r => q.2 ≠ r.2) := by
        have h : (M'.map (·.2)).Nodup := (pM.map (·.2)).nodup_iff.mpr nd2
        unfold List.Nodup at h
        rw [List.pairwise_map] at h
        exact h
      refine List.Pairwise.imp_of_mem (fun {q r} hq hr z => ?_) (hs'.and nl)
      obtain ⟨z1, z2⟩ := z
      rw [lagAt_of one (sM q hq), lagAt_of one (sM r hr)] at z1
      rcases ltLag_tri q.2 r.2 with c | c | c
      · exact c
      · exact absurd c z2
      · rw [z1] at c; cases c
    obtain ⟨c, hc⟩ := sortedHeap_at (vs := vs) (out := out.toArray) hoL
    refine wpAny_pure ⟨_, rfl, hQ _ s1.heap.objs.size c M' (fun b u e => ?_) g1 o1 hz (by rw [← eM]; exact hc) pM asc⟩
    have q := k1 b u e
    have hlt := Heap.lt_size q
    show (sortedHeap (s1.heap.push (seqObj "list" vs.toArray 0)) s1.heap.objs.size vs out.toArray).get? b = some u
    rw [sortedHeap_old (Nat.ne_of_lt hlt) (by rw [size_push']; exact Nat.lt_succ_of_lt hlt)]
    exact Heap.get?_push_of_some _ q
end
theorem refs_lags {H : Hp} {vs : List V} {ls : List Lag} (h : LagRefs H vs ls) : ∃ M : List (Addr × Lag), vs = M.map (fun q => V.ref q.1) ∧ ls = M.map (·.2) ∧ ∀ q ∈ M, H q.1 = some (.tup (lagV q.2)) := by
  induction h with
  | nil => exact ⟨[], rfl, rfl, fun q m => nomatch m⟩
  | @cons v l _ _ a _ ih =>
    obtain ⟨p, rfl, hp⟩ := a
    obtain ⟨M, e1, e2, e3⟩ := ih
    refine ⟨(p, l) :: M, by rw [List.map_cons, e1], by rw [List.map_cons, e2], fun q m => ?_⟩
    rcases List.mem_cons.mp m with z | z
    · rw [z]; exact hp
    · exact e3 q z
theorem vals_refs : ∀ {M : List (Addr × Lag)} {us : List Value}, Vals (M.map fun q => V.ref q.1) us → us = M.map fun q => Value.ref q.1
  | [], _, .nil => rfl
  | q :: M, _, .cons r t => by
    cases r
    rw [vals_refs t]
    rfl
theorem refs_vals : ∀ (M : List (Addr × Lag)), Vals (M.map fun q => V.ref q.1) (M.map fun q => Value.ref q.1)
  | [] => .nil
  | q :: M => .cons rfl (refs_vals M)
theorem lag_items {P : Program} {w : World} {l : Lag} {us : List Value} (h : Vals (lagV l) us) : ItemsAre (mixKind P w) (lagK l) us := by
  cases h with
  | cons a1 r =>
    cases r with
    | cons a2 r =>
      cases r with
      | cons a3 r =>
        cases r
        obtain ⟨t1, rfl⟩ := a1
        obtain ⟨t2, rfl⟩ := a2
        obtain ⟨t3, rfl⟩ := a3
        exact .cons (show keyIs (.inr l.1) (.str l.1 t1) = true from keyIs_str _ _) (.cons (show keyIs (.inr l.2.1) (.str l.2.1 t2) = true from keyIs_str _ _) (.cons (show keyIs (.inl l.2.2) (.int l.2.2 t3) = true from keyIs_int _ _) .nil))
section
variable {X : Cx} {pins : List (Addr × Obj)} {σ : L2.St} {H : Hp} {s : Shared}
theorem inv_isK (I : Inv X pins σ H s) {b : Addr} {l : Lag} (h : H b = some (.tup (lagV l))) : IsK X.prog X.w s.heap (lagK l) b := by
  obtain ⟨its, r, ⟨o, ho, hc, n, hd⟩, _⟩ := I.tuple (SqT.of h)
  exact ⟨o, its.toArray, n, ho, hc, hd, by simpa using lag_items r⟩
theorem pe_sortSet {e : Expr} {te : TE} {p1 p2 q1 q2 : Pos} (hg : Gl X "sorted") (hm : X.mg "sorted" = none) (hg2 : Gl X "set") (hm2 : X.mg "set" = none) (hu : X.A.units + 64 < cLine) (hc : X.calm = true) (he : PE X e te)
    (na : starEach [e] X.env = (false, eval e X.env) :: starEach [] X.env := by rfl) :
    PE X (.Call (.Name "sorted" p1) [.Call (.Name "set" p2) [e] [] q2] [] q1) (tSortSet X.K te) := by
  refine ⟨fun pins s σ H Q I h => ?_⟩
  refine Call_ (ld_blt I hg hm PyProof.Rows.boot_sorted ?_)
  refine PyProof.Rows.callWith_builtin1 (PyProof.Rows.args_cons ?_ rfl) rfl rfl
  refine Call_ (ld_blt I hg2 hm2 PyProof.Rows.boot_set ?_)
  refine PyProof.Rows.callWith_type1 (PyProof.Rows.args_cons (thn (he.run pins s σ H _ I h) fun v s1 ⟨x, H1, I1, r1, q1⟩ => PyProof.Rows.args_nil ?_) na) na rfl
  obtain ⟨a, vs, ls, rfl, hq, hr, hl, q1⟩ := q1
  cases r1
  obtain ⟨M0, rfl, rfl, hM0⟩ := refs_lags hr
  rw [List.length_map] at hl
  have key : ∀ {items : Array Value}, (s1.heap.IsList a items ∨ s1.heap.IsTuple a items) → items.toList = M0.map (fun q => Value.ref q.1) → wpAny (model X.prog X.w) X.A (call (.type "set") [.ref a]) (fun v s' => wpAny (model X.prog X.w) X.A (call (.builtin "sorted") [v]) (EP X pins σ Q) X.xe s') X.xe s1 := fun {items} hi he => by
    refine k_set (P := X.prog) (w := X.w) (M0.map fun q => (q.1, lagK q.2)) (I1.ok.hd hc) hi (by rw [he, List.map_map]; rfl) (fun p hp => ?_) (by rw [List.length_map]; omega) (by omega) fun h' tk L es ep t R g k => ?_
    · obtain ⟨q, hq, rfl⟩ := List.mem_map.mp hp
      exact inv_isK I1 (hM0 q hq)
    · -- the members are some of the walked ones
      have sub : ∀ l : List Mem, (∀ p ∈ l, p ∈ M0.map fun q => (q.1, lagK q.2)) → ∃ M : List (Addr × Lag), l = M.map (fun q => (q.1, lagK q.2)) ∧ ∀ q ∈ M, q ∈ M0 := by
        intro l
        induction l with
        | nil => intro _; exact ⟨[], rfl, fun q hq => nomatch hq⟩
        | cons p l ih =>
          intro hv
          obtain ⟨q, hq, e⟩ := List.mem_map.mp (hv p List.mem_cons_self)
          obtain ⟨M, e1, hs⟩ := ih fun u hu => hv u (List.mem_cons_of_mem _ hu)
          refine ⟨q :: M, by rw [List.map_cons, ← e, e1], fun r hr => ?_⟩
          rcases List.mem_cons.mp hr with z | z
          · rw [z]; exact hq
          · exact hs r z
      obtain ⟨M, eM, sM⟩ := sub L fun p hp => List.mem_of_mem_take (g.sub p hp)
      subst eM
      have hlM : M.length ≤ 200 := by
        have := g.len
        rw [List.length_map, List.length_map] at this
        omega
      have I2 : Inv X pins σ H1 { s1 with heap := h', toks := tk } := I1.kept (t' := tk) fun b o e => k b o e
      have R2 : SetK X.prog X.w ({ s1 with heap := h', toks := tk } : Shared).heap s1.heap.objs.size (M.map fun q => (q.1, lagK q.2)) es ep t := R
      generalize ({ s1 with heap := h', toks := tk } : Shared) = s2 at I2 R2 ⊢
      refine k_sorted (s := s2) R2 (I2.ok.hd hc) hlM fun s' p c M' kk g2 o2 hp hg pM asc => ?_
      have hfr : H1 p = none := I2.hok.fresh hp
      have hM : (1000 : Nat) ≤ sizeLine := by rw [sizeLine_eq]; decide
      have hlen : (M'.map fun q => V.ref q.1).length ≤ sizeLine := by rw [List.length_map, pM.length_eq]; omega
      have J : Inv X pins σ (upd H1 p (.lst (M'.map fun q => V.ref q.1))) { s2 with heap := s'.heap, gens := s'.gens, drawn := s'.drawn, toks := s'.toks } :=
        I2.call (ch := []) (Un.laid kk hp hfr) (I2.hok.laid kk hp ⟨hlen, M'.map (fun q => Value.ref q.1), c, refs_vals M', hg⟩) (by rw [g2]; exact I2.bare) (fun _ z => nomatch z)
      have e : s' = { s2 with heap := s'.heap, gens := s'.gens, drawn := s'.drawn, toks := s'.toks } := by
        cases s'
        cases s2
        cases o2
        rfl
      rw [e]
      have rM' : LagRefs H1 (M'.map fun q => V.ref q.1) (M'.map (·.2)) := by
        have all : ∀ q ∈ M', H1 q.1 = some (.tup (lagV q.2)) := fun q hq => hM0 q (sM q (pM.mem_iff.mp hq))
        clear asc pM J hg hlen
        induction M' with
        | nil => exact .nil
        | cons q M' ih => exact .cons ⟨q.1, rfl, all q List.mem_cons_self⟩ (ih fun r hr => all r (List.mem_cons_of_mem _ hr))
      refine ⟨.ref p, _, J, rfl, q1 p (M'.map (·.2)) _ hfr rM' ⟨by rw [List.pairwise_map]; exact asc, fun l => ?_⟩⟩
      rw [(pM.map (·.2)).mem_iff]
      constructor
      · intro m
        obtain ⟨q, hq, rfl⟩ := List.mem_map.mp m
        exact List.mem_map.mpr ⟨q, sM q hq, rfl⟩
      · intro m
        obtain ⟨q, hq, rfl⟩ := List.mem_map.mp m
        have := g.all (q.1, lagK q.2) (by rw [List.take_length]; exact List.mem_map.mpr ⟨q, hq, rfl⟩)
        rw [List.map_map] at this
        obtain ⟨r, hr, er⟩ := List.mem_map.mp this
        exact List.mem_map.mpr ⟨r, hr, lagK_inj er⟩
  have done : wpAny (model X.prog X.w) X.A (call (.type "set") [.ref a]) (fun v s' => wpAny (model X.prog X.w) X.A (call (.builtin "sorted") [v]) (EP X pins σ Q) X.xe s') X.xe s1 := by
    rcases hq with hq | hq
    · obtain ⟨its, rv, pl, hz⟩ := I1.list hq
      exact key (.inl pl.isList) (by simpa using vals_refs rv)
    · obtain ⟨its, rv, pl, hz⟩ := I1.tuple hq.sq
      exact key (.inr pl) (by simpa using vals_refs rv)
  refine wpAny_mono done (fun v s' z => PyProof.Rows.args_nil z) fun _ _ z => z
end
end Rt
end
/-! the steps' tactics -/
local macro_rules | `(tactic| walk_at "hp") => `(tactic| first | assumption | exact upd_same | (refine same_at (by assumption) ?_; walk_at "hp") | (refine Eq.trans (upd_ne (by walk_at "ne")) ?_; walk_at "hp"))
local macro_rules | `(tactic| walk_at "ne") => `(tactic| first | assumption | exact Ne.symm (by assumption) | (refine ne_of_none ?_ (by assumption); walk_at "hp") | (refine Ne.symm (ne_of_none ?_ (by assumption)); walk_at "hp"))
local macro_rules | `(tactic| walk_at "st") => `(tactic| first
  | with_reducible refine c_seq ?_
  | with_reducible refine c_asg ?_
  | with_reducible refine c_var (by with_unfolding_all rfl) ?_
  | with_reducible refine c_c ?_
  | with_reducible refine c_op ?_
  | with_reducible refine c_cons ?_
  | with_reducible refine c_nil ?_
  | with_reducible refine c_CB ?_
  | with_reducible refine c_call ?_
  | with_reducible refine c_add ?_
  | with_reducible refine c_sub ?_
  | with_reducible refine c_neg ?_
  | with_reducible refine c_lt ?_
  | with_reducible refine c_le ?_
  | with_reducible refine c_gt ?_
  | with_reducible refine c_ge ?_
  | with_reducible refine c_un ?_
  | with_reducible refine c_ret ?_
  | with_reducible refine c_retN ?_
  | with_reducible refine c_drop ?_
  | with_reducible refine c_next ?_
  | with_reducible refine c_ifS ?_
  | with_reducible refine c_if ?_
  | with_reducible refine c_test ?_
  | with_reducible refine c_tB ?_
  | with_reducible refine c_bl ?_
  | with_reducible refine c_and ?_
  | with_reducible refine c_or ?_
  | with_reducible refine c_not ?_
  | with_reducible refine c_andV ?_
  | with_reducible refine c_orV ?_
  | with_reducible refine c_notV ?_
  | with_reducible refine c_chain ?_
  | with_reducible refine c_meth ?_
  | with_reducible refine c_fld' ?_
  | with_reducible refine c_tup ?_
  | with_reducible refine c_lst ?_
  | with_reducible refine c_lc ?_
  | with_reducible refine c_dc ?_
  | with_reducible refine c_iList ?_
  | with_reducible refine c_iTup ?_
  | with_reducible refine c_iStr ?_
  | with_reducible refine c_rng1 ?_
  | with_reducible refine c_items ?_
  | with_reducible refine c_keys ?_
  | with_reducible refine c_for ?_
  | with_reducible refine c_dget ?_
  | with_reducible refine c_din ?_
  | with_reducible refine c_dnin ?_
  | with_reducible refine c_put ?_
  | with_reducible refine c_get2 ?_
  | with_reducible refine c_sfld ?_
  | with_reducible refine c_bm ?_
  | with_reducible refine c_make ?_
  | with_reducible refine i_int (b := true) (by with_unfolding_all decide +kernel) ?_
  | with_reducible refine i_int (b := false) (by with_unfolding_all decide +kernel) ?_
  | with_reducible refine i_str (b := true) (by with_unfolding_all decide +kernel) ?_
  | with_reducible refine i_str (b := false) (by with_unfolding_all decide +kernel) ?_
  | with_reducible refine i_non (b := true) (by with_unfolding_all decide +kernel) ?_
  | with_reducible refine i_non (b := false) (by with_unfolding_all decide +kernel) ?_
  | with_reducible refine i_dK (b := true) (by walk_at "hp") (by with_unfolding_all decide +kernel) ?_
  | with_reducible refine i_dK (b := false) (by walk_at "hp") (by with_unfolding_all decide +kernel) ?_
  | with_reducible refine i_tup (b := true) (by walk_at "hp") (by with_unfolding_all decide +kernel) ?_
  | with_reducible refine i_tup (b := false) (by walk_at "hp") (by with_unfolding_all decide +kernel) ?_
  | with_reducible refine i_lst (b := true) (by walk_at "hp") (by with_unfolding_all decide +kernel) ?_
  | with_reducible refine i_lst (b := false) (by walk_at "hp") (by with_unfolding_all decide +kernel) ?_
  | with_reducible refine c_T ?_
  | with_reducible refine c_F ?_
  | with_reducible refine c_NF ?_
  | with_reducible refine c_NT ?_
  | with_reducible refine c_dnK ?_
  | with_reducible refine c_dnT ?_
  | with_reducible refine c_iSq ?_
  | with_reducible refine c_itemsT ?_
  | with_reducible refine c_sortSet ?_
  | with_reducible refine c_notN ?_
  | with_reducible refine c_isN ?_
  | with_reducible refine c_eq rfl ?_
  | with_reducible refine c_ne rfl ?_)
local macro_rules | `(tactic| walk_at "go") => `(tactic| repeat walk_at "st")
local macro_rules | `(tactic| walk_at "st") => `(tactic| first
  | with_reducible refine c_mulR (by omega) (by omega) ?_
  | with_reducible refine c_mulL (by omega) (by omega) ?_
  | with_reducible refine c_mod (by omega) ?_
  | with_reducible refine c_fdv' (by omega) (by omega) ?_
  | with_reducible refine c_gSub ?_
  | with_reducible refine c_yes ?_
  | with_reducible refine c_asgS ?_
  | with_reducible refine c_sl ?_
  | with_reducible refine c_noPart ?_
  | with_reducible refine c_part ?_
  | with_reducible refine c_ex ?_)
section
set_option maxHeartbeats 4000000
namespace Rt
open PySem PySem.Spec PyProof.Rows L2
section
variable {P : Program} {w : World} {K : PySem.W.Frag} {mg : Str → Option Value}
theorem pure_is_integer (T : Tx K mg) (vs : List V) (H : Hp) (Q : VK) (E : XK) (h : sp_is_integer K vs H Q E) : t_is_integer P w K ⟨fun _ H1 => Q .non H1, Q, fun _ _ => False, fun _ _ => False⟩ (start nm_is_integer vs) H := by
  obtain ⟨_, _, _, rfl, i, lo, hi, rfl, rfl, rfl, k⟩ := h
  unfold t_is_integer
  walk_at "go"
  have k' := k.now
  unfold isInt at k'
  refine c_ite (fun h1 => ?_) (fun h1 => ?_)
  · walk_at "go"
    rw [h1] at k'
    exact k'
  · rw [h1] at k'
    exact k'
theorem pure_is_name (T : Tx K mg) (vs : List V) (H : Hp) (Q : VK) (E : XK) (h : sp_is_name K vs H Q E) : t_is_name P w K ⟨fun _ H1 => Q .non H1, Q, fun _ _ => False, fun _ _ => False⟩ (start nm_is_name vs) H := by
  obtain ⟨_, rfl, s, rfl, hs, k⟩ := h
  have hz := million
  unfold t_is_name
  walk_at "go"
  refine c_lenS' (by omega) ?_
  walk_at "go"
  unfold isName at k
  have fin : ∀ b : Bool, (if b = true then ∀ H', Same H H' → Q (.bl ((decide ((s.length : Int) ≤ 8)) && s.cps.toList.all fun c => decide (c ∈ letters.cps.toList))) H' else ∀ H', Same H H' → Q (.bl false) H') → True := fun _ _ => trivial
  cases h1 : decide (1 ≤ (s.length : Int)) with
  | false =>
    rw [h1] at k
    exact c_F (c_bl (c_F k.now))
  | true =>
    rw [h1] at k
    walk_at "go"
    cases h2 : decide ((s.length : Int) ≤ 8) with
    | false =>
      rw [h2] at k
      exact c_F k.now
    | true =>
      rw [h2] at k
      walk_at "go"
      refine c_iStrAt ?_
      refine lc_pure walk_str (fun _ _ => trivial) (s.cps.toList.map fun c => V.bl (decide (c ∈ letters.cps.toList))) (by simp) (by show s.cps.size ≤ 1000000; have : s.cps.size = s.length := rfl; omega) ?_ ?_
      · rintro i x y H0 H' hy s0 ⟨rfl, c, hc, rfl⟩
        refine ⟨Same.refl _, fun P hP => ⟨rfl, ?_⟩⟩
        walk_at "go"
        refine c_inSg ?_
        have e : s.cps.toList[i]? = some c := by rw [Array.getElem?_toList]; exact hc
        rw [List.getElem?_map, e] at hy
        cases hy
        exact hP _ (Same.refl _)
      · intro p H' hp s1 h1
        refine c_all' (SqL.of (by rw [List.map_map]; exact h1)) ?_
        have e : (s.cps.toList.map fun c => decide (c ∈ letters.cps.toList)).all id = s.cps.toList.all fun c => decide (c ∈ letters.cps.toList) := by rw [List.all_map]; rfl
        rw [e]
        exact k.go s1

end
end Rt
end
section
set_option maxHeartbeats 4000000
namespace Rt
open PySem PySem.Spec PyProof.Rows L2
section
variable {P : Program} {w : World} {K : PySem.W.Frag} {mg : Str → Option Value}
theorem paired_get {α β : Type} {F : α → β → Prop} : ∀ {xs : List α} {ys : List β} {i : Nat} {x : α}, Paired F xs ys → xs[i]? = some x → ∃ y, ys[i]? = some y ∧ F x y
  | _, _, _, _, .nil, e => by simp at e
  | _, _, 0, x, .cons r _, e => by
    simp at e
    subst e
    exact ⟨_, rfl, r⟩
  | _, _, i + 1, x, .cons _ t, e => by
    obtain ⟨y, h1, h2⟩ := paired_get (i := i) (x := x) t (by simpa using e)
    exact ⟨y, by simpa using h1, h2⟩
theorem pure_is_plan (T : Tx K mg) (vs : List V) (H : Hp) (Q : VK) (E : XK) (h : sp_is_plan K vs H Q E) : t_is_plan P w K ⟨fun _ H1 => Q .non H1, Q, fun _ _ => False, fun _ _ => False⟩ (start nm_is_plan vs) H := by
  obtain ⟨_, _, _, rfl, hz, t, l, ts, ls, rfl, rfl, rfl, ht, hlen, hx, hls, hll, k⟩ := h
  obtain ⟨us, hsq, hpr⟩ := id hls
  have hlu : us.length = ls.length := Paired.length hpr
  unfold t_is_plan
  unfold isPlan at k
  walk_at "go"
  refine ⟨_, _, _, rfl, hz, 0, 1000000, rfl, rfl, rfl, fun H1 s1 => ?_⟩
  walk_at "go"
  refine c_ite (fun h1 => ?_) (fun h1 => ?_)
  · have h1' : isInt hz 0 1000000 = false := by simpa using h1
    walk_at "go"
    have k' := k.go s1
    simp only [h1', Bool.false_and] at k'
    exact k'
  · have h1' : isInt hz 0 1000000 = true := by simpa using h1
    walk_at "go"
    refine ⟨_, _, rfl, hz, t, ts, rfl, rfl, s1 _ _ ht, hlen, hx, fun H2 s2 => ?_⟩
    have s12 := s1.trans s2
    walk_at "go"
    refine c_ite (fun h2 => ?_) (fun h2 => ?_)
    · have h2' : isTimes hz ts = false := by simpa using h2
      walk_at "go"
      have k' := k.go s12
      simp only [h1', h2', Bool.false_and, Bool.and_false] at k'
      exact k'
    · have h2' : isTimes hz ts = true := by simpa using h2
      simp only [h1', h2', Bool.true_and] at k
      walk_at "go"
      refine c_nl rfl fun tp H3 hn s3 e3 => ?_
      have s13 := s12.trans s3
      walk_at "go"
      have hsq3 : SqL K H3 l us ∨ TupAt K H3 l us := hsq.imp (fun z => s13.seq z) fun z => z.same s13
      refine i_seqT e3 (hsq3.imp sqL_ty TupAt.ty) ?_
      walk_at "go"
      refine c_iSqAt hsq3 (Same.refl _) fun J G W hS => ?_
      refine lc_pure W hS (ls.map fun m => V.bl (isLag ts m)) (by rw [List.length_map, hlu]) (by omega) ?_ ?_
      · rintro i x y H0 H' hy s0 ⟨rfl, hxi⟩
        refine ⟨Same.refl _, fun Pq hP => ⟨rfl, ?_⟩⟩
        obtain ⟨m, hm, hr⟩ := paired_get hpr hxi
        rw [List.getElem?_map, hm] at hy
        cases hy
        walk_at "go"
        exact ⟨_, _, rfl, t, ts, m, rfl, s0 _ _ (s13 _ _ ht), hr.same (s13.trans s0), fun H4 s4 => hP H4 s4⟩
      · intro p H' hp s4 h4
        refine c_all' (SqL.of (by rw [List.map_map]; exact h4)) ?_
        have e : (ls.map (isLag ts)).all id = ls.all (isLag ts) := by rw [List.all_map]; rfl
        rw [e]
        exact k.go (s13.trans s4)

end
end Rt
end
section
set_option maxHeartbeats 4000000
namespace Rt
open PySem PySem.Spec PyProof.Rows L2
section
variable {P : Program} {w : World} {K : PySem.W.Frag} {mg : Str → Option Value}
theorem foldl_snoc {α β : Type} {f : β → α → β} {b : β} {l : List α} {i : Nat} {x : α} (h : l[i]? = some x) : (l.take (i + 1)).foldl f b = f ((l.take i).foldl f b) x := by
  rw [take_snoc h, List.foldl_append]
  rfl
theorem len_gapT (hz : Int) (g : GM) (e : Str × Int) : (gapT hz g e).length ≤ g.length + 2 := by
  have h1 := len_put (put g ("", e.1) 0) (e.1, "") (-hz)
  have h2 := len_put g (("", e.1) : Pr) (0 : Int)
  unfold gapT
  omega
theorem len_gapsT (hz : Int) : ∀ (l : List (Str × Int)) (g : GM), (l.foldl (gapT hz) g).length ≤ g.length + 2 * l.length
  | [], g => Nat.le_refl _
  | e :: r, g => by
    have h1 := len_gapsT hz r (gapT hz g e)
    have h2 := len_gapT hz g e
    rw [List.foldl_cons, List.length_cons]
    omega
theorem len_gapsL : ∀ (l : List Lag) (g : GM), (l.foldl gapL g).length ≤ g.length + l.length
  | [], g => Nat.le_refl _
  | e :: r, g => by
    have h1 := len_gapsL r (gapL g e)
    have h2 := len_put g (e.1, e.2.1) (max2 e.2.2 ((look g (e.1, e.2.1)).getD e.2.2))
    have h3 : (gapL g e).length ≤ g.length + 1 := h2
    rw [List.foldl_cons, List.length_cons]
    omega
theorem pure_greatest_gaps (T : Tx K mg) (vs : List V) (H : Hp) (Q : VK) (E : XK) (h : sp_greatest_gaps K vs H Q E) : t_greatest_gaps P w K ⟨fun _ H1 => Q .non H1, Q, fun _ _ => False, fun _ _ => False⟩ (start nm_greatest_gaps vs) H := by
  obtain ⟨_, _, _, rfl, hz, t, l, ts, ls, rfl, rfl, rfl, ht, hlen, hls, hll, k⟩ := h
  have hM := million
  unfold t_greatest_gaps
  walk_at "go"
  refine c_nw fun p H1 hp s1 e1 => ?_
  walk_at "go"
  have ntp : t ≠ p := ne_of_none ht hp
  refine c_lock (s1 _ _ ht) trivial (fun od G nx' rt' bk' ct' L fin => ?_)
  walk_at "go"
  refine c_keysK L.at_ ?_
  refine for_w walk_keys (fun i σ' H' => ∃ v4, σ' = [some (.int hz), some (.ref t), some (.ref l), some (.ref p), v4, none, none, none] ∧ But [p] G H' ∧ H' p = some (.dT (dPI ((ts.take i).foldl (gapT hz) []))))
    ⟨none, rfl, But.refl _ _, L.but _ _ e1 (not1 ntp.symm)⟩ (fun i σ' H' _ ⟨_, _, b, _⟩ => b _ _ L.at_ (not1 ntp)) ?_ ?_
  · rintro i x σ' H' H'' hi ⟨v4, rfl, b, hd⟩ ⟨rfl, kk, vv, hkv, rfl⟩
    have hx : ∃ e, ts[i]? = some e ∧ kk = kS e.1 := by
      unfold dSI at hkv
      rw [List.getElem?_map] at hkv
      cases he : ts[i]? with
      | none => rw [he] at hkv; cases hkv
      | some e => rw [he] at hkv; cases hkv; exact ⟨e, rfl, rfl⟩
    obtain ⟨e, he, rfl⟩ := hx
    have hil : i < ts.length := (List.getElem?_eq_some_iff.mp he).1
    have hlg := len_gapsT hz (ts.take i) []
    rw [List.length_take] at hlg
    have e0 : ([] : GM).length = 0 := rfl
    show tSeq _ _ ⟨_, rt', nx', _⟩ [some (.int hz), some (.ref t), some (.ref l), some (.ref p), some (.str e.1), none, none, none] H''
    walk_at "go"
    refine c_nl rfl fun T1 H3 n3 s3 e3 => ?_
    walk_at "go"
    refine c_putT (k := kP ("", e.1)) (s3 _ _ hd) e3 (by rw [len_PI]; omega) ?_
    walk_at "go"
    refine c_nl rfl fun T2 H4 n4 s4 e4 => ?_
    walk_at "go"
    refine c_putT (k := kP (e.1, "")) (s4 _ _ upd_same) e4 (by rw [put_PI, len_PI]; have := len_put (List.foldl (gapT hz) [] (List.take i ts)) (("", e.1) : Pr) (0 : Int); omega) ?_
    refine ⟨_, rfl, ?_, ?_⟩
    · exact (((b.same s3).put in1).same s4).put in1
    · rw [upd_same, foldl_snoc he, put_PI, put_PI]
      rfl
  · rintro σ' H' ⟨v4, rfl, b, hd⟩
    have hd' : H' p = some (.dT (dPI (ts.foldl (gapT hz) []))) := by
      rw [len_SI, List.take_length] at hd
      exact hd
    refine fin _ _ [p] (not1 ntp) b fun H2 s2 k2 => ?_
    have hp2 := k2 _ _ ntp.symm hd'
    obtain ⟨us, hsq, hpr⟩ := id hls
    have hlu : us.length = ls.length := Paired.length hpr
    have sH2 : Same H H2 := But.toSame s1 s2 fun q hq => by rw [List.mem_singleton.mp hq]; exact hp
    walk_at "go"
    refine c_iSqAt hsq sH2 fun J G2 W hS => ?_
    refine for_w W (fun i σ' H' => ∃ v4 v5 v6 v7, σ' = [some (.int hz), some (.ref t), some (.ref l), some (.ref p), v4, v5, v6, v7] ∧ Same H H' ∧ But [p] H2 H' ∧ H' p = some (.dT (dPI ((ls.take i).foldl gapL (ts.foldl (gapT hz) [])))))
      ⟨_, _, _, _, rfl, sH2, But.refl _ _, hp2⟩ (fun i σ' H' _ ⟨_, _, _, _, _, sH, b, _⟩ => hS _ sH) ?_ ?_
    · rintro i x σ' H' H'' hi ⟨v4, v5, v6, v7, rfl, sH, b, hd⟩ ⟨rfl, hxi⟩
      obtain ⟨m, hm, hr⟩ := paired_get hpr hxi
      obtain ⟨pl, rfl, hpl⟩ := hr.same sH
      obtain ⟨mx, my, mg'⟩ := m
      refine c_gTup (SqT.of hpl) rfl (c_g3 ?_)
      show sDPut _ _ _ ⟨_, _, _, _⟩ [some (.int hz), some (.ref t), some (.ref l), some (.ref p), v4, some (.str mx), some (.str my), some (.int mg')] H''
      have hil : i < ls.length := (List.getElem?_eq_some_iff.mp hm).1
      have hlg := len_gapsL (ls.take i) (ts.foldl (gapT hz) [])
      have hlg2 := len_gapsT hz ts []
      rw [List.length_take] at hlg
      have e0 : ([] : GM).length = 0 := rfl
      walk_at "go"
      refine c_get2T hd ?_
      walk_at "go"
      refine c_nl rfl fun T1 H3 n3 s3 e3 => ?_
      walk_at "go"
      refine c_get2Tv (k := kP (mx, my)) (s3 _ _ hd) e3 ?_
      rw [val_PI]
      have e5 : ((look (List.foldl gapL (List.foldl (gapT hz) [] ts) (List.take i ls)) (mx, my)).map V.int).getD (V.int mg') = V.int ((look (List.foldl gapL (List.foldl (gapT hz) [] ts) (List.take i ls)) (mx, my)).getD mg') := by
        cases look (List.foldl gapL (List.foldl (gapT hz) [] ts) (List.take i ls)) (mx, my) <;> rfl
      rw [e5]
      walk_at "go"
      refine c_max2' ?_
      walk_at "go"
      refine c_nl rfl fun T2 H4 n4 s4 e4 => ?_
      walk_at "go"
      refine c_putT (k := kP (mx, my)) (s4 _ _ (s3 _ _ hd)) e4 (by rw [len_PI]; omega) ?_
      refine ⟨_, _, _, _, rfl, same_mut (sH.trans (s3.trans s4)) hp, ((b.same s3).same s4).put in1, ?_⟩
      rw [upd_same, foldl_snoc hm, put_PI]
      rfl
    · rintro σ' H' ⟨v4, v5, v6, v7, rfl, sH, b, hd⟩
      walk_at "go"
      rw [hlu, List.take_length] at hd
      exact k.go sH hp hd

end
end Rt
end
section
set_option maxHeartbeats 4000000
namespace Rt
open PySem PySem.Spec PyProof.Rows L2
section
variable {P : Program} {w : World} {K : PySem.W.Frag} {mg : Str → Option Value}
theorem raise1_keys (r : Rz) (e : Pr × Int) (k : Str) (h : (look r.tot k).isSome = true) : (look (raise1 r e).tot k).isSome = true := by
  unfold raise1
  split
  · show (look (put r.tot e.1.2 _) k).isSome = true
    rw [look_put]
    split
    · rfl
    · exact h
  · exact h
theorem raiseF_keys (k : Str) : ∀ (g : GM) (r : Rz), (look r.tot k).isSome = true → (look (g.foldl raise1 r).tot k).isSome = true
  | [], _, h => h
  | e :: g, r, h => raiseF_keys k g (raise1 r e) (raise1_keys r e k h)
theorem raise1_len (r : Rz) (e : Pr × Int) : (raise1 r e).tot.length ≤ r.tot.length + 1 ∧ (raise1 r e).prv.length ≤ r.prv.length + 1 := by
  unfold raise1
  split
  · exact ⟨len_put _ _ _, len_put _ _ _⟩
  · exact ⟨Nat.le_succ _, Nat.le_succ _⟩
theorem raiseF_len : ∀ (g : GM) (r : Rz), (g.foldl raise1 r).tot.length ≤ r.tot.length + g.length ∧ (g.foldl raise1 r).prv.length ≤ r.prv.length + g.length
  | [], r => ⟨Nat.le_refl _, Nat.le_refl _⟩
  | e :: g, r => by
    have h1 := raiseF_len g (raise1 r e)
    have h2 := raise1_len r e
    rw [List.foldl_cons, List.length_cons]
    omega
theorem look_at0 {t : List (Str × Int)} {x : Str} (h : (look t x).isSome = true) : look t x = some (at0 t x) := by
  obtain ⟨v, hv⟩ := Option.isSome_iff_exists.mp h
  unfold at0
  rw [hv] <;> rfl
theorem pure_raise_totals (T : Tx K mg) (vs : List V) (H : Hp) (Q : VK) (E : XK) (h : sp_raise_totals K vs H Q E) : t_raise_totals P w K ⟨fun _ H1 => Q .non H1, Q, fun _ _ => False, fun _ _ => False⟩ (start nm_raise_totals vs) H := by
  obtain ⟨_, _, _, rfl, ga, gb, gc, g, t, p, rfl, rfl, rfl, ha, hb, hc, nbc, hg, hlt, hlp, k⟩ := h
  have hM := million
  have nab : ga ≠ gb := ne_of ha hb (by intro z; cases z)
  have nac : ga ≠ gc := ne_of ha hc (by intro z; cases z)
  unfold t_raise_totals
  walk_at "go"
  refine c_lock ha trivial (fun od G nx' rt' bk' ct' L fin => ?_)
  walk_at "go"
  refine c_itemsTAt L.at_ ?_
  refine for_w walk_itemsT (fun i σ' H' => ∃ v4 v5 v6, σ' = [some (.ref ga), some (.ref gb), some (.ref gc), some (optS (raiseT (g.take i) t p).last), v4, v5, v6] ∧ But [gb, gc] G H' ∧ H' gb = some (.dK (dSI (raiseT (g.take i) t p).tot)) ∧ H' gc = some (.dK (dSS (raiseT (g.take i) t p).prv)))
    ⟨_, _, _, rfl, But.refl _ _, L.but _ _ hb (not1 nab.symm), L.but _ _ hc (not1 nac.symm)⟩ (fun i σ' H' _ ⟨_, _, _, _, b, _⟩ => b _ _ L.at_ (not2 nab nac)) ?_ ?_
  · rintro i x σ' H' H'' hi ⟨v4, v5, v6, rfl, b, h1, h2⟩ ⟨Tp, kk, vv, q, hkv, rfl, hT, hq, rfl⟩
    have hx : ∃ e, g[i]? = some e ∧ kk = kP e.1 ∧ vv = .int e.2 := by
      unfold dPI at hkv
      rw [List.getElem?_map] at hkv
      cases he : g[i]? with
      | none => rw [he] at hkv; cases hkv
      | some e => rw [he] at hkv; cases hkv; exact ⟨e, rfl, rfl, rfl⟩
    obtain ⟨e, he, rfl, rfl⟩ := hx
    obtain ⟨⟨ex, ey⟩, ez⟩ := e
    have hmem := hg _ (List.mem_of_getElem? he)
    have s1 : Same H' (upd H' Tp (.tup [.ref q, .int ez])) := same_new hT
    refine c_gNest (SqT.of upd_same) (SqT.of (xs := [.str ex, .str ey]) (s1 _ _ hq)) ?_
    show tIfS _ _ _ ⟨_, rt', nx', _⟩ [some (.ref ga), some (.ref gb), some (.ref gc), some (optS (raiseT (g.take i) t p).last), some (.str ex), some (.str ey), some (.int ez)] _
    have hil : i < g.length := (List.getElem?_eq_some_iff.mp he).1
    have hlen := raiseF_len (g.take i) ⟨t, p, none⟩
    rw [List.length_take] at hlen
    have hl1 : (raiseT (g.take i) t p).tot.length ≤ t.length + min i g.length := hlen.1
    have hl2 : (raiseT (g.take i) t p).prv.length ≤ p.length + min i g.length := hlen.2
    have k1 : look (raiseT (g.take i) t p).tot ex = some (at0 (raiseT (g.take i) t p).tot ex) := look_at0 (raiseF_keys ex (g.take i) ⟨t, p, none⟩ hmem.1)
    have k2 : look (raiseT (g.take i) t p).tot ey = some (at0 (raiseT (g.take i) t p).tot ey) := look_at0 (raiseF_keys ey (g.take i) ⟨t, p, none⟩ hmem.2)
    have step : raiseT (g.take (i + 1)) t p = raise1 (raiseT (g.take i) t p) ((ex, ey), ez) := foldl_snoc he
    generalize hr : raiseT (g.take i) t p = r at *
    have g1 : valV (dSI r.tot) (.inr ex) = some (.int (at0 r.tot ex)) := (val_SI r.tot ex).trans (by rw [k1]; rfl)
    have g2 : valV (dSI r.tot) (.inr ey) = some (.int (at0 r.tot ey)) := (val_SI r.tot ey).trans (by rw [k2]; rfl)
    walk_at "go"
    refine c_getK (s1 _ _ h1) g1 ?_
    walk_at "go"
    refine c_getK (s1 _ _ h1) g2 ?_
    walk_at "go"
    refine c_ite (fun c => ?_) (fun c => ?_)
    · have c' := of_decide_eq_true c
      walk_at "go"
      refine c_getK (s1 _ _ h1) g1 ?_
      walk_at "go"
      refine c_putK (s1 _ _ h1) (by rw [len_SI]; omega) ?_
      walk_at "go"
      refine c_putK (Eq.trans (upd_ne nbc.symm) (s1 _ _ h2)) (by rw [len_SS]; omega) ?_
      walk_at "go"
      have er : raise1 r ((ex, ey), ez) = ⟨put r.tot ey (at0 r.tot ex + ez), put r.prv ey ex, some ey⟩ := if_pos c'
      refine ⟨some (.str ex), some (.str ey), some (.int ez), ?_, ((b.same s1).put in21).put in22, ?_, ?_⟩
      · rw [step, er]; rfl
      · rw [step, er, upd_ne nbc, upd_same]
        exact congrArg (fun z => some (HO.dK z)) (put_SI r.tot ey (at0 r.tot ex + ez))
      · rw [step, er, upd_same]
        exact congrArg (fun z => some (HO.dK z)) (put_SS r.prv ey ex)
    · have c' := of_decide_eq_false c
      walk_at "go"
      have er : raise1 r ((ex, ey), ez) = r := if_neg c'
      refine ⟨some (.str ex), some (.str ey), some (.int ez), ?_, b.same s1, ?_, ?_⟩
      · rw [step, er]
      · rw [step, er]; exact s1 _ _ h1
      · rw [step, er]; exact s1 _ _ h2
  · rintro σ' H' ⟨v4, v5, v6, rfl, b, h1, h2⟩
    rw [len_PI, List.take_length] at h1 h2 ⊢
    refine fin _ _ [gb, gc] (not2 nab nac) b fun H2 s2 k2 => ?_
    walk_at "go"
    exact k H2 s2 (k2 _ _ nab.symm h1) (k2 _ _ nac.symm h2)

end
end Rt
end
section
set_option maxHeartbeats 4000000
/-! MathA: the statements of the mathematics of consistent lags. -/
namespace Rt
open PySem L2
def zeros (xs : List Str) : List (Str × Int) := (nds xs).map fun x => (x, 0)
def rnd (g : GM) (t0 : List (Str × Int)) : Nat → Rz
  | 0 => ⟨t0, [], none⟩
  | i + 1 => raiseT g (rnd g t0 i).tot (rnd g t0 i).prv
theorem mergeK_app : ∀ (ys acc : List (Key × V)), (acc.map (·.1) ++ ys.map (·.1)).Nodup → mergeK acc ys = acc ++ ys
  | [], acc, _ => by rw [List.append_nil]; rfl
  | y :: ys, acc, h => by
    have hn : valV acc y.1 = none := by
      have hy : y.1 ∉ acc.map (·.1) := fun m => by
        rw [List.nodup_append] at h
        exact h.2.2 y.1 m y.1 (List.mem_cons_self) rfl
      cases q : valV acc y.1 with
      | none => rfl
      | some v => exact (hy (valV_in q)).elim
    show mergeK (putK acc y.1 y.2) ys = acc ++ y :: ys
    rw [putK_new y.2 hn, mergeK_app ys (acc ++ [(y.1, y.2)])]
    · simp
    · rw [List.map_append, List.append_assoc]
      exact h
theorem mergeK_new {ys : List (Key × V)} (h : (ys.map (·.1)).Nodup) : mergeK [] ys = ys := by
  rw [mergeK_app ys [] h]
  rfl
theorem kS_nodup {xs : List Str} (h : xs.Nodup) : (xs.map kS).Nodup := by
  unfold List.Nodup
  rw [List.pairwise_map]
  exact h.imp fun n e => n (kS_inj _ _ e)
theorem names_ne {hz : Int} {ts : List (Str × Int)} (h : isTimes hz ts = true) : ("" : Str) ∉ ts.map (·.1) := fun m => by
  obtain ⟨e, he, q⟩ := List.mem_map.mp m
  have := List.all_eq_true.mp h e he
  rw [q] at this
  have h2 : isName "" = true := by
    cases hq : isName "" with
    | true => rfl
    | false => rw [hq, Bool.false_and] at this; cases this
  have h3 : isName "" = false := by decide +kernel
  rw [h3] at h2
  cases h2
theorem isPlan_times {hz : Int} {ts : List (Str × Int)} {ls : List Lag} (h : isPlan hz ts ls = true) : isTimes hz ts = true := by
  unfold isPlan at h
  simp only [Bool.and_eq_true] at h
  exact h.2.1
theorem isPlan_hz {hz : Int} {ts : List (Str × Int)} {ls : List Lag} (h : isPlan hz ts ls = true) : 0 ≤ hz ∧ hz ≤ 1000000 := by
  unfold isPlan isInt at h
  simp only [Bool.and_eq_true, decide_eq_true_eq] at h
  exact h.1
theorem isPlan_lag {hz : Int} {ts : List (Str × Int)} {ls : List Lag} (h : isPlan hz ts ls = true) : ∀ l ∈ ls, isLag ts l = true := by
  unfold isPlan at h
  simp only [Bool.and_eq_true] at h
  exact List.all_eq_true.mp h.2.2
theorem isNode_mem {ts : List (Str × Int)} {x : Str} (h : isNode ts x = true) : x ∈ nds (ts.map (·.1)) := by
  unfold isNode at h
  rw [Bool.or_eq_true] at h
  rcases h with h | h
  · rw [of_decide_eq_true h]; exact List.mem_cons_self
  · exact List.mem_cons_of_mem _ (look_isSome.mp h)
theorem isLag_mem {ts : List (Str × Int)} {l : Lag} (h : isLag ts l = true) : l.1 ∈ nds (ts.map (·.1)) ∧ l.2.1 ∈ nds (ts.map (·.1)) ∧ l.1 ≠ l.2.1 := by
  unfold isLag at h
  simp only [Bool.and_eq_true, Bool.not_eq_true', decide_eq_false_iff_not] at h
  exact ⟨isNode_mem h.2.1, isNode_mem h.2.2.1, h.2.2.2⟩
theorem look_zeros {xs : List Str} {x : Str} : (look (zeros xs) x).isSome = true ↔ x ∈ nds xs := by
  rw [look_isSome]
  unfold zeros
  rw [List.map_map]
  have : ((nds xs).map ((fun e : Str × Int => e.1) ∘ fun x => (x, 0))) = nds xs := by
    rw [show ((fun e : Str × Int => e.1) ∘ fun x => (x, (0 : Int))) = id from rfl, List.map_id]
  rw [this]
theorem keys_gapT (hz : Int) (xs : List Str) : ∀ (l : List (Str × Int)) (g : GM), (∀ e ∈ l, e.1 ∈ xs) → (∀ p ∈ g.map (·.1), p.1 ∈ nds xs ∧ p.2 ∈ nds xs) → ∀ p ∈ (l.foldl (gapT hz) g).map (·.1), p.1 ∈ nds xs ∧ p.2 ∈ nds xs
  | [], g, _, hg => hg
  | e :: l, g, hl, hg => by
    refine keys_gapT hz xs l (gapT hz g e) (fun z hz' => hl z (List.mem_cons_of_mem _ hz')) fun p hp => ?_
    have he := hl e List.mem_cons_self
    unfold gapT at hp
    rw [keys_put] at hp
    have h2 : ∀ p ∈ (put g ("", e.1) (0 : Int)).map (·.1), p.1 ∈ nds xs ∧ p.2 ∈ nds xs := fun p hp => by
      rw [keys_put] at hp
      split at hp
      · exact hg p hp
      · rcases List.mem_append.mp hp with q | q
        · exact hg p q
        · rw [List.mem_singleton.mp q]
          exact ⟨List.mem_cons_self, List.mem_cons_of_mem _ he⟩
    split at hp
    · exact h2 p hp
    · rcases List.mem_append.mp hp with q | q
      · exact h2 p q
      · rw [List.mem_singleton.mp q]
        exact ⟨List.mem_cons_of_mem _ he, List.mem_cons_self⟩
theorem keys_gapL (ns : List Str) : ∀ (l : List Lag) (g : GM), (∀ e ∈ l, e.1 ∈ ns ∧ e.2.1 ∈ ns) → (∀ p ∈ g.map (·.1), p.1 ∈ ns ∧ p.2 ∈ ns) → ∀ p ∈ (l.foldl gapL g).map (·.1), p.1 ∈ ns ∧ p.2 ∈ ns
  | [], g, _, hg => hg
  | e :: l, g, hl, hg => by
    refine keys_gapL ns l (gapL g e) (fun z hz' => hl z (List.mem_cons_of_mem _ hz')) fun p hp => ?_
    unfold gapL at hp
    rw [keys_put] at hp
    split at hp
    · exact hg p hp
    · rcases List.mem_append.mp hp with q | q
      · exact hg p q
      · rw [List.mem_singleton.mp q]
        exact hl e List.mem_cons_self
theorem keys_ggaps {hz : Int} {ts : List (Str × Int)} {ls : List Lag} (h : ∀ l ∈ ls, l.1 ∈ nds (ts.map (·.1)) ∧ l.2.1 ∈ nds (ts.map (·.1))) : ∀ p ∈ (ggaps hz ts ls).map (·.1), p.1 ∈ nds (ts.map (·.1)) ∧ p.2 ∈ nds (ts.map (·.1)) :=
  keys_gapL _ ls _ h (keys_gapT hz (ts.map (·.1)) ts [] (fun e he => List.mem_map.mpr ⟨e, he, rfl⟩) fun p hp => nomatch hp)
end Rt
end
section
set_option maxHeartbeats 4000000
/-! MathB: Bellman and Ford end. -/
namespace Rt
open PySem L2
/-! ### the gaps' table -/
theorem ggaps_le {hz : Int} {ts : List (Str × Int)} {ls : List Lag} {d : Str → Str → Int} (h1 : ∀ e ∈ ts, 0 ≤ d "" e.1 ∧ -hz ≤ d e.1 "") (h2 : ∀ l ∈ ls, l.2.2 ≤ d l.1 l.2.1) : ∀ a b v, look (ggaps hz ts ls) (a, b) = some v → v ≤ d a b := by
  have t1 : ∀ (l : List (Str × Int)) (g : GM), (∀ e ∈ l, 0 ≤ d "" e.1 ∧ -hz ≤ d e.1 "") → (∀ a b v, look g (a, b) = some v → v ≤ d a b) → ∀ a b v, look (l.foldl (gapT hz) g) (a, b) = some v → v ≤ d a b := by
    intro l
    induction l with
    | nil => exact fun g _ h => h
    | cons e l ih =>
      intro g he h
      refine ih (gapT hz g e) (fun z m => he z (List.mem_cons_of_mem _ m)) fun a b v hv => ?_
      have k := he e List.mem_cons_self
      unfold gapT at hv
      rw [look_put] at hv
      split at hv
      · rename_i q
        cases hv
        injection q with q1 q2
        rw [q1, q2]
        exact k.2
      · rw [look_put] at hv
        split at hv
        · rename_i q
          cases hv
          injection q with q1 q2
          rw [q1, q2]
          exact k.1
        · exact h a b v hv
  have t2 : ∀ (l : List Lag) (g : GM), (∀ e ∈ l, e.2.2 ≤ d e.1 e.2.1) → (∀ a b v, look g (a, b) = some v → v ≤ d a b) → ∀ a b v, look (l.foldl gapL g) (a, b) = some v → v ≤ d a b := by
    intro l
    induction l with
    | nil => exact fun g _ h => h
    | cons e l ih =>
      intro g he h
      refine ih (gapL g e) (fun z m => he z (List.mem_cons_of_mem _ m)) fun a b v hv => ?_
      have k := he e List.mem_cons_self
      unfold gapL at hv
      rw [look_put] at hv
      split at hv
      · rename_i q
        cases hv
        injection q with q1 q2
        rw [q1, q2]
        unfold max2
        split
        · cases c : look g (e.1, e.2.1) with
          | none => exact k
          | some w => exact h _ _ _ c
        · exact k
      · exact h a b v hv
  exact t2 ls _ h2 (t1 ts [] h1 fun a b v hv => by cases hv)
theorem nodup_fold {β : Type} {f : GM → β → GM} (hf : ∀ g b, (g.map (·.1)).Nodup → ((f g b).map (·.1)).Nodup) : ∀ (l : List β) (g : GM), (g.map (·.1)).Nodup → ((l.foldl f g).map (·.1)).Nodup
  | [], _, h => h
  | b :: l, g, h => nodup_fold hf l (f g b) (hf g b h)
theorem nodup_ggaps (hz : Int) (ts : List (Str × Int)) (ls : List Lag) : ((ggaps hz ts ls).map (·.1)).Nodup :=
  nodup_fold (fun _ _ h => nodup_put h) ls _ (nodup_fold (fun _ _ h => nodup_put (nodup_put h)) ts [] List.nodup_nil)
/-! ### rounds -/
theorem at0_put {t : List (Str × Int)} {k x : Str} {v : Int} : at0 (put t k v) x = if x = k then v else at0 t x := by
  unfold at0
  rw [look_put]
  split <;> rfl
theorem raise1_ge (r : Rz) (e : Pr × Int) (x : Str) : at0 r.tot x ≤ at0 (raise1 r e).tot x := by
  unfold raise1
  split
  · rw [at0_put]
    split
    · rename_i q
      rw [q]
      omega
    · exact Int.le_refl _
  · exact Int.le_refl _
theorem raise1_at (r : Rz) (e : Pr × Int) : at0 r.tot e.1.1 + e.2 ≤ at0 (raise1 r e).tot e.1.2 := by
  unfold raise1
  split
  · rw [at0_put, if_pos rfl]
    exact Int.le_refl _
  · omega
theorem raise1_le {T : Str → Int} {r : Rz} {e : Pr × Int} (he : T e.1.1 + e.2 ≤ T e.1.2) (h : ∀ x, at0 r.tot x ≤ T x) : ∀ x, at0 (raise1 r e).tot x ≤ T x := fun x => by
  unfold raise1
  split
  · rw [at0_put]
    split
    · rename_i q
      rw [q]
      have := h e.1.1
      omega
    · exact h x
  · exact h x
theorem fold_ge : ∀ (l : GM) (r : Rz) (x : Str), at0 r.tot x ≤ at0 (l.foldl raise1 r).tot x
  | [], _, _ => Int.le_refl _
  | e :: l, r, x => Int.le_trans (raise1_ge r e x) (fold_ge l (raise1 r e) x)
theorem fold_le {T : Str → Int} : ∀ (l : GM) (r : Rz), (∀ e ∈ l, T e.1.1 + e.2 ≤ T e.1.2) → (∀ x, at0 r.tot x ≤ T x) → ∀ x, at0 (l.foldl raise1 r).tot x ≤ T x
  | [], _, _, h => h
  | e :: l, r, he, h => fold_le l (raise1 r e) (fun z m => he z (List.mem_cons_of_mem _ m)) (raise1_le (he e List.mem_cons_self) h)
theorem fold_hit {T : Str → Int} : ∀ (l : GM) (r : Rz), (∀ e ∈ l, T e.1.1 + e.2 ≤ T e.1.2) → (∀ x, at0 r.tot x ≤ T x) → ∀ e ∈ l, at0 r.tot e.1.1 = T e.1.1 → T e.1.1 + e.2 = T e.1.2 → at0 (l.foldl raise1 r).tot e.1.2 = T e.1.2
  | [], _, _, _, e, m, _, _ => nomatch m
  | e0 :: l, r, he, h, e, m, h1, h2 => by
    have h' := raise1_le (he e0 List.mem_cons_self) h
    have he' : ∀ e ∈ l, T e.1.1 + e.2 ≤ T e.1.2 := fun z m => he z (List.mem_cons_of_mem _ m)
    rcases List.mem_cons.mp m with q | q
    · subst q
      have k1 := raise1_at r e
      have k2 := fold_ge l (raise1 r e) e.1.2
      have k3 := fold_le l (raise1 r e) he' h' e.1.2
      show at0 (l.foldl raise1 (raise1 r e)).tot e.1.2 = T e.1.2
      omega
    · refine fold_hit l (raise1 r e0) he' h' e q ?_ h2
      have k1 := raise1_ge r e0 e.1.1
      have k2 := h' e.1.1
      omega
theorem fold_still {T : Str → Int} : ∀ (l : GM) (r : Rz), (∀ e ∈ l, T e.1.1 + e.2 ≤ T e.1.2) → (∀ e ∈ l, at0 r.tot e.1.1 = T e.1.1 ∧ at0 r.tot e.1.2 = T e.1.2) → l.foldl raise1 r = r
  | [], _, _, _ => rfl
  | e :: l, r, he, h => by
    have k := h e List.mem_cons_self
    have k2 := he e List.mem_cons_self
    have e1 : raise1 r e = r := by
      unfold raise1
      rw [if_neg (by omega)]
    rw [List.foldl_cons, e1]
    exact fold_still l r (fun z m => he z (List.mem_cons_of_mem _ m)) fun z m => h z (List.mem_cons_of_mem _ m)
/-! ### a least potential -/
structure Ptl (g : GM) (T : Str → Int) : Prop where
  nn : ∀ x, 0 ≤ T x
  arc : ∀ e ∈ g, T e.1.1 + e.2 ≤ T e.1.2
def sumT (ns : List Str) (T : Str → Int) : Nat := (ns.map fun x => (T x).toNat).sum
theorem ptl_least (g : GM) (ns : List Str) : ∀ (n : Nat) (T : Str → Int), Ptl g T → sumT ns T ≤ n → ∃ T, Ptl g T ∧ ∀ P, Ptl g P → sumT ns T ≤ sumT ns P
  | 0, T, h, hn => ⟨T, h, fun P _ => by omega⟩
  | n + 1, T, h, hn => by
    by_cases q : ∃ P, Ptl g P ∧ sumT ns P < sumT ns T
    · obtain ⟨P, hP, hl⟩ := q
      exact ptl_least g ns n P hP (by omega)
    · refine ⟨T, h, fun P hP => ?_⟩
      rcases Nat.lt_or_ge (sumT ns P) (sumT ns T) with c | c
      · exact (q ⟨P, hP, c⟩).elim
      · exact c
theorem sumT_lt {ns : List Str} {P T : Str → Int} (hp : ∀ x, 0 ≤ P x) (hle : ∀ x, P x ≤ T x) {y : Str} (hy : y ∈ ns) (hlt : P y < T y) : sumT ns P < sumT ns T := by
  have le : ∀ l : List Str, sumT l P ≤ sumT l T := by
    intro l
    induction l with
    | nil => exact Nat.le_refl _
    | cons x l ih =>
      have := hle x
      unfold sumT at ih ⊢
      rw [List.map_cons, List.map_cons, List.sum_cons, List.sum_cons]
      omega
  induction ns with
  | nil => cases hy
  | cons x l ih =>
    have k1 := hle x
    have k2 := le l
    have k3 := hp y
    rcases List.mem_cons.mp hy with q | q
    · subst q
      unfold sumT at k2 ⊢
      rw [List.map_cons, List.map_cons, List.sum_cons, List.sum_cons]
      omega
    · have k := ih q
      unfold sumT at k ⊢
      rw [List.map_cons, List.map_cons, List.sum_cons, List.sum_cons]
      omega
/-- what is above 0 is held up from outside -/
theorem tight {g : GM} {ns : List Str} {T : Str → Int} (hT : Ptl g T) (least : ∀ P, Ptl g P → sumT ns T ≤ sumT ns P) (U : Str → Bool) (hU : ∀ y, U y = true → 0 < T y) {y0 : Str} (h0 : y0 ∈ ns) (h1 : U y0 = true) :
    ∃ e ∈ g, U e.1.1 = false ∧ U e.1.2 = true ∧ T e.1.1 + e.2 = T e.1.2 := by
  refine Classical.byContradiction fun no => ?_
  have hP : Ptl g (fun x => if U x = true then T x - 1 else T x) := by
    refine ⟨fun x => ?_, fun e he => ?_⟩
    · show 0 ≤ if U x = true then T x - 1 else T x
      split
      · rename_i q
        have := hU x q
        omega
      · exact hT.nn x
    · have k := hT.arc e he
      show (if U e.1.1 = true then T e.1.1 - 1 else T e.1.1) + e.2 ≤ if U e.1.2 = true then T e.1.2 - 1 else T e.1.2
      cases c1 : U e.1.1 with
      | true =>
        rw [if_pos rfl]
        split <;> omega
      | false =>
        rw [if_neg Bool.false_ne_true]
        cases c2 : U e.1.2 with
        | true =>
          rw [if_pos rfl]
          have : T e.1.1 + e.2 ≠ T e.1.2 := fun z => no ⟨e, he, c1, c2, z⟩
          omega
        | false =>
          rw [if_neg Bool.false_ne_true]
          exact k
  have := least _ hP
  have lt : sumT ns (fun x => if U x = true then T x - 1 else T x) < sumT ns T := by
    refine sumT_lt hP.nn (fun x => ?_) h0 ?_
    · show (if U x = true then T x - 1 else T x) ≤ T x
      split <;> omega
    · show (if U y0 = true then T y0 - 1 else T y0) < T y0
      rw [if_pos h1]
      omega
  omega
theorem filter_lt {l : List Str} {p q : Str → Bool} (h : ∀ x ∈ l, p x = true → q x = true) {y : Str} (hy : y ∈ l) (h1 : q y = true) (h2 : p y = false) : (l.filter p).length < (l.filter q).length := by
  have le : ∀ l : List Str, (∀ x ∈ l, p x = true → q x = true) → (l.filter p).length ≤ (l.filter q).length := by
    intro l
    induction l with
    | nil => exact fun _ => Nat.le_refl _
    | cons x l ih =>
      intro h
      have k := ih fun z m => h z (List.mem_cons_of_mem _ m)
      have kx := h x List.mem_cons_self
      rw [List.filter_cons, List.filter_cons]
      cases c : p x with
      | true =>
        rw [kx c, if_pos rfl, if_pos rfl, List.length_cons, List.length_cons]
        omega
      | false =>
        rw [if_neg Bool.false_ne_true]
        split
        · rw [List.length_cons]
          omega
        · exact k
  induction l with
  | nil => cases hy
  | cons x l ih =>
    have k := le l fun z m => h z (List.mem_cons_of_mem _ m)
    rw [List.filter_cons, List.filter_cons]
    rcases List.mem_cons.mp hy with e | e
    · subst e
      rw [h1, h2, if_neg Bool.false_ne_true, if_pos rfl, List.length_cons]
      omega
    · have k2 := ih (fun z m => h z (List.mem_cons_of_mem _ m)) e
      have kx := h x List.mem_cons_self
      cases c : p x with
      | true =>
        rw [kx c, if_pos rfl, if_pos rfl, List.length_cons, List.length_cons]
        omega
      | false =>
        rw [if_neg Bool.false_ne_true]
        split
        · rw [List.length_cons]
          omega
        · exact k2
theorem filter_all {l : List Str} {p : Str → Bool} (h : l.length ≤ (l.filter p).length) : ∀ x ∈ l, p x = true := by
  intro x hx
  cases c : p x with
  | true => rfl
  | false =>
    have := filter_lt (p := p) (q := fun _ => true) (l := l) (fun _ _ _ => rfl) hx rfl c
    rw [show (l.filter fun _ => true) = l from List.filter_eq_self.mpr fun _ _ => rfl] at this
    omega
theorem rnd_tot {g : GM} {t0 : List (Str × Int)} {i : Nat} : (rnd g t0 (i + 1)).tot = (g.foldl raise1 ⟨(rnd g t0 i).tot, (rnd g t0 i).prv, none⟩).tot := rfl
theorem at0_zeros (xs : List Str) (x : Str) : at0 (zeros xs) x = 0 := by
  unfold at0
  cases c : look (zeros xs) x with
  | none => rfl
  | some v =>
    have := look_mem c
    unfold zeros at this
    obtain ⟨z, _, e⟩ := List.mem_map.mp this
    injection e with _ e
    rw [← e]
    rfl
theorem rounds {g : GM} {ns : List Str} {t0 : List (Str × Int)} (hz : ∀ x, at0 t0 x = 0) (hk : ∀ e ∈ g, e.1.1 ∈ ns ∧ e.1.2 ∈ ns) {T0 : Str → Int} (h0 : Ptl g T0) : (rnd g t0 (ns.length + 1)).last = none := by
  obtain ⟨T, hT, least⟩ := ptl_least g ns _ T0 h0 (Nat.le_refl _)
  have lo : ∀ i x, 0 ≤ at0 (rnd g t0 i).tot x := by
    intro i
    induction i with
    | zero => intro x; show 0 ≤ at0 t0 x; rw [hz]; exact Int.le_refl _
    | succ i ih =>
      intro x
      rw [rnd_tot]
      exact Int.le_trans (ih x) (fold_ge g ⟨(rnd g t0 i).tot, (rnd g t0 i).prv, none⟩ x)
  have hi : ∀ i x, at0 (rnd g t0 i).tot x ≤ T x := by
    intro i
    induction i with
    | zero => intro x; show at0 t0 x ≤ T x; rw [hz]; exact hT.nn x
    | succ i ih =>
      intro x
      rw [rnd_tot]
      exact fold_le g ⟨(rnd g t0 i).tot, (rnd g t0 i).prv, none⟩ hT.arc ih x
  have cnt : ∀ i, i ≤ (ns.filter fun x => decide (at0 (rnd g t0 i).tot x = T x)).length ∨ ∀ x ∈ ns, at0 (rnd g t0 i).tot x = T x := by
    intro i
    induction i with
    | zero => exact .inl (Nat.zero_le _)
    | succ i ih =>
      have keep : ∀ x, at0 (rnd g t0 i).tot x = T x → at0 (rnd g t0 (i + 1)).tot x = T x := fun x e => by
        have k1 := fold_ge g ⟨(rnd g t0 i).tot, (rnd g t0 i).prv, none⟩ x
        have k2 := hi (i + 1) x
        rw [rnd_tot] at k2 ⊢
        have k3 : at0 (rnd g t0 i).tot x ≤ at0 (g.foldl raise1 ⟨(rnd g t0 i).tot, (rnd g t0 i).prv, none⟩).tot x := k1
        omega
      by_cases q : ∀ x ∈ ns, at0 (rnd g t0 i).tot x = T x
      · exact .inr fun x m => keep x (q x m)
      · rcases ih with ih | ih
        · obtain ⟨y0, q⟩ := Classical.not_forall.mp q
          obtain ⟨m0, q⟩ := Classical.not_imp.mp q
          obtain ⟨e, he, u1, u2, ht⟩ := tight hT least (fun y => !decide (at0 (rnd g t0 i).tot y = T y)) (fun y hy => by
            have c : ¬ at0 (rnd g t0 i).tot y = T y := by simpa using hy
            have k1 := lo i y
            have k2 := hi i y
            omega) m0 (by simpa using q)
          have c1 : at0 (rnd g t0 i).tot e.1.1 = T e.1.1 := by simpa using u1
          have c2 : ¬ at0 (rnd g t0 i).tot e.1.2 = T e.1.2 := by simpa using u2
          have c3 := fold_hit g ⟨(rnd g t0 i).tot, (rnd g t0 i).prv, none⟩ hT.arc (hi i) e he c1 ht
          rw [← rnd_tot] at c3
          have := filter_lt (l := ns) (p := fun x => decide (at0 (rnd g t0 i).tot x = T x)) (q := fun x => decide (at0 (rnd g t0 (i + 1)).tot x = T x)) (fun x _ hx => decide_eq_true (keep x (of_decide_eq_true hx))) (hk e he).2 (decide_eq_true c3) (decide_eq_false c2)
          exact .inl (by omega)
        · exact (q ih).elim
  have all : ∀ x ∈ ns, at0 (rnd g t0 ns.length).tot x = T x := by
    rcases cnt ns.length with c | c
    · exact fun x m => of_decide_eq_true (filter_all c x m)
    · exact c
  have := fold_still g ⟨(rnd g t0 ns.length).tot, (rnd g t0 ns.length).prv, none⟩ hT.arc fun e he => ⟨all _ (hk e he).1, all _ (hk e he).2⟩
  show (g.foldl raise1 ⟨(rnd g t0 ns.length).tot, (rnd g t0 ns.length).prv, none⟩).last = none
  rw [this]
theorem bf_ends {hz : Int} {ts : List (Str × Int)} {ls : List Lag} (hp : isPlan hz ts ls = true) (nd : (ts.map (·.1)).Nodup) (hc : Cons hz (ts.map (·.1)) ls) : ∃ i, i ≤ ts.length + 1 ∧ (rnd (ggaps hz ts ls) (zeros (ts.map (·.1))) (i + 1)).last = none := by
  obtain ⟨d, hd⟩ := hc
  have hk := keys_ggaps (hz := hz) fun l m => ⟨(isLag_mem (isPlan_lag hp l m)).1, (isLag_mem (isPlan_lag hp l m)).2.1⟩
  have hle := ggaps_le (hz := hz) (ts := ts) (ls := ls) (d := d) (fun e m => ⟨hd.up _ (List.mem_map.mpr ⟨e, m, rfl⟩), hd.dn _ (List.mem_map.mpr ⟨e, m, rfl⟩)⟩) hd.lag
  have hP : Ptl (ggaps hz ts ls) (fun x => if x ∈ nds (ts.map (·.1)) then d "" x else 0) := by
    refine ⟨fun x => ?_, fun e he => ?_⟩
    · show 0 ≤ if x ∈ nds (ts.map (·.1)) then d "" x else 0
      split
      · rename_i m
        rcases List.mem_cons.mp m with q | q
        · rw [q, hd.dia "" List.mem_cons_self]
          exact Int.le_refl _
        · exact hd.up x q
      · exact Int.le_refl _
    · have k := hk e.1 (List.mem_map.mpr ⟨e, he, rfl⟩)
      have kv := hle e.1.1 e.1.2 e.2 (look_of_mem (nodup_ggaps hz ts ls) he)
      have kt := hd.tri "" List.mem_cons_self e.1.1 k.1 e.1.2 k.2
      show (if e.1.1 ∈ nds (ts.map (·.1)) then d "" e.1.1 else 0) + e.2 ≤ if e.1.2 ∈ nds (ts.map (·.1)) then d "" e.1.2 else 0
      rw [if_pos k.1, if_pos k.2]
      omega
  have := rounds (ns := nds (ts.map (·.1))) (t0 := zeros (ts.map (·.1))) (at0_zeros _) (fun e he => hk e.1 (List.mem_map.mpr ⟨e, he, rfl⟩)) hP
  rw [List.length_cons, List.length_map] at this
  exact ⟨ts.length + 1, Nat.le_refl _, this⟩
end Rt
end
section
set_option maxHeartbeats 4000000
namespace Rt
open PySem PySem.Spec PyProof.Rows L2
section
variable {P : Program} {w : World} {K : PySem.W.Frag} {mg : Str → Option Value}
theorem rnd_keys (g : GM) (t0 : List (Str × Int)) (k : Str) (h : (look t0 k).isSome = true) : ∀ i, (look (rnd g t0 i).tot k).isSome = true
  | 0 => h
  | i + 1 => raiseF_keys k g ⟨(rnd g t0 i).tot, (rnd g t0 i).prv, none⟩ (rnd_keys g t0 k h i)
theorem rnd_len (g : GM) (t0 : List (Str × Int)) : ∀ i, (rnd g t0 i).tot.length ≤ t0.length + i * g.length ∧ (rnd g t0 i).prv.length ≤ i * g.length
  | 0 => by simp [rnd]
  | i + 1 => by
    have h1 := rnd_len g t0 i
    have h2 := raiseF_len g ⟨(rnd g t0 i).tot, (rnd g t0 i).prv, none⟩
    have e : (i + 1) * g.length = i * g.length + g.length := by rw [Nat.add_mul, Nat.one_mul]
    have h3 : (rnd g t0 (i + 1)).tot.length ≤ (rnd g t0 i).tot.length + g.length := h2.1
    have h4 : (rnd g t0 (i + 1)).prv.length ≤ (rnd g t0 i).prv.length + g.length := h2.2
    omega
theorem optS_non {o : Option Str} (h : o ≠ none) : decide (optS o = V.non) = false := by
  cases o with
  | none => exact (h rfl).elim
  | some x => exact decide_eq_false fun z => by cases z
theorem pure_positive_cycle (T : Tx K mg) (vs : List V) (H : Hp) (Q : VK) (E : XK) (h : sp_positive_cycle K vs H Q E) : t_positive_cycle P w K ⟨fun _ H1 => Q .non H1, Q, fun _ _ => False, fun _ _ => False⟩ (start nm_positive_cycle vs) H := by
  obtain ⟨_, _, _, rfl, hz, t, l, ts, ls, rfl, rfl, rfl, ht, hlen, hls, hll, hpl, nd, hc, k⟩ := h
  have hM := million
  unfold t_positive_cycle
  walk_at "go"
  refine ⟨_, _, _, rfl, hz, t, l, ts, ls, rfl, rfl, rfl, ht, by omega, hls, hll, fun p1 H1 n1 s1 e1 => ?_⟩
  walk_at "go"
  refine c_nl rfl fun q1 H2 m2 s2 e2 => ?_
  walk_at "go"
  refine c_listD' (s2 _ _ (s1 _ _ ht)) fun q2 H3 m3 s3 e3 => ?_
  walk_at "go"
  refine c_cat (s3 _ _ e2) e3 (by rw [List.length_map, len_SI, List.length_singleton]; omega) fun q3 H4 m4 s4 e4 => ?_
  have el : [V.str ""] ++ (dSI ts).map (fun kv => kV kv.1) = (nds (ts.map (·.1))).map V.str := by
    show V.str "" :: (dSI ts).map (fun kv => kV kv.1) = V.str "" :: (ts.map (·.1)).map V.str
    rw [List.map_map]
    unfold dSI
    rw [List.map_map]
    rfl
  rw [el] at e4
  have hnd : (nds (ts.map (·.1))).Nodup := List.nodup_cons.mpr ⟨names_ne (isPlan_times hpl), nd⟩
  have s04 : Same H H4 := s1.trans (s2.trans (s3.trans s4))
  refine c_iListAt (SqL.of e4) ?_
  refine dc_pure walk_list (fun H' s => s.seq (SqL.of e4)) (dSI (zeros (ts.map (·.1)))) (by rw [len_SI, List.length_map]; unfold zeros; rw [List.length_map]) (by rw [List.length_map]; show (ts.map (·.1)).length + 1 ≤ _; rw [List.length_map]; omega) ?_ ?_
  · rintro i x kk y H0 H' hy s0 ⟨rfl, hx⟩
    refine ⟨Same.refl _, fun Pq hP => ⟨rfl, ?_⟩⟩
    rw [List.getElem?_map] at hx
    unfold dSI zeros at hy
    rw [List.map_map, List.getElem?_map] at hy
    cases he : (nds (ts.map (·.1)))[i]? with
    | none => rw [he] at hx; cases hx
    | some e =>
      rw [he] at hx hy
      cases hx
      cases hy
      walk_at "go"
      exact hP _ (Same.refl _)
  · intro p4 H5 n4 s5 e5
    rw [mergeK_new (by
      unfold dSI zeros
      rw [List.map_map, List.map_map]
      exact kS_nodup hnd)] at e5
    have s05 := s04.trans s5
    walk_at "go"
    refine c_nw fun p5 H6 n5 s6 e6 => ?_
    have s06 := s05.trans s6
    walk_at "go"
    refine c_lenD' (s6 _ _ e5) ?_
    walk_at "go"
    have hN : (dSI (zeros (ts.map (·.1)))).length = ts.length + 1 := by rw [len_SI]; unfold zeros; rw [List.length_map]; show (ts.map (·.1)).length + 1 = _; rw [List.length_map]
    rw [hN]
    refine c_rng1At (by omega) (by omega) ?_
    have e1' : H6 p1 = some (.dT (dPI (ggaps hz ts ls))) := s6 _ _ (s5 _ _ (s4 _ _ (s3 _ _ (s2 _ _ e1))))
    have n14 : p1 ≠ p4 := ne_of_none (s4 _ _ (s3 _ _ (s2 _ _ e1))) n4
    have n15 : p1 ≠ p5 := ne_of_none (s5 _ _ (s4 _ _ (s3 _ _ (s2 _ _ e1)))) n5
    have n45 : p4 ≠ p5 := ne_of_none e5 n5
    have hlg := len_gapsL ls (ts.foldl (gapT hz) [])
    have hlg2 := len_gapsT hz ts []
    have e0 : ([] : GM).length = 0 := rfl
    have hgl : (ggaps hz ts ls).length ≤ 2000 := by
      show (ls.foldl gapL (ts.foldl (gapT hz) [])).length ≤ 2000
      omega
    have hkeys := keys_ggaps (hz := hz) (ts := ts) (ls := ls) fun m hm => let z := isLag_mem (isPlan_lag hpl m hm); ⟨z.1, z.2.1⟩
    refine for_w walk_range (fun i σ' H' => ∃ v6 v7, σ' = [some (.int hz), some (.ref t), some (.ref l), some (.ref p1), some (.ref p4), some (.ref p5), v6, v7, none] ∧ Same H H' ∧ H' p1 = some (.dT (dPI (ggaps hz ts ls))) ∧
        H' p4 = some (.dK (dSI (rnd (ggaps hz ts ls) (zeros (ts.map (·.1))) i).tot)) ∧ H' p5 = some (.dK (dSS (rnd (ggaps hz ts ls) (zeros (ts.map (·.1))) i).prv)) ∧ ∀ j, j < i → (rnd (ggaps hz ts ls) (zeros (ts.map (·.1))) (j + 1)).last ≠ none)
      ⟨_, _, rfl, s06, e1', s6 _ _ e5, e6, fun j hj => absurd hj (Nat.not_lt_zero _)⟩ (fun _ _ _ _ _ => trivial) ?_ ?_
    · rintro i x σ' H' H'' hi ⟨v6, v7, rfl, sH, h1, h4, h5, hno⟩ ⟨rfl, rfl⟩
      have hi' : i < ts.length + 2 := by omega
      show tSeq _ _ ⟨_, Q, _, _⟩ [some (.int hz), some (.ref t), some (.ref l), some (.ref p1), some (.ref p4), some (.ref p5), v6, some (.int (0 + i)), none] H''
      walk_at "go"
      have hrl := rnd_len (ggaps hz ts ls) (zeros (ts.map (·.1))) i
      have hz0 : (zeros (ts.map (·.1))).length = ts.length + 1 := by rw [← len_SI]; exact hN
      have hmul : i * (ggaps hz ts ls).length ≤ 102 * 2000 := Nat.mul_le_mul (by omega) hgl
      refine ⟨_, _, _, rfl, p1, p4, p5, ggaps hz ts ls, (rnd (ggaps hz ts ls) (zeros (ts.map (·.1))) i).tot, (rnd (ggaps hz ts ls) (zeros (ts.map (·.1))) i).prv, rfl, rfl, rfl, h1, h4, h5, n45, fun e he => ?_, by omega, by omega, fun H7 b7 h7 h8 => ?_⟩
      · have z := hkeys e.1 (List.mem_map.mpr ⟨e, he, rfl⟩)
        exact ⟨rnd_keys _ _ _ (look_zeros.mpr z.1) i, rnd_keys _ _ _ (look_zeros.mpr z.2) i⟩
      · have s7 : Same H H7 := But.toSame sH b7 fun q hq => by
          rcases List.mem_cons.mp hq with q | q
          · rw [q]
            cases hp4 : H p4 with
            | none => rfl
            | some o => rw [s04 _ _ hp4] at n4; cases n4
          · rw [List.mem_singleton.mp q]
            cases hp5 : H p5 with
            | none => rfl
            | some o => rw [s05 _ _ hp5] at n5; cases n5
        walk_at "go"
        cases hlast : (rnd (ggaps hz ts ls) (zeros (ts.map (·.1))) (i + 1)).last with
        | none =>
          have e : (raiseT (ggaps hz ts ls) (rnd (ggaps hz ts ls) (zeros (ts.map (·.1))) i).tot (rnd (ggaps hz ts ls) (zeros (ts.map (·.1))) i).prv).last = none := hlast
          rw [e]
          walk_at "go"
          exact k.go s7
        | some y =>
          have e : (raiseT (ggaps hz ts ls) (rnd (ggaps hz ts ls) (zeros (ts.map (·.1))) i).tot (rnd (ggaps hz ts ls) (zeros (ts.map (·.1))) i).prv).last = some y := hlast
          rw [e]
          walk_at "go"
          refine ⟨some (.str y), some (.int (0 + i)), rfl, s7, b7 _ _ h1 (not2 n14 n15), h7, h8, fun j hj => ?_⟩
          rcases Nat.lt_or_eq_of_le (Nat.le_of_lt_succ hj) with q | q
          · exact hno j q
          · rw [q, hlast]
            exact fun z => by cases z
    · rintro σ' H' ⟨v6, v7, rfl, sH, h1, h4, h5, hno⟩
      obtain ⟨i, hi, he⟩ := bf_ends hpl nd hc
      exact absurd he (hno i (by omega))

end
end Rt
end
section
set_option maxHeartbeats 4000000
namespace Rt
open PySem PySem.Spec PyProof.Rows L2
section
variable {P : Program} {w : World} {K : PySem.W.Frag} {mg : Str → Option Value}
theorem c_sortD' {H : Hp} {Q : VK} {a : Addr} {ts : List (Str × Int)} (h : H a = some (.dK (dSI ts))) (hz : ts.length < 64) (nd : (ts.map (·.1)).Nodup)
    (q : ∀ p H' (ys : List Str), H p = none → Same H H' → H' p = some (.lst (ys.map V.str)) → ys.Perm (ts.map (·.1)) → ys.Pairwise (fun a b => ltS a b = true) → Q (.ref p) H') : rSortD [.ref a] H Q := by
  refine ⟨a, dSI ts, ts.map (·.1), rfl, .inl h, ?_, by rw [List.length_map]; exact hz, fun ys p pm so hp => ?_⟩
  · unfold dSI
    rw [List.map_map, List.map_map]
    rfl
  · exact q p _ ys hp (same_new hp) upd_same pm (sorted_is pm so nd)
theorem putF_horizon {hz : Int} : putF "horizon" (.int hz) [] = [(("horizon" : Str), V.int hz)] := rfl
theorem putF_by {hz : Int} {b : Addr} : putF "by_name" (.ref b) [(("horizon" : Str), V.int hz)] = [(("horizon" : Str), V.int hz), (("by_name" : Str), V.ref b)] := by
  show (if ("horizon" : Str) = "by_name" then _ else _) = _
  rw [if_neg (by decide +kernel)]
  rfl
theorem putF_own {hz : Int} {b o : Addr} : putF "own_lags" (.ref o) [(("horizon" : Str), V.int hz), (("by_name" : Str), V.ref b)] = [(("horizon" : Str), V.int hz), (("by_name" : Str), V.ref b), (("own_lags" : Str), V.ref o)] := by
  show (if ("horizon" : Str) = "own_lags" then _ else (("horizon" : Str), V.int hz) :: (if ("by_name" : Str) = "own_lags" then _ else _)) = _
  rw [if_neg (by decide +kernel), if_neg (by decide +kernel)]
  rfl
theorem pure_Plan_init (T : Tx K mg) (vs : List V) (H : Hp) (Q : VK) (E : XK) (h : sp_Plan_init K vs H Q E) : t_Plan_init P w K ⟨fun _ H1 => Q .non H1, Q, fun _ _ => False, fun _ _ => False⟩ (start nm_Plan_init vs) H := by
  obtain ⟨_, _, _, _, rfl, x, dx, hz, t, l, ts, ls, rfl, rfl, rfl, rfl, hx, ht, hlen, hls, hll, hpl, nd, hc, k⟩ := h
  have hM := million
  have hty := isPlan_times hpl
  have hnl : ∀ e ∈ ts, e.1.length ≤ 1000 := fun e he => by
    have := List.all_eq_true.mp hty e he
    unfold isName at this
    simp only [Bool.and_eq_true, decide_eq_true_eq] at this
    omega
  unfold t_Plan_init
  walk_at "go"
  refine ⟨_, _, _, rfl, hz, t, l, ts, ls, rfl, rfl, rfl, ht, by omega, hnl, hls, by omega, fun H1 s1 => ?_⟩
  rw [hpl]
  walk_at "go"
  refine ⟨_, _, _, rfl, hz, t, l, ts, ls, rfl, rfl, rfl, s1 _ _ ht, by omega, hls.same s1, by omega, hpl, nd, hc, fun H2 s2 => ?_⟩
  have s02 := s1.trans s2
  walk_at "go"
  refine c_F ?_
  walk_at "go"
  refine c_sfldAt (s02 _ _ hx) T.cls_Plan T.noat_Plan_horizon (by decide) ?_
  walk_at "go"
  have nxt : t ≠ x := ne_of ht hx (by intro z; cases z)
  refine c_sortD' (Eq.trans (upd_ne nxt) (s02 _ _ ht)) (by omega) nd fun p1 H3 ys n1 s3 e1 pm asc => ?_
  walk_at "go"
  refine c_iListAt (SqL.of e1) ?_
  have ht3 : H3 t = some (.dK (dSI ts)) := s3 _ _ (Eq.trans (upd_ne nxt) (s02 _ _ ht))
  have lkt : ∀ n ∈ ts.map (·.1), look ts n = some (at0 ts n) := fun n hn => look_at0 (look_isSome.mpr hn)
  refine dc_pure walk_list (fun H' s => s.seq (SqL.of e1)) (dSI (ys.map fun n => (n, at0 ts n))) (by rw [len_SI, List.length_map, List.length_map]) (by rw [List.length_map, pm.length_eq, List.length_map]; omega) ?_ ?_
  · rintro i y kk z H0 H' hy s0 ⟨rfl, hxi⟩
    refine ⟨Same.refl _, fun Pq hP => ⟨rfl, ?_⟩⟩
    unfold dSI at hy
    rw [List.map_map, List.getElem?_map] at hy
    rw [List.getElem?_map] at hxi
    cases he : ys[i]? with
    | none => rw [he] at hxi; cases hxi
    | some n =>
      rw [he] at hxi hy
      cases hxi
      cases hy
      have hn : n ∈ ts.map (·.1) := pm.mem_iff.mp (List.mem_of_getElem? he)
      walk_at "go"
      refine c_getK (s0 _ _ ht3) (v := .int (at0 ts n)) ((val_SI ts n).trans (by rw [lkt n hn]; rfl)) ?_
      exact hP _ (Same.refl _)
  · intro p2 H4 n2 s4 e2
    have ndy : ys.Nodup := asc_nodup ltS_irr asc
    rw [mergeK_new (by
      unfold dSI
      rw [List.map_map, List.map_map]
      exact kS_nodup ndy)] at e2
    walk_at "go"
    refine c_sfldAt (s4 _ _ (s3 _ _ upd_same)) T.cls_Plan T.noat_Plan_by_name (by rw [putF_horizon]; show 1 < 1000; omega) ?_
    walk_at "go"
    have b2 : But [x] H2 (upd H2 x (.ins (He.ga K "Plan") dx (putF "horizon" (.int hz) []))) := (But.refl _ _).put in1
    have b4 : But [x] H (upd H4 x (.ins (He.ga K "Plan") dx (putF "by_name" (.ref p2) (putF "horizon" (.int hz) [])))) := (((same_but s02).trans b2).same (s3.trans s4)).put in1
    have hls' : LagSeq K (upd H4 x (.ins (He.ga K "Plan") dx (putF "by_name" (.ref p2) (putF "horizon" (.int hz) [])))) l ls := hls.but b4 (ok1 hx rfl)
    refine c_sortSetAt hls' hll fun p3 H5 ms us n3 s5 e3 hr so => ?_
    walk_at "go"
    refine c_tupL (SqL.of e3) fun p4 H6 n4 s6 e4 => ?_
    walk_at "go"
    refine c_sfldAt (s6 _ _ (s5 _ _ upd_same)) T.cls_Plan T.noat_Plan_own_lags (by rw [putF_horizon, putF_by]; show 2 < 1000; omega) ?_
    have b6 := (b4.same (s5.trans s6)).put (o := .ins (He.ga K "Plan") dx (putF "own_lags" (.ref p4) (putF "by_name" (.ref p2) (putF "horizon" (.int hz) [])))) in1
    have n2x : p2 ≠ x := fun z => by
      have : H3 p2 = none := n2
      rw [z, s3 _ _ upd_same] at this
      cases this
    have n4x : p4 ≠ x := fun z => by
      have : H5 p4 = none := n4
      rw [z, s5 _ _ upd_same] at this
      cases this
    have hus : us.length = ms.length := Paired.length hr
    refine k _ (ys.map fun n => (n, at0 ts n)) ms b6 ⟨dx, p2, p4, us, ?_, ?_, ?_, ?_⟩ ⟨?_, ?_⟩ so
    · rw [upd_same, putF_horizon, putF_by, putF_own]
      rfl
    · rw [upd_ne n2x]
      exact s6 _ _ (s5 _ _ (Eq.trans (upd_ne n2x) e2))
    · rw [upd_ne n4x]
      exact e4
    · refine Paired.mapP (hr.same s6) fun v m ⟨q, e, hq⟩ => ⟨q, e, ?_⟩
      rw [upd_ne fun z => by rw [z, s6 _ _ (s5 _ _ upd_same)] at hq; cases hq]
      exact hq
    · rw [List.pairwise_map]
      exact asc
    · have e0 : ts = (ts.map (·.1)).map fun n => (n, at0 ts n) := by
        rw [List.map_map]
        conv => lhs; rw [← List.map_id ts]
        refine List.map_congr_left fun e he => ?_
        show e = (e.1, at0 ts e.1)
        have : look ts e.1 = some e.2 := look_of_mem nd he
        unfold at0
        rw [this]
        rfl
      conv => rhs; rw [e0]
      exact pm.map _

end
end Rt
end
section
set_option maxHeartbeats 4000000
namespace Rt
open PySem PySem.Spec PyProof.Rows L2
section
variable {P : Program} {w : World} {K : PySem.W.Frag} {mg : Str → Option Value}
theorem pl_hz (p : PlanD) (bn ol : Addr) : (planF p bn ol).lookup ("horizon" : Str) = some (.int p.hz) := by
  unfold planF
  simp only [List.lookup, show (("horizon" : Str) == ("horizon" : Str)) = true by decide +kernel]
theorem pl_by (p : PlanD) (bn ol : Addr) : (planF p bn ol).lookup ("by_name" : Str) = some (.ref bn) := by
  unfold planF
  simp only [List.lookup, show (("by_name" : Str) == ("by_name" : Str)) = true by decide +kernel, show (("by_name" : Str) == ("horizon" : Str)) = false by decide +kernel]
theorem pl_ol (p : PlanD) (bn ol : Addr) : (planF p bn ol).lookup ("own_lags" : Str) = some (.ref ol) := by
  unfold planF
  simp only [List.lookup, show (("own_lags" : Str) == ("own_lags" : Str)) = true by decide +kernel, show (("own_lags" : Str) == ("horizon" : Str)) = false by decide +kernel, show (("own_lags" : Str) == ("by_name" : Str)) = false by decide +kernel]
theorem pl_no {m : Str} (p : PlanD) (bn ol : Addr) (h1 : (m == ("horizon" : Str)) = false) (h2 : (m == ("by_name" : Str)) = false) (h3 : (m == ("own_lags" : Str)) = false) : (planF p bn ol).lookup m = none := by
  unfold planF
  simp only [List.lookup, h1, h2, h3]
theorem pure_Plan_times (T : Tx K mg) (vs : List V) (H : Hp) (Q : VK) (E : XK) (h : sp_Plan_times K vs H Q E) : t_Plan_times P w K ⟨fun _ H1 => Q .non H1, Q, fun _ _ => False, fun _ _ => False⟩ (start nm_Plan_times vs) H := by
  obtain ⟨_, rfl, x, p, rfl, ⟨dx, bn, ol, us, h1, h2, h3, h4⟩, k⟩ := h
  unfold t_Plan_times
  walk_at "go"
  refine c_fldAt h1 T.cls_Plan T.noat_Plan_by_name (pl_by p bn ol) ?_
  walk_at "go"
  exact c_dictD' h2 fun q H' hn s e => k q H' hn s e
theorem pure_Plan_lags (T : Tx K mg) (vs : List V) (H : Hp) (Q : VK) (E : XK) (h : sp_Plan_lags K vs H Q E) : t_Plan_lags P w K ⟨fun _ H1 => Q .non H1, Q, fun _ _ => False, fun _ _ => False⟩ (start nm_Plan_lags vs) H := by
  obtain ⟨_, rfl, x, p, rfl, ⟨dx, bn, ol, us, h1, h2, h3, h4⟩, k⟩ := h
  unfold t_Plan_lags
  walk_at "go"
  exact c_fldAt h1 T.cls_Plan T.noat_Plan_own_lags (pl_ol p bn ol) (k H ol us (Same.refl _) h3 h4)
theorem pure_nodes_of (T : Tx K mg) (vs : List V) (H : Hp) (Q : VK) (E : XK) (h : sp_nodes_of K vs H Q E) : t_nodes_of P w K ⟨fun _ H1 => Q .non H1, Q, fun _ _ => False, fun _ _ => False⟩ (start nm_nodes_of vs) H := by
  obtain ⟨_, rfl, x, p, rfl, hp, asc, hl, k⟩ := h
  obtain ⟨dx, bn, ol, us, h1, h2, h3, h4⟩ := id hp
  have hM := million
  unfold t_nodes_of
  walk_at "go"
  refine c_nl rfl fun q1 H1 n1 s1 e1 => ?_
  walk_at "go"
  refine c_methAt (s1 _ _ h1) (pl_no p bn ol (by decide +kernel) (by decide +kernel) (by decide +kernel)) ?_
  walk_at "go"
  refine ⟨_, rfl, x, p, rfl, hp.same s1, fun q2 H2 n2 s2 e2 => ?_⟩
  walk_at "go"
  refine c_sortD' e2 (by omega) (asc_nodup ltS_irr asc) fun q3 H3 ys n3 s3 e3 pm asc3 => ?_
  have ey : ys = p.ts.map (·.1) := asc_one ltS_irr (fun _ _ _ => ltS_tr) asc3 asc fun z => pm.mem_iff
  refine c_cat (s3 _ _ (s2 _ _ e1)) e3 (by rw [List.length_map, ey, List.length_map, List.length_singleton]; omega) fun q4 H4 n4 s4 e4 => ?_
  rw [ey] at e4
  refine k q4 H4 ?_ (s1.trans (s2.trans (s3.trans s4))) e4
  exact (s1.trans (s2.trans s3)).free n4
theorem pure_check_node (T : Tx K mg) (vs : List V) (H : Hp) (Q : VK) (E : XK) (h : sp_check_node K vs H Q E) : t_check_node P w K ⟨fun _ H1 => Q .non H1, Q, fun _ _ => False, fun _ _ => False⟩ (start nm_check_node vs) H := by
  obtain ⟨_, _, rfl, x, p, s, rfl, rfl, hp, hs, k⟩ := h
  obtain ⟨dx, bn, ol, us, h1, h2, h3, h4⟩ := id hp
  unfold t_check_node
  walk_at "go"
  refine c_ite (fun c => ?_) (fun c => ?_)
  · walk_at "go"
    refine c_methAt h1 (pl_no p bn ol (by decide +kernel) (by decide +kernel) (by decide +kernel)) ?_
    walk_at "go"
    refine ⟨_, rfl, x, p, rfl, hp, fun q2 H2 n2 s2 e2 => ?_⟩
    refine c_inK e2 ?_
    walk_at "go"
    have hne : s ≠ "" := fun z => by
      have c' : decide (V.str s = V.str "") = false := by simpa using c
      exact (of_decide_eq_false c') (congrArg V.str z)
    have hm : s ∈ p.ts.map (·.1) := by
      rcases List.mem_cons.mp hs with q | q
      · exact absurd q hne
      · exact q
    have ev : (valV (dSI p.ts) (.inr s)).isSome = true := by
      have e : valV (dSI p.ts) (.inr s) = (look p.ts s).map V.int := val_SI p.ts s
      rw [e, Option.isSome_map]
      exact look_isSome.mpr hm
    rw [ev]
    walk_at "go"
    exact k.go s2
  · walk_at "go"
    exact k.now

end
end Rt
end
section
set_option maxHeartbeats 4000000
namespace Rt
open PySem PySem.Spec PyProof.Rows L2
section
variable {P : Program} {w : World} {K : PySem.W.Frag} {mg : Str → Option Value}
theorem ds_nd (a b c : Addr) : (distF a b c).lookup ("nodes" : Str) = some (.ref a) := by
  unfold distF
  simp only [List.lookup, show (("nodes" : Str) == ("nodes" : Str)) = true by decide +kernel]
theorem ds_tt (a b c : Addr) : (distF a b c).lookup ("totals" : Str) = some (.ref b) := by
  unfold distF
  simp only [List.lookup, show (("totals" : Str) == ("totals" : Str)) = true by decide +kernel, show (("totals" : Str) == ("nodes" : Str)) = false by decide +kernel]
theorem ds_mm (a b c : Addr) : (distF a b c).lookup ("middles" : Str) = some (.ref c) := by
  unfold distF
  simp only [List.lookup, show (("middles" : Str) == ("middles" : Str)) = true by decide +kernel, show (("middles" : Str) == ("nodes" : Str)) = false by decide +kernel, show (("middles" : Str) == ("totals" : Str)) = false by decide +kernel]
theorem ds_no {m : Str} (a b c : Addr) (h1 : (m == ("nodes" : Str)) = false) (h2 : (m == ("totals" : Str)) = false) (h3 : (m == ("middles" : Str)) = false) : (distF a b c).lookup m = none := by
  unfold distF
  simp only [List.lookup, h1, h2, h3]
theorem DistAt.same {G H : Hp} {x dx nd tt mm : Addr} {ns : List Str} {t : Tb} (s : Same G H) (h : DistAt K G x dx nd tt mm ns t) : DistAt K H x dx nd tt mm ns t := ⟨s _ _ h.hob, s _ _ h.hnd, s _ _ h.htt, s _ _ h.hmm, h.hne⟩
theorem get0_of {g : GM} {a b : Str} (h : (look g (a, b)).isSome = true) : look g (a, b) = some (get0 g a b) := by
  obtain ⟨v, hv⟩ := Option.isSome_iff_exists.mp h
  unfold get0
  rw [hv] <;> rfl
theorem val_get0 {g : GM} {a b : Str} (h : (look g (a, b)).isSome = true) : valV (dPI g) (kP (a, b)) = some (.int (get0 g a b)) := (val_PI g (a, b)).trans (by rw [get0_of h]; rfl)
theorem pure_Distances_improve (T : Tx K mg) (vs : List V) (H : Hp) (Q : VK) (E : XK) (h : sp_Distances_improve K vs H Q E) : t_Distances_improve P w K ⟨fun _ H1 => Q .non H1, Q, fun _ _ => False, fun _ _ => False⟩ (start nm_Distances_improve vs) H := by
  obtain ⟨_, _, _, _, rfl, x, dx, nd, tt, mm, ns, t, s1, s2, m, rfl, rfl, rfl, rfl, D, k1, k2, l1, l2, k⟩ := h
  have hM := million
  unfold t_Distances_improve
  walk_at "go"
  refine c_fldAt D.hob T.cls_Distances T.noat_Distances_totals (ds_tt nd tt mm) ?_
  walk_at "go"
  refine c_nl rfl fun q1 H1 n1 e1 h1 => ?_
  walk_at "go"
  refine c_getT (k := kP (s1, m)) (e1 _ _ D.htt) h1 (val_get0 k1) ?_
  have D1 := D.same e1
  walk_at "go"
  refine c_fldAt D1.hob T.cls_Distances T.noat_Distances_totals (ds_tt nd tt mm) ?_
  walk_at "go"
  refine c_nl rfl fun q2 H2 n2 e2 h2 => ?_
  walk_at "go"
  have D2 := D1.same e2
  refine c_getT (k := kP (m, s2)) D2.htt h2 (val_get0 k2) ?_
  walk_at "go"
  refine c_nl rfl fun q3 H3 n3 e3 h3 => ?_
  walk_at "go"
  have D3 := D2.same e3
  have e03 := e1.trans (e2.trans e3)
  refine c_fldAt D3.hob T.cls_Distances T.noat_Distances_totals (ds_tt nd tt mm) ?_
  walk_at "go"
  refine c_inT (k := kP (s1, s2)) D3.htt h3 ?_
  have ev : (valV (dPI t.tot) (kP (s1, s2))).isSome = (look t.tot (s1, s2)).isSome := by rw [val_PI, Option.isSome_map]
  rw [ev]
  walk_at "go"
  have fin : ∀ {σ' : L2.St} {H4 : Hp}, DistAt K H4 x dx nd tt mm ns t → But [tt, mm] H H4 → ((look t.tot (s1, s2)).isSome = false ∨ get0 t.tot s1 s2 < get0 t.tot s1 m + get0 t.tot m s2) → σ' = [some (.ref x), some (.str s1), some (.str s2), some (.str m), some (.int (get0 t.tot s1 m + get0 t.tot m s2))] →
      tSeq (sDPut (tFld K (tVar 0) "totals") (tTup (tCons (tVar 1) (tCons (tVar 2) tNil))) (tVar 4)) (sDPut (tFld K (tVar 0) "middles") (tTup (tCons (tVar 1) (tCons (tVar 2) tNil))) (tVar 3)) ⟨fun _ H1 => Q .non H1, Q, fun _ _ => False, fun _ _ => False⟩ σ' H4 := by
    intro σ' H4 D4 b4 hcond eσ
    subst eσ
    walk_at "go"
    refine c_fldAt D4.hob T.cls_Distances T.noat_Distances_totals (ds_tt nd tt mm) ?_
    walk_at "go"
    refine c_nl rfl fun q5 H5 n5 e5 h5 => ?_
    walk_at "go"
    have D5 := D4.same e5
    refine c_putT (k := kP (s1, s2)) D5.htt h5 (by rw [len_PI]; omega) ?_
    walk_at "go"
    have nx : x ≠ tt := ne_of D5.hob D5.htt (by intro z; cases z)
    have nn : nd ≠ tt := ne_of D5.hnd D5.htt (by intro z; cases z)
    have nxm : x ≠ mm := ne_of D5.hob D5.hmm (by intro z; cases z)
    have nnm : nd ≠ mm := ne_of D5.hnd D5.hmm (by intro z; cases z)
    refine c_fldAt (Eq.trans (upd_ne nx) D5.hob) T.cls_Distances T.noat_Distances_middles (ds_mm nd tt mm) ?_
    walk_at "go"
    refine c_nl rfl fun q6 H6 n6 e6 h6 => ?_
    walk_at "go"
    refine c_putT (k := kP (s1, s2)) (e6 _ _ (Eq.trans (upd_ne D5.hne.symm) D5.hmm)) h6 (by rw [len_PS]; omega) ?_
    have ei : improve t s1 s2 m = ⟨put t.tot (s1, s2) (get0 t.tot s1 m + get0 t.tot m s2), put t.mid (s1, s2) m⟩ := if_pos hcond
    refine k _ ((((b4.same e5).put in21).same e6).put in22) ⟨?_, ?_, ?_, ?_, D5.hne⟩
    · rw [upd_ne nxm]
      exact e6 _ _ (Eq.trans (upd_ne nx) D5.hob)
    · rw [upd_ne nnm]
      exact e6 _ _ (Eq.trans (upd_ne nn) D5.hnd)
    · rw [upd_ne D5.hne, ei]
      refine e6 _ _ (Eq.trans upd_same ?_)
      exact congrArg (fun z => some (HO.dT z)) (put_PI t.tot (s1, s2) _)
    · rw [upd_same, ei]
      exact congrArg (fun z => some (HO.dT z)) (put_PS t.mid (s1, s2) m)
  refine c_ite (fun c => ?_) (fun c => ?_)
  · have c' : (look t.tot (s1, s2)).isSome = false := by simpa using c
    refine c_T ?_
    exact fin D3 (same_but e03) (.inl c') rfl
  · have c' : (look t.tot (s1, s2)).isSome = true := by simpa using c
    walk_at "go"
    refine c_fldAt D3.hob T.cls_Distances T.noat_Distances_totals (ds_tt nd tt mm) ?_
    walk_at "go"
    refine c_nl rfl fun q4 H4 n4 e4 h4 => ?_
    walk_at "go"
    have D4 := D3.same e4
    refine c_getT (k := kP (s1, s2)) D4.htt h4 (val_get0 c') ?_
    walk_at "go"
    refine c_ite (fun d => ?_) (fun d => ?_)
    · exact fin D4 (same_but (e03.trans e4)) (.inr (of_decide_eq_true d)) rfl
    · walk_at "go"
      have ei : improve t s1 s2 m = t := if_neg fun z => by
        rcases z with z | z
        · rw [c'] at z; cases z
        · exact (of_decide_eq_false d) z
      refine k _ (same_but (e03.trans e4)) ?_
      rw [ei]
      exact D4

end
end Rt
end
section
set_option maxHeartbeats 4000000
namespace Rt
open PySem PySem.Spec PyProof.Rows L2
section
variable {P : Program} {w : World} {K : PySem.W.Frag} {mg : Str → Option Value}
theorem len_thru1 (m a : Str) (t : Tb) (b : Str) : (thru1 m a t b).tot.length ≤ t.tot.length + 1 ∧ (thru1 m a t b).mid.length ≤ t.mid.length + 1 := by
  unfold thru1
  split
  · unfold improve
    dsimp only
    split
    · exact ⟨len_put _ _ _, len_put _ _ _⟩
    · exact ⟨Nat.le_succ _, Nat.le_succ _⟩
  · exact ⟨Nat.le_succ _, Nat.le_succ _⟩
theorem len_thruF (m a : Str) : ∀ (ns : List Str) (t : Tb), (ns.foldl (thru1 m a) t).tot.length ≤ t.tot.length + ns.length ∧ (ns.foldl (thru1 m a) t).mid.length ≤ t.mid.length + ns.length
  | [], t => ⟨Nat.le_refl _, Nat.le_refl _⟩
  | b :: ns, t => by
    have h1 := len_thruF m a ns (thru1 m a t b)
    have h2 := len_thru1 m a t b
    rw [List.foldl_cons, List.length_cons]
    omega
theorem len_thruR (m : Str) (ms : List Str) : ∀ (ns : List Str) (t : Tb), (ns.foldl (thruR ms m) t).tot.length ≤ t.tot.length + ns.length * ms.length ∧ (ns.foldl (thruR ms m) t).mid.length ≤ t.mid.length + ns.length * ms.length
  | [], t => by simp
  | a :: ns, t => by
    have h1 := len_thruR m ms ns (thruR ms m t a)
    have h2 := len_thruF m a ms t
    have e : (a :: ns).length * ms.length = ns.length * ms.length + ms.length := by rw [List.length_cons, Nat.add_mul, Nat.one_mul]
    have h3 : (thruR ms m t a).tot.length ≤ t.tot.length + ms.length := h2.1
    have h4 : (thruR ms m t a).mid.length ≤ t.mid.length + ms.length := h2.2
    rw [List.foldl_cons, e]
    omega
theorem pure_Distances_pass_through (T : Tx K mg) (vs : List V) (H : Hp) (Q : VK) (E : XK) (h : sp_Distances_pass_through K vs H Q E) : t_Distances_pass_through P w K ⟨fun _ H1 => Q .non H1, Q, fun _ _ => False, fun _ _ => False⟩ (start nm_Distances_pass_through vs) H := by
  obtain ⟨_, _, rfl, x, dx, nd, tt, mm, ns, t, m, rfl, rfl, D, hl, l1, l2, k⟩ := h
  have hM := million
  unfold t_Distances_pass_through
  walk_at "go"
  refine c_fldAt D.hob T.cls_Distances T.noat_Distances_nodes (ds_nd nd tt mm) ?_
  refine c_iListAt (SqL.of D.hnd) ?_
  refine for_w walk_list (fun i σ' H' => ∃ v2 v3, σ' = [some (.ref x), some (.str m), v2, v3] ∧ But [tt, mm] H H' ∧ DistAt K H' x dx nd tt mm ns ((ns.take i).foldl (thruR ns m) t)) ⟨_, _, rfl, But.refl _ _, D⟩ (fun i σ' H' _ ⟨_, _, _, _, D'⟩ => SqL.of D'.hnd) ?_ ?_
  · rintro i y σ' H1 H1' hi ⟨v2, v3, rfl, b1, D1⟩ ⟨rfl, hy⟩
    rw [List.getElem?_map] at hy
    cases he : ns[i]? with
    | none => rw [he] at hy; cases hy
    | some a =>
      rw [he] at hy
      cases hy
      show tFor _ _ _ ⟨_, _, _, _⟩ [some (.ref x), some (.str m), some (.str a), v3] H1'
      walk_at "go"
      refine c_fldAt D1.hob T.cls_Distances T.noat_Distances_nodes (ds_nd nd tt mm) ?_
      refine c_iListAt (SqL.of D1.hnd) ?_
      have hlr := len_thruR m ns (ns.take i) t
      have hil : i < ns.length := (List.getElem?_eq_some_iff.mp he).1
      have hmul : (ns.take i).length * ns.length ≤ 99 * 100 := Nat.mul_le_mul (by rw [List.length_take]; omega) hl
      generalize htc : (ns.take i).foldl (thruR ns m) t = tc at *
      refine for_w walk_list (fun j σ' H' => ∃ v3, σ' = [some (.ref x), some (.str m), some (.str a), v3] ∧ But [tt, mm] H H' ∧ DistAt K H' x dx nd tt mm ns ((ns.take j).foldl (thru1 m a) tc)) ⟨_, rfl, b1, D1⟩ (fun i σ' H' _ ⟨_, _, _, D'⟩ => SqL.of D'.hnd) ?_ ?_
      · rintro j z σ' H2 H2' hj ⟨v3, rfl, b2, D2⟩ ⟨rfl, hz⟩
        rw [List.getElem?_map] at hz
        cases hb : ns[j]? with
        | none => rw [hb] at hz; cases hz
        | some b =>
          rw [hb] at hz
          cases hz
          show tIfS _ _ _ ⟨_, _, _, _⟩ [some (.ref x), some (.str m), some (.str a), some (.str b)] H2'
          have hlf := len_thruF m a (ns.take j) tc
          have hjl : j < ns.length := (List.getElem?_eq_some_iff.mp hb).1
          rw [List.length_take] at hlf
          have est : (ns.take (j + 1)).foldl (thru1 m a) tc = thru1 m a ((ns.take j).foldl (thru1 m a) tc) b := foldl_snoc hb
          generalize htd : (ns.take j).foldl (thru1 m a) tc = td at *
          walk_at "go"
          refine c_nl rfl fun q1 H3 n3 s3 e3 => ?_
          walk_at "go"
          have D3 := D2.same s3
          refine c_fldAt D3.hob T.cls_Distances T.noat_Distances_totals (ds_tt nd tt mm) ?_
          refine c_inT (k := kP (a, m)) D3.htt e3 ?_
          rw [val_PI, Option.isSome_map]
          walk_at "go"
          refine c_ite (fun c1 => ?_) (fun c1 => ?_)
          · walk_at "go"
            refine c_nl rfl fun q2 H4 n4 s4 e4 => ?_
            walk_at "go"
            have D4 := D3.same s4
            refine c_fldAt D4.hob T.cls_Distances T.noat_Distances_totals (ds_tt nd tt mm) ?_
            refine c_inT (k := kP (m, b)) D4.htt e4 ?_
            rw [val_PI, Option.isSome_map]
            walk_at "go"
            refine c_ite (fun c2 => ?_) (fun c2 => ?_)
            · walk_at "go"
              refine c_methAt D4.hob (ds_no nd tt mm (by decide +kernel) (by decide +kernel) (by decide +kernel)) ?_
              walk_at "go"
              refine ⟨_, _, _, _, rfl, x, dx, nd, tt, mm, ns, td, a, b, m, rfl, rfl, rfl, rfl, D4, c1, c2, by omega, by omega, fun H5 b5 D5 => ?_⟩
              walk_at "go"
              have e1 : thru1 m a td b = improve td a b m := if_pos ⟨c1, c2⟩
              refine ⟨_, rfl, ((b2.same s3).same s4).trans b5, ?_⟩
              rw [est, e1]
              exact D5
            · walk_at "go"
              have e1 : thru1 m a td b = td := if_neg fun z => by rw [z.2] at c2; cases c2
              refine ⟨_, rfl, (b2.same s3).same s4, ?_⟩
              rw [est, e1]
              exact D4
          · walk_at "go"
            have e1 : thru1 m a td b = td := if_neg fun z => by rw [z.1] at c1; cases c1
            refine ⟨_, rfl, b2.same s3, ?_⟩
            rw [est, e1]
            exact D3
      · rintro σ' H2 ⟨v3, rfl, b2, D2⟩
        rw [List.length_map, List.take_length] at D2
        refine ⟨_, _, rfl, b2, ?_⟩
        rw [foldl_snoc he, htc]
        exact D2
  · rintro σ' H2 ⟨v2, v3, rfl, b2, D2⟩
    rw [List.length_map, List.take_length] at D2
    exact k H2 b2 D2

end
end Rt
end
section
set_option maxHeartbeats 4000000
namespace Rt
open PySem PySem.Spec PyProof.Rows L2
section
variable {P : Program} {w : World} {K : PySem.W.Frag} {mg : Str → Option Value}
theorem keys_mem_put {α β : Type} [DecidableEq α] {g : List (α × β)} {k : α} {v : β} {j : α} (h : j ∈ (put g k v).map (·.1)) : j = k ∨ j ∈ g.map (·.1) := by
  rw [keys_put] at h
  split at h
  · exact .inr h
  · rcases List.mem_append.mp h with q | q
    · exact .inr q
    · exact .inl (List.mem_singleton.mp q)
theorem len_diag : ∀ (ns : List Str) (g : GM), (ns.foldl diag g).length ≤ g.length + ns.length
  | [], g => Nat.le_refl _
  | x :: ns, g => by
    have h1 := len_diag ns (diag g x)
    have h2 : (diag g x).length ≤ g.length + 1 := len_put _ _ _
    rw [List.foldl_cons, List.length_cons]
    omega
theorem len_dist (ns : List Str) : ∀ (ms : List Str) (t : Tb), (ms.foldl (thru ns) t).tot.length ≤ t.tot.length + ms.length * (ns.length * ns.length) ∧ (ms.foldl (thru ns) t).mid.length ≤ t.mid.length + ms.length * (ns.length * ns.length)
  | [], t => by simp
  | m :: ms, t => by
    have h1 := len_dist ns ms (thru ns t m)
    have h2 := len_thruR m ns ns t
    have e : (m :: ms).length * (ns.length * ns.length) = ms.length * (ns.length * ns.length) + ns.length * ns.length := by rw [List.length_cons, Nat.add_mul, Nat.one_mul]
    have h3 : (thru ns t m).tot.length ≤ t.tot.length + ns.length * ns.length := h2.1
    have h4 : (thru ns t m).mid.length ≤ t.mid.length + ns.length * ns.length := h2.2
    rw [List.foldl_cons, e]
    omega
theorem putF_nd {n : Addr} : putF "nodes" (.ref n) [] = [(("nodes" : Str), V.ref n)] := rfl
theorem putF_tt {n t : Addr} : putF "totals" (.ref t) [(("nodes" : Str), V.ref n)] = [(("nodes" : Str), V.ref n), (("totals" : Str), V.ref t)] := by
  show (if ("nodes" : Str) = "totals" then _ else _) = _
  rw [if_neg (by decide +kernel)]
  rfl
theorem putF_mm {n t m : Addr} : putF "middles" (.ref m) [(("nodes" : Str), V.ref n), (("totals" : Str), V.ref t)] = distF n t m := by
  show (if ("nodes" : Str) = "middles" then _ else (("nodes" : Str), V.ref n) :: (if ("totals" : Str) = "middles" then _ else _)) = _
  rw [if_neg (by decide +kernel), if_neg (by decide +kernel)]
  rfl
theorem nodesOf_len (p : PlanD) : (nodesOf p).length = p.ts.length + 1 := by
  unfold nodesOf
  rw [List.length_cons, List.length_map]
theorem But.sub {S T : List Addr} {G H : Hp} (h : But S G H) (k : ∀ p ∈ S, p ∈ T) : But T G H := fun b o e n => h b o e fun m => n (k b m)
theorem PlanAt.but {K : PySem.W.Frag} {S : List Addr} {G H : Hp} {a x dx : Addr} {p : PlanD} (b : But [x] G H) (hx : G x = some (.ins (He.ga K "Distances") dx [])) (h : PlanAt K G a p) : PlanAt K H a p := by
  obtain ⟨dy, bn, ol, vs, h1, h2, h3, h4⟩ := h
  have n1 : a ≠ x := fun z => by
    rw [z, hx] at h1
    injection h1 with h1
    injection h1 with _ _ q
    cases q
  have n2 : bn ≠ x := ne_of h2 hx (by intro z; cases z)
  have n3 : ol ≠ x := ne_of h3 hx (by intro z; cases z)
  refine ⟨dy, bn, ol, vs, b _ _ h1 (not1 n1), b _ _ h2 (not1 n2), b _ _ h3 (not1 n3), b.lagR (fun q m xs e => ?_) h4⟩
  rw [List.mem_singleton.mp m, hx] at e
  cases e
theorem pure_Distances_init (T : Tx K mg) (vs : List V) (H : Hp) (Q : VK) (E : XK) (h : sp_Distances_init K vs H Q E) : t_Distances_init P w K ⟨fun _ H1 => Q .non H1, Q, fun _ _ => False, fun _ _ => False⟩ (start nm_Distances_init vs) H := by
  obtain ⟨_, _, rfl, x, dx, y, p, rfl, rfl, hx, hp, asc, hl, hll, k⟩ := h
  have hM := million
  unfold t_Distances_init
  walk_at "go"
  refine ⟨_, rfl, y, p, rfl, hp, asc, hl, fun q1 H1 n1 s1 e1 => ?_⟩
  walk_at "go"
  refine c_sfldAt (s1 _ _ hx) T.cls_Distances T.noat_Distances_nodes (by decide) ?_
  rw [putF_nd]
  have b1 : But [x] H1 (upd H1 x (.ins (He.ga K "Distances") dx [("nodes", .ref q1)])) := (But.refl _ _).put in1
  have hp1 := (hp.same s1).but (S := [x]) b1 (s1 _ _ hx)
  have bb1 : But [x] H (upd H1 x (.ins (He.ga K "Distances") dx [("nodes", .ref q1)])) := (same_but s1).trans b1
  have q1x : q1 ≠ x := ne_of e1 (s1 _ _ hx) (by intro z; cases z)
  have eq1 : (upd H1 x (.ins (He.ga K "Distances") dx [("nodes", .ref q1)])) q1 = some (.lst ((nodesOf p).map V.str)) := by rw [upd_ne q1x]; exact e1
  have ex1 : (upd H1 x (.ins (He.ga K "Distances") dx [("nodes", .ref q1)])) x = some (.ins (He.ga K "Distances") dx [("nodes", .ref q1)]) := upd_same
  generalize upd H1 x (.ins (He.ga K "Distances") dx [("nodes", .ref q1)]) = G1 at *
  walk_at "go"
  obtain ⟨dy, bn, ol, us, h1, h2, h3, h4⟩ := id hp1
  refine c_fldAt h1 T.cls_Plan T.noat_Plan_horizon (pl_hz p bn ol) ?_
  walk_at "go"
  refine c_methAt h1 (pl_no p bn ol (by decide +kernel) (by decide +kernel) (by decide +kernel)) ?_
  walk_at "go"
  refine ⟨_, rfl, y, p, rfl, hp1, fun q2 H2 n2 s2 e2 => ?_⟩
  walk_at "go"
  refine c_methAt (s2 _ _ h1) (pl_no p bn ol (by decide +kernel) (by decide +kernel) (by decide +kernel)) ?_
  walk_at "go"
  refine ⟨_, rfl, y, p, rfl, hp1.same s2, fun H3 l3 vs3 s3 e3 r3 => ?_⟩
  walk_at "go"
  refine ⟨_, _, _, rfl, p.hz, q2, l3, p.ts, p.lg, rfl, rfl, rfl, s3 _ _ e2, by omega, ⟨vs3, .inr (.inl e3), r3⟩, hll, fun q4 H4 n4 s4 e4 => ?_⟩
  walk_at "go"
  have s14 := s2.trans (s3.trans s4)
  refine c_sfldAt (s14 _ _ ex1) T.cls_Distances T.noat_Distances_totals (by show 1 < 1000; omega) ?_
  rw [putF_tt]
  have q4x : q4 ≠ x := ne_of e4 (s14 _ _ ex1) (by intro z; cases z)
  have bb4 : But [x] H (upd H4 x (.ins (He.ga K "Distances") dx [("nodes", .ref q1), ("totals", .ref q4)])) := ((bb1.same s14).trans ((But.refl _ _).put in1))
  have eq41 : (upd H4 x (.ins (He.ga K "Distances") dx [("nodes", .ref q1), ("totals", .ref q4)])) q1 = some (.lst ((nodesOf p).map V.str)) := by rw [upd_ne q1x]; exact s14 _ _ eq1
  have eq44 : (upd H4 x (.ins (He.ga K "Distances") dx [("nodes", .ref q1), ("totals", .ref q4)])) q4 = some (.dT (dPI (ggaps p.hz p.ts p.lg))) := by rw [upd_ne q4x]; exact e4
  have ex4 : (upd H4 x (.ins (He.ga K "Distances") dx [("nodes", .ref q1), ("totals", .ref q4)])) x = some (.ins (He.ga K "Distances") dx [("nodes", .ref q1), ("totals", .ref q4)]) := upd_same
  generalize upd H4 x (.ins (He.ga K "Distances") dx [("nodes", .ref q1), ("totals", .ref q4)]) = G4 at *
  have hq4H : H q4 = none := by
    have : H3 q4 = none := n4
    refine Classical.byContradiction fun z => ?_
    obtain ⟨o, ho⟩ := Option.ne_none_iff_exists'.mp z
    by_cases zx : q4 = x
    · exact q4x zx
    · rw [s3 _ _ (s2 _ _ (bb1 _ _ ho (not1 zx)))] at this
      cases this
  walk_at "go"
  refine c_nw fun q5 H5 n5 s5 e5 => ?_
  walk_at "go"
  refine c_sfldAt (s5 _ _ ex4) T.cls_Distances T.noat_Distances_middles (by show 2 < 1000; omega) ?_
  rw [putF_mm]
  have q5x : q5 ≠ x := ne_of e5 (s5 _ _ ex4) (by intro z; cases z)
  have q54 : q5 ≠ q4 := (ne_of_none eq44 n5).symm
  have bb5 : But [x] H (upd H5 x (.ins (He.ga K "Distances") dx (distF q1 q4 q5))) := (bb4.same s5).trans ((But.refl _ _).put in1)
  have hq5H : H q5 = none := by
    refine Classical.byContradiction fun z => ?_
    obtain ⟨o, ho⟩ := Option.ne_none_iff_exists'.mp z
    rw [bb4 _ _ ho (not1 q5x)] at n5
    cases n5
  have hD : DistAt K (upd H5 x (.ins (He.ga K "Distances") dx (distF q1 q4 q5))) x dx q1 q4 q5 (nodesOf p) ⟨ggaps p.hz p.ts p.lg, []⟩ := ⟨upd_same, by rw [upd_ne q1x]; exact s5 _ _ eq41, by rw [upd_ne q4x]; exact s5 _ _ eq44, by rw [upd_ne q5x]; exact e5, q54.symm⟩
  generalize upd H5 x (.ins (He.ga K "Distances") dx (distF q1 q4 q5)) = G5 at *
  have hgl : (ggaps p.hz p.ts p.lg).length ≤ 2 * p.ts.length + p.lg.length := by
    have g1 := len_gapsL p.lg (p.ts.foldl (gapT p.hz) [])
    have g2 := len_gapsT p.hz p.ts []
    have g3 : ([] : GM).length = 0 := rfl
    unfold ggaps
    omega
  have hnl := nodesOf_len p
  walk_at "go"
  refine c_fldAt hD.hob T.cls_Distances T.noat_Distances_nodes (ds_nd q1 q4 q5) ?_
  refine c_iListAt (SqL.of hD.hnd) ?_
  refine for_w walk_list (fun i σ' H' => ∃ v2 v3, σ' = [some (.ref x), some (.ref y), v2, v3] ∧ But [x, q4, q5] H H' ∧ DistAt K H' x dx q1 q4 q5 (nodesOf p) ⟨((nodesOf p).take i).foldl diag (ggaps p.hz p.ts p.lg), []⟩) ⟨_, _, rfl, bb5.sub fun z m => by rw [List.mem_singleton.mp m]; exact List.mem_cons_self, hD⟩ (fun i σ' H' _ ⟨_, _, _, _, D'⟩ => SqL.of D'.hnd) ?_ ?_
  · rintro i v σ' H6 H6' hi ⟨v2, v3, rfl, b6, D6⟩ ⟨rfl, hv⟩
    rw [List.getElem?_map] at hv
    cases he : (nodesOf p)[i]? with
    | none => rw [he] at hv; cases hv
    | some a =>
      rw [he] at hv
      cases hv
      have hlt : i < (nodesOf p).length := (List.getElem?_eq_some_iff.mp he).1
      have hld := len_diag ((nodesOf p).take i) (ggaps p.hz p.ts p.lg)
      rw [List.length_take] at hld
      show sDPut _ _ _ ⟨_, _, _, _⟩ [some (.ref x), some (.ref y), some (.str a), v3] H6'
      walk_at "go"
      refine c_fldAt D6.hob T.cls_Distances T.noat_Distances_totals (ds_tt q1 q4 q5) ?_
      walk_at "go"
      refine c_nl rfl fun q7 H7 n7 s7 e7 => ?_
      have D7 := D6.same s7
      have nx : x ≠ q4 := ne_of D7.hob D7.htt (by intro z; cases z)
      have nn : q1 ≠ q4 := ne_of D7.hnd D7.htt (by intro z; cases z)
      refine c_putT (k := kP (a, a)) D7.htt e7 (by rw [len_PI]; show (((nodesOf p).take i).foldl diag (ggaps p.hz p.ts p.lg)).length < sizeLine; omega) ?_
      refine ⟨_, _, rfl, (b6.same s7).put (List.mem_cons_of_mem _ List.mem_cons_self), ?_, ?_, ?_, ?_, D7.hne⟩
      · rw [upd_ne nx]; exact D7.hob
      · rw [upd_ne nn]; exact D7.hnd
      · rw [upd_same, foldl_snoc he]
        exact congrArg (fun z => some (HO.dT z)) (put_PI _ (a, a) 0)
      · rw [upd_ne D7.hne.symm]; exact D7.hmm
  · rintro σ' H6 ⟨v2, v3, rfl, b6, D6⟩
    rw [List.length_map, List.take_length] at D6
    have hld := len_diag (nodesOf p) (ggaps p.hz p.ts p.lg)
    walk_at "go"
    refine c_fldAt D6.hob T.cls_Distances T.noat_Distances_nodes (ds_nd q1 q4 q5) ?_
    refine c_iListAt (SqL.of D6.hnd) ?_
    refine for_w walk_list (fun i σ' H' => ∃ v3, σ' = [some (.ref x), some (.ref y), v2, v3] ∧ But [x, q4, q5] H H' ∧ DistAt K H' x dx q1 q4 q5 (nodesOf p) (((nodesOf p).take i).foldl (thru (nodesOf p)) ⟨(nodesOf p).foldl diag (ggaps p.hz p.ts p.lg), []⟩)) ⟨_, rfl, b6, D6⟩ (fun i σ' H' _ ⟨_, _, _, D'⟩ => SqL.of D'.hnd) ?_ ?_
    · rintro i v σ' H8 H8' hi ⟨v3, rfl, b8, D8⟩ ⟨rfl, hv⟩
      rw [List.getElem?_map] at hv
      cases he : (nodesOf p)[i]? with
      | none => rw [he] at hv; cases hv
      | some a =>
        rw [he] at hv
        cases hv
        have hlt : i < (nodesOf p).length := (List.getElem?_eq_some_iff.mp he).1
        have hld2 := len_dist (nodesOf p) ((nodesOf p).take i) ⟨(nodesOf p).foldl diag (ggaps p.hz p.ts p.lg), []⟩
        rw [List.length_take] at hld2
        have hmul : min i (nodesOf p).length * ((nodesOf p).length * (nodesOf p).length) ≤ 60 * (60 * 60) := Nat.mul_le_mul (by omega) (Nat.mul_le_mul (by omega) (by omega))
        have e00 : (⟨(nodesOf p).foldl diag (ggaps p.hz p.ts p.lg), []⟩ : Tb).mid.length = 0 := rfl
        have e01 : (⟨(nodesOf p).foldl diag (ggaps p.hz p.ts p.lg), []⟩ : Tb).tot.length = ((nodesOf p).foldl diag (ggaps p.hz p.ts p.lg)).length := rfl
        rw [e00, e01] at hld2
        have est : ((nodesOf p).take (i + 1)).foldl (thru (nodesOf p)) ⟨(nodesOf p).foldl diag (ggaps p.hz p.ts p.lg), []⟩ = _ := foldl_snoc he
        rw [est]
        clear est e00 e01
        generalize ((nodesOf p).take i).foldl (thru (nodesOf p)) ⟨(nodesOf p).foldl diag (ggaps p.hz p.ts p.lg), []⟩ = td at *
        show tDrop _ ⟨_, _, _, _⟩ [some (.ref x), some (.ref y), v2, some (.str a)] H8'
        walk_at "go"
        refine c_methAt D8.hob (ds_no q1 q4 q5 (by decide +kernel) (by decide +kernel) (by decide +kernel)) ?_
        walk_at "go"
        refine ⟨_, _, rfl, x, dx, q1, q4, q5, nodesOf p, td, a, rfl, rfl, D8, by omega, by omega, by omega, fun H9 b9 D9 => ?_⟩
        exact ⟨_, rfl, b8.trans (b9.sub fun z m => List.mem_cons_of_mem _ m), D9⟩
    · rintro σ' H8 ⟨v3, rfl, b8, D8⟩
      rw [List.length_map, List.take_length] at D8
      refine k _ q1 q4 q5 (fun b o e n => b8 b o e fun m => ?_) D8
      rcases List.mem_cons.mp m with z | z
      · exact n (List.mem_singleton.mpr z)
      · rcases List.mem_cons.mp z with z | z
        · rw [z, hq4H] at e; cases e
        · rw [List.mem_singleton.mp z, hq5H] at e; cases e
theorem pure_Distances_between (T : Tx K mg) (vs : List V) (H : Hp) (Q : VK) (E : XK) (h : sp_Distances_between K vs H Q E) : t_Distances_between P w K ⟨fun _ H1 => Q .non H1, Q, fun _ _ => False, fun _ _ => False⟩ (start nm_Distances_between vs) H := by
  obtain ⟨_, _, _, rfl, x, dx, nd, tt, mm, ns, t, s1, s2, z, rfl, rfl, rfl, D, hz, k⟩ := h
  unfold t_Distances_between
  walk_at "go"
  refine c_fldAt D.hob T.cls_Distances T.noat_Distances_totals (ds_tt nd tt mm) ?_
  walk_at "go"
  refine c_nl rfl fun q1 H1 n1 e1 h1 => ?_
  exact c_getT (k := kP (s1, s2)) (e1 _ _ D.htt) h1 ((val_PI _ _).trans (by rw [hz]; rfl)) (k.go e1)
theorem pure_distance (T : Tx K mg) (vs : List V) (H : Hp) (Q : VK) (E : XK) (h : sp_distance K vs H Q E) : t_distance P w K ⟨fun _ H1 => Q .non H1, Q, fun _ _ => False, fun _ _ => False⟩ (start nm_distance vs) H := by
  obtain ⟨_, _, _, rfl, x, p, s1, s2, z, rfl, rfl, rfl, hp, h1, h2, asc, hl, hll, hz, k⟩ := h
  unfold t_distance
  walk_at "go"
  refine ⟨_, _, rfl, x, p, s1, rfl, rfl, hp, h1, fun H1 g1 => ?_⟩
  walk_at "go"
  refine ⟨_, _, rfl, x, p, s2, rfl, rfl, hp.same g1, h2, fun H2 g2 => ?_⟩
  have g12 := g1.trans g2
  walk_at "go"
  refine c_made fun y dx H3 n3 g3 e3 => ?_
  have hp3 := hp.same (g12.trans g3)
  refine ⟨_, _, rfl, y, dx, x, p, rfl, rfl, e3, hp3, asc, hl, hll, fun H4 nd tt mm b4 D4 => ⟨rfl, ?_⟩⟩
  have s4 : Same H H4 := But.toSame (g12.trans g3) b4 fun q m => by
    rw [List.mem_singleton.mp m]
    exact g12.free n3
  walk_at "go"
  refine c_methAt D4.hob (ds_no nd tt mm (by decide +kernel) (by decide +kernel) (by decide +kernel)) ?_
  walk_at "go"
  exact ⟨_, _, _, rfl, y, dx, nd, tt, mm, nodesOf p, distP p, s1, s2, z, rfl, rfl, rfl, D4, hz, k.same s4⟩

end
end Rt
end
section
set_option maxHeartbeats 4000000
namespace Rt
open PySem PySem.Spec PyProof.Rows L2
section
variable {P : Program} {w : World} {K : PySem.W.Frag} {mg : Str → Option Value}
theorem pure_cycle_behind (T : Tx K mg) (vs : List V) (H : Hp) (Q : VK) (E : XK) (h : sp_cycle_behind K vs H Q E) : t_cycle_behind P w K ⟨fun _ H1 => Q .non H1, Q, fun _ _ => False, fun _ _ => False⟩ (start nm_cycle_behind vs) H := by
  obtain ⟨_, _, _, h⟩ := h
  exact h.elim
theorem pure_Plan_time (T : Tx K mg) (vs : List V) (H : Hp) (Q : VK) (E : XK) (h : sp_Plan_time K vs H Q E) : t_Plan_time P w K ⟨fun _ H1 => Q .non H1, Q, fun _ _ => False, fun _ _ => False⟩ (start nm_Plan_time vs) H := by
  obtain ⟨_, _, _, h⟩ := h
  exact h.elim
theorem pure_Plan_len (T : Tx K mg) (vs : List V) (H : Hp) (Q : VK) (E : XK) (h : sp_Plan_len K vs H Q E) : t_Plan_len P w K ⟨fun _ H1 => Q .non H1, Q, fun _ _ => False, fun _ _ => False⟩ (start nm_Plan_len vs) H := by
  obtain ⟨_, _, h⟩ := h
  exact h.elim
theorem pure_law_pen (T : Tx K mg) (vs : List V) (H : Hp) (Q : VK) (E : XK) (h : sp_law_pen K vs H Q E) : t_law_pen P w K ⟨fun _ H1 => Q .non H1, Q, fun _ _ => False, fun _ _ => False⟩ (start nm_law_pen vs) H := by
  obtain ⟨_, rfl, s, ns, rfl, hs, hl, k⟩ := h
  unfold t_law_pen
  walk_at "go"
  refine c_slL hs fun q1 H1 n1 s1 e1 => ?_
  have ec : cutV (ns.map V.int) none (some 60) = (ns.take 60).map V.int := by
    rw [List.map_take]
    exact cut_to _ 60
  rw [ec] at e1
  walk_at "go"
  refine c_listL (SqL.of e1) fun q2 H2 n2 s2 e2 => ?_
  walk_at "go"
  refine c_nl rfl fun q3 H3 n3 s3 e3 => ?_
  refine k H3 q3 (s1.trans (s2.trans s3)) ((s1.trans s2).free n3) ⟨q2, ns.take 60, 0, 0, e3, s3 _ _ e2, ?_, Nat.le_refl _⟩
  rw [List.length_take]
  omega
theorem pow3_nn {z : Int} (_h : 0 ≤ z) : z ^ (3 : Int).toNat = z ^ 3 := rfl
theorem mod_in {z m : Int} (h : 0 < m) : 0 ≤ z % m ∧ z % m < m := ⟨Int.emod_nonneg z (by omega), Int.emod_lt_of_pos z h⟩
theorem mul_in {x y a b : Int} (h0 : 0 ≤ x) (h1 : x ≤ a) (k0 : 0 ≤ y) (k1 : y ≤ b) : 0 ≤ x * y ∧ x * y ≤ a * b := ⟨Int.mul_nonneg h0 k0, Int.mul_le_mul h1 k1 k0 (by omega)⟩
theorem pure_law_next (T : Tx K mg) (vs : List V) (H : Hp) (Q : VK) (E : XK) (h : sp_law_next K vs H Q E) : t_law_next P w K ⟨fun _ H1 => Q .non H1, Q, fun _ _ => False, fun _ _ => False⟩ (start nm_law_next vs) H := by
  obtain ⟨_, rfl, p, s, ns, n, r, rfl, hp, hs, hl, hn, k⟩ := h
  unfold t_law_next
  walk_at "go"
  refine c_ixL (SqL.of hp) (v := .int n) rfl ?_
  walk_at "go"
  refine c_setL (j := 1) hp rfl ?_
  have hp1 : (upd H p (.lst [.ref s, .int ((n + 1 : Nat) : Int), .int r])) p = some (.lst [.ref s, .int ((n + 1 : Nat) : Int), .int r]) := upd_same
  have hsp : s ≠ p := fun z => by
    rw [z, hp] at hs
    injection hs with hs
    injection hs with hs
    cases ns with
    | nil => cases hs
    | cons a b => cases hs
  have hs1 : (upd H p (.lst [.ref s, .int ((n + 1 : Nat) : Int), .int r])) s = some (.lst (ns.map V.int)) := by rw [upd_ne hsp]; exact hs
  have b1 : But [p] H (upd H p (.lst [.ref s, .int ((n + 1 : Nat) : Int), .int r])) := (But.refl _ _).put in1
  have ec : upd H p (.lst ([V.ref s, .int n, .int r].set 1 (.int ((n : Int) + 1)))) = upd H p (.lst [.ref s, .int ((n + 1 : Nat) : Int), .int r]) := rfl
  rw [ec]
  clear ec
  generalize upd H p (.lst [.ref s, .int ((n + 1 : Nat) : Int), .int r]) = G at *
  walk_at "go"
  refine c_ixL (SqL.of hp1) (v := .ref s) rfl ?_
  walk_at "go"
  refine c_lenQL (SqL.of hs1) ?_
  walk_at "go"
  have main : ∀ (c : Int), tSeq (tIfS (tAnd (tTest (tOp rLt (tVar 1) (tCB (rLenQ K) (tCons (tOp (rIxL K) (tVar 0) (tC (.int 0))) (tNil))))) (tTest (tOp rGe (tVar 2) (tOp rPow (tC (.int 10)) (tC (.int 18)))))) (tRet (tVar 2)) (tNext)) (tSeq (tAsg (tOp rMod (tOp rPow (tOp rAdd (tOp rAdd (tOp rMul (tOp rMod (tVar 2) (tC (.int 1000000021))) (tOp rAdd (tVar 1) (tC (.int 5)))) (tOp rMul (tC (.int 88001)) (tVar 1))) (tC (.int 41))) (tC (.int 3))) (tC (.int 2147483587))) (gName 3)) (tSeq (tAsg (tOp rMod (tOp rPow (tOp rAdd (tOp rAdd (tOp rMul (tVar 3) (tOp rAdd (tVar 1) (tC (.int 9)))) (tOp rMod (tVar 2) (tC (.int 65537)))) (tC (.int 3))) (tC (.int 5))) (tC (.int 2147483563))) (gName 4)) (tSeq (tAsg (tOp rMod (tOp rAdd (tOp rAdd (tOp rMul (tVar 4) (tVar 4)) (tVar 3)) (tOp rMul (tC (.int 7)) (tVar 1))) (tC (.int 2147483549))) (gName 5)) (tRet (tOp rAdd (tOp rMul (tOp rAdd (tOp rMul (tVar 5) (tC (.int 2147483587))) (tVar 4)) (tC (.int 2147483563))) (tVar 3))))))
      ⟨fun _ H1 => Q .non H1, Q, fun _ _ => False, fun _ _ => False⟩ [some (.ref p), some (.int n), some (.int c), none, none, none] G := by
    intro c
    have fin : ∀ z, Q (.int z) G := fun z => k G z b1 hp1
    walk_at "go"
    refine c_ixL (SqL.of hp1) (v := .ref s) rfl ?_
    walk_at "go"
    refine c_lenQL (SqL.of hs1) ?_
    walk_at "go"
    have rest : tSeq (tAsg (tOp rMod (tOp rPow (tOp rAdd (tOp rAdd (tOp rMul (tOp rMod (tVar 2) (tC (.int 1000000021))) (tOp rAdd (tVar 1) (tC (.int 5)))) (tOp rMul (tC (.int 88001)) (tVar 1))) (tC (.int 41))) (tC (.int 3))) (tC (.int 2147483587))) (gName 3)) (tSeq (tAsg (tOp rMod (tOp rPow (tOp rAdd (tOp rAdd (tOp rMul (tVar 3) (tOp rAdd (tVar 1) (tC (.int 9)))) (tOp rMod (tVar 2) (tC (.int 65537)))) (tC (.int 3))) (tC (.int 5))) (tC (.int 2147483563))) (gName 4)) (tSeq (tAsg (tOp rMod (tOp rAdd (tOp rAdd (tOp rMul (tVar 4) (tVar 4)) (tVar 3)) (tOp rMul (tC (.int 7)) (tVar 1))) (tC (.int 2147483549))) (gName 5)) (tRet (tOp rAdd (tOp rMul (tOp rAdd (tOp rMul (tVar 5) (tC (.int 2147483587))) (tVar 4)) (tC (.int 2147483563))) (tVar 3)))))
        ⟨fun _ H1 => Q .non H1, Q, fun _ _ => False, fun _ _ => False⟩ [some (.ref p), some (.int n), some (.int c), none, none, none] G := by
      have m1 := mod_in (z := c) (m := 1000000021) (by omega)
      have m2 := mod_in (z := c) (m := 65537) (by omega)
      walk_at "go"
      generalize hq1 : c % 1000000021 = x1 at *
      generalize hq2 : c % 65537 = x2 at *
      have m3 := mul_in (x := x1) (y := (n : Int) + 5) (a := 1000000021) (b := 100005) m1.1 (by omega) (by omega) (by omega)
      walk_at "go"
      generalize hq3 : x1 * ((n : Int) + 5) = x3 at *
      refine c_pow ⟨by omega, by omega, by omega⟩ ?_
      walk_at "go"
      have m4 := mod_in (z := (x3 + 88001 * (n : Int) + 41) ^ (3 : Int).toNat) (m := 2147483587) (by omega)
      generalize hq4 : (x3 + 88001 * (n : Int) + 41) ^ (3 : Int).toNat % 2147483587 = x4 at *
      have m5 := mul_in (x := x4) (y := (n : Int) + 9) (a := 2147483587) (b := 100009) m4.1 (by omega) (by omega) (by omega)
      walk_at "go"
      generalize hq5 : x4 * ((n : Int) + 9) = x5 at *
      generalize hq6 : c % 65537 = x6 at *
      refine c_pow ⟨by omega, by omega, by omega⟩ ?_
      walk_at "go"
      have m7 := mod_in (z := (x5 + x6 + 3) ^ (5 : Int).toNat) (m := 2147483563) (by omega)
      generalize hq7 : (x5 + x6 + 3) ^ (5 : Int).toNat % 2147483563 = x7 at *
      walk_at "go"
      exact fin _
    refine c_ite (fun _ => ?_) (fun _ => ?_)
    · walk_at "go"
      refine c_pow ⟨by omega, by omega, by decide⟩ ?_
      walk_at "go"
      refine c_ite (fun _ => ?_) (fun _ => ?_)
      · walk_at "go"
        exact fin c
      · exact c_next rest
    · exact c_next rest
  refine c_ite (fun h0 => ?_) (fun _ => ?_)
  · have h0' : (0 : Int) < ((ns.map V.int).length : Nat) := of_decide_eq_true h0
    walk_at "go"
    refine c_ixL (SqL.of hp1) (v := .ref s) rfl ?_
    walk_at "go"
    refine c_ixL (SqL.of hp1) (v := .ref s) rfl ?_
    walk_at "go"
    refine c_lenQL (SqL.of hs1) ?_
    walk_at "go"
    have m := mod_in (z := (n : Int)) h0'
    have hlt : ((n : Int) % ((ns.map V.int).length : Nat)).toNat < ns.length := by
      rw [List.length_map] at m ⊢
      omega
    refine c_ixL (SqL.of hs1) (v := .int ns[((n : Int) % ((ns.map V.int).length : Nat)).toNat]) ?_ ?_
    · rw [atI_int m.1, List.getElem?_map, List.getElem?_eq_getElem hlt]
      rfl
    · exact main _
  · exact c_next (main _)

end
end Rt
end
section
set_option maxHeartbeats 4000000
namespace Rt
open PySem PySem.Spec PyProof.Rows L2
section
variable {P : Program} {w : World} {K : PySem.W.Frag} {mg : Str → Option Value}
theorem PenOf.mono {H : Hp} {p s : Addr} {a b : Nat} (h : PenOf H p s a) (l : a ≤ b) : PenOf H p s b := by
  obtain ⟨ns, n, r, h1, h2, h3, h4⟩ := h
  exact ⟨ns, n, r, h1, h2, h3, Nat.le_trans h4 l⟩
theorem PenAt.mono {H : Hp} {p : Addr} {a b : Nat} (h : PenAt H p a) (l : a ≤ b) : PenAt H p b := h.imp fun _ h => h.mono l
theorem PenOf.same {G H : Hp} {p s : Addr} {a : Nat} (e : Same G H) (h : PenOf G p s a) : PenOf H p s a := by
  obtain ⟨ns, n, r, h1, h2, h3, h4⟩ := h
  exact ⟨ns, n, r, e _ _ h1, e _ _ h2, h3, h4⟩
theorem PenAt.same {G H : Hp} {p : Addr} {a : Nat} (e : Same G H) (h : PenAt G p a) : PenAt H p a := h.imp fun _ h => h.same e
theorem PenOf.but {S : List Addr} {G H : Hp} {p s : Addr} {a : Nat} (b : But S G H) (h : PenOf G p s a) (hp : p ∉ S) (hs : s ∉ S) : PenOf H p s a := by
  obtain ⟨ns, n, r, h1, h2, h3, h4⟩ := h
  exact ⟨ns, n, r, b _ _ h1 hp, b _ _ h2 hs, h3, h4⟩
theorem PenOf.lives {G : Hp} {p s : Addr} {a : Nat} (h : PenOf G p s a) {q : Addr} (n : G q = none) : p ≠ q ∧ s ≠ q := by
  obtain ⟨ns, m, r, h1, h2, h3, h4⟩ := h
  exact ⟨ne_of_none h1 n, ne_of_none h2 n⟩
theorem pen_ne {H : Hp} {p s : Addr} {ns : List Int} {x y : V} (hp : H p = some (.lst [.ref s, x, y])) (hs : H s = some (.lst (ns.map V.int))) : s ≠ p := fun z => by
  rw [z, hp] at hs
  injection hs with hs
  injection hs with hs
  cases ns with
  | nil => cases hs
  | cons a b => cases hs
theorem pure_law_draw (T : Tx K mg) (vs : List V) (H : Hp) (Q : VK) (E : XK) (h : sp_law_draw K vs H Q E) : t_law_draw P w K ⟨fun _ H1 => Q .non H1, Q, fun _ _ => False, fun _ _ => False⟩ (start nm_law_draw vs) H := by
  obtain ⟨_, _, rfl, p, s, b, j, rfl, rfl, ⟨ns, n, r, hp, hs, hl, hn⟩, hb, hj0, hj1, k⟩ := h
  unfold t_law_draw
  have rest : ∀ (H1 : Hp) (n1 : Nat) (r1 : Int), n1 ≤ b + 1 → But [p] H H1 → H1 p = some (.lst [.ref s, .int (n1 : Int), .int r1]) → tSeq (tAsg (tOp rMod (tOp (rIxL K) (tVar 0) (tC (.int 2))) (tVar 1)) (gName 2)) (tSeq (tAsg (tOp rFdv (tOp (rIxL K) (tVar 0) (tC (.int 2))) (tVar 1)) (gSub (tVar 0) (tC (.int 2)) rSetL)) (tRet (tVar 2)))
      ⟨fun _ H1 => Q .non H1, Q, fun _ _ => False, fun _ _ => False⟩ [some (.ref p), some (.int j), none] H1 := by
    intro H1 n1 r1 l1 b1 hp1
    walk_at "go"
    refine c_ixL (SqL.of hp1) (v := .int r1) rfl ?_
    walk_at "go"
    refine c_ixL (SqL.of hp1) (v := .int r1) rfl ?_
    walk_at "go"
    refine c_setL (j := 2) hp1 rfl ?_
    walk_at "go"
    have m := mod_in (z := r1) hj0
    refine k _ _ (b1.put in1) ⟨ns, n1, r1 / j, upd_same, ?_, hl, l1⟩ m.1 m.2
    rw [upd_ne (pen_ne hp hs)]
    exact b1 _ _ hs (not1 (pen_ne hp hs))
  walk_at "go"
  refine c_ixL (SqL.of hp) (v := .int r) rfl ?_
  walk_at "go"
  refine c_ite (fun _ => ?_) (fun _ => ?_)
  · walk_at "go"
    refine ⟨_, rfl, p, s, ns, n, r, rfl, hp, hs, hl, by omega, fun H1 z b1 e1 => ?_⟩
    walk_at "go"
    refine c_setL (j := 2) e1 rfl ?_
    exact rest _ (n + 1) z (by omega) (b1.put in1) upd_same
  · exact c_next (rest H n r (by omega) (But.refl _ _) hp)
/-- the names' draw -/
structure NmI (H : Hp) (p D q : Addr) (pool : List Str) (xs rs : List Str) : Prop where
  lst : H D = some (.lst (xs.map V.str))
  pl : H q = some (.lst (rs.map V.str))
  nd : (xs ++ rs).Nodup
  sub : ∀ x ∈ xs ++ rs, x ∈ pool
  len : xs.length + rs.length = pool.length
theorem map_erase : ∀ (rs : List Str) (k : Nat), (rs.map V.str).eraseIdx k = (rs.eraseIdx k).map V.str
  | [], _ => rfl
  | _ :: _, 0 => rfl
  | a :: rs, k + 1 => by
    rw [List.map_cons, List.eraseIdx_cons_succ, List.eraseIdx_cons_succ, map_erase rs k, List.map_cons]
theorem nd_pool11 : pool11.Nodup := by decide +kernel
theorem perm_erase {α : Type} : ∀ (l : List α) (i : Nat) (y : α), l[i]? = some y → (y :: l.eraseIdx i).Perm l
  | [], _, _, h => by simp at h
  | x :: l, 0, y, h => by
    injection h with h
    rw [h]
    exact List.Perm.refl _
  | x :: l, i + 1, y, h => by
    rw [List.eraseIdx_cons_succ]
    exact (List.Perm.swap x y _).trans ((perm_erase l i y h).cons x)
theorem NmI.step {H H' : Hp} {p D q : Addr} {pool xs rs : List Str} (h : NmI H p D q pool xs rs) {k : Nat} {x : Str} (e : rs[k]? = some x)
    (h1 : H' D = some (.lst ((xs ++ [x]).map V.str))) (h2 : H' q = some (.lst ((rs.eraseIdx k).map V.str))) : NmI H' p D q pool (xs ++ [x]) (rs.eraseIdx k) := by
  have pm : (x :: rs.eraseIdx k).Perm rs := perm_erase rs k x e
  have pm2 : ((xs ++ [x]) ++ rs.eraseIdx k).Perm (xs ++ rs) := by
    rw [List.append_assoc]
    exact List.Perm.append_left xs pm
  refine ⟨h1, h2, pm2.nodup_iff.mpr h.nd, fun y hy => h.sub y (pm2.mem_iff.mp hy), ?_⟩
  rw [← List.length_append, pm2.length_eq, List.length_append, h.len]
theorem pure_law_names (T : Tx K mg) (vs : List V) (H : Hp) (Q : VK) (E : XK) (h : sp_law_names K vs H Q E) : t_law_names P w K ⟨fun _ H1 => Q .non H1, Q, fun _ _ => False, fun _ _ => False⟩ (start nm_law_names vs) H := by
  obtain ⟨_, _, rfl, p, b, j, rfl, rfl, ⟨s, hp⟩, hb, hj0, hj1, k⟩ := h
  have hM := million
  unfold t_law_names
  walk_at "go"
  refine c_nl rfl fun q G nq sG eq => ?_
  walk_at "go"
  refine c_rng1At (by omega) (by omega) ?_
  intro D nD
  have hp1 := hp.same sG
  have hpq := hp.lives nq
  have hpD := hp1.lives nD
  have hqD : q ≠ D := ne_of_none eq nD
  have hjn : j.toNat ≤ pool11.length := by show j.toNat ≤ 11; omega
  refine lc_it (Qd := fun H' => Q (.ref D) H') walk_range (fun i H' => ∃ xs rs, NmI H' p D q pool11 xs rs ∧ xs.length = i ∧ PenOf H' p s (b + i) ∧ But [p, q, D] G H') ?_ (fun _ _ _ _ => trivial) ?_ ?_
  · refine ⟨[], pool11, ⟨upd_same, ?_, nd_pool11, fun _ h => h, rfl⟩, rfl, (hp1.but (S := [D]) ((But.refl _ _).put in1) (not1 hpD.1) (not1 hpD.2)), (But.refl _ _).put (List.mem_cons_of_mem _ (List.mem_cons_of_mem _ in1))⟩
    rw [upd_ne hqD]
    exact eq
  · rintro i x H0 H' hi ⟨xs, rs, hN, hl, hP, hB⟩ ⟨rfl, rfl⟩
    refine ⟨rfl, ?_⟩
    walk_at "go"
    refine c_bmL (SqL.of hN.pl) ?_
    walk_at "go"
    refine c_lenQL (SqL.of hN.pl) ?_
    walk_at "go"
    have hlen := hN.len
    have h11 : pool11.length = 11 := rfl
    have hlm : (rs.map V.str).length = rs.length := List.length_map ..
    refine ⟨_, _, rfl, p, s, b + i, _, rfl, rfl, hP, by omega, by rw [hlm]; omega, by rw [hlm]; omega, fun H1 d b1 hP1 hd0 hd1 => ?_⟩
    rw [hlm] at hd1
    have hdl : d.toNat < rs.length := by omega
    have hq1 : H1 q = some (.lst (rs.map V.str)) := b1 _ _ hN.pl (not1 hpq.1.symm)
    have hD1 : H1 D = some (.lst (xs.map V.str)) := b1 _ _ hN.lst (not1 hpD.1.symm)
    walk_at "go"
    refine c_pop (i := d) (k := d.toNat) (y := .str rs[d.toNat]) hq1 (by omega) (by omega) (by rw [hlm]; exact seqIx hd0 (by omega)) (by rw [List.getElem?_map, List.getElem?_eq_getElem hdl]; rfl) ?_
    refine ⟨xs.map V.str, by rw [upd_ne hqD.symm]; exact hD1, by rw [List.length_map]; omega, xs ++ [rs[d.toNat]], rs.eraseIdx d.toNat, hN.step (List.getElem?_eq_getElem hdl) ?_ ?_, ?_, ?_, ?_⟩
    · rw [upd_same, List.map_append]
      rfl
    · rw [upd_ne hqD, upd_same, map_erase]
    · rw [List.length_append, hl]
      rfl
    · refine PenOf.but (S := [q, D]) (((But.refl _ _).put in21).put in22) (hP1.mono (by omega)) (not2 hpq.1 hpD.1) (not2 hpq.2 hpD.2)
    · exact ((hB.trans (b1.sub fun z m => by rw [List.mem_singleton.mp m]; exact List.mem_cons_self)).put (List.mem_cons_of_mem _ List.mem_cons_self)).put (List.mem_cons_of_mem _ (List.mem_cons_of_mem _ in1))
  · rintro H' ⟨xs, rs, hN, hl, hP, hB⟩
    obtain ⟨nx, _, _⟩ := List.nodup_append.mp hN.nd
    refine k H' D xs (fun c o e n => hB c o (sG _ _ e) fun m => ?_) (sG.free nD) hN.lst ⟨s, hP.mono (by omega)⟩ nx (fun x hx => hN.sub x (List.mem_append_left _ hx)) (by omega)
    rcases List.mem_cons.mp m with z | z
    · exact n (List.mem_singleton.mpr z)
    · rcases List.mem_cons.mp z with z | z
      · rw [z, nq] at e; cases e
      · rw [List.mem_singleton.mp z, sG.free nD] at e; cases e

end
end Rt
end
section
set_option maxHeartbeats 4000000
namespace Rt
open PySem PySem.Spec PyProof.Rows L2
section
variable {P : Program} {w : World} {K : PySem.W.Frag} {mg : Str → Option Value}
theorem strs_ne_pen {H : Hp} {l p s : Addr} {xs : List Str} {b : Nat} (hl : H l = some (.lst (xs.map V.str))) (hp : PenOf H p s b) : l ≠ p := fun z => by
  obtain ⟨ns, n, r, h1, _⟩ := hp
  rw [z, h1] at hl
  cases xs with
  | nil => injection hl with hl; injection hl with hl; cases hl
  | cons a r => injection hl with hl; injection hl with hl; cases hl
theorem mergeK_SI {ts : List (Str × Int)} (h : (ts.map (·.1)).Nodup) : mergeK [] (dSI ts) = dSI ts := mergeK_new (by
  unfold dSI
  rw [List.map_map]
  show (ts.map ((fun e : Key × V => e.1) ∘ fun e : Str × Int => (kS e.1, V.int e.2))).Nodup
  rw [show ((fun e : Key × V => e.1) ∘ fun e : Str × Int => (kS e.1, V.int e.2)) = kS ∘ (·.1) from rfl, ← List.map_map]
  exact kS_nodup h)
theorem pure_law_starts (T : Tx K mg) (vs : List V) (H : Hp) (Q : VK) (E : XK) (h : sp_law_starts K vs H Q E) : t_law_starts P w K ⟨fun _ H1 => Q .non H1, Q, fun _ _ => False, fun _ _ => False⟩ (start nm_law_starts vs) H := by
  obtain ⟨_, _, _, rfl, p, b, l, xs, wd, rfl, rfl, rfl, ⟨s, hp⟩, hb, hl, hnd, hlen, hw0, hw1, k⟩ := h
  have hM := million
  unfold t_law_starts
  walk_at "go"
  refine c_iListAt (SqL.of hl) ?_
  intro D nD
  have hpD := hp.lives nD
  have hlD : l ≠ D := ne_of_none hl nD
  have hlp : l ≠ p := strs_ne_pen hl hp
  refine lc_it (Qd := fun H' => rDictP K [.ref D] H' Q) (walk_list (xs := xs.map V.str)) (fun i H' => ∃ (ps : List Addr) (ts : List (Str × Int)), H' D = some (.lst (ps.map V.ref)) ∧ Paired (fun q (e : Str × Int) => H' q = some (.tup [.str e.1, .int e.2])) ps ts ∧ ts.map (·.1) = xs.take i ∧ (∀ e ∈ ts, 0 ≤ e.2 ∧ e.2 ≤ wd) ∧ PenOf H' p s (b + i) ∧ But [p, D] H H' ∧ H' l = some (.lst (xs.map V.str))) ?_ ?_ ?_ ?_
  · exact ⟨[], [], upd_same, .nil, rfl, (fun e m => nomatch m), hp.but (S := [D]) ((But.refl _ _).put in1) (not1 hpD.1) (not1 hpD.2), (But.refl _ _).put in22, by rw [upd_ne hlD]; exact hl⟩
  · rintro i H' _ ⟨ps, ts, _, _, _, _, _, _, hl'⟩
    exact SqL.of hl'
  · rintro i x H0 H' hi ⟨ps, ts, hD, hpr, hts, hbd, hP, hB, hl'⟩ ⟨rfl, hx⟩
    rw [List.length_map] at hi
    rw [List.getElem?_map, List.getElem?_eq_getElem hi] at hx
    cases hx
    refine ⟨rfl, ?_⟩
    walk_at "go"
    refine ⟨_, _, rfl, p, s, b + i, _, rfl, rfl, hP, by omega, by omega, by omega, fun H1 d b1 hP1 hd0 hd1 => ?_⟩
    walk_at "go"
    refine c_nl rfl fun q H2 n2 s2 e2 => ?_
    have hD1 : H1 D = some (.lst (ps.map V.ref)) := b1 _ _ hD (not1 hpD.1.symm)
    have hpl : ps.length = ts.length := Paired.length hpr
    have htl : ts.length = i := by
      have := congrArg List.length hts
      rw [List.length_map, List.length_take] at this
      omega
    have hl1 : H1 l = some (.lst (xs.map V.str)) := b1 _ _ hl' (not1 hlp)
    refine ⟨ps.map V.ref, s2 _ _ hD1, by rw [List.length_map]; omega, ps ++ [q], ts ++ [(xs[i], d)], ?_, ?_, ?_, ?_, ?_, ?_, ?_⟩
    · rw [upd_same, List.map_append]
      rfl
    · refine Paired.snoc' (Paired.mapP hpr fun z e he => ?_) ?_
      · have h1 := s2 _ _ (b1 _ _ he (not1 fun y => by
          obtain ⟨ns, n, r, hpp, _⟩ := hP
          rw [y, hpp] at he
          cases he))
        rw [upd_ne fun y => by rw [y, s2 _ _ hD1] at h1; cases h1]
        exact h1
      · rw [upd_ne fun y => by rw [y, s2 _ _ hD1] at e2; cases e2]
        exact e2
    · rw [List.map_append, hts, take_snoc (List.getElem?_eq_getElem hi)]
      rfl
    · intro e m
      rcases List.mem_append.mp m with m | m
      · exact hbd e m
      · rw [List.mem_singleton.mp m]
        exact ⟨hd0, by omega⟩
    · exact PenOf.but (S := [D]) ((But.refl _ _).put in1) ((hP1.same s2).mono (by omega)) (not1 hpD.1) (not1 hpD.2)
    · exact ((hB.trans (b1.sub fun z m => by rw [List.mem_singleton.mp m]; exact List.mem_cons_self)).same s2).put in22
    · rw [upd_ne hlD]
      exact s2 _ _ hl1
  · rintro H' ⟨ps, ts, hD, hpr, hts, hbd, hP, hB, hl'⟩
    rw [List.length_map, List.take_length] at hts
    rw [List.length_map] at hP
    have hnd' : (ts.map (·.1)).Nodup := by rw [hts]; exact hnd
    refine ⟨D, ps, dSI ts, rfl, SqL.of hD, ?_, fun q hq => ?_⟩
    · clear hts hbd hnd' hD
      induction hpr with
      | nil => exact .nil
      | cons a _ ih => exact .cons (.inl (.inl a)) ih
    · rw [mergeK_SI hnd']
      have bb : But [p, D] H (upd H' q (.dK (dSI ts))) := hB.same (same_new hq)
      have hqH : H q = none := by
        refine Classical.byContradiction fun z => ?_
        obtain ⟨o, ho⟩ := Option.ne_none_iff_exists'.mp z
        obtain ⟨ns, n, r, hpp, _⟩ := id hP
        by_cases h1 : q = p
        · rw [h1, hpp] at hq; cases hq
        · by_cases h2 : q = D
          · rw [h2, hD] at hq; cases hq
          · rw [hB _ _ ho (not2 h1 h2)] at hq; cases hq
      refine k _ q ts (fun c o e n => bb c o e fun m => ?_) hqH upd_same ⟨s, (hP.same (same_new hq)).mono (by omega)⟩ hts hbd
      rcases List.mem_cons.mp m with z | z
      · exact n (List.mem_singleton.mpr z)
      · rw [List.mem_singleton.mp z, nD] at e; cases e

end
end Rt
end
section
set_option maxHeartbeats 4000000
namespace Rt
open PySem PySem.Spec PyProof.Rows L2
section
variable {P : Program} {w : World} {K : PySem.W.Frag} {mg : Str → Option Value}
theorem len_fold {β : Type} {f : GM → β → GM} {c : Nat} (hf : ∀ g b, (f g b).length ≤ g.length + c) : ∀ (l : List β) (g : GM), (l.foldl f g).length ≤ g.length + l.length * c
  | [], g => by simp
  | b :: l, g => by
    have h1 := len_fold hf l (f g b)
    have h2 := hf g b
    have e : (b :: l).length * c = l.length * c + c := by rw [List.length_cons, Nat.add_mul, Nat.one_mul]
    rw [List.foldl_cons, e]
    omega
/-- all pairs are there -/
def Full (ns : List Str) (g : GM) : Prop := ∀ a ∈ ns, ∀ b ∈ ns, (look g (a, b)).isSome = true
theorem look_put_some {g : GM} {k j : Pr} {v : Int} (h : (look g j).isSome = true) : (look (put g k v) j).isSome = true := by
  rw [look_put]
  split
  · rfl
  · exact h
theorem Full.put {ns : List Str} {g : GM} {k : Pr} {v : Int} (h : Full ns g) : Full ns (put g k v) := fun a ha b hb => look_put_some (h a ha b hb)
theorem Full.fold {β : Type} {ns : List Str} {f : GM → β → GM} (hf : ∀ g b, Full ns g → Full ns (f g b)) : ∀ (l : List β) (g : GM), Full ns g → Full ns (l.foldl f g)
  | [], _, h => h
  | b :: l, g, h => Full.fold hf l (f g b) (hf g b h)
theorem farB_keep (wd : Int) (a : Str) (k : Pr) : ∀ (l : List Str) (g : GM), (look g k).isSome = true → (look (farB wd l g a) k).isSome = true
  | [], _, h => h
  | b :: l, g, h => farB_keep wd a k l _ (look_put_some h)
theorem farB_new (wd : Int) (a : Str) : ∀ (l : List Str) (g : GM), ∀ b ∈ l, (look (farB wd l g a) (a, b)).isSome = true
  | [], _, b, h => nomatch h
  | c :: l, g, b, h => by
    rcases List.mem_cons.mp h with q | q
    · subst q
      exact farB_keep wd a _ l _ (by rw [look_same]; rfl)
    · exact farB_new wd a l _ b q
theorem farB_fold_keep (wd : Int) (ns : List Str) (k : Pr) : ∀ (l : List Str) (g : GM), (look g k).isSome = true → (look (l.foldl (farB wd ns) g) k).isSome = true
  | [], _, h => h
  | a :: l, g, h => farB_fold_keep wd ns k l _ (farB_keep wd a k ns g h)
theorem farB_full (wd : Int) (ns : List Str) : ∀ (l : List Str) (g : GM), ∀ a ∈ l, ∀ b ∈ ns, (look (l.foldl (farB wd ns) g) (a, b)).isSome = true
  | [], _, a, h, _, _ => nomatch h
  | c :: l, g, a, h, b, hb => by
    rcases List.mem_cons.mp h with q | q
    · subst q
      exact farB_fold_keep wd ns _ l _ (farB_new wd a ns g b hb)
    · exact farB_full wd ns l _ a q b hb
theorem full_farB (wd : Int) (ns : List Str) : Full ns (ns.foldl (farB wd ns) []) := fun a ha b hb => farB_full wd ns ns [] a ha b hb
theorem full_farL {ns : List Str} (ls : List Lag) {g : GM} (h : Full ns g) : Full ns (ls.foldl farL g) := Full.fold (fun g b h => h.put) ls g h
theorem full_farM {ns ms : List Str} (m : Str) {g : GM} (h : Full ns g) : Full ns (farM ms g m) := Full.fold (fun g a h => Full.fold (fun g b h => h.put) ms g h) ms g h
theorem full_far {xs : List Str} {wd : Int} {ls : List Lag} : Full (nds xs) (far xs wd ls) := Full.fold (fun g b h => full_farM b h) (nds xs) _ (full_farL ls (full_farB wd (nds xs)))
theorem len_farB (wd : Int) (ns : List Str) (a : Str) (g : GM) : (farB wd ns g a).length ≤ g.length + ns.length := by
  have := len_fold (c := 1) (f := fun g b => put g (a, b) (if a = "" ∨ a = b then 0 else -wd)) (fun g b => len_put _ _ _) ns g
  rw [Nat.mul_one] at this
  exact this
theorem len_farR (m : Str) (ns : List Str) (g : GM) (a : Str) : (ns.foldl (farT m a) g).length ≤ g.length + ns.length := by
  have := len_fold (c := 1) (f := farT m a) (fun g b => len_put _ _ _) ns g
  rw [Nat.mul_one] at this
  exact this
theorem len_farM (ns : List Str) (g : GM) (m : Str) : (farM ns g m).length ≤ g.length + ns.length * ns.length := len_fold (fun g a => len_farR m ns g a) ns g
structure FarI (H H2 : Hp) (q : Addr) (g : GM) (H' : Hp) : Prop where
  same : Same H H'
  but : But [q] H2 H'
  at_ : H' q = some (.dT (dPI g))
theorem FarI.on {H H2 H' H3 : Hp} {q : Addr} {g : GM} (h : FarI H H2 q g H') (s : Same H' H3) : FarI H H2 q g H3 := ⟨h.same.trans s, h.but.same s, s _ _ h.at_⟩
theorem FarI.put {H H2 H' : Hp} {q : Addr} {g : GM} {k : Pr} {v : Int} (h : FarI H H2 q g H') (n : H q = none) : FarI H H2 q (put g k v) (upd H' q (.dT (putK (dPI g) (kP k) (.int v)))) :=
  ⟨same_mut h.same n, h.but.put in1, by rw [upd_same, put_PI]⟩
/-- found[a, b] = v -/
theorem c_farPut {nx bk ct : L2.St → Hp → Prop} {rt : VK} {σ : L2.St} {H H2 H' : Hp} {q : Addr} {g : GM} {a b : Str} {v : Int} {tv : TE} {i j : Nat} (n : H q = none)
    (h4 : σ[4]? = some (some (.ref q))) (hi : σ[i]? = some (some (.str a))) (hj : σ[j]? = some (some (.str b))) (hl : g.length < 1000000)
    (hv : ∀ P : VK, (∀ H3, FarI H H2 q g H3 → P (.int v) H3) → tv σ H' P) (k : ∀ H3, FarI H H2 q (put g (a, b) v) H3 → nx σ H3) :
    sDPut (tVar 4) (tTup (tCons (tVar i) (tCons (tVar j) tNil))) tv ⟨nx, rt, bk, ct⟩ σ H' := by
  have hM := million
  refine c_put ?_
  refine hv _ fun H3 F3 => ?_
  refine c_var h4 ?_
  walk_at "go"
  refine c_var hi ?_
  walk_at "go"
  refine c_var hj ?_
  walk_at "go"
  refine c_nl rfl fun T3 H4 n4 s4 e4 => ?_
  have F4 := F3.on s4
  refine c_putT (k := kP (a, b)) F4.at_ e4 (by rw [len_PI]; omega) ?_
  exact k _ (F4.put n)
/-- found[a, b] -/
theorem c_farGet {σ : L2.St} {H H2 H' : Hp} {q : Addr} {g : GM} {a b : Str} {i j : Nat} {P : VK} (F : FarI H H2 q g H') (h4 : σ[4]? = some (some (.ref q))) (hi : σ[i]? = some (some (.str a))) (hj : σ[j]? = some (some (.str b)))
    (hs : (look g (a, b)).isSome = true) (k : ∀ H3, FarI H H2 q g H3 → P (.int (get0 g a b)) H3) : tDGet (tVar 4) (tTup (tCons (tVar i) (tCons (tVar j) tNil))) σ H' P := by
  refine c_dget ?_
  refine c_var h4 ?_
  walk_at "go"
  refine c_var hi ?_
  walk_at "go"
  refine c_var hj ?_
  walk_at "go"
  refine c_nl rfl fun T3 H4 n4 s4 e4 => ?_
  have F4 := F.on s4
  exact c_getT (k := kP (a, b)) F4.at_ e4 (val_get0 hs) (k _ F4)
theorem c_farGetS {σ : L2.St} {H H2 H' : Hp} {q : Addr} {g : GM} {a b : Str} {i j : Nat} {P : VK} (F : FarI H H2 q g H') (h4 : σ[4]? = some (some (.ref q))) (hi : σ[i]? = some (some (.str a))) (hj : σ[j]? = some (some (.str b)))
    (hs : (look g (a, b)).isSome = true) (k : ∀ H3, Same H' H3 → P (.int (get0 g a b)) H3) : tDGet (tVar 4) (tTup (tCons (tVar i) (tCons (tVar j) tNil))) σ H' P := by
  refine c_dget ?_
  refine c_var h4 ?_
  walk_at "go"
  refine c_var hi ?_
  walk_at "go"
  refine c_var hj ?_
  walk_at "go"
  refine c_nl rfl fun T3 H4 n4 s4 e4 => ?_
  have F4 := F.on s4
  exact c_getT (k := kP (a, b)) F4.at_ e4 (val_get0 hs) (k _ s4)
theorem inV_two {a b : Str} : inV (.str a) [.str "", .str b] = decide (a = "" ∨ a = b) := by
  show ((("" : Str) == a) || ((b == a) || false)) = _
  rw [Bool.or_false]
  by_cases h1 : a = ""
  · subst h1
    simp
  · by_cases h2 : a = b
    · subst h2
      simp
    · have e1 : (("" : Str) == a) = false := by
        rw [beq_eq_false_iff_ne]
        exact fun z => h1 z.symm
      have e2 : (b == a) = false := by
        rw [beq_eq_false_iff_ne]
        exact fun z => h2 z.symm
      rw [e1, e2]
      simp [h1, h2]
theorem pure_law_far (T : Tx K mg) (vs : List V) (H : Hp) (Q : VK) (E : XK) (h : sp_law_far K vs H Q E) : t_law_far P w K ⟨fun _ H1 => Q .non H1, Q, fun _ _ => False, fun _ _ => False⟩ (start nm_law_far vs) H := by
  obtain ⟨_, _, _, rfl, l, xs, wd, m, ls, rfl, rfl, rfl, hl, hlen, hls, hll, hmem, kF, kT⟩ := h
  have hM := million
  unfold t_law_far
  walk_at "go"
  refine c_nl rfl fun q0 H0 n0 s0 e0 => ?_
  walk_at "go"
  refine c_listL (SqL.of (s0 _ _ hl)) fun q1 H1 n1 s1 e1 => ?_
  walk_at "go"
  refine c_cat (s1 _ _ e0) e1 (by simp; omega) fun q2 H2 n2 s2 e2 => ?_
  walk_at "go"
  refine c_nw fun q H3 n3 s3 e3 => ?_
  have s02 := s0.trans (s1.trans s2)
  have sH3 := s02.trans s3
  have hq : H q = none := s02.free n3
  have e2' : H2 q2 = some (.lst ((nds xs).map V.str)) := e2
  have hq2q : q2 ≠ q := ne_of_none e2' n3
  have e23 : H3 q2 = some (.lst ((nds xs).map V.str)) := s3 _ _ e2'
  have hnl : (nds xs).length = xs.length + 1 := rfl
  have nodes : ∀ {g : GM} {H' : Hp}, FarI H H3 q g H' → SqL K H' q2 ((nds xs).map V.str) := fun F => SqL.of (F.but _ _ e23 (not1 hq2q))
  have F0 : FarI H H3 q [] H3 := ⟨sH3, But.refl _ _, e3⟩
  clear e2 e0 e1
  generalize hns : nds xs = ns at *
  have hsq : ns.length * ns.length ≤ 41 * 41 := Nat.mul_le_mul (by omega) (by omega)
  walk_at "go"
  -- the base
  refine c_iListAt (nodes F0) ?_
  refine for_w (walk_list (xs := ns.map V.str)) (fun i σ' H' => ∃ v5 v6, σ' = [some (.ref l), some (.int wd), some (.ref m), some (.ref q2), some (.ref q), v5, v6, none, none, none] ∧ FarI H H3 q ((ns.take i).foldl (farB wd ns) []) H') ⟨_, _, rfl, F0⟩ (fun i σ' H' _ ⟨_, _, _, F⟩ => nodes F) ?_ ?_
  · rintro i x σ' H4 H4' hi ⟨v5, v6, rfl, F⟩ ⟨rfl, hx⟩
    rw [List.getElem?_map] at hx
    cases he : ns[i]? with
    | none => rw [he] at hx; cases hx
    | some a =>
      rw [he] at hx
      cases hx
      have hlt : i < ns.length := (List.getElem?_eq_some_iff.mp he).1
      have hlb := len_fold (fun g b => len_farB wd ns b g) (ns.take i) []
      have hmul : (ns.take i).length * ns.length ≤ 41 * 41 := Nat.mul_le_mul (by rw [List.length_take]; omega) (by omega)
      have e00 : ([] : GM).length = 0 := rfl
      rw [e00] at hlb
      rw [foldl_snoc he]
      generalize (ns.take i).foldl (farB wd ns) [] = g0 at *
      show tFor _ _ _ ⟨_, _, _, _⟩ [some (.ref l), some (.int wd), some (.ref m), some (.ref q2), some (.ref q), some (.str a), v6, none, none, none] H4'
      walk_at "go"
      refine c_iListAt (nodes F) ?_
      refine for_w (walk_list (xs := ns.map V.str)) (fun j σ' H' => ∃ v6, σ' = [some (.ref l), some (.int wd), some (.ref m), some (.ref q2), some (.ref q), some (.str a), v6, none, none, none] ∧ FarI H H3 q (farB wd (ns.take j) g0 a) H') ⟨_, rfl, F⟩ (fun i σ' H' _ ⟨_, _, F⟩ => nodes F) ?_ ?_
      · rintro j y σ' H5 H5' hj ⟨v6, rfl, F5⟩ ⟨rfl, hy⟩
        rw [List.getElem?_map] at hy
        cases hb : ns[j]? with
        | none => rw [hb] at hy; cases hy
        | some b =>
          rw [hb] at hy
          cases hy
          have hltj : j < ns.length := (List.getElem?_eq_some_iff.mp hb).1
          have hlc := len_farB wd (ns.take j) a g0
          rw [List.length_take] at hlc
          show sDPut _ _ _ ⟨_, _, _, _⟩ [some (.ref l), some (.int wd), some (.ref m), some (.ref q2), some (.ref q), some (.str a), some (.str b), none, none, none] H5'
          refine c_farPut (H2 := H3) (g := farB wd (ns.take j) g0 a) (v := if a = "" ∨ a = b then 0 else -wd) hq rfl rfl rfl (by omega) (fun Pk hP => ?_) (fun H6 F6 => ⟨_, rfl, ?_⟩)
          · walk_at "go"
            refine c_nl rfl fun q6 H6 n6 s6 e6 => ?_
            refine c_inT' (SqT.of e6) rfl rfl ?_
            rw [inV_two]
            walk_at "go"
            refine c_ite (fun c => ?_) (fun c => ?_)
            · have c' := of_decide_eq_true c
              walk_at "go"
              have := hP _ (F5.on s6)
              rw [if_pos c'] at this
              exact this
            · have c' := of_decide_eq_false c
              walk_at "go"
              have := hP _ (F5.on s6)
              rw [if_neg c'] at this
              exact this
          · have est : farB wd (ns.take (j + 1)) g0 a = put (farB wd (ns.take j) g0 a) (a, b) (if a = "" ∨ a = b then 0 else -wd) := by
              unfold farB
              exact foldl_snoc hb
            rw [est]
            exact F6
      · rintro σ' H5 ⟨v6, rfl, F5⟩
        rw [List.length_map, List.take_length] at F5
        exact ⟨_, _, rfl, F5⟩
  · rintro σ' H4 ⟨v5, v6, rfl, F⟩
    rw [List.length_map, List.take_length] at F
    have hlB := len_fold (fun g b => len_farB wd ns b g) ns []
    have e00 : ([] : GM).length = 0 := rfl
    rw [e00] at hlB
    have full1 := full_farB wd ns
    generalize hgB : ns.foldl (farB wd ns) [] = gB at *
    -- the limits
    obtain ⟨us, hu, hr⟩ := hls
    have hul : us.length = ls.length := Paired.length hr
    walk_at "go"
    refine c_iListAt (F.same.seq hu) ?_
    refine for_w (walk_list (xs := us)) (fun i σ' H' => ∃ v5 v6 v7, σ' = [some (.ref l), some (.int wd), some (.ref m), some (.ref q2), some (.ref q), v5, v6, v7, none, none] ∧ FarI H H3 q ((ls.take i).foldl farL gB) H') ⟨_, _, _, rfl, F⟩ (fun i σ' H' _ ⟨_, _, _, _, F⟩ => F.same.seq hu) ?_ ?_
    · rintro i x σ' H5 H5' hi ⟨v5, v6, v7, rfl, F5⟩ ⟨rfl, hx⟩
      obtain ⟨z, hz, hzr⟩ := paired_get hr hx
      obtain ⟨pl, rfl, hpl⟩ := hzr.same F5.same
      obtain ⟨za, zb, zg⟩ := z
      have hzm := hmem _ (List.mem_of_getElem? hz)
      have hltj : i < ls.length := (List.getElem?_eq_some_iff.mp hz).1
      have hlL := len_fold (c := 1) (f := farL) (fun g b => len_put _ _ _) (ls.take i) gB
      rw [List.length_take] at hlL
      have hfull := full_farL (ls.take i) full1
      rw [foldl_snoc hz]
      generalize (ls.take i).foldl farL gB = gl at *
      refine c_gTup (SqT.of hpl) rfl (c_g3 ?_)
      show sDPut _ _ _ ⟨_, _, _, _⟩ [some (.ref l), some (.int wd), some (.ref m), some (.ref q2), some (.ref q), some (.str za), some (.str zb), some (.int zg), none, none] H5'
      refine c_farPut (H2 := H3) (g := gl) (v := max2 (get0 gl za zb) zg) hq rfl rfl rfl (by omega) (fun Pk hP => ?_) (fun H6 F6 => ⟨_, _, _, rfl, F6⟩)
      refine c_CB (c_cons ?_)
      refine c_farGet F5 rfl rfl rfl (hfull za hzm.1 zb hzm.2) fun H6 F6 => ?_
      walk_at "go"
      refine c_max2' ?_
      exact hP _ F6
    · rintro σ' H5 ⟨v5, v6, v7, rfl, F5⟩
      rw [hul, List.take_length] at F5
      have hlL := len_fold (c := 1) (f := farL) (fun g b => len_put _ _ _) ls gB
      have full2 := full_farL ls full1
      generalize hgL : ls.foldl farL gB = gL at *
      have hfar : far xs wd ls = ns.foldl (farM ns) gL := by
        unfold far
        rw [hns, hgB, hgL]
      walk_at "go"
      -- the closure
      refine c_iListAt (nodes F5) ?_
      refine for_w (walk_list (xs := ns.map V.str)) (fun i σ' H' => ∃ v5 v6 v8 v9, σ' = [some (.ref l), some (.int wd), some (.ref m), some (.ref q2), some (.ref q), v5, v6, v7, v8, v9] ∧ FarI H H3 q ((ns.take i).foldl (farM ns) gL) H') ⟨_, _, _, _, rfl, F5⟩ (fun i σ' H' _ ⟨_, _, _, _, _, F⟩ => nodes F) ?_ ?_
      · rintro i x σ' H6 H6' hi ⟨v5, v6, v8, v9, rfl, F6⟩ ⟨rfl, hx⟩
        rw [List.getElem?_map] at hx
        cases he : ns[i]? with
        | none => rw [he] at hx; cases hx
        | some c =>
          rw [he] at hx
          cases hx
          have hcm := List.mem_of_getElem? he
          have hlt : i < ns.length := (List.getElem?_eq_some_iff.mp he).1
          have hlM := len_fold (fun g b => len_farM ns g b) (ns.take i) gL
          have hmul : (ns.take i).length * (ns.length * ns.length) ≤ 41 * (41 * 41) := Nat.mul_le_mul (by rw [List.length_take]; omega) (by omega)
          have hfull : Full ns ((ns.take i).foldl (farM ns) gL) := Full.fold (fun g b h => full_farM b h) (ns.take i) _ full2
          rw [foldl_snoc he]
          generalize (ns.take i).foldl (farM ns) gL = g1 at *
          show tFor _ _ _ ⟨_, _, _, _⟩ [some (.ref l), some (.int wd), some (.ref m), some (.ref q2), some (.ref q), v5, v6, v7, some (.str c), v9] H6'
          walk_at "go"
          refine c_iListAt (nodes F6) ?_
          refine for_w (walk_list (xs := ns.map V.str)) (fun j σ' H' => ∃ v5 v6 v9, σ' = [some (.ref l), some (.int wd), some (.ref m), some (.ref q2), some (.ref q), v5, v6, v7, some (.str c), v9] ∧ FarI H H3 q ((ns.take j).foldl (fun g a => ns.foldl (farT c a) g) g1) H') ⟨_, _, _, rfl, F6⟩ (fun i σ' H' _ ⟨_, _, _, _, F⟩ => nodes F) ?_ ?_
          · rintro j y σ' H7 H7' hj ⟨v5, v6, v9, rfl, F7⟩ ⟨rfl, hy⟩
            rw [List.getElem?_map] at hy
            cases ha : ns[j]? with
            | none => rw [ha] at hy; cases hy
            | some a =>
              rw [ha] at hy
              cases hy
              have ham := List.mem_of_getElem? ha
              have hltj : j < ns.length := (List.getElem?_eq_some_iff.mp ha).1
              have hlR := len_fold (fun g a => len_farR c ns g a) (ns.take j) g1
              have hmul2 : (ns.take j).length * ns.length ≤ 41 * 41 := Nat.mul_le_mul (by rw [List.length_take]; omega) (by omega)
              have hfull2 : Full ns ((ns.take j).foldl (fun g a => ns.foldl (farT c a) g) g1) := Full.fold (fun g a h => Full.fold (fun g b h => h.put) ns g h) (ns.take j) _ hfull
              rw [foldl_snoc (f := fun g a => ns.foldl (farT c a) g) ha]
              generalize (ns.take j).foldl (fun g a => ns.foldl (farT c a) g) g1 = g2 at *
              show tFor _ _ _ ⟨_, _, _, _⟩ [some (.ref l), some (.int wd), some (.ref m), some (.ref q2), some (.ref q), some (.str a), v6, v7, some (.str c), v9] H7'
              walk_at "go"
              refine c_iListAt (nodes F7) ?_
              refine for_w (walk_list (xs := ns.map V.str)) (fun n σ' H' => ∃ v6 v9, σ' = [some (.ref l), some (.int wd), some (.ref m), some (.ref q2), some (.ref q), some (.str a), v6, v7, some (.str c), v9] ∧ FarI H H3 q ((ns.take n).foldl (farT c a) g2) H') ⟨_, _, rfl, F7⟩ (fun i σ' H' _ ⟨_, _, _, F⟩ => nodes F) ?_ ?_
              · rintro n z σ' H8 H8' hn ⟨v6, v9, rfl, F8⟩ ⟨rfl, hz⟩
                rw [List.getElem?_map] at hz
                cases hb : ns[n]? with
                | none => rw [hb] at hz; cases hz
                | some b =>
                  rw [hb] at hz
                  cases hz
                  have hbm := List.mem_of_getElem? hb
                  have hltn : n < ns.length := (List.getElem?_eq_some_iff.mp hb).1
                  have hlT := len_farR c (ns.take n) g2 a
                  rw [List.length_take] at hlT
                  have hfull3 : Full ns ((ns.take n).foldl (farT c a) g2) := Full.fold (fun g b h => h.put) (ns.take n) _ hfull2
                  rw [foldl_snoc hb]
                  generalize (ns.take n).foldl (farT c a) g2 = g3 at *
                  show tSeq _ _ ⟨_, _, _, _⟩ [some (.ref l), some (.int wd), some (.ref m), some (.ref q2), some (.ref q), some (.str a), some (.str b), v7, some (.str c), v9] H8'
                  refine c_seq (c_asg (c_op ?_))
                  refine c_farGet F8 rfl rfl rfl (hfull3 a ham c hcm) fun H9 F9 => ?_
                  refine c_farGet F9 rfl rfl rfl (hfull3 c hcm b hbm) fun H10 F10 => ?_
                  refine c_add ?_
                  refine c_farPut (H2 := H3) (g := g3) (v := max2 (get0 g3 a b) (get0 g3 a c + get0 g3 c b)) hq rfl rfl rfl (by omega) (fun Pk hP => ?_) (fun H11 F11 => ⟨_, _, rfl, F11⟩)
                  refine c_CB (c_cons ?_)
                  refine c_farGet F10 rfl rfl rfl (hfull3 a ham b hbm) fun H12 F12 => ?_
                  walk_at "go"
                  refine c_max2' ?_
                  exact hP _ F12
              · rintro σ' H8 ⟨v6, v9, rfl, F8⟩
                rw [List.length_map, List.take_length] at F8
                exact ⟨_, _, _, rfl, F8⟩
          · rintro σ' H7 ⟨v5, v6, v9, rfl, F7⟩
            rw [List.length_map, List.take_length] at F7
            exact ⟨_, _, _, _, rfl, F7⟩
      · rintro σ' H6 ⟨v5, v6, v8, v9, rfl, F6⟩
        rw [List.length_map, List.take_length, ← hfar] at F6
        have hfullF : Full ns (far xs wd ls) := hns ▸ full_far
        have hok : farOk xs wd ls = !(ns.any fun a => decide (0 < get0 (far xs wd ls) a a)) := by
          unfold farOk
          rw [hns]
        generalize far xs wd ls = gF at *
        walk_at "go"
        refine c_iListAt (nodes F6) ?_
        have eany : ((ns.map fun a => decide (0 < get0 gF a a)).any id) = ns.any fun a => decide (0 < get0 gF a a) := by
          rw [List.any_map]
          rfl
        refine lc_pure (walk_list (xs := ns.map V.str)) (fun H' s => nodes (F6.on s)) ((ns.map fun a => decide (0 < get0 gF a a)).map V.bl) (by simp) (by simp; omega) ?_ ?_
        · rintro i x y G0 G' hy s0' ⟨rfl, hx⟩
          refine ⟨Same.refl _, fun Pq hP => ⟨rfl, ?_⟩⟩
          rw [List.map_map, List.getElem?_map] at hy
          rw [List.getElem?_map] at hx
          cases he : ns[i]? with
          | none => rw [he] at hx; cases hx
          | some a =>
            rw [he] at hx hy
            cases hx
            cases hy
            have ham := List.mem_of_getElem? he
            refine c_op ?_
            refine c_farGetS (F6.on s0') rfl rfl rfl (hfullF a ham a ham) fun H9 s9 => ?_
            walk_at "go"
            exact hP _ s9
        · intro r H7 n7 s7 e7
          walk_at "go"
          refine c_any' (SqL.of e7) ?_
          rw [eany]
          walk_at "go"
          refine c_ite (fun c => ?_) (fun c => ?_)
          · walk_at "go"
            exact (kF (by rw [hok, c]; rfl)).go (F6.on s7).same
          · walk_at "go"
            exact (kT (by rw [hok, c]; rfl)).go (F6.on s7).same hq (F6.on s7).at_

end
end Rt
end
section
set_option maxHeartbeats 4000000
namespace Rt
open PySem PySem.Spec PyProof.Rows L2
section
variable {P : Program} {w : World} {K : PySem.W.Frag} {mg : Str → Option Value}
theorem PenOf.tup {H : Hp} {p s : Addr} {b : Nat} (h : PenOf H p s b) : ∀ q ∈ [p], ∀ xs, H q ≠ some (.tup xs) := fun q m xs e => by
  obtain ⟨ns, n, r, h1, _⟩ := h
  rw [List.mem_singleton.mp m, h1] at e
  cases e
theorem lst_tup {H : Hp} {F : Addr} {us : List V} (h : H F = some (.lst us)) : ∀ q ∈ [F], ∀ xs, H q ≠ some (.tup xs) := fun q m xs e => by
  rw [List.mem_singleton.mp m, h] at e
  cases e
theorem at0_in {ts : List (Str × Int)} {x : Str} (h : ∀ e ∈ ts, 0 ≤ e.2 ∧ e.2 ≤ 1000000) : 0 ≤ at0 ts x ∧ at0 ts x ≤ 1000000 := by
  unfold at0
  cases q : look ts x with
  | none => exact ⟨Int.le_refl _, by decide⟩
  | some v => exact h _ (look_mem q)
theorem get2_at0 {ts : List (Str × Int)} {x : Str} : (valV (dSI ts) (.inr x)).getD (.int 0) = .int (at0 ts x) := by
  have e : valV (dSI ts) (.inr x) = (look ts x).map V.int := val_SI ts x
  rw [e]
  unfold at0
  cases look ts x <;> rfl
theorem pure_law_limits (T : Tx K mg) (vs : List V) (H : Hp) (Q : VK) (E : XK) (h : sp_law_limits K vs H Q E) : t_law_limits P w K ⟨fun _ H1 => Q .non H1, Q, fun _ _ => False, fun _ _ => False⟩ (start nm_law_limits vs) H := by
  obtain ⟨_, _, _, _, _, rfl, p, b, l, xs, t, ts, wd, j, rfl, rfl, rfl, rfl, rfl, ⟨s, hp⟩, hb, hl, hlen, ht, hts, hbd, hj0, hj1, k⟩ := h
  have hM := million
  unfold t_law_limits
  walk_at "go"
  refine c_nl rfl fun q0 H0 n0 s0 e0 => ?_
  walk_at "go"
  refine c_listL (SqL.of (s0 _ _ hl)) fun q1 H1 n1 s1 e1 => ?_
  walk_at "go"
  refine c_cat (s1 _ _ e0) e1 (by simp; omega) fun q2 H2 n2 s2 e2 => ?_
  walk_at "go"
  refine c_nl rfl fun F G nF sF eF => ?_
  walk_at "go"
  have s02 := s0.trans (s1.trans s2)
  have sG := s02.trans sF
  have e2' : H2 q2 = some (.lst ((nds xs).map V.str)) := e2
  have hq2F : q2 ≠ F := ne_of_none e2' nF
  have hpF := (hp.same s02).lives nF
  have hlF : l ≠ F := ne_of_none (s02 _ _ hl) nF
  have htF : t ≠ F := ne_of_none (s02 _ _ ht) nF
  have hlp : l ≠ p := strs_ne_pen hl hp
  have htp : t ≠ p := fun z => by
    obtain ⟨ns, n, r, h1, _⟩ := id hp
    rw [z, h1] at ht
    cases ht
  have hq2p : q2 ≠ p := strs_ne_pen e2' (hp.same s02)
  have eG2 : G q2 = some (.lst ((nds xs).map V.str)) := sF _ _ e2'
  have hPG := hp.same sG
  have hlG := sG _ _ hl
  have htG := sG _ _ ht
  have hFH : H F = none := s02.free nF
  clear e0 e1 e2 e2'
  refine c_rng1At (by omega) (by omega) ?_
  refine for_w walk_range (fun i σ' H' => ∃ v7 v8 v9 v10 us ls, σ' = [some (.ref p), some (.ref l), some (.ref t), some (.int wd), some (.int j), some (.ref q2), some (.ref F), v7, v8, v9, v10] ∧ But [p, F] G H' ∧ H' F = some (.lst us) ∧ LagRefs H' us ls ∧ PenOf H' p s (b + 3 * i) ∧ ls.length ≤ i ∧ (∀ z ∈ ls, z.1 ∈ nds xs ∧ z.2.1 ∈ nds xs ∧ z.1 ≠ z.2.1 ∧ -1000000 ≤ z.2.2) ∧ (ls = [] ∨ farOk xs wd ls = true))
    ⟨_, _, _, _, [], [], rfl, But.refl _ _, eF, .nil, hPG, Nat.le_refl _, (fun z m => nomatch m), .inl rfl⟩ (fun _ _ _ _ _ => trivial) ?_ ?_
  · rintro i x σ' H4 H4' hi ⟨v7, v8, v9, v10, us, ls, rfl, hB, hF, hR, hP, hll, hmem, hok⟩ ⟨rfl, rfl⟩
    show tSeq _ _ ⟨_, _, _, _⟩ [some (.ref p), some (.ref l), some (.ref t), some (.int wd), some (.int j), some (.ref q2), some (.ref F), some (.int (0 + (i : Nat))), v8, v9, v10] H4'
    have nod : ∀ {H' : Hp}, But [p, F] G H' → H' q2 = some (.lst ((nds xs).map V.str)) := fun z => z _ _ eG2 (not2 hq2p hq2F)
    have hnl : ((nds xs).map V.str).length = xs.length + 1 := by rw [List.length_map]; rfl
    have pick : ∀ {H' : Hp} {d : Int} {Pk : V → Hp → Prop}, But [p, F] G H' → 0 ≤ d → d < (((nds xs).map V.str).length : Nat) → (∀ a, a ∈ nds xs → Pk (.str a) H') → rIxL K (.ref q2) (.int d) H' Pk := fun {H' d Pk} z d0 d1 kk => by
      have hlt : d.toNat < (nds xs).length := by
        have e : (nds xs).length = xs.length + 1 := rfl
        omega
      refine c_ixL (SqL.of (nod z)) (v := .str (nds xs)[d.toNat]) ?_ (kk _ (List.getElem_mem hlt))
      rw [atI_int d0, List.getElem?_map, List.getElem?_eq_getElem hlt]
      rfl
    have up1 : ∀ {H' H'' : Hp}, But [p, F] G H' → But [p] H' H'' → But [p, F] G H'' := fun a c => a.trans (c.sub fun z m => by rw [List.mem_singleton.mp m]; exact List.mem_cons_self)
    walk_at "go"
    refine c_lenQL (SqL.of (nod hB)) ?_
    walk_at "go"
    refine ⟨_, _, rfl, p, s, b + 3 * i, _, rfl, rfl, hP, by omega, by rw [hnl]; omega, by rw [hnl]; omega, fun H5 d5 b5 hP5 d50 d51 => ?_⟩
    have hB5 := up1 hB b5
    refine pick hB5 d50 d51 fun one h1 => ?_
    walk_at "go"
    refine c_lenQL (SqL.of (nod hB5)) ?_
    walk_at "go"
    refine ⟨_, _, rfl, p, s, _, _, rfl, rfl, hP5, by omega, by rw [hnl]; omega, by rw [hnl]; omega, fun H6 d6 b6 hP6 d60 d61 => ?_⟩
    have hB6 := up1 hB5 b6
    refine pick hB6 d60 d61 fun other h2 => ?_
    walk_at "go"
    have ht6 : H6 t = some (.dK (dSI ts)) := hB6 _ _ htG (not2 htp htF)
    refine c_get2K ht6 ?_
    walk_at "go"
    refine c_get2Kv ht6 ?_
    rw [get2_at0]
    walk_at "go"
    refine c_get2K ht6 ?_
    walk_at "go"
    refine c_get2Kv ht6 ?_
    rw [get2_at0]
    walk_at "go"
    refine ⟨_, _, rfl, p, s, _, _, rfl, rfl, hP6, by omega, by omega, by omega, fun H7 d7 b7 hP7 d70 d71 => ?_⟩
    have hB7 := up1 hB6 b7
    have a1 := at0_in (x := other) hbd
    have a2 := at0_in (x := one) hbd
    walk_at "go"
    refine c_pow ⟨by omega, by omega, by decide⟩ ?_
    have e10 : (10 : Int) ^ (6 : Int).toNat = 1000000 := by decide
    rw [e10]
    walk_at "go"
    refine c_max2' ?_
    walk_at "go"
    generalize hgap : (if (0 : Int) - 1000000 > at0 ts other - at0 ts one + d7 - 5 then (0 : Int) - 1000000 else at0 ts other - at0 ts one + d7 - 5) = gap
    have hgl : -1000000 ≤ gap := by
      rw [← hgap]
      split <;> omega
    have hF7 : H7 F = some (.lst us) := b7 _ _ (b6 _ _ (b5 _ _ hF (not1 hpF.1.symm)) (not1 hpF.1.symm)) (not1 hpF.1.symm)
    have hR7 : LagRefs H7 us ls := b7.lagR hP6.tup (b6.lagR hP5.tup (b5.lagR hP.tup hR))
    have hP7' : PenOf H7 p s (b + 3 * (i + 1)) := hP7.mono (by omega)
    have hul : us.length = ls.length := Paired.length hR7
    have skip : ∀ {v7 v8 v9 v10 : Option V} {H8 : Hp}, Same H7 H8 → ∃ v7' v8' v9' v10' us ls, ([some (.ref p), some (.ref l), some (.ref t), some (.int wd), some (.int j), some (.ref q2), some (.ref F), v7, v8, v9, v10] : L2.St) = [some (.ref p), some (.ref l), some (.ref t), some (.int wd), some (.int j), some (.ref q2), some (.ref F), v7', v8', v9', v10'] ∧ But [p, F] G H8 ∧ H8 F = some (.lst us) ∧ LagRefs H8 us ls ∧ PenOf H8 p s (b + 3 * (i + 1)) ∧ ls.length ≤ i + 1 ∧ (∀ z ∈ ls, z.1 ∈ nds xs ∧ z.2.1 ∈ nds xs ∧ z.1 ≠ z.2.1 ∧ -1000000 ≤ z.2.2) ∧ (ls = [] ∨ farOk xs wd ls = true) := fun s8 => ⟨_, _, _, _, us, ls, rfl, hB7.same s8, s8 _ _ hF7, hR7.same s8, hP7'.same s8, by omega, hmem, hok⟩
    refine c_ite (fun c1 => ?_) (fun c1 => ?_)
    · have hne : one ≠ other := fun z => by
        rw [z] at c1
        simp at c1
      walk_at "go"
      refine c_nl rfl fun q3 H8 n8 s8 e8 => ?_
      walk_at "go"
      refine c_nl rfl fun q4 H9 n9 s9 e9 => ?_
      walk_at "go"
      refine c_cat (s9 _ _ (s8 _ _ hF7)) e9 (by simp; omega) fun q5 H10 n10 s10 e10' => ?_
      walk_at "go"
      have s710 := s8.trans (s9.trans s10)
      have hR10 : LagRefs H10 (us ++ [.ref q3]) (ls ++ [(one, other, gap)]) := Paired.snoc' (hR7.same s710) ⟨q3, rfl, s10 _ _ (s9 _ _ e8)⟩
      have hl10 : H10 l = some (.lst (xs.map V.str)) := s710 _ _ (hB7 _ _ hlG (not2 hlp hlF))
      have hmem' : ∀ z ∈ ls ++ [(one, other, gap)], z.1 ∈ nds xs ∧ z.2.1 ∈ nds xs ∧ z.1 ≠ z.2.1 ∧ -1000000 ≤ z.2.2 := fun z m => by
        rcases List.mem_append.mp m with m | m
        · exact hmem z m
        · rw [List.mem_singleton.mp m]
          exact ⟨h1, h2, hne, hgl⟩
      refine ⟨_, _, _, rfl, l, xs, wd, q5, ls ++ [(one, other, gap)], rfl, rfl, rfl, hl10, by omega, ⟨_, SqL.of e10', hR10⟩, by rw [List.length_append]; simp; omega, fun z m => ⟨(hmem' z m).1, (hmem' z m).2.1⟩, fun _ H11 s11 => ?_, fun ok q6 H11 n11 s11 e11 => ?_⟩
      · walk_at "go"
        exact skip (s710.trans s11)
      · walk_at "go"
        rw [show decide (V.ref q6 = V.non) = false from rfl]
        walk_at "go"
        refine c_bmL (SqL.of (s11 _ _ (s710 _ _ hF7))) ?_
        walk_at "go"
        refine c_nl rfl fun q7 H12 n12 s12 e12 => ?_
        walk_at "go"
        have s712 := s710.trans (s11.trans s12)
        have hq7F : q7 ≠ F := fun z => by
          rw [z, s712 _ _ hF7] at e12
          cases e12
        refine c_app (s712 _ _ hF7) (by omega) ?_
        have hR12 : LagRefs H12 (us ++ [.ref q7]) (ls ++ [(one, other, gap)]) := Paired.snoc' (hR7.same s712) ⟨q7, rfl, e12⟩
        refine ⟨_, _, _, _, us ++ [.ref q7], ls ++ [(one, other, gap)], rfl, (hB7.same s712).put in22, upd_same, ?_, ?_, by rw [List.length_append]; simp; omega, hmem', .inr ok⟩
        · exact But.lagR (S := [F]) ((But.refl _ _).put in1) (lst_tup (s712 _ _ hF7)) hR12
        · exact PenOf.but (S := [F]) ((But.refl _ _).put in1) (hP7'.same s712) (not1 hpF.1) (not1 hpF.2)
    · walk_at "go"
      exact skip (Same.refl _)
  · rintro σ' H4 ⟨v7, v8, v9, v10, us, ls, rfl, hB, hF, hR, hP, hll, hmem, hok⟩
    walk_at "go"
    refine k H4 F ls (fun c o e n => hB c o (sG _ _ e) fun m => ?_) ⟨us, SqL.of hF, hR⟩ ⟨s, hP⟩ (by omega) hmem hok
    rcases List.mem_cons.mp m with z | z
    · exact n (List.mem_singleton.mpr z)
    · rw [List.mem_singleton.mp z, hFH] at e; cases e

end
end Rt
end
section
set_option maxHeartbeats 4000000
namespace Rt
open PySem PySem.Spec PyProof.Rows L2
section
variable {P : Program} {w : World} {K : PySem.W.Frag} {mg : Str → Option Value}
theorem fresh_but {S : List Addr} {G H : Hp} {p : Addr} (b : But S G H) (n : H p = none) (hS : p ∉ S) : G p = none := Classical.byContradiction fun z => by
  obtain ⟨o, ho⟩ := Option.ne_none_iff_exists'.mp z
  rw [b _ _ ho hS] at n
  cases n
theorem PenAt.live {H : Hp} {p : Addr} {b : Nat} (h : PenAt H p b) {q : Addr} (n : H q = none) : q ≠ p := by
  obtain ⟨s, h⟩ := h
  exact (h.lives n).1.symm
theorem pure_law_parts (T : Tx K mg) (vs : List V) (H : Hp) (Q : VK) (E : XK) (h : sp_law_parts K vs H Q E) : t_law_parts P w K ⟨fun _ H1 => Q .non H1, Q, fun _ _ => False, fun _ _ => False⟩ (start nm_law_parts vs) H := by
  obtain ⟨_, _, rfl, p, b, j, rfl, rfl, ⟨s, hp⟩, hb, hj0, hj1, k⟩ := h
  have hM := million
  unfold t_law_parts
  walk_at "go"
  refine ⟨_, _, rfl, p, s, b, j, rfl, rfl, hp, by omega, by omega, by omega, fun H1 d1 b1 hP1 d10 d11 => ?_⟩
  walk_at "go"
  refine ⟨_, _, rfl, p, _, _, rfl, rfl, ⟨s, hP1⟩, by omega, by omega, by omega, fun H2 q xs b2 nq eq hP2 hnd hpool hxl => ?_⟩
  have b02 := b1.trans b2
  obtain ⟨s2, hP2'⟩ := id hP2
  have hqp : q ≠ p := strs_ne_pen eq hP2'
  walk_at "go"
  refine c_pow ⟨by omega, by omega, by decide⟩ ?_
  have e10 : (10 : Int) ^ (6 : Int).toNat = 1000000 := by decide
  rw [e10]
  walk_at "go"
  refine c_nl rfl fun q3 H3 n3 s3 e3 => ?_
  walk_at "go"
  refine ⟨_, _, rfl, p, s2, _, _, rfl, rfl, hP2'.same s3, by omega, by omega, by omega, fun H4 d4 b4 hP4 d40 d41 => ?_⟩
  have hq3p : q3 ≠ p := (hP2'.lives n3).1.symm
  have hwide : ∃ wd : Int, atI [V.int 6, .int 12, .int 30, .int 1000000, .int 0, .int 3] d4 = some (.int wd) ∧ 0 ≤ wd ∧ wd ≤ 1000000 := by
    have hd : d4 = 0 ∨ d4 = 1 ∨ d4 = 2 ∨ d4 = 3 ∨ d4 = 4 ∨ d4 = 5 := by omega
    rcases hd with z | z | z | z | z | z <;> subst z
    · exact ⟨6, rfl, by omega, by omega⟩
    · exact ⟨12, rfl, by omega, by omega⟩
    · exact ⟨30, rfl, by omega, by omega⟩
    · exact ⟨1000000, rfl, by omega, by omega⟩
    · exact ⟨0, rfl, by omega, by omega⟩
    · exact ⟨3, rfl, by omega, by omega⟩
  obtain ⟨wd, hwa, hw0, hw1⟩ := hwide
  refine c_ixL (SqL.of (b4 _ _ e3 (not1 hq3p))) hwa ?_
  walk_at "go"
  refine c_min2' ?_
  walk_at "go"
  refine c_nl rfl fun q5 H5 n5 s5 e5 => ?_
  have hP5 := hP4.same s5
  have hq5p : q5 ≠ p := (hP4.lives n5).1.symm
  walk_at "go"
  refine ⟨_, _, rfl, p, s2, _, _, rfl, rfl, hP5, by omega, by omega, by omega, fun H6 d6 b6 hP6 d60 d61 => ?_⟩
  walk_at "go"
  have hwide2 : ∃ wd2 : Int, atI [V.int (if 15 < wd then 15 else wd), .int wd] (d6 / 3) = some (.int wd2) ∧ 0 ≤ wd2 ∧ wd2 ≤ wd := by
    have hd : d6 / 3 = 0 ∨ d6 / 3 = 1 := by omega
    rcases hd with z | z <;> rw [z]
    · exact ⟨_, rfl, by split <;> omega, by split <;> omega⟩
    · exact ⟨wd, rfl, hw0, Int.le_refl _⟩
  obtain ⟨wd2, hwa2, hv0, hv1⟩ := hwide2
  refine c_ixL (SqL.of (b6 _ _ e5 (not1 hq5p))) hwa2 ?_
  walk_at "go"
  have eq6 : H6 q = some (.lst (xs.map V.str)) := b6 _ _ (s5 _ _ (b4 _ _ (s3 _ _ eq) (not1 hqp))) (not1 hqp)
  have b06 : But [p] H H6 := (((b02.same s3).trans b4).same s5).trans b6
  refine ⟨_, _, _, rfl, p, _, q, xs, wd2, rfl, rfl, rfl, ⟨s2, hP6⟩, by omega, eq6, hnd, by omega, hv0, by omega, fun H7 t ts b7 nt et hP7 hts hbd => ?_⟩
  have hP7' := hP7
  obtain ⟨s7, hP7⟩ := hP7
  have eq7 : H7 q = some (.lst (xs.map V.str)) := b7 _ _ eq6 (not1 hqp)
  walk_at "go"
  refine c_lenQL (SqL.of eq7) ?_
  walk_at "go"
  have hml : (xs.map V.str).length = xs.length := List.length_map ..
  refine ⟨_, _, rfl, p, s7, _, _, rfl, rfl, hP7, by omega, by rw [hml]; omega, by rw [hml]; omega, fun H8 d8 b8 hP8 d80 d81 => ?_⟩
  rw [hml] at d81
  have htp : t ≠ p := fun z => by
    obtain ⟨ns, n, r, h1, _⟩ := hP7
    rw [z, h1] at et
    cases et
  have et8 : H8 t = some (.dK (dSI ts)) := b8 _ _ et (not1 htp)
  have eq8 : H8 q = some (.lst (xs.map V.str)) := b8 _ _ eq7 (not1 hqp)
  walk_at "go"
  refine ⟨_, _, _, _, _, rfl, p, _, q, xs, t, ts, wd, d8, rfl, rfl, rfl, rfl, rfl, ⟨s7, hP8⟩, by omega, eq8, by omega, et8, hts, (fun e m => ⟨(hbd e m).1, by have := (hbd e m).2; omega⟩), d80, by omega, fun H9 l ls b9 hls hP9 hll hmem hok => ?_⟩
  walk_at "go"
  refine c_nl rfl fun q10 H10 n10 s10 e10' => ?_
  have htl : ts.length = xs.length := by rw [← hts, List.length_map]
  refine k H10 q10 t l wd ts ls ((((b06.trans b7).trans b8).trans b9).same s10) e10' (s10 _ _ (b9 _ _ et8 (not1 htp))) (hls.same s10) ((hP9.same s10).mono (by omega)) hw0 hw1 (by rw [hts]; exact hnd) (by omega) (fun e m => ⟨hpool _ (by rw [← hts]; exact List.mem_map.mpr ⟨e, m, rfl⟩), (hbd e m).1, by have := (hbd e m).2; omega⟩) (by omega) (by rw [hts]; exact hmem) (by rw [hts]; exact hok)

end
end Rt
end
section
set_option maxHeartbeats 4000000
/-! MathC: Floyd and Warshall in place, on partial tables. -/
namespace Rt
open PySem L2
abbrev Tbl := Pr → Option Int
def comb (o u v : Option Int) : Option Int := match u, v with
  | some x, some y => some (match o with
    | none => x + y
    | some w => if w < x + y then x + y else w)
  | _, _ => o
def im1 (m a : Str) (D : Tbl) (b : Str) : Tbl := fun q => if q = (a, b) then comb (D (a, b)) (D (a, m)) (D (m, b)) else D q
def imR (ns : List Str) (m : Str) (D : Tbl) (a : Str) : Tbl := ns.foldl (im1 m a) D
def imM (ns : List Str) (D : Tbl) (m : Str) : Tbl := ns.foldl (imR ns m) D
def Ge (D E : Tbl) : Prop := ∀ q w, D q = some w → ∃ v, E q = some v ∧ w ≤ v
theorem Ge.refl (D : Tbl) : Ge D D := fun q w h => ⟨w, h, Int.le_refl _⟩
theorem Ge.trans {D E F : Tbl} (a : Ge D E) (b : Ge E F) : Ge D F := fun q w h => by
  obtain ⟨v, h1, l1⟩ := a q w h
  obtain ⟨u, h2, l2⟩ := b q v h1
  exact ⟨u, h2, Int.le_trans l1 l2⟩
theorem comb_ge {o u v : Option Int} {w : Int} (h : o = some w) : ∃ z, comb o u v = some z ∧ w ≤ z := by
  subst h
  cases u with
  | none => exact ⟨w, rfl, Int.le_refl _⟩
  | some x => cases v with
    | none => exact ⟨w, rfl, Int.le_refl _⟩
    | some y =>
      refine ⟨_, rfl, ?_⟩
      show w ≤ if w < x + y then x + y else w
      split <;> omega
theorem comb_hit {o : Option Int} {x y : Int} : ∃ z, comb o (some x) (some y) = some z ∧ x + y ≤ z := by
  cases o with
  | none => exact ⟨_, rfl, Int.le_refl _⟩
  | some w =>
    refine ⟨_, rfl, ?_⟩
    show x + y ≤ if w < x + y then x + y else w
    split <;> omega
theorem comb_from {o u v : Option Int} {w : Int} (h : comb o u v = some w) : o = some w ∨ ∃ x y, u = some x ∧ v = some y ∧ w = x + y := by
  cases u with
  | none => exact .inl h
  | some x => cases v with
    | none => exact .inl h
    | some y =>
      cases o with
      | none =>
        injection h with h
        exact .inr ⟨x, y, rfl, rfl, h.symm⟩
      | some z =>
        injection h with h
        have h' : (if z < x + y then x + y else z) = w := h
        split at h'
        · exact .inr ⟨x, y, rfl, rfl, h'.symm⟩
        · exact .inl (by rw [h'])
theorem im1_ge (m a : Str) (D : Tbl) (b : Str) : Ge D (im1 m a D b) := fun q w h => by
  unfold im1
  by_cases c : q = (a, b)
  · rw [if_pos c]
    rw [c] at h
    exact comb_ge h
  · rw [if_neg c]
    exact ⟨w, h, Int.le_refl _⟩
theorem fold_Ge {β : Type} {f : Tbl → β → Tbl} (hf : ∀ D b, Ge D (f D b)) : ∀ (l : List β) (D : Tbl), Ge D (l.foldl f D)
  | [], D => Ge.refl D
  | b :: l, D => (hf D b).trans (fold_Ge hf l (f D b))
theorem imR_ge (ns : List Str) (m : Str) (D : Tbl) (a : Str) : Ge D (imR ns m D a) := fold_Ge (im1_ge m a) ns D
theorem imM_ge (ns : List Str) (D : Tbl) (m : Str) : Ge D (imM ns D m) := fold_Ge (fun D a => imR_ge ns m D a) ns D
/-- a general fold: what each step keeps, and what each step attains -/
theorem fold_keep {α β : Type} {f : α → β → α} {I : α → Prop} (hI : ∀ D b, I D → I (f D b)) : ∀ (l : List β) (D : α), I D → I (l.foldl f D)
  | [], _, h => h
  | b :: l, D, h => fold_keep hI l (f D b) (hI D b h)
theorem fold_keepM {α β : Type} {f : α → β → α} {I : α → Prop} : ∀ (l : List β) (D : α), (∀ D, ∀ b ∈ l, I D → I (f D b)) → I D → I (l.foldl f D)
  | [], _, _, h => h
  | b :: l, D, hI, h => fold_keepM l (f D b) (fun D z m => hI D z (List.mem_cons_of_mem _ m)) (hI D b List.mem_cons_self h)
theorem fold_attain {α β : Type} {f : α → β → α} {I : α → Prop} {A : β → α → Prop} (hI : ∀ D b, I D → I (f D b)) (hA : ∀ D b, I D → A b (f D b)) (hk : ∀ D b c, I D → A c D → A c (f D b)) : ∀ (l : List β) (D : α), I D → ∀ b ∈ l, A b (l.foldl f D)
  | [], _, _, _, m => nomatch m
  | c :: l, D, h, b, m => by
    rcases List.mem_cons.mp m with q | q
    · subst q
      have : ∀ (l : List β) (D : α), I D → A b D → A b (l.foldl f D) := by
        intro l
        induction l with
        | nil => exact fun _ _ h => h
        | cons c l ih => exact fun D i h => ih (f D c) (hI D c i) (hk D c b i h)
      exact this l _ (hI D b h) (hA D b h)
    · exact fold_attain hI hA hk l (f D c) (hI D c h) b q
/-- within the turn of the middle m -/
structure Turn (m : Str) (D E : Tbl) : Prop where
  row : ∀ b, E (m, b) = D (m, b)
  col : ∀ a, E (a, m) = D (a, m)
  frm : ∀ q w, E q = some w → D q = some w ∨ ∃ u v, D (q.1, m) = some u ∧ D (m, q.2) = some v ∧ w = u + v
  ge : Ge D E
def Done (m : Str) (D : Tbl) (a b : Str) (E : Tbl) : Prop := ∀ u v, D (a, m) = some u → D (m, b) = some v → ∃ w, E (a, b) = some w ∧ u + v ≤ w
theorem Turn.step {m : Str} {D E : Tbl} (h0 : D (m, m) = some 0) (h : Turn m D E) (a b : Str) : Turn m D (im1 m a E b) := by
  have ev : im1 m a E b = fun q => if q = (a, b) then comb (E (a, b)) (D (a, m)) (D (m, b)) else E q := by
    unfold im1
    rw [h.col a, h.row b]
  refine ⟨fun c => ?_, fun c => ?_, fun q w hw => ?_, h.ge.trans (im1_ge m a E b)⟩
  · rw [ev]
    show (if (m, c) = (a, b) then comb (E (a, b)) (D (a, m)) (D (m, b)) else E (m, c)) = D (m, c)
    by_cases q : (m, c) = (a, b)
    · injection q with q1 q2
      subst q1
      subst q2
      rw [if_pos rfl, h.row, h0]
      cases D (m, c) with
      | none => rfl
      | some w =>
        show some (if w < 0 + w then 0 + w else w) = some w
        rw [if_neg (by omega)]
    · rw [if_neg q, h.row]
  · rw [ev]
    show (if (c, m) = (a, b) then comb (E (a, b)) (D (a, m)) (D (m, b)) else E (c, m)) = D (c, m)
    by_cases q : (c, m) = (a, b)
    · injection q with q1 q2
      subst q1
      subst q2
      rw [if_pos rfl, h.col, h0]
      cases D (c, m) with
      | none => rfl
      | some w =>
        show some (if w < w + 0 then w + 0 else w) = some w
        rw [if_neg (by omega)]
    · rw [if_neg q, h.col]
  · rw [ev] at hw
    have hw' : (if q = (a, b) then comb (E (a, b)) (D (a, m)) (D (m, b)) else E q) = some w := hw
    by_cases c : q = (a, b)
    · rw [if_pos c] at hw'
      subst c
      rcases comb_from hw' with z | ⟨x, y, z1, z2, z3⟩
      · exact h.frm _ _ z
      · exact .inr ⟨x, y, z1, z2, z3⟩
    · rw [if_neg c] at hw'
      exact h.frm _ _ hw'
theorem Done.step {m : Str} {D E : Tbl} (h : Turn m D E) (a b : Str) : Done m D a b (im1 m a E b) := fun u v hu hv => by
  unfold im1
  rw [if_pos rfl, h.col a, h.row b, hu, hv]
  exact comb_hit
theorem Done.ge {m : Str} {D E F : Tbl} {a b : Str} (h : Done m D a b E) (g : Ge E F) : Done m D a b F := fun u v hu hv => by
  obtain ⟨w, e, l⟩ := h u v hu hv
  obtain ⟨z, e2, l2⟩ := g _ _ e
  exact ⟨z, e2, by omega⟩
theorem turn_all {ns : List Str} {m : Str} {D : Tbl} (h0 : D (m, m) = some 0) : Turn m D (imM ns D m) ∧ ∀ a ∈ ns, ∀ b ∈ ns, Done m D a b (imM ns D m) := by
  have tR : ∀ E a, Turn m D E → Turn m D (imR ns m E a) := fun E a h => fold_keep (fun E b h => h.step h0 a b) ns E h
  refine ⟨fold_keep tR ns D ⟨fun _ => rfl, fun _ => rfl, fun q w h => .inl h, Ge.refl D⟩, ?_⟩
  refine fold_attain (A := fun a E => ∀ b ∈ ns, Done m D a b E) tR (fun E a h => ?_) (fun E a c h k b hb => (k b hb).ge (imR_ge ns m E a)) ns D ⟨fun _ => rfl, fun _ => rfl, fun q w h => .inl h, Ge.refl D⟩
  exact fold_attain (A := fun b E => Done m D a b E) (fun E b h => h.step h0 a b) (fun E b h => Done.step h a b) (fun E b c h k => k.ge (im1_ge m a E b)) ns E h
def Clo (c : Str) (ns : List Str) (D : Tbl) : Prop := ∀ a ∈ ns, ∀ b ∈ ns, ∀ u v, D (a, c) = some u → D (c, b) = some v → ∃ w, D (a, b) = some w ∧ u + v ≤ w
theorem clo_new {ns : List Str} {m : Str} {D : Tbl} (h0 : D (m, m) = some 0) : Clo m ns (imM ns D m) := fun a ha b hb u v hu hv => by
  obtain ⟨t, d⟩ := turn_all (ns := ns) h0
  rw [t.col] at hu
  rw [t.row] at hv
  exact d a ha b hb u v hu hv
theorem clo_old {ns : List Str} {m c : Str} {D : Tbl} (hm : m ∈ ns) (h0 : D (m, m) = some 0) (h : Clo c ns D) : Clo c ns (imM ns D m) := fun a ha b hb u v hu hv => by
  obtain ⟨t, d⟩ := turn_all (ns := ns) h0
  rcases t.frm _ _ hu with z | ⟨x, y, z1, z2, z3⟩
  · rcases t.frm _ _ hv with z' | ⟨x', y', z1', z2', z3'⟩
    · obtain ⟨w, e, l⟩ := h a ha b hb u v z z'
      obtain ⟨w2, e2, l2⟩ := t.ge _ _ e
      exact ⟨w2, e2, by omega⟩
    · obtain ⟨w, e, l⟩ := h a ha m hm u x' z z1'
      obtain ⟨w2, e2, l2⟩ := d a ha b hb w y' e z2'
      exact ⟨w2, e2, by omega⟩
  · rcases t.frm _ _ hv with z' | ⟨x', y', z1', z2', z3'⟩
    · obtain ⟨w, e, l⟩ := h m hm b hb y v z2 z'
      obtain ⟨w2, e2, l2⟩ := d a ha b hb x w z1 e
      exact ⟨w2, e2, by omega⟩
    · obtain ⟨w, e, l⟩ := h m hm m hm y x' z2 z1'
      obtain ⟨w2, e2, l2⟩ := d a ha b hb x y' z1 z2'
      have : w = 0 := by
        have e' : D (m, m) = some w := e
        rw [h0] at e'
        injection e' with e'
        exact e'.symm
      exact ⟨w2, e2, by omega⟩
theorem fw_closed {ns : List Str} : ∀ (ms : List Str) (D : Tbl) (S : Str → Prop), (∀ m ∈ ms, m ∈ ns) → (∀ a ∈ ns, D (a, a) = some 0) → (∀ a ∈ ns, ∀ w, (ms.foldl (imM ns) D) (a, a) = some w → w ≤ 0) → (∀ c, S c → Clo c ns D) → ∀ c, (S c ∨ c ∈ ms) → Clo c ns (ms.foldl (imM ns) D)
  | [], D, S, _, _, _, h, c, hc => hc.elim (h c) fun m => nomatch m
  | m :: ms, D, S, hm, hd, hf, h, c, hc => by
    have hmn := hm m List.mem_cons_self
    refine fw_closed ms (imM ns D m) (fun c => S c ∨ c = m) (fun z q => hm z (List.mem_cons_of_mem _ q)) (fun a ha => ?_) hf (fun c q => ?_) c ?_
    · obtain ⟨v, e, l⟩ := imM_ge ns D m _ _ (hd a ha)
      obtain ⟨z, e2, l2⟩ := fold_Ge (fun D m => imM_ge ns D m) ms (imM ns D m) _ _ e
      have := hf a ha z e2
      have : v = 0 := by omega
      rw [e, this]
    · rcases q with q | q
      · exact clo_old hmn (hd m hmn) (h c q)
      · rw [q]
        exact clo_new (hd m hmn)
    · rcases hc with q | q
      · exact .inl (.inl q)
      · rcases List.mem_cons.mp q with q | q
        · exact .inl (.inr q)
        · exact .inr q
def Below (d : Str → Str → Int) (ns : List Str) (D : Tbl) : Prop := ∀ a ∈ ns, ∀ b ∈ ns, ∀ w, D (a, b) = some w → w ≤ d a b
theorem Below.step {d : Str → Str → Int} {ns : List Str} {D : Tbl} (tri : ∀ a ∈ ns, ∀ b ∈ ns, ∀ c ∈ ns, d a b + d b c ≤ d a c) {m a b : Str} (hm : m ∈ ns) (ha : a ∈ ns) (hb : b ∈ ns) (h : Below d ns D) : Below d ns (im1 m a D b) := fun x hx y hy w hw => by
  unfold im1 at hw
  by_cases c : (x, y) = (a, b)
  · rw [if_pos c] at hw
    injection c with c1 c2
    rcases comb_from hw with z | ⟨u, v, z1, z2, z3⟩
    · rw [c1, c2]
      exact h a ha b hb w z
    · have k1 := h a ha m hm u z1
      have k2 := h m hm b hb v z2
      have k3 := tri a ha m hm b hb
      rw [c1, c2]
      omega
  · rw [if_neg c] at hw
    exact h x hx y hy w hw
theorem Below.all {d : Str → Str → Int} {ns : List Str} {D : Tbl} (tri : ∀ a ∈ ns, ∀ b ∈ ns, ∀ c ∈ ns, d a b + d b c ≤ d a c) (h : Below d ns D) : Below d ns (ns.foldl (imM ns) D) :=
  fold_keepM ns D (fun D m hm h => fold_keepM (f := imR ns m) ns D (fun D a ha h => fold_keepM (f := im1 m a) ns D (fun D b hb h => h.step tri hm ha hb) h) h) h
/-! ### the program's tables -/
theorem get0_some {g : GM} {a b : Str} {v : Int} (h : look g (a, b) = some v) : get0 g a b = v := by
  unfold get0
  rw [h]
  rfl
theorem thru1_im (m a : Str) (t : Tb) (b : Str) : look (thru1 m a t b).tot = im1 m a (look t.tot) b := by
  funext q
  unfold thru1 im1
  cases h1 : look t.tot (a, m) with
  | none =>
    rw [if_neg (by simp)]
    split
    · rename_i c
      rw [c]
      rfl
    · rfl
  | some x =>
    cases h2 : look t.tot (m, b) with
    | none =>
      rw [if_neg (by simp)]
      split
      · rename_i c
        rw [c]
        rfl
      · rfl
    | some y =>
      rw [if_pos ⟨rfl, rfl⟩]
      unfold improve
      rw [get0_some h1, get0_some h2]
      cases h3 : look t.tot (a, b) with
      | none =>
        dsimp only
        rw [if_pos (.inl rfl), look_put]
        rfl
      | some w =>
        rw [get0_some h3]
        dsimp only
        by_cases c : w < x + y
        · rw [if_pos (.inr c), look_put]
          show _ = if q = (a, b) then some (if w < x + y then x + y else w) else _
          rw [if_pos c]
        · rw [if_neg (by simp [c])]
          show _ = if q = (a, b) then some (if w < x + y then x + y else w) else _
          rw [if_neg c]
          split
          · rename_i e
            rw [e, h3]
          · rfl
theorem fold_map {α γ β : Type} {F : α → γ} {f : α → β → α} {g : γ → β → γ} (h : ∀ t b, F (f t b) = g (F t) b) : ∀ (l : List β) (t : α), F (l.foldl f t) = l.foldl g (F t)
  | [], _ => rfl
  | b :: l, t => by
    rw [List.foldl_cons, List.foldl_cons, fold_map h l (f t b), h]
theorem thru_im (ns : List Str) (t : Tb) (m : Str) : look (thru ns t m).tot = imM ns (look t.tot) m :=
  fold_map (F := fun t : Tb => look t.tot) (fun t a => fold_map (F := fun t : Tb => look t.tot) (thru1_im m a) ns t) ns t
theorem dist_im (ns : List Str) (g : GM) : look (dist ns g).tot = ns.foldl (imM ns) (look (ns.foldl diag g)) :=
  fold_map (F := fun t : Tb => look t.tot) (thru_im ns) ns ⟨ns.foldl diag g, []⟩
theorem look_diag (a b : Str) : ∀ (ns : List Str) (g : GM), look (ns.foldl diag g) (a, b) = if a = b ∧ a ∈ ns then some 0 else look g (a, b)
  | [], g => by rw [if_neg fun z => nomatch z.2]; rfl
  | x :: ns, g => by
    rw [List.foldl_cons, look_diag a b ns (diag g x)]
    unfold diag
    rw [look_put]
    by_cases c : a = b
    · subst c
      by_cases q : a ∈ ns
      · rw [if_pos ⟨rfl, q⟩, if_pos ⟨rfl, List.mem_cons_of_mem _ q⟩]
      · rw [if_neg fun z => q z.2]
        by_cases e : a = x
        · subst e
          rw [if_pos rfl, if_pos ⟨rfl, List.mem_cons_self⟩]
        · rw [if_neg fun z => e (by injection z), if_neg fun z => by
            rcases List.mem_cons.mp z.2 with k | k
            · exact e k
            · exact q k]
    · rw [if_neg fun z => c z.1, if_neg fun z => c (by injection z with z1 z2; exact z1.trans z2.symm), if_neg fun z => c z.1]
def Has (g : GM) (a b : Str) (v : Int) : Prop := ∃ w, look g (a, b) = some w ∧ v ≤ w
theorem has_gapL {g : GM} {a b : Str} {v : Int} (l : Lag) (h : Has g a b v) : Has (gapL g l) a b v := by
  obtain ⟨w, e, k⟩ := h
  unfold gapL Has
  rw [look_put]
  by_cases c : (a, b) = (l.1, l.2.1)
  · rw [if_pos c, ← c, e]
    refine ⟨_, rfl, ?_⟩
    show v ≤ max2 l.2.2 w
    unfold max2
    split <;> omega
  · rw [if_neg c]
    exact ⟨w, e, k⟩
theorem has_gapL_new (g : GM) (l : Lag) : Has (gapL g l) l.1 l.2.1 l.2.2 := by
  unfold gapL
  refine ⟨_, look_same _ _ _, ?_⟩
  unfold max2
  split <;> omega
theorem has_ggaps_lag {hz : Int} {ts : List (Str × Int)} {ls : List Lag} : ∀ l ∈ ls, Has (ggaps hz ts ls) l.1 l.2.1 l.2.2 :=
  fold_attain (I := fun _ => True) (A := fun (l : Lag) g => Has g l.1 l.2.1 l.2.2) (fun _ _ _ => trivial) (fun g l _ => has_gapL_new g l) (fun g l c _ h => has_gapL l h) ls _ trivial
theorem has_gapT {hz : Int} {g : GM} {e : Str × Int} {x : Str} (he : e.1 ≠ "") (hx : x ≠ "") : look (gapT hz g e) ("", x) = (if e.1 = x then some 0 else look g ("", x)) ∧ look (gapT hz g e) (x, "") = (if e.1 = x then some (-hz) else look g (x, "")) := by
  unfold gapT
  constructor
  · rw [look_put, if_neg fun z => hx (by injection z), look_put]
    by_cases c : e.1 = x
    · rw [if_pos c, if_pos (by rw [c])]
    · rw [if_neg c, if_neg fun z => c (by injection z with _ z; exact z.symm)]
  · rw [look_put]
    by_cases c : e.1 = x
    · rw [if_pos c, if_pos (by rw [c])]
    · rw [if_neg c, if_neg fun z => c (by injection z with z _; exact z.symm), look_put, if_neg fun z => hx (by injection z)]
theorem has_ggaps_ends {hz : Int} {ls : List Lag} : ∀ {ts : List (Str × Int)}, ("" : Str) ∉ ts.map (·.1) → ∀ x ∈ ts.map (·.1), Has (ggaps hz ts ls) "" x 0 ∧ Has (ggaps hz ts ls) x "" (-hz) := by
  intro ts hn x hx
  have hxe : x ≠ "" := fun z => hn (z ▸ hx)
  have key : ∀ (l : List (Str × Int)) (g : GM), (∀ e ∈ l, e.1 ≠ "") → (x ∈ l.map (·.1) ∨ (look g ("", x) = some 0 ∧ look g (x, "") = some (-hz))) → look (l.foldl (gapT hz) g) ("", x) = some 0 ∧ look (l.foldl (gapT hz) g) (x, "") = some (-hz) := by
    intro l
    induction l with
    | nil => exact fun g _ h => h.elim (fun z => nomatch z) id
    | cons e l ih =>
      intro g he h
      refine ih (gapT hz g e) (fun z m => he z (List.mem_cons_of_mem _ m)) ?_
      obtain ⟨k1, k2⟩ := has_gapT (hz := hz) (g := g) (he e List.mem_cons_self) hxe
      by_cases c : e.1 = x
      · rw [if_pos c] at k1 k2
        exact .inr ⟨k1, k2⟩
      · rw [if_neg c] at k1 k2
        rcases h with h | h
        · rcases List.mem_cons.mp h with q | q
          · exact (c q.symm).elim
          · exact .inl q
        · exact .inr ⟨k1.trans h.1, k2.trans h.2⟩
  obtain ⟨k1, k2⟩ := key ts [] (fun e m z => hn (List.mem_map.mpr ⟨e, m, z⟩)) (.inl hx)
  have up : ∀ {a b : Str} {v : Int}, look (ts.foldl (gapT hz) []) (a, b) = some v → Has (ggaps hz ts ls) a b v := fun {a b v} e =>
    fold_keep (I := fun g => Has g a b v) (fun g l h => has_gapL l h) ls _ ⟨v, e, Int.le_refl _⟩
  exact ⟨up k1, up k2⟩
/-- the distances are the least consistent matrix -/
structure Least (hz : Int) (xs : List Str) (ls : List Lag) (d : Str → Str → Int) : Prop where
  pot : Pot hz xs ls d
  least : ∀ e, Pot hz xs ls e → ∀ a ∈ nds xs, ∀ b ∈ nds xs, d a b ≤ e a b
theorem dist_least {p : PlanD} (hn : ("" : Str) ∉ p.ts.map (·.1)) (hm : ∀ l ∈ p.lg, l.1 ∈ nodesOf p ∧ l.2.1 ∈ nodesOf p ∧ l.1 ≠ l.2.1) (hc : Cons p.hz (p.ts.map (·.1)) p.lg) :
    Least p.hz (p.ts.map (·.1)) p.lg (get0 (distP p).tot) ∧ ∀ a ∈ nodesOf p, ∀ b ∈ nodesOf p, look (distP p).tot (a, b) = some (get0 (distP p).tot a b) := by
  have ez : look (distP p).tot = (nodesOf p).foldl (imM (nodesOf p)) (look ((nodesOf p).foldl diag (ggaps p.hz p.ts p.lg))) := dist_im _ _
  have low : ∀ e, Pot p.hz (p.ts.map (·.1)) p.lg e → Below e (nodesOf p) (look (distP p).tot) := fun e he => by
    rw [ez]
    refine Below.all he.tri fun a ha b hb w hw => ?_
    rw [look_diag] at hw
    split at hw
    · rename_i c
      injection hw with hw
      rw [← hw, ← c.1, he.dia a ha]
      exact Int.le_refl _
    · exact ggaps_le (fun z m => ⟨he.up _ (List.mem_map.mpr ⟨z, m, rfl⟩), he.dn _ (List.mem_map.mpr ⟨z, m, rfl⟩)⟩) he.lag a b w hw
  have ge : Ge (look ((nodesOf p).foldl diag (ggaps p.hz p.ts p.lg))) (look (distP p).tot) := by
    rw [ez]
    exact fold_Ge (fun D m => imM_ge _ D m) _ _
  have d0 : ∀ a ∈ nodesOf p, look ((nodesOf p).foldl diag (ggaps p.hz p.ts p.lg)) (a, a) = some 0 := fun a ha => by
    rw [look_diag, if_pos ⟨rfl, ha⟩]
  obtain ⟨d, hd⟩ := hc
  have dz : ∀ a ∈ nodesOf p, ∀ w, look (distP p).tot (a, a) = some w → w ≤ 0 := fun a ha w hw => by
    have := low d hd a ha a ha w hw
    rw [hd.dia a ha] at this
    exact this
  have clo : ∀ c ∈ nodesOf p, Clo c (nodesOf p) (look (distP p).tot) := fun c hcm => by
    rw [ez]
    exact fw_closed (nodesOf p) _ (fun _ => False) (fun _ m => m) d0 (by rw [← ez]; exact dz) (fun _ z => z.elim) c (.inr hcm)
  have hasF : ∀ {a b : Str} {v : Int}, a ≠ b → Has (ggaps p.hz p.ts p.lg) a b v → Has (distP p).tot a b v := fun {a b v} ne h => by
    obtain ⟨w, e, k⟩ := h
    have e' : look ((nodesOf p).foldl diag (ggaps p.hz p.ts p.lg)) (a, b) = some w := by
      rw [look_diag, if_neg fun z => ne z.1]
      exact e
    obtain ⟨z, e2, k2⟩ := ge _ _ e'
    exact ⟨z, e2, by omega⟩
  have ends := has_ggaps_ends (hz := p.hz) (ls := p.lg) hn
  have nmem : ∀ {x : Str}, x ∈ p.ts.map (·.1) → x ≠ "" := fun h z => hn (z ▸ h)
  have out : ∀ a ∈ nodesOf p, ∃ w, look (distP p).tot (a, "") = some w := fun a ha => by
    rcases List.mem_cons.mp ha with q | q
    · rw [q]
      obtain ⟨w, e, _⟩ := ge _ _ (d0 "" List.mem_cons_self)
      exact ⟨w, e⟩
    · obtain ⟨w, e, _⟩ := hasF (nmem q) (ends a q).2
      exact ⟨w, e⟩
  have inn : ∀ a ∈ nodesOf p, ∃ w, look (distP p).tot ("", a) = some w := fun a ha => by
    rcases List.mem_cons.mp ha with q | q
    · rw [q]
      obtain ⟨w, e, _⟩ := ge _ _ (d0 "" List.mem_cons_self)
      exact ⟨w, e⟩
    · obtain ⟨w, e, _⟩ := hasF (fun z => nmem q z.symm) (ends a q).1
      exact ⟨w, e⟩
  have all : ∀ a ∈ nodesOf p, ∀ b ∈ nodesOf p, look (distP p).tot (a, b) = some (get0 (distP p).tot a b) := fun a ha b hb => by
    obtain ⟨u, hu⟩ := out a ha
    obtain ⟨v, hv⟩ := inn b hb
    obtain ⟨w, hw, _⟩ := clo "" List.mem_cons_self a ha b hb u v hu hv
    rw [get0_some hw]
    exact hw
  refine ⟨⟨⟨fun a ha b hb c hcm => ?_, fun a ha => ?_, fun a ha => ?_, fun a ha => ?_, fun l hl => ?_⟩, fun e he a ha b hb => low e he a ha b hb _ (all a ha b hb)⟩, all⟩
  · obtain ⟨w, hw, k⟩ := clo b hb a ha c hcm _ _ (all a ha b hb) (all b hb c hcm)
    rw [get0_some hw]
    exact k
  · obtain ⟨w, e, k⟩ := ge _ _ (d0 a ha)
    have := dz a ha w e
    rw [get0_some e]
    omega
  · obtain ⟨w, e, k⟩ := hasF (fun z => nmem ha z.symm) (ends a ha).1
    rw [get0_some e]
    exact k
  · obtain ⟨w, e, k⟩ := hasF (nmem ha) (ends a ha).2
    rw [get0_some e]
    exact k
  · obtain ⟨w, e, k⟩ := hasF (hm l hl).2.2 (has_ggaps_lag l hl)
    rw [get0_some e]
    exact k
end Rt
end
section
set_option maxHeartbeats 4000000
/-! MathD: the law's own matrix; plans that are consistent. -/
namespace Rt
open PySem L2
/-- all pairs are there -/
def FullT (ns : List Str) (D : Tbl) : Prop := ∀ a ∈ ns, ∀ b ∈ ns, ∃ w, D (a, b) = some w
theorem FullT.put {ns : List Str} {g : GM} {k : Pr} {v : Int} (h : FullT ns (look g)) : FullT ns (look (put g k v)) := fun a ha b hb => by
  rw [look_put]
  split
  · exact ⟨v, rfl⟩
  · exact h a ha b hb
theorem farT_im {ns : List Str} {m a b : Str} {g : GM} (h : FullT ns (look g)) (hm : m ∈ ns) (ha : a ∈ ns) (hb : b ∈ ns) : look (farT m a g b) = im1 m a (look g) b := by
  obtain ⟨x, h1⟩ := h a ha m hm
  obtain ⟨y, h2⟩ := h m hm b hb
  obtain ⟨w, h3⟩ := h a ha b hb
  funext q
  unfold farT im1
  rw [look_put, get0_some h1, get0_some h2, get0_some h3, h1, h2, h3]
  rfl
theorem fold_mapM {α γ β : Type} {F : α → γ} {f : α → β → α} {g : γ → β → γ} {I : α → Prop} : ∀ (l : List β) (t : α), (∀ t, ∀ b ∈ l, I t → F (f t b) = g (F t) b ∧ I (f t b)) → I t → F (l.foldl f t) = l.foldl g (F t) ∧ I (l.foldl f t)
  | [], _, _, h => ⟨rfl, h⟩
  | b :: l, t, hs, h => by
    obtain ⟨k1, k2⟩ := hs t b List.mem_cons_self h
    obtain ⟨k3, k4⟩ := fold_mapM l (f t b) (fun t z m => hs t z (List.mem_cons_of_mem _ m)) k2
    rw [List.foldl_cons, List.foldl_cons, k3, k1]
    exact ⟨rfl, k4⟩
theorem farA_im {ns : List Str} {g : GM} (h : FullT ns (look g)) : look (ns.foldl (farM ns) g) = ns.foldl (imM ns) (look g) ∧ FullT ns (look (ns.foldl (farM ns) g)) :=
  fold_mapM (F := look) (I := fun g => FullT ns (look g)) ns g (fun g m hm h =>
    fold_mapM (F := look) (f := fun g a => ns.foldl (farT m a) g) (g := imR ns m) (I := fun g => FullT ns (look g)) ns g (fun g a ha h =>
      fold_mapM (F := look) (f := farT m a) (g := im1 m a) (I := fun g => FullT ns (look g)) ns g (fun g b hb h => ⟨farT_im h hm ha hb, h.put⟩) h) h) h
def baseV (wd : Int) (a b : Str) : Int := if a = "" ∨ a = b then 0 else -wd
theorem look_farB (wd : Int) (c a b : Str) : ∀ (l : List Str) (g : GM), look (farB wd l g c) (a, b) = if a = c ∧ b ∈ l then some (baseV wd a b) else look g (a, b)
  | [], g => by rw [if_neg fun z => nomatch z.2]; rfl
  | x :: l, g => by
    have e : farB wd (x :: l) g c = farB wd l (put g (c, x) (baseV wd c x)) c := rfl
    rw [e, look_farB wd c a b l, look_put]
    by_cases h : a = c
    · subst h
      by_cases q : b ∈ l
      · rw [if_pos ⟨rfl, q⟩, if_pos ⟨rfl, List.mem_cons_of_mem _ q⟩]
      · rw [if_neg fun z => q z.2]
        by_cases k : b = x
        · subst k
          rw [if_pos rfl, if_pos ⟨rfl, List.mem_cons_self⟩]
        · rw [if_neg fun z => k (by injection z), if_neg fun z => by
            rcases List.mem_cons.mp z.2 with r | r
            · exact k r
            · exact q r]
    · rw [if_neg fun z => h z.1, if_neg fun z => h (by injection z), if_neg fun z => h z.1]
theorem look_base (wd : Int) (ns : List Str) (a b : Str) : ∀ (l : List Str) (g : GM), look (l.foldl (farB wd ns) g) (a, b) = if a ∈ l ∧ b ∈ ns then some (baseV wd a b) else look g (a, b)
  | [], g => by rw [if_neg fun z => nomatch z.1]; rfl
  | x :: l, g => by
    rw [List.foldl_cons, look_base wd ns a b l, look_farB]
    by_cases hb : b ∈ ns
    · by_cases q : a ∈ l
      · rw [if_pos ⟨q, hb⟩, if_pos ⟨List.mem_cons_of_mem _ q, hb⟩]
      · rw [if_neg fun z => q z.1]
        by_cases k : a = x
        · subst k
          rw [if_pos ⟨rfl, hb⟩, if_pos ⟨List.mem_cons_self, hb⟩]
        · rw [if_neg fun z => k z.1, if_neg fun z => by
            rcases List.mem_cons.mp z.1 with r | r
            · exact k r
            · exact q r]
    · rw [if_neg fun z => hb z.2, if_neg fun z => hb z.2, if_neg fun z => hb z.2]
theorem full_base (wd : Int) (ns : List Str) : FullT ns (look (ns.foldl (farB wd ns) [])) := fun a ha b hb => ⟨_, by rw [look_base, if_pos ⟨ha, hb⟩]⟩
theorem full_lags {ns : List Str} : ∀ (ls : List Lag) {g : GM}, FullT ns (look g) → FullT ns (look (ls.foldl farL g))
  | [], _, h => h
  | l :: ls, g, h => full_lags ls h.put
theorem farL_ge {ns : List Str} {g : GM} {l : Lag} (h : FullT ns (look g)) (h1 : l.1 ∈ ns) (h2 : l.2.1 ∈ ns) : Ge (look g) (look (farL g l)) := fun q w hw => by
  obtain ⟨z, hz⟩ := h _ h1 _ h2
  unfold farL
  rw [look_put, get0_some hz]
  by_cases c : q = (l.1, l.2.1)
  · rw [if_pos c]
    rw [c, hz] at hw
    cases hw
    refine ⟨_, rfl, ?_⟩
    unfold max2
    split <;> omega
  · rw [if_neg c]
    exact ⟨w, hw, Int.le_refl _⟩
theorem lags_ge {ns : List Str} : ∀ (ls : List Lag) {g : GM}, FullT ns (look g) → (∀ l ∈ ls, l.1 ∈ ns ∧ l.2.1 ∈ ns) → Ge (look g) (look (ls.foldl farL g)) ∧ ∀ l ∈ ls, Has (ls.foldl farL g) l.1 l.2.1 l.2.2
  | [], g, _, _ => ⟨Ge.refl _, fun _ m => nomatch m⟩
  | l :: ls, g, h, hm => by
    have k := hm l List.mem_cons_self
    have h' : FullT ns (look (farL g l)) := h.put
    obtain ⟨k1, k2⟩ := lags_ge ls h' fun z m => hm z (List.mem_cons_of_mem _ m)
    refine ⟨(farL_ge h k.1 k.2).trans k1, fun z m => ?_⟩
    rcases List.mem_cons.mp m with q | q
    · subst q
      have e : look (farL g z) (z.1, z.2.1) = some (max2 (get0 g z.1 z.2.1) z.2.2) := look_same _ _ _
      obtain ⟨v, e2, l2⟩ := k1 _ _ e
      refine ⟨v, e2, ?_⟩
      unfold max2 at l2
      split at l2 <;> omega
    · exact k2 z q
theorem lags_dia {a : Str} : ∀ (ls : List Lag) {g : GM}, (∀ l ∈ ls, l.1 ≠ l.2.1) → look (ls.foldl farL g) (a, a) = look g (a, a)
  | [], _, _ => rfl
  | l :: ls, g, h => by
    rw [List.foldl_cons, lags_dia ls fun z m => h z (List.mem_cons_of_mem _ m)]
    unfold farL
    rw [look_put, if_neg fun z => h l List.mem_cons_self (by injection z with z1 z2; exact z1.symm.trans z2)]
theorem lags_below {ns : List Str} {d : Str → Str → Int} : ∀ (ls : List Lag) {g : GM}, FullT ns (look g) → (∀ l ∈ ls, l.1 ∈ ns ∧ l.2.1 ∈ ns) → (∀ l ∈ ls, l.2.2 ≤ d l.1 l.2.1) → Below d ns (look g) → Below d ns (look (ls.foldl farL g))
  | [], _, _, _, _, h => h
  | l :: ls, g, hf, hm, hd, h => by
    have k := hm l List.mem_cons_self
    refine lags_below ls hf.put (fun z m => hm z (List.mem_cons_of_mem _ m)) (fun z m => hd z (List.mem_cons_of_mem _ m)) fun a ha b hb w hw => ?_
    have hw' : look (put g (l.1, l.2.1) (max2 (get0 g l.1 l.2.1) l.2.2)) (a, b) = some w := hw
    rw [look_put] at hw'
    obtain ⟨z, hz⟩ := hf _ k.1 _ k.2
    by_cases c : (a, b) = (l.1, l.2.1)
    · rw [if_pos c, get0_some hz] at hw'
      injection hw' with hw'
      injection c with c1 c2
      rw [c1, c2, ← hw']
      have k1 := h _ k.1 _ k.2 z hz
      have k2 := hd l List.mem_cons_self
      unfold max2
      split
      · exact k2
      · exact k1
    · rw [if_neg c] at hw'
      exact h a ha b hb w hw'
theorem Pot.lo {hz : Int} {xs : List Str} {ls : List Lag} {d : Str → Str → Int} (h : Pot hz xs ls d) (h0 : 0 ≤ hz) : ∀ a ∈ nds xs, ∀ b ∈ nds xs, baseV hz a b ≤ d a b := fun a ha b hb => by
  have k1 : ∀ x ∈ nds xs, 0 ≤ d "" x := fun x hx => by
    rcases List.mem_cons.mp hx with q | q
    · rw [q, h.dia "" List.mem_cons_self]
      exact Int.le_refl _
    · exact h.up x q
  have k2 : ∀ x ∈ nds xs, -hz ≤ d x "" := fun x hx => by
    rcases List.mem_cons.mp hx with q | q
    · rw [q, h.dia "" List.mem_cons_self]
      omega
    · exact h.dn x q
  unfold baseV
  by_cases c : a = "" ∨ a = b
  · rw [if_pos c]
    rcases c with c | c
    · rw [c]; exact k1 b hb
    · rw [← c, h.dia a ha]; exact Int.le_refl _
  · rw [if_neg c]
    have t := h.tri a ha "" List.mem_cons_self b hb
    have := k1 b hb
    have := k2 a ha
    omega
theorem Pot.hi {hz : Int} {xs : List Str} {ls : List Lag} {d : Str → Str → Int} (h : Pot hz xs ls d) (h0 : 0 ≤ hz) : ∀ a ∈ nds xs, ∀ b ∈ nds xs, d a b ≤ hz := fun a ha b hb => by
  have t := h.tri a ha b hb a ha
  rw [h.dia a ha] at t
  have k := h.lo h0 b hb a ha
  unfold baseV at k
  split at k <;> omega
section
variable {xs : List Str} {wd : Int} {ls : List Lag}
theorem far_full : FullT (nds xs) (look (far xs wd ls)) := (farA_im (full_lags ls (full_base wd (nds xs)))).2
theorem far_get {a b : Str} (ha : a ∈ nds xs) (hb : b ∈ nds xs) : look (far xs wd ls) (a, b) = some (get0 (far xs wd ls) a b) := by
  obtain ⟨w, h⟩ := far_full (wd := wd) (ls := ls) a ha b hb
  rw [get0_some h]
  exact h
theorem far_below (h0 : 0 ≤ wd) (hm : ∀ l ∈ ls, l.1 ∈ nds xs ∧ l.2.1 ∈ nds xs) {d : Str → Str → Int} (h : Pot wd xs ls d) : Below d (nds xs) (look (far xs wd ls)) := by
  unfold far
  rw [(farA_im (full_lags ls (full_base wd (nds xs)))).1]
  refine Below.all h.tri (lags_below ls (full_base wd (nds xs)) hm h.lag fun a ha b hb w hw => ?_)
  rw [look_base, if_pos ⟨ha, hb⟩] at hw
  injection hw with hw
  rw [← hw]
  exact h.lo h0 a ha b hb
theorem farOk_dia (h : farOk xs wd ls = true) {a : Str} (ha : a ∈ nds xs) : get0 (far xs wd ls) a a ≤ 0 := by
  unfold farOk at h
  rw [Bool.not_eq_true', List.any_eq_false] at h
  have := h a ha
  simp at this
  exact this
theorem far_least (h0 : 0 ≤ wd) (hn : ("" : Str) ∉ xs) (hm : ∀ l ∈ ls, l.1 ∈ nds xs ∧ l.2.1 ∈ nds xs ∧ l.1 ≠ l.2.1) (h : farOk xs wd ls = true) : Least wd xs ls (get0 (far xs wd ls)) := by
  have hm2 : ∀ l ∈ ls, l.1 ∈ nds xs ∧ l.2.1 ∈ nds xs := fun l m => ⟨(hm l m).1, (hm l m).2.1⟩
  have fb := full_base wd (nds xs)
  have fl := full_lags ls fb
  obtain ⟨ez, _⟩ := farA_im fl
  have efar : look (far xs wd ls) = (nds xs).foldl (imM (nds xs)) (look (ls.foldl farL ((nds xs).foldl (farB wd (nds xs)) []))) := ez
  obtain ⟨g1, g2⟩ := lags_ge ls fb hm2
  have g3 : Ge (look (ls.foldl farL ((nds xs).foldl (farB wd (nds xs)) []))) (look (far xs wd ls)) := by
    rw [efar]
    exact fold_Ge (fun D m => imM_ge _ D m) _ _
  have d0 : ∀ a ∈ nds xs, look (ls.foldl farL ((nds xs).foldl (farB wd (nds xs)) [])) (a, a) = some 0 := fun a ha => by
    rw [lags_dia ls fun l m => (hm l m).2.2, look_base, if_pos ⟨ha, ha⟩]
    unfold baseV
    rw [if_pos (.inr rfl)]
  have dz : ∀ a ∈ nds xs, ∀ w, look (far xs wd ls) (a, a) = some w → w ≤ 0 := fun a ha w hw => by
    have := farOk_dia h ha
    rw [get0_some hw] at this
    exact this
  have clo : ∀ c ∈ nds xs, Clo c (nds xs) (look (far xs wd ls)) := fun c hc => by
    rw [efar]
    exact fw_closed (nds xs) _ (fun _ => False) (fun _ m => m) d0 (by rw [← efar]; exact dz) (fun _ z => z.elim) c (.inr hc)
  have gb : ∀ a ∈ nds xs, ∀ b ∈ nds xs, baseV wd a b ≤ get0 (far xs wd ls) a b := fun a ha b hb => by
    have e : look ((nds xs).foldl (farB wd (nds xs)) []) (a, b) = some (baseV wd a b) := by rw [look_base, if_pos ⟨ha, hb⟩]
    obtain ⟨v, e2, l2⟩ := (g1.trans g3) _ _ e
    rw [get0_some e2]
    exact l2
  refine ⟨⟨fun a ha b hb c hc => ?_, fun a ha => ?_, fun a ha => ?_, fun a ha => ?_, fun l hl => ?_⟩, fun e he a ha b hb => far_below h0 hm2 he a ha b hb _ (far_get ha hb)⟩
  · obtain ⟨w, hw, k⟩ := clo b hb a ha c hc _ _ (far_get ha hb) (far_get hb hc)
    rw [get0_some hw]
    exact k
  · have k := gb a ha a ha
    unfold baseV at k
    rw [if_pos (.inr rfl)] at k
    have := farOk_dia h ha
    omega
  · have k := gb "" List.mem_cons_self a (List.mem_cons_of_mem _ ha)
    unfold baseV at k
    rw [if_pos (.inl rfl)] at k
    exact k
  · have k := gb a (List.mem_cons_of_mem _ ha) "" List.mem_cons_self
    unfold baseV at k
    rw [if_neg fun z => by
      rcases z with z | z
      · exact hn (z ▸ ha)
      · exact hn (z ▸ ha)] at k
    exact k
  · obtain ⟨w, e, k⟩ := g2 l hl
    obtain ⟨v, e2, k2⟩ := g3 _ _ e
    rw [get0_some e2]
    omega
theorem cons_farOk (h0 : 0 ≤ wd) (hm : ∀ l ∈ ls, l.1 ∈ nds xs ∧ l.2.1 ∈ nds xs) (h : Cons wd xs ls) : farOk xs wd ls = true := by
  obtain ⟨d, hd⟩ := h
  unfold farOk
  rw [Bool.not_eq_true', List.any_eq_false]
  intro a ha
  have := far_below h0 hm hd a ha a ha _ (far_get ha ha)
  rw [hd.dia a ha] at this
  simpa using this
theorem cons_nil (h0 : 0 ≤ wd) : Cons wd xs [] := ⟨fun _ _ => 0, fun _ _ _ _ _ _ => by omega, fun _ _ => rfl, fun _ _ => Int.le_refl _, fun _ _ => by omega, fun _ m => nomatch m⟩
theorem cons_of (h0 : 0 ≤ wd) (hn : ("" : Str) ∉ xs) (hm : ∀ l ∈ ls, l.1 ∈ nds xs ∧ l.2.1 ∈ nds xs ∧ l.1 ≠ l.2.1) (h : ls = [] ∨ farOk xs wd ls = true) : Cons wd xs ls := by
  rcases h with h | h
  · rw [h]
    exact cons_nil h0
  · exact ⟨_, (far_least h0 hn hm h).pot⟩
end
theorem Pot.gap {hz : Int} {xs : List Str} {ls : List Lag} {d : Str → Str → Int} (h : Pot hz xs ls d) (h0 : 0 ≤ hz) (hm : ∀ l ∈ ls, l.1 ∈ nds xs ∧ l.2.1 ∈ nds xs) : ∀ l ∈ ls, l.2.2 ≤ hz := fun l m => Int.le_trans (h.lag l m) (h.hi h0 _ (hm l m).1 _ (hm l m).2)
/-- the same names, the same lags -/
theorem Pot.congr {hz : Int} {xs ys : List Str} {ls ms : List Lag} {d : Str → Str → Int} (hx : ∀ x, x ∈ ys → x ∈ xs) (hl : ∀ l, l ∈ ms → l ∈ ls) (h : Pot hz xs ls d) : Pot hz ys ms d := by
  have hn : ∀ x, x ∈ nds ys → x ∈ nds xs := fun x m => by
    rcases List.mem_cons.mp m with q | q
    · rw [q]; exact List.mem_cons_self
    · exact List.mem_cons_of_mem _ (hx x q)
  exact ⟨fun a ha b hb c hc => h.tri a (hn a ha) b (hn b hb) c (hn c hc), fun a ha => h.dia a (hn a ha), fun a ha => h.up a (hx a ha), fun a ha => h.dn a (hx a ha), fun l m => h.lag l (hl l m)⟩
theorem Least.one {hz : Int} {xs ys : List Str} {ls ms : List Lag} {d e : Str → Str → Int} (hx : ∀ x, x ∈ ys ↔ x ∈ xs) (hl : ∀ l, l ∈ ms ↔ l ∈ ls) (h : Least hz xs ls d) (k : Least hz ys ms e) : ∀ a ∈ nds xs, ∀ b ∈ nds xs, d a b = e a b := fun a ha b hb => by
  have hn : ∀ x, x ∈ nds xs → x ∈ nds ys := fun x m => by
    rcases List.mem_cons.mp m with q | q
    · rw [q]; exact List.mem_cons_self
    · exact List.mem_cons_of_mem _ ((hx x).mpr q)
  have k1 := h.least e (k.pot.congr (fun x m => (hx x).mpr m) fun l m => (hl l).mpr m) a ha b hb
  have k2 := k.least d (h.pot.congr (fun x m => (hx x).mp m) fun l m => (hl l).mp m) a (hn a ha) b (hn b hb)
  omega
theorem isPlan_of {wd : Int} {ts : List (Str × Int)} {ls : List Lag} (h0 : 0 ≤ wd) (h1 : wd ≤ 1000000) (ht : ∀ e ∈ ts, isName e.1 = true ∧ 0 ≤ e.2 ∧ e.2 ≤ wd) (hm : ∀ l ∈ ls, l.1 ∈ nds (ts.map (·.1)) ∧ l.2.1 ∈ nds (ts.map (·.1)) ∧ l.1 ≠ l.2.1 ∧ -1000000 ≤ l.2.2 ∧ l.2.2 ≤ 1000000) : isPlan wd ts ls = true := by
  have nd : ∀ x, x ∈ nds (ts.map (·.1)) → isNode ts x = true := fun x m => by
    unfold isNode
    rw [Bool.or_eq_true]
    rcases List.mem_cons.mp m with q | q
    · exact .inl (decide_eq_true q)
    · exact .inr (look_isSome.mpr q)
  unfold isPlan isTimes isInt
  simp only [Bool.and_eq_true, decide_eq_true_eq, List.all_eq_true]
  refine ⟨⟨h0, h1⟩, fun e he => ⟨(ht e he).1, (ht e he).2⟩, fun l hl => ?_⟩
  have k := hm l hl
  unfold isLag isInt
  simp only [Bool.and_eq_true, decide_eq_true_eq, Bool.not_eq_true', decide_eq_false_iff_not]
  exact ⟨⟨k.2.2.2.1, k.2.2.2.2⟩, nd _ k.1, nd _ k.2.1, k.2.2.1⟩
end Rt
end
section
set_option maxHeartbeats 4000000
/-! MathE: distances along a row of nodes. -/
namespace Rt
open PySem L2
theorem Least.congr {hz : Int} {xs ys : List Str} {ls ms : List Lag} {d : Str → Str → Int} (hx : ∀ x, x ∈ ys ↔ x ∈ xs) (hl : ∀ l, l ∈ ms ↔ l ∈ ls) (h : Least hz xs ls d) : Least hz ys ms d := by
  refine ⟨h.pot.congr (fun x m => (hx x).mp m) fun l m => (hl l).mp m, fun e he a ha b hb => h.least e (he.congr (fun x m => (hx x).mpr m) fun l m => (hl l).mpr m) a ?_ b ?_⟩
  · rcases List.mem_cons.mp ha with q | q
    · rw [q]; exact List.mem_cons_self
    · exact List.mem_cons_of_mem _ ((hx a).mp q)
  · rcases List.mem_cons.mp hb with q | q
    · rw [q]; exact List.mem_cons_self
    · exact List.mem_cons_of_mem _ ((hx b).mp q)
theorem nodup_len {α : Type} [DecidableEq α] : ∀ (l m : List α), l.Nodup → (∀ x ∈ l, x ∈ m) → l.length ≤ m.length
  | [], m, _, _ => Nat.zero_le _
  | x :: l, m, nd, h => by
    obtain ⟨h1, h2⟩ := List.nodup_cons.mp nd
    have hx := h x List.mem_cons_self
    have k := nodup_len l (m.erase x) h2 fun y hy => (List.mem_erase_of_ne (fun e : y = x => h1 (by rw [← e]; exact hy))).mpr (h y (List.mem_cons_of_mem _ hy))
    have e := List.length_erase_of_mem hx
    have p := List.length_pos_of_mem hx
    rw [List.length_cons]
    omega
theorem sum_take {gs : List Int} {k : Nat} {g : Int} (h : gs[k]? = some g) : (gs.take (k + 1)).sum = (gs.take k).sum + g := by
  rw [List.take_succ, h, List.sum_append]
  show _ + (g + 0) = _
  omega
theorem sum_bound {gs : List Int} (h : ∀ g ∈ gs, -2 ≤ g ∧ g ≤ 4) : ∀ k : Nat, -(2 * (k : Int)) ≤ (gs.take k).sum ∧ (gs.take k).sum ≤ 4 * (k : Int) := by
  intro k
  induction k with
  | zero => rw [List.take_zero]; exact ⟨by decide, by decide⟩
  | succ k ih =>
    cases q : gs[k]? with
    | none =>
      rw [List.take_succ, q]
      show -(2 * ((k + 1 : Nat) : Int)) ≤ (gs.take k ++ []).sum ∧ (gs.take k ++ []).sum ≤ 4 * ((k + 1 : Nat) : Int)
      rw [List.append_nil]
      omega
    | some g =>
      rw [sum_take q]
      have := h g (List.mem_of_getElem? q)
      omega
/-- each node's place: names by their sums, the origin far below -/
def place (xs : List Str) (gs : List Int) (x : Str) : Int := if x = "" then -1000 else (gs.take (xs.idxOf x)).sum
theorem idx_at {xs : List Str} (nd : xs.Nodup) {k : Nat} {x : Str} (h : xs[k]? = some x) : xs.idxOf x = k := by
  obtain ⟨h1, h2⟩ := List.getElem?_eq_some_iff.mp h
  rw [← h2]
  exact List.Nodup.idxOf_getElem nd k h1
theorem place_at {xs : List Str} {gs : List Int} (nd : xs.Nodup) (hn : ("" : Str) ∉ xs) {k : Nat} {x : Str} (h : xs[k]? = some x) : place xs gs x = (gs.take k).sum := by
  unfold place
  rw [if_neg fun z : x = "" => hn (by rw [← z]; exact List.mem_of_getElem? h), idx_at nd h]
structure Row (xs : List Str) (gs : List Int) (ls : List Lag) : Prop where
  len : xs.length = 30
  lng : gs.length = 29
  nd : xs.Nodup
  nn : ("" : Str) ∉ xs
  bnd : ∀ g ∈ gs, -2 ≤ g ∧ g ≤ 4
  lag : ∀ l ∈ ls, ∃ (k : Nat) (x y : Str) (g : Int), xs[k]? = some x ∧ xs[k + 1]? = some y ∧ gs[k]? = some g ∧ l.1 = x ∧ l.2.1 = y ∧ l.2.2 ≤ g
  base : ∀ (k : Nat) (x y : Str) (g : Int), xs[k]? = some x → xs[k + 1]? = some y → gs[k]? = some g → (x, y, g) ∈ ls
theorem Row.pot {xs : List Str} {gs : List Int} {ls : List Lag} (r : Row xs gs ls) : Pot 1000000 xs ls (fun a b => place xs gs b - place xs gs a) := by
  have pb : ∀ a ∈ xs, -2 * 30 ≤ place xs gs a ∧ place xs gs a ≤ 4 * 30 := fun a ha => by
    obtain ⟨k, hk⟩ := List.getElem?_of_mem ha
    rw [place_at r.nd r.nn hk]
    have := (List.getElem?_eq_some_iff.mp hk).1
    have l := r.len
    have b := sum_bound r.bnd k
    omega
  have p0 : place xs gs "" = -1000 := if_pos rfl
  refine ⟨fun a _ b _ c _ => by omega, fun a _ => by omega, fun a ha => ?_, fun a ha => ?_, fun l hl => ?_⟩
  · have := pb a ha
    show 0 ≤ place xs gs a - place xs gs ""
    omega
  · have := pb a ha
    show -1000000 ≤ place xs gs "" - place xs gs a
    omega
  · obtain ⟨k, x, y, g, h1, h2, h3, h4, h5, h6⟩ := r.lag l hl
    show l.2.2 ≤ place xs gs l.2.1 - place xs gs l.1
    rw [h4, h5, place_at r.nd r.nn h1, place_at r.nd r.nn h2, sum_take h3]
    omega
theorem Row.dist {xs : List Str} {gs : List Int} {ls : List Lag} (r : Row xs gs ls) {d : Str → Str → Int} (h : Least 1000000 xs ls d) {i : Nat} {x : Str} (hx : xs[i]? = some x) : ∀ (n : Nat) (y : Str), xs[i + n]? = some y → d x y = (gs.take (i + n)).sum - (gs.take i).sum := by
  have mem : ∀ {k : Nat} {z : Str}, xs[k]? = some z → z ∈ nds xs := fun h => List.mem_cons_of_mem _ (List.mem_of_getElem? h)
  have lo : ∀ (n : Nat) (y : Str), xs[i + n]? = some y → (gs.take (i + n)).sum - (gs.take i).sum ≤ d x y := by
    intro n
    induction n with
    | zero =>
      intro y hy
      have e : xs[i]? = some y := hy
      rw [hx] at e
      cases e
      rw [h.pot.dia x (mem hx)]
      show (gs.take i).sum - _ ≤ 0
      omega
    | succ n ih =>
      intro y hy
      have hlt := (List.getElem?_eq_some_iff.mp hy).1
      have hl := r.len
      have hg := r.lng
      have hz : xs[i + n]? = some (xs[i + n]'(by omega)) := List.getElem?_eq_getElem _
      have hgg : gs[i + n]? = some (gs[i + n]'(by omega)) := List.getElem?_eq_getElem _
      have k1 := ih _ hz
      have k2 := h.pot.lag _ (r.base _ _ _ _ hz hy hgg)
      have k3 := h.pot.tri x (mem hx) _ (mem hz) y (mem hy)
      have k4 : (gs.take (i + (n + 1))).sum = (gs.take (i + n)).sum + gs[i + n]'(by omega) := sum_take hgg
      have k2' : gs[i + n]'(by omega) ≤ d (xs[i + n]'(by omega)) y := k2
      omega
  intro n y hy
  have k := h.least _ r.pot x (mem hx) y (mem hy)
  have k' : d x y ≤ place xs gs y - place xs gs x := k
  rw [place_at r.nd r.nn hx, place_at r.nd r.nn hy] at k'
  have := lo n y hy
  omega
end Rt
end
section
set_option maxHeartbeats 4000000
namespace Rt
open PySem PySem.Spec PyProof.Rows L2
section
variable {P : Program} {w : World} {K : PySem.W.Frag} {mg : Str → Option Value}
def pool30 : List Str := (letters.cps.toList.map fun c => (⟨#[c]⟩ : Str)) ++ [("ab" : Str), "cd", "yz", "zzz"]
theorem nd_pool30 : pool30.Nodup := by decide +kernel
theorem len_pool30 : pool30.length = 30 := by decide +kernel
theorem name_pool30 : ∀ x ∈ pool30, isName x = true := by decide +kernel
theorem no_pool30 : ("" : Str) ∉ pool30 := by decide +kernel
theorem pool30_eq : (letters.cps.toList.map fun c => V.str ⟨#[c]⟩) ++ [V.str "ab", V.str "cd", V.str "yz", V.str "zzz"] = pool30.map V.str := by
  unfold pool30
  rw [List.map_append, List.map_map]
  rfl
theorem c_listSg {H : Hp} {Q : VK} {x : Str} (hl : x.length ≤ 1000) (q : ∀ p H', H p = none → Same H H' → H' p = some (.lst (x.cps.toList.map fun c => .str ⟨#[c]⟩)) → Q (.ref p) H') : rListSg [.str x] H Q := ⟨x, rfl, hl, c_new q⟩
theorem c_dictP' {H : Hp} {Q : VK} {a : Addr} {ps : List Addr} {kvs : List (Key × V)} (h : SqL K H a (ps.map V.ref)) (hp : Paired (fun p kv => SqT K H p [kV kv.1, kv.2]) ps kvs) (q : ∀ p H', H p = none → Same H H' → H' p = some (.dK (mergeK [] kvs)) → Q (.ref p) H') : rDictP K [.ref a] H Q := ⟨a, ps, kvs, rfl, h, hp, c_new q⟩
theorem ints_at {gs : List Int} {k : Nat} {g : Int} (h : gs[k]? = some g) : (gs.map V.int)[k]? = some (.int g) := by
  rw [List.getElem?_map, h]
  rfl
theorem strs_at {xs : List Str} {k : Nat} {x : Str} (h : xs[k]? = some x) : (xs.map V.str)[k]? = some (.str x) := by
  rw [List.getElem?_map, h]
  rfl
theorem range_at {n i : Nat} (h : i < n) : (List.range n)[i]? = some i := by
  rw [List.getElem?_eq_getElem (by rw [List.length_range]; exact h), List.getElem_range]
/-- what the row's parts hold -/
structure RowI (G H : Hp) (p q D s : Addr) (b : Nat) (xs : List Str) : Prop where
  lst : H D = some (.lst (xs.map V.str))
  nd : xs.Nodup
  sub : ∀ x ∈ xs, x ∈ pool30
  len : xs.length = 30
  pen : PenOf H p s b
  but : But [p, q, D] G H
theorem row_names (T : Tx K mg) {G H : Hp} {Q : VK} {p q s : Addr} {b : Nat} {r : L2.St} (hb : b ≤ 80000) (hP : PenOf G p s b) (eq : G q = some (.lst (pool30.map V.str))) (sG : Same H G) (nq : H q = none) (hpH : PenOf H p s b)
    (k : ∀ D H' xs, G D = none → RowI G H' p q D s (b + 30) xs → Q (.ref D) H') :
    tLc (iRng1 (tCons (tC (.int 30)) tNil)) (gName 7) tYes (tBM K "list" rPopAt (tVar 2) (tCons (tCall (sp_law_draw K) [] E0 (tCons (tVar 0) (tCons (tCB (rLenQ K) (tCons (tVar 2) tNil)) tNil))) tNil)) [7] (some (.ref p) :: some (.str letters) :: some (.ref q) :: none :: none :: none :: none :: none :: none :: r) G Q := by
  have hM := million
  walk_at "go"
  refine c_rng1At (by omega) (by omega) ?_
  intro D nD
  have hpq := hpH.lives nq
  have hpD := hP.lives nD
  have hqD : q ≠ D := ne_of_none eq nD
  refine lc_it (Qd := fun H' => Q (.ref D) H') walk_range (fun i H' => ∃ xs rs, NmI H' p D q pool30 xs rs ∧ xs.length = i ∧ PenOf H' p s (b + i) ∧ But [p, q, D] G H') ?_ (fun _ _ _ _ => trivial) ?_ ?_
  · refine ⟨[], pool30, ⟨upd_same, ?_, nd_pool30, fun _ h => h, len_pool30⟩, rfl, (hP.but (S := [D]) ((But.refl _ _).put in1) (not1 hpD.1) (not1 hpD.2)), (But.refl _ _).put (List.mem_cons_of_mem _ (List.mem_cons_of_mem _ in1))⟩
    rw [upd_ne hqD]
    exact eq
  · rintro i x H0 H' hi ⟨xs, rs, hN, hl, hP, hB⟩ ⟨rfl, rfl⟩
    have hi' : i < 30 := hi
    refine ⟨rfl, ?_⟩
    walk_at "go"
    refine c_bmL (SqL.of hN.pl) ?_
    walk_at "go"
    refine c_lenQL (SqL.of hN.pl) ?_
    walk_at "go"
    have hlen := hN.len
    have h11 := len_pool30
    have hlm : (rs.map V.str).length = rs.length := List.length_map ..
    refine ⟨_, _, rfl, p, s, b + i, _, rfl, rfl, hP, by omega, by rw [hlm]; omega, by rw [hlm]; omega, fun H1 d b1 hP1 hd0 hd1 => ?_⟩
    rw [hlm] at hd1
    have hdl : d.toNat < rs.length := by omega
    have hq1 : H1 q = some (.lst (rs.map V.str)) := b1 _ _ hN.pl (not1 hpq.1.symm)
    have hD1 : H1 D = some (.lst (xs.map V.str)) := b1 _ _ hN.lst (not1 hpD.1.symm)
    walk_at "go"
    refine c_pop (i := d) (k := d.toNat) (y := .str rs[d.toNat]) hq1 (by omega) (by omega) (by rw [hlm]; exact seqIx hd0 (by omega)) (by rw [List.getElem?_map, List.getElem?_eq_getElem hdl]; rfl) ?_
    refine ⟨xs.map V.str, by rw [upd_ne hqD.symm]; exact hD1, by rw [List.length_map]; omega, xs ++ [rs[d.toNat]], rs.eraseIdx d.toNat, hN.step (List.getElem?_eq_getElem hdl) ?_ ?_, ?_, ?_, ?_⟩
    · rw [upd_same, List.map_append]
      rfl
    · rw [upd_ne hqD, upd_same, map_erase]
    · rw [List.length_append, hl]
      rfl
    · refine PenOf.but (S := [q, D]) (((But.refl _ _).put in21).put in22) (hP1.mono (by omega)) (not2 hpq.1 hpD.1) (not2 hpq.2 hpD.2)
    · exact ((hB.trans (b1.sub fun z m => by rw [List.mem_singleton.mp m]; exact List.mem_cons_self)).put (List.mem_cons_of_mem _ List.mem_cons_self)).put (List.mem_cons_of_mem _ (List.mem_cons_of_mem _ in1))
  · rintro H' ⟨xs, rs, hN, hl, hP, hB⟩
    obtain ⟨nx, _, _⟩ := List.nodup_append.mp hN.nd
    exact k D H' xs nD ⟨hN.lst, nx, fun x hx => hN.sub x (List.mem_append_left _ hx), hl, hP, hB⟩
theorem row_gaps (T : Tx K mg) {G : Hp} {Q : VK} {p s : Addr} {b : Nat} {v1 v2 v3 : Option V} {r : L2.St} (hb : b ≤ 80100) (hP : PenOf G p s b)
    (k : ∀ D H' (gs : List Int), G D = none → H' D = some (.lst (gs.map V.int)) → gs.length = 29 → (∀ g ∈ gs, -2 ≤ g ∧ g ≤ 4) → PenOf H' p s (b + 29) → But [p, D] G H' → Q (.ref D) H') :
    tLc (iRng1 (tCons (tC (.int 29)) tNil)) (gName 7) tYes (tOp rSub (tCall (sp_law_draw K) [] E0 (tCons (tVar 0) (tCons (tC (.int 7)) tNil))) (tC (.int 2))) [7] (some (.ref p) :: v1 :: v2 :: v3 :: none :: none :: none :: none :: none :: r) G Q := by
  have hM := million
  walk_at "go"
  refine c_rng1At (by omega) (by omega) ?_
  intro D nD
  have hpD := hP.lives nD
  refine lc_it (Qd := fun H' => Q (.ref D) H') walk_range (fun i H' => ∃ gs : List Int, H' D = some (.lst (gs.map V.int)) ∧ gs.length = i ∧ (∀ g ∈ gs, -2 ≤ g ∧ g ≤ 4) ∧ PenOf H' p s (b + i) ∧ But [p, D] G H') ?_ (fun _ _ _ _ => trivial) ?_ ?_
  · exact ⟨[], upd_same, rfl, (fun _ m => nomatch m), (hP.but (S := [D]) ((But.refl _ _).put in1) (not1 hpD.1) (not1 hpD.2)), (But.refl _ _).put in22⟩
  · rintro i x H0 H' hi ⟨gs, hD, hl, hbd, hP, hB⟩ ⟨rfl, rfl⟩
    have hi' : i < 29 := hi
    refine ⟨rfl, ?_⟩
    walk_at "go"
    refine ⟨_, _, rfl, p, s, b + i, _, rfl, rfl, hP, by omega, by omega, by omega, fun H1 d b1 hP1 hd0 hd1 => ?_⟩
    walk_at "go"
    refine ⟨gs.map V.int, b1 _ _ hD (not1 hpD.1.symm), by rw [List.length_map]; omega, gs ++ [d - 2], ?_, ?_, ?_, ?_, ?_⟩
    · rw [upd_same, List.map_append]
      rfl
    · rw [List.length_append, hl]
      rfl
    · intro g m
      rcases List.mem_append.mp m with m | m
      · exact hbd g m
      · rw [List.mem_singleton.mp m]
        omega
    · exact PenOf.but (S := [D]) ((But.refl _ _).put in1) (hP1.mono (by omega)) (not1 hpD.1) (not1 hpD.2)
    · exact (hB.trans (b1.sub fun z m => by rw [List.mem_singleton.mp m]; exact List.mem_cons_self)).put in22
  · rintro H' ⟨gs, hD, hl, hbd, hP, hB⟩
    exact k D H' gs nD hD hl hbd hP hB
theorem pure_law_row (T : Tx K mg) (vs : List V) (H : Hp) (Q : VK) (E : XK) (h : sp_law_row K vs H Q E) : t_law_row P w K ⟨fun _ H1 => Q .non H1, Q, fun _ _ => False, fun _ _ => False⟩ (start nm_law_row vs) H := by
  obtain ⟨_, rfl, p, b, rfl, ⟨s, hp⟩, hb, k⟩ := h
  have hM := million
  unfold t_law_row
  walk_at "go"
  refine c_listSg (by decide +kernel) fun q0 H0 n0 s0 e0 => ?_
  walk_at "go"
  refine c_nl rfl fun q1 H1 n1 s1 e1 => ?_
  walk_at "go"
  have lle : (("abcdefghijklmnopqrstuvwxyz" : Str).cps.toList.map fun c => V.str ⟨#[c]⟩).length = 26 := by decide +kernel
  refine c_cat (s1 _ _ e0) e1 (by rw [lle]; show 26 + 4 ≤ sizeLine; omega) fun q G nq sq eq => ?_
  have ep : ((("abcdefghijklmnopqrstuvwxyz" : Str).cps.toList.map fun c => V.str ⟨#[c]⟩) ++ [V.str "ab", V.str "cd", V.str "yz", V.str "zzz"]) = pool30.map V.str := pool30_eq
  rw [ep] at eq
  clear ep e0 e1
  have sG := s0.trans (s1.trans sq)
  have nq' : H q = none := (s0.trans s1).free nq
  clear s0 s1 sq n0 n1 nq
  refine c_seq (c_asg ?_)
  refine row_names (r := []) T hb (hp.same sG) eq sG nq' hp fun D H3 xs nD R => ?_
  refine c_seq (c_asg ?_)
  refine row_gaps (r := []) T (by omega) R.pen fun D2 H4 gs nD2 eD2 hgl hgb hP4 b4 => ?_
  have hpD := (hp.same sG).lives nD
  have hDD2 : D ≠ D2 := ne_of_none R.lst nD2
  have eD4 : H4 D = some (.lst (xs.map V.str)) := b4 _ _ R.lst (not2 hpD.1.symm hDD2)
  have hlx : (xs.map V.str).length = 30 := by rw [List.length_map]; exact R.len
  have hlg : (gs.map V.int).length = 29 := by rw [List.length_map]; exact hgl
  refine c_seq (c_asg ?_)
  show tLc _ _ _ _ _ [some (.ref p), some (.str letters), some (.ref q), some (.ref D), some (.ref D2), none, none, none, none] H4 _
  walk_at "go"
  refine c_rng1At (by omega) (by omega) ?_
  refine lc_pure walk_range (fun _ _ => trivial) ((List.range 30).map fun k => V.int (gs.take k).sum) (by rw [List.length_map, List.length_range]; rfl) (by decide) ?_ ?_
  · rintro i x y G0 G' hy s0' ⟨rfl, rfl⟩
    refine ⟨Same.refl _, fun Pq hP => ⟨rfl, ?_⟩⟩
    have hi : i < 30 := by
      have := (List.getElem?_eq_some_iff.mp hy).1
      rw [List.length_map, List.length_range] at this
      exact this
    rw [List.getElem?_map, range_at hi] at hy
    cases hy
    walk_at "go"
    refine c_slL (SqL.of (s0' _ _ eD2)) fun q5 H5 n5 s5 e5 => ?_
    have ec : cutV (gs.map V.int) none (some (0 + (i : Int))) = (gs.take i).map V.int := by
      rw [Int.zero_add, cut_to, List.map_take]
    rw [ec] at e5
    walk_at "go"
    exact c_sum' (SqL.of e5) (hP _ s5)
  intro D3 H5 n5 s5 e5
  walk_at "go"
  refine c_rng1At (by omega) (by omega) ?_
  have eD5 := s5 _ _ eD4
  have eG5 := s5 _ _ eD2
  have getx : ∀ {i : Nat}, i < 30 → ∃ x, xs[i]? = some x := fun h => ⟨_, List.getElem?_eq_getElem (by rw [R.len]; exact h)⟩
  have getg : ∀ {i : Nat}, i < 29 → ∃ g, gs[i]? = some g := fun h => ⟨_, List.getElem?_eq_getElem (by rw [hgl]; exact h)⟩
  have atx : ∀ {i : Nat} {j : Int} {x : Str}, j = (i : Int) → xs[i]? = some x → atI (xs.map V.str) j = some (.str x) := fun e h => by rw [e, atI_nat, strs_at h]
  have atg : ∀ {i : Nat} {j : Int} {g : Int}, j = (i : Int) → gs[i]? = some g → atI (gs.map V.int) j = some (.int g) := fun e h => by rw [e, atI_nat, ints_at h]
  refine lc_tups walk_range (fun _ _ => trivial) (by decide) (fun i => lagV ((xs[i]?).getD "", (xs[i + 1]?).getD "", (gs[i]?).getD 0)) (fun _ => by show 3 ≤ 10; omega) ?_ ?_
  · rintro i x G0 G' hi s0' ⟨rfl, rfl⟩
    have hi' : i < 29 := hi
    refine ⟨Same.refl _, fun Pq hP => ⟨rfl, ?_⟩⟩
    obtain ⟨x, hx⟩ := getx (i := i) (by omega)
    obtain ⟨y, hy⟩ := getx (i := i + 1) (by omega)
    obtain ⟨g, hg⟩ := getg hi'
    rw [hx, hy, hg] at hP
    walk_at "go"
    refine c_ixL (SqL.of (s0' _ _ eD5)) (atx (by omega) hx) ?_
    walk_at "go"
    refine c_ixL (SqL.of (s0' _ _ eD5)) (atx (by omega) hy) ?_
    walk_at "go"
    refine c_ixL (SqL.of (s0' _ _ eG5)) (atg (by omega) hg) ?_
    walk_at "go"
    exact hP _ (Same.refl _)
  intro D4 H6 ps n6 s6 e6 r6
  walk_at "go"
  refine c_rng1At (by omega) (by omega) ?_
  have eD6 := s6 _ _ eD5
  have eG6 := s6 _ _ eG5
  refine lc_tups walk_range (fun _ _ => trivial) (by decide) (fun i => lagV ((xs[i % 29]?).getD "", (xs[i % 29 + 1]?).getD "", (gs[i % 29]?).getD 0 - 1 - (i / 29 : Nat))) (fun _ => by show 3 ≤ 10; omega) ?_ ?_
  · rintro i x G0 G' hi s0' ⟨rfl, rfl⟩
    have hi' : i < 70 := hi
    refine ⟨Same.refl _, fun Pq hP => ⟨rfl, ?_⟩⟩
    have hm : i % 29 < 29 := Nat.mod_lt _ (by omega)
    obtain ⟨x, hx⟩ := getx (i := i % 29) (by omega)
    obtain ⟨y, hy⟩ := getx (i := i % 29 + 1) (by omega)
    obtain ⟨g, hg⟩ := getg hm
    rw [hx, hy, hg] at hP
    walk_at "go"
    refine c_ixL (SqL.of (s0' _ _ eD6)) (atx (by omega) hx) ?_
    walk_at "go"
    refine c_ixL (SqL.of (s0' _ _ eD6)) (atx (by omega) hy) ?_
    walk_at "go"
    refine c_ixL (SqL.of (s0' _ _ eG6)) (atg (by omega) hg) ?_
    walk_at "go"
    have e1 : (0 + (i : Int)) / 29 = ((i / 29 : Nat) : Int) := by omega
    rw [e1]
    exact hP _ (Same.refl _)
  intro D5 H7 ps2 n7 s7 e7 r7
  have hps := Paired.length r6
  have hps2 := Paired.length r7
  rw [List.length_map, List.length_range] at hps hps2
  have l29 : ((29 : Int).toNat) = 29 := rfl
  have l70 : ((70 : Int).toNat) = 70 := rfl
  refine c_cat (s7 _ _ e6) e7 (by rw [List.length_map, List.length_map, hps, hps2, l29, l70]; omega) fun D6 H8 n8 s8 e8 => ?_
  -- the lags
  have hR8 : LagRefs H8 (ps.map V.ref ++ ps2.map V.ref) ((List.range 29).map (fun i => (((xs[i]?).getD "", (xs[i + 1]?).getD "", (gs[i]?).getD 0) : Lag)) ++ (List.range 70).map fun i => (((xs[i % 29]?).getD "", (xs[i % 29 + 1]?).getD "", (gs[i % 29]?).getD 0 - 1 - (i / 29 : Nat)) : Lag)) :=
    Paired.app (tups_lags (f := fun i => (((xs[i]?).getD "", (xs[i + 1]?).getD "", (gs[i]?).getD 0) : Lag)) (Paired.mapP r6 fun q v e => s8 _ _ (s7 _ _ e))) (tups_lags (f := fun i => (((xs[i % 29]?).getD "", (xs[i % 29 + 1]?).getD "", (gs[i % 29]?).getD 0 - 1 - (i / 29 : Nat)) : Lag)) (Paired.mapP r7 fun q v e => s8 _ _ e))
  generalize hls : ((List.range 29).map (fun i => (((xs[i]?).getD "", (xs[i + 1]?).getD "", (gs[i]?).getD 0) : Lag)) ++ (List.range 70).map fun i => (((xs[i % 29]?).getD "", (xs[i % 29 + 1]?).getD "", (gs[i % 29]?).getD 0 - 1 - (i / 29 : Nat)) : Lag)) = ls at *
  have hll : ls.length = 99 := by rw [← hls, List.length_append, List.length_map, List.length_map, List.length_range, List.length_range]
  have nn : ("" : Str) ∉ xs := fun m => no_pool30 (R.sub _ m)
  have row : Row xs gs ls := by
    refine ⟨R.len, hgl, R.nd, nn, hgb, fun l m => ?_, fun i x y g h1 h2 h3 => ?_⟩
    · rw [← hls] at m
      rcases List.mem_append.mp m with m | m
      · obtain ⟨i, hi, rfl⟩ := List.mem_map.mp m
        have hi' := List.mem_range.mp hi
        obtain ⟨x, hx⟩ := getx (i := i) (by omega)
        obtain ⟨y, hy⟩ := getx (i := i + 1) (by omega)
        obtain ⟨g, hg⟩ := getg hi'
        refine ⟨i, x, y, g, hx, hy, hg, ?_, ?_, ?_⟩
        · rw [hx]; rfl
        · rw [hy]; rfl
        · rw [hg]; exact Int.le_refl _
      · obtain ⟨i, hi, rfl⟩ := List.mem_map.mp m
        have hm : i % 29 < 29 := Nat.mod_lt _ (by omega)
        obtain ⟨x, hx⟩ := getx (i := i % 29) (by omega)
        obtain ⟨y, hy⟩ := getx (i := i % 29 + 1) (by omega)
        obtain ⟨g, hg⟩ := getg hm
        refine ⟨i % 29, x, y, g, hx, hy, hg, ?_, ?_, ?_⟩
        · rw [hx]; rfl
        · rw [hy]; rfl
        · rw [hg]
          show g - 1 - ((i / 29 : Nat) : Int) ≤ g
          omega
    · rw [← hls]
      refine List.mem_append_left _ (List.mem_map.mpr ⟨i, List.mem_range.mpr ?_, ?_⟩)
      · have := (List.getElem?_eq_some_iff.mp h3).1
        omega
      · rw [h1, h2, h3]
        rfl
  have hlow : ∀ l ∈ ls, -1000000 ≤ l.2.2 ∧ l.2.2 ≤ 1000000 := by
    intro l m
    rw [← hls] at m
    rcases List.mem_append.mp m with m | m
    · obtain ⟨i, hi, rfl⟩ := List.mem_map.mp m
      obtain ⟨g, hg⟩ := getg (List.mem_range.mp hi)
      have := hgb g (List.mem_of_getElem? hg)
      show -1000000 ≤ (gs[i]?).getD 0 ∧ (gs[i]?).getD 0 ≤ 1000000
      rw [hg]
      show -1000000 ≤ g ∧ g ≤ 1000000
      omega
    · obtain ⟨i, hi, rfl⟩ := List.mem_map.mp m
      have hm : i % 29 < 29 := Nat.mod_lt _ (by omega)
      obtain ⟨g, hg⟩ := getg hm
      have := hgb g (List.mem_of_getElem? hg)
      have hi' := List.mem_range.mp hi
      show -1000000 ≤ (gs[i % 29]?).getD 0 - 1 - ((i / 29 : Nat) : Int) ∧ (gs[i % 29]?).getD 0 - 1 - ((i / 29 : Nat) : Int) ≤ 1000000
      rw [hg]
      show -1000000 ≤ g - 1 - ((i / 29 : Nat) : Int) ∧ g - 1 - ((i / 29 : Nat) : Int) ≤ 1000000
      omega
  have hcons : Cons 1000000 xs ls := ⟨_, row.pot⟩
  have eD8 := s8 _ _ (s7 _ _ eD6)
  have hP8 : PenOf H8 p s (b + 30 + 29) := hP4.same (s5.trans (s6.trans (s7.trans s8)))
  have e58 : H8 D3 = some (.lst ((List.range 30).map fun k => V.int (gs.take k).sum)) := s8 _ _ (s7 _ _ (s6 _ _ e5))
  have b8 : But [p] H H8 := by
    have b4' : But [p] H3 H4 := fun c o e n => b4 _ _ e (not2 (fun z => n (by rw [z]; exact in1)) fun z => by rw [z, nD2] at e; cases e)
    have h1 : But [p, q, D] G H8 := (R.but.trans (b4'.sub fun z m => by rw [List.mem_singleton.mp m]; exact List.mem_cons_self)).same (s5.trans (s6.trans (s7.trans s8)))
    intro c o e n
    refine h1 c o (sG _ _ e) fun m => ?_
    rcases List.mem_cons.mp m with m | m
    · exact n (List.mem_singleton.mpr m)
    · rcases List.mem_cons.mp m with m | m
      · rw [m, nq'] at e; cases e
      · rw [List.mem_singleton.mp m, sG.free nD] at e; cases e
  clear b4 hP4 s5 s6 s7 s8 eD4 eD5 eG5 eD6 eG6 eD2 e5 e6 e7 r6 r7
  walk_at "go"
  refine c_pow ⟨by omega, by omega, by decide⟩ ?_
  have e10 : (10 : Int) ^ (6 : Int).toNat = 1000000 := by decide
  rw [e10]
  walk_at "go"
  refine c_iListAt (SqL.of eD8) ?_
  refine lc_tups (walk_list (xs := xs.map V.str)) (fun H' e => e.seq (SqL.of eD8)) (by rw [hlx]; omega) (fun i => [.str ((xs[i]?).getD ""), .int 0]) (fun _ => by show 2 ≤ 10; omega) ?_ ?_
  · rintro i x G0 G' hi s0' ⟨rfl, hxi⟩
    refine ⟨Same.refl _, fun Pq hP => ⟨rfl, ?_⟩⟩
    rw [List.getElem?_map] at hxi
    cases he : xs[i]? with
    | none => rw [he] at hxi; cases hxi
    | some x =>
      rw [he] at hxi hP
      cases hxi
      walk_at "go"
      exact hP _ (Same.refl _)
  intro D7 H9 ps7 n9 s9 e9 r9
  walk_at "go"
  have hts : ((xs.map fun x => (x, (0 : Int))).map (·.1)) = xs := by
    rw [List.map_map]
    exact List.map_id xs
  refine c_dictP' (ps := ps7) (kvs := dSI (xs.map fun x => (x, (0 : Int)))) (SqL.of e9) ?_ fun t H10 n10 s10 et => ?_
  · have eq30 : (List.range (xs.map V.str).length).map (fun i => [V.str ((xs[i]?).getD ""), V.int 0]) = xs.map fun x => [V.str x, V.int 0] := by
      refine List.ext_getElem? fun i => ?_
      rw [List.getElem?_map, List.getElem?_map]
      by_cases hi : i < xs.length
      · rw [range_at (by rw [List.length_map]; exact hi), List.getElem?_eq_getElem hi]
        show some [V.str ((xs[i]?).getD ""), V.int 0] = _
        rw [List.getElem?_eq_getElem hi]
        rfl
      · rw [List.getElem?_eq_none (by rw [List.length_range, List.length_map]; omega), List.getElem?_eq_none (by omega)]
        rfl
    rw [eq30] at r9
    have conv : ∀ (l : List Str) (ps : List Addr), Paired (fun q v => H9 q = some (.tup v)) ps (l.map fun x => [V.str x, V.int 0]) → Paired (fun p (kv : Key × V) => SqT K H9 p [kV kv.1, kv.2]) ps (dSI (l.map fun x => (x, (0 : Int)))) := by
      intro l
      induction l with
      | nil => intro ps h; cases h; exact .nil
      | cons a l ih =>
        intro ps h
        cases h with
        | cons a1 a2 => exact .cons (.inl (.inl a1)) (ih _ a2)
    exact conv xs ps7 r9
  rw [mergeK_SI (by rw [hts]; exact R.nd)] at et
  walk_at "go"
  refine c_made fun y dy H11 n11 s11 e11 => ?_
  have s811 := s9.trans (s10.trans s11)
  have hhz : ∀ l ∈ ls, l.1 ∈ nds xs ∧ l.2.1 ∈ nds xs ∧ l.1 ≠ l.2.1 := fun l m => by
    obtain ⟨i, x, y, g, h1, h2, h3, h4, h5, h6⟩ := row.lag l m
    rw [h4, h5]
    refine ⟨List.mem_cons_of_mem _ (List.mem_of_getElem? h1), List.mem_cons_of_mem _ (List.mem_of_getElem? h2), fun z => ?_⟩
    have k1 := idx_at R.nd h1
    have k2 := idx_at R.nd h2
    rw [z] at k1
    omega
  have hplan : isPlan 1000000 (xs.map fun x => (x, (0 : Int))) ls = true := isPlan_of (by omega) (by omega) (fun e m => by
    obtain ⟨x, hx, rfl⟩ := List.mem_map.mp m
    exact ⟨name_pool30 x (R.sub x hx), Int.le_refl _, by show (0 : Int) ≤ 1000000; omega⟩) fun l m => by
    rw [hts]
    exact ⟨(hhz l m).1, (hhz l m).2.1, (hhz l m).2.2, hlow l m⟩
  refine ⟨_, _, _, _, rfl, y, dy, 1000000, t, D6, xs.map fun x => (x, (0 : Int)), ls, rfl, rfl, rfl, rfl, e11, s11 _ _ et, by rw [List.length_map, R.len]; omega, ⟨_, .inl (SqL.of (s811 _ _ e8)), hR8.same s811⟩, by omega, hplan, by rw [hts]; exact R.nd, by rw [hts]; exact hcons, fun H12 us ms b12 pl so sm => ⟨rfl, ?_⟩⟩
  walk_at "go"
  refine c_nl rfl fun z H13 n13 s13 e13 => ?_
  have s812 : Same H8 H12 := But.toSame s811 b12 fun c m => by rw [List.mem_singleton.mp m]; exact (s9.trans s10).free n11
  have mem_us : ∀ x, x ∈ us.map (·.1) ↔ x ∈ xs := fun x => by
    rw [(so.2.map (·.1)).mem_iff, hts]
  have pl13 := pl.same s13
  have hnpl : ("" : Str) ∉ us.map (·.1) := fun m => nn ((mem_us _).mp m)
  have hmpl : ∀ l ∈ ms, l.1 ∈ nds (us.map (·.1)) ∧ l.2.1 ∈ nds (us.map (·.1)) ∧ l.1 ≠ l.2.1 := fun l m => by
    have := hhz l ((sm.2 l).mp m)
    have up : ∀ x, x ∈ nds xs → x ∈ nds (us.map (·.1)) := fun x m => by
      rcases List.mem_cons.mp m with q | q
      · rw [q]; exact List.mem_cons_self
      · exact List.mem_cons_of_mem _ ((mem_us x).mpr q)
    exact ⟨up _ this.1, up _ this.2.1, this.2.2⟩
  obtain ⟨dl, dall⟩ := dist_least (p := ⟨1000000, us, ms⟩) hnpl hmpl ⟨_, row.pot.congr (fun x m => (mem_us x).mp m) fun l m => (sm.2 l).mp m⟩
  have dl' : Least 1000000 xs ls (get0 (distP ⟨1000000, us, ms⟩).tot) := dl.congr (fun x => (mem_us x).symm) fun l => (sm.2 l).symm
  have hul : us.length = 30 := by rw [so.2.length_eq, List.length_map, R.len]
  have hml : ms.length ≤ 99 := by
    have := nodup_len ms ls (asc_nodup (lt := ltLag) (fun l => by unfold ltLag; simp [ltS_irr]) sm.1) fun l m => (sm.2 l).mp m
    omega
  refine k H13 z D D3 y xs ((List.range 30).map fun k => (gs.take k).sum) ⟨1000000, us, ms⟩ ((b8.same s812).same s13) e13 (s13 _ _ (s812 _ _ eD8)) ?_ pl13 ⟨s, ((hP8.same s812).same s13).mono (by omega)⟩ R.len R.nd (by rw [List.length_map, List.length_range]) ?_ (by show us.length < 60; omega) (by show ms.length ≤ 1000; omega) (fun x hx => List.mem_cons_of_mem _ ((mem_us x).mpr hx)) ?_
  · rw [List.map_map]
    exact s13 _ _ (s812 _ _ e58)
  · rw [List.pairwise_map]
    exact so.1
  · intro i j x y u v hij hx hy hu hv
    have mx : x ∈ nodesOf ⟨1000000, us, ms⟩ := List.mem_cons_of_mem _ ((mem_us x).mpr (List.mem_of_getElem? hx))
    have my : y ∈ nodesOf ⟨1000000, us, ms⟩ := List.mem_cons_of_mem _ ((mem_us y).mpr (List.mem_of_getElem? hy))
    rw [dall x mx y my]
    have hi : i < 30 := by have := (List.getElem?_eq_some_iff.mp hx).1; rw [R.len] at this; exact this
    have hj : j < 30 := by have := (List.getElem?_eq_some_iff.mp hy).1; rw [R.len] at this; exact this
    rw [List.getElem?_map, range_at hi] at hu
    rw [List.getElem?_map, range_at hj] at hv
    cases hu
    cases hv
    obtain ⟨n, rfl⟩ : ∃ n, j = i + n := ⟨j - i, by omega⟩
    rw [row.dist dl' hx n y hy]

end
end Rt
end
section
set_option maxHeartbeats 4000000
namespace Rt
open PySem PySem.Spec PyProof.Rows L2
section
variable {P : Program} {w : World} {K : PySem.W.Frag} {mg : Str → Option Value}
theorem c_isiP {H : Hp} {Q : VK} {a C dx : Addr} {fs : List (Str × V)} (h : H a = some (.ins C dx fs)) (q : Q (.bl true) H) : rIsiC C [.ref a, .ref C] H Q := ⟨a, dx, fs, rfl, h, q⟩
theorem same_ext {G H : Hp} (e : Ext G H) : Same G H := fun a o h => e a o h
theorem prs_lag {H : Hp} (l : Lag) : Prs DFlat (lagV l) (lagV l) H := by
  refine .cons ⟨rfl, rfl, ?_⟩ (.cons ⟨rfl, rfl, ?_⟩ (.cons ⟨rfl, rfl, ?_⟩ .nil))
  · show (l.1 == l.1) = true
    exact beq_self_eq_true _
  · show (l.2.1 == l.2.1) = true
    exact beq_self_eq_true _
  · show (l.2.2 == l.2.2) = true
    exact beq_self_eq_true _
theorem prs_lags {H : Hp} {us vs : List V} {ls : List Lag} (h1 : LagRefs H us ls) (h2 : LagRefs H vs ls) : Prs (DTup K DFlat) us vs H := by
  refine ⟨(Paired.length h1).trans (Paired.length h2).symm, fun i x y hx hy => ?_⟩
  obtain ⟨l, hl, p, rfl, hp⟩ := paired_get h1 hx
  obtain ⟨m, hm, q, rfl, hq⟩ := paired_get h2 hy
  rw [hl] at hm
  cases hm
  exact ⟨p, q, lagV l, lagV l, rfl, rfl, SqT.of hp, SqT.of hq, prs_lag l⟩
theorem eqr_names {H : Hp} {a b : Addr} {ts : List (Str × Int)} (h1 : H a = some (.dK (dSI ts))) (h2 : H b = some (.dK (dSI ts))) (nd : (ts.map (·.1)).Nodup) : EqR K H (EqV K H 1) (.ref a) (.ref b) := by
  refine .inr ⟨a, b, dSI ts, dSI ts, rfl, rfl, h1, h2, rfl, fun p hp => ?_⟩
  unfold dSI at hp
  obtain ⟨e, he, rfl⟩ := List.mem_map.mp hp
  refine ⟨.int e.2, ?_, .inl ⟨rfl, rfl⟩⟩
  have := val_SI ts e.1
  rw [look_of_mem nd he] at this
  exact this
theorem pure_Plan_eq (T : Tx K mg) (vs : List V) (H : Hp) (Q : VK) (E : XK) (h : sp_Plan_eq K vs H Q E) : t_Plan_eq P w K ⟨fun _ H1 => Q .non H1, Q, fun _ _ => False, fun _ _ => False⟩ (start nm_Plan_eq vs) H := by
  obtain ⟨_, _, rfl, x, y, p, q, rfl, rfl, ⟨dx, bn, ol, us, h1, h2, h3, h4⟩, ⟨dy, bn', ol', us', k1, k2, k3, k4⟩, rfl, nd, k⟩ := h
  unfold t_Plan_eq
  walk_at "go"
  refine c_isiP k1 ?_
  walk_at "go"
  refine c_fldAt h1 T.cls_Plan T.noat_Plan_horizon (pl_hz p bn ol) ?_
  walk_at "go"
  refine c_fldAt k1 T.cls_Plan T.noat_Plan_horizon (pl_hz p bn' ol') ?_
  walk_at "go"
  rw [show (!decide (V.int p.hz = V.int p.hz)) = false by simp]
  walk_at "go"
  refine c_fldAt h1 T.cls_Plan T.noat_Plan_by_name (pl_by p bn ol) ?_
  walk_at "go"
  refine c_fldAt k1 T.cls_Plan T.noat_Plan_by_name (pl_by p bn' ol') ?_
  refine ⟨1, by decide, eqr_names h2 k2 nd, ?_⟩
  walk_at "go"
  refine c_fldAt h1 T.cls_Plan T.noat_Plan_own_lags (pl_ol p bn ol) ?_
  walk_at "go"
  refine c_fldAt k1 T.cls_Plan T.noat_Plan_own_lags (pl_ol p bn' ol') ?_
  refine ⟨⟨ol, ol', us, us', rfl, rfl, SqT.of h3, SqT.of k3, prs_lags h4 k4⟩, fun H' e => ?_⟩
  exact k.go (same_ext e)

end
end Rt
end
section
set_option maxHeartbeats 4000000
namespace Rt
open PySem PySem.Spec PyProof.Rows L2
section
variable {P : Program} {w : World} {K : PySem.W.Frag} {mg : Str → Option Value}
theorem pure_is_times (T : Tx K mg) (vs : List V) (H : Hp) (Q : VK) (E : XK) (h : sp_is_times K vs H Q E) : t_is_times P w K ⟨fun _ H1 => Q .non H1, Q, fun _ _ => False, fun _ _ => False⟩ (start nm_is_times vs) H := by
  obtain ⟨_, _, rfl, hz, t, ts, rfl, rfl, ht, hl, hx, k⟩ := h
  unfold t_is_times
  walk_at "go"
  refine c_lockE ht trivial (fun od G Q' L fin => ?_)
  walk_at "go"
  refine c_itemsAt L.at_ ?_
  refine lc_pure walk_items (fun H' s => s _ _ L.at_) (ts.map fun e => V.bl (isName e.1 && isInt e.2 0 hz)) (by rw [List.length_map, len_SI]) (by rw [len_SI]; omega) ?_ ?_
  · rintro i x y H0 H' hy s0 ⟨Tp, a, b, rfl, hT, rfl, ha, hb⟩
    refine ⟨same_new hT, fun Pq hP => ?_⟩
    rw [List.getElem?_map] at hy
    cases he : ts[i]? with
    | none => rw [he] at hy; cases hy
    | some e =>
      rw [he] at hy
      cases hy
      have e1 : (dSI ts)[i]? = some (kS e.1, .int e.2) := by unfold dSI; rw [List.getElem?_map, he]; rfl
      replace ha : ((dSI ts)[i]?.map fun kv => kV kv.1) = some a := ha
      replace hb : ((dSI ts)[i]?.map Prod.snd) = some b := hb
      rw [e1] at ha hb
      cases ha
      cases hb
      refine c_gTup (SqT.of upd_same) rfl (c_g2 ⟨rfl, ?_⟩)
      walk_at "go"
      refine ⟨_, rfl, e.1, rfl, hx e (List.mem_of_getElem? he), fun H3 s3 => ?_⟩
      walk_at "go"
      refine c_ite (fun h1 => ?_) (fun h1 => ?_)
      · walk_at "go"
        refine ⟨_, _, _, rfl, e.2, 0, hz, rfl, rfl, rfl, fun H4 s4 => ?_⟩
        have : Pq (.bl (isName e.1 && isInt e.2 0 hz)) H4 := hP H4 (s3.trans s4)
        rw [h1] at this
        exact this
      · have : Pq (.bl (isName e.1 && isInt e.2 0 hz)) H3 := hP H3 s3
        rw [h1] at this
        exact this
  · intro p H' hp s1 h1
    refine fin _ _ [] (List.not_mem_nil) (same_but s1) fun H2 s2 k2 => ?_
    have np : p ≠ t := Ne.symm (ne_of_none L.at_ hp)
    refine c_all' (SqL.of (by rw [List.map_map]; exact k2 p _ np h1)) ?_
    have e : (ts.map fun e => isName e.1 && isInt e.2 0 hz).all id = isTimes hz ts := by rw [List.all_map]; rfl
    rw [e]
    exact k _ (but_nil s2)
theorem pure_is_node (T : Tx K mg) (vs : List V) (H : Hp) (Q : VK) (E : XK) (h : sp_is_node K vs H Q E) : t_is_node P w K ⟨fun _ H1 => Q .non H1, Q, fun _ _ => False, fun _ _ => False⟩ (start nm_is_node vs) H := by
  obtain ⟨_, _, rfl, t, ts, s, rfl, rfl, ht, k⟩ := h
  unfold t_is_node
  walk_at "go"
  have k' := k.now
  unfold isNode at k'
  have e0 : decide (V.str s = V.str "") = decide (s = "") := by
    by_cases q : s = ""
    · rw [decide_eq_true q, decide_eq_true (congrArg V.str q)]
    · rw [decide_eq_false q, decide_eq_false fun z => q (V.str.inj z)]
  refine c_ite (fun h1 => ?_) (fun h1 => ?_)
  · rw [e0] at h1
    rw [h1] at k'
    exact k'
  · rw [e0] at h1
    walk_at "go"
    refine c_inK ht ?_
    rw [h1] at k'
    have e : (valV (dSI ts) (.inr s)) = _ := val_SI ts s
    rw [e, Option.isSome_map]
    exact k'
theorem pure_is_lag (T : Tx K mg) (vs : List V) (H : Hp) (Q : VK) (E : XK) (h : sp_is_lag K vs H Q E) : t_is_lag P w K ⟨fun _ H1 => Q .non H1, Q, fun _ _ => False, fun _ _ => False⟩ (start nm_is_lag vs) H := by
  obtain ⟨_, _, rfl, t, ts, l, rfl, ht, ⟨p, rfl, hp⟩, k⟩ := h
  obtain ⟨x, y, z⟩ := l
  unfold t_is_lag
  have a0 : atI (lagV (x, y, z)) 0 = some (.str x) := atI_nat (j := 0) rfl
  have a1 : atI (lagV (x, y, z)) 1 = some (.str y) := atI_nat (j := 1) rfl
  have a2 : atI (lagV (x, y, z)) 2 = some (.int z) := atI_nat (j := 2) rfl
  walk_at "go"
  refine c_lenQT (SqT.of hp) ?_
  walk_at "go"
  have e3 : (!decide (V.int ((lagV (x, y, z)).length : Int) = V.int 3)) = false := by rfl
  rw [e3]
  walk_at "go"
  refine c_ixT (SqT.of hp) a2 ?_
  walk_at "go"
  refine ⟨_, _, _, rfl, z, -1000000, 1000000, rfl, rfl, rfl, fun H1 s1 => ?_⟩
  walk_at "go"
  unfold isLag at k
  refine c_ite (fun h1 => ?_) (fun h1 => ?_)
  · have h1' : isInt z (-1000000) 1000000 = false := by
      cases q : isInt z (-1000000) 1000000 with
      | true => rw [q] at h1; cases h1
      | false => rfl
    walk_at "go"
    have k' := k.go s1
    rw [h1'] at k'
    exact k'
  · have h1' : isInt z (-1000000) 1000000 = true := by
      cases q : isInt z (-1000000) 1000000 with
      | true => rfl
      | false => rw [q] at h1; cases h1
    rw [h1'] at k
    walk_at "go"
    refine c_ixT (SqT.of (s1 _ _ hp)) a0 ?_
    walk_at "go"
    refine ⟨_, _, rfl, t, ts, x, rfl, rfl, s1 _ _ ht, fun H2 s2 => ?_⟩
    walk_at "go"
    have s12 := s1.trans s2
    refine c_ite (fun h2 => ?_) (fun h2 => ?_)
    · walk_at "go"
      refine c_ixT (SqT.of (s12 _ _ hp)) a1 ?_
      walk_at "go"
      refine ⟨_, _, rfl, t, ts, y, rfl, rfl, s12 _ _ ht, fun H3 s3 => ?_⟩
      have s13 := s12.trans s3
      walk_at "go"
      refine c_ite (fun h3 => ?_) (fun h3 => ?_)
      · walk_at "go"
        refine c_ixT (SqT.of (s13 _ _ hp)) a0 ?_
        walk_at "go"
        refine c_ixT (SqT.of (s13 _ _ hp)) a1 ?_
        walk_at "go"
        have k' := k.go s13
        have e : decide (V.str x = V.str y) = decide (x = y) := by
          by_cases q : x = y
          · rw [decide_eq_true q, decide_eq_true (congrArg V.str q)]
          · rw [decide_eq_false q, decide_eq_false fun z => q (V.str.inj z)]
        rw [e]
        simp only [h2, h3, Bool.true_and] at k'
        exact k'
      · have k' := k.go s13
        simp only [h2, h3, Bool.true_and, Bool.false_and] at k'
        exact k'
    · have k' := k.go s12
      simp only [h2, Bool.true_and, Bool.false_and] at k'
      exact k'

end
end Rt
end
section
set_option maxHeartbeats 4000000
namespace Rt
open PySem PySem.Spec PyProof.Rows L2
section
variable {P : Program} {w : World} {K : PySem.W.Frag} {mg : Str → Option Value}
theorem c_asgG {nx bk ct : L2.St → Hp → Prop} {rt : VK} {σ : L2.St} {H : Hp} {ta : TE} {g : TG} (h : ta σ H fun v H1 => g v σ H1 nx) : tAsg ta g ⟨nx, rt, bk, ct⟩ σ H := h
theorem name_pool11 : ∀ x ∈ pool11, isName x = true := by decide +kernel
theorem no_pool11 : ("" : Str) ∉ pool11 := by decide +kernel
theorem PlanAt.butL {S : List Addr} {G H : Hp} {a : Addr} {p : PlanD} (b : But S G H) (hs : ∀ q ∈ S, ∃ xs, G q = some (.lst xs)) (h : PlanAt K G a p) : PlanAt K H a p := by
  obtain ⟨dy, bn, ol, vs, h1, h2, h3, h4⟩ := h
  have no : ∀ {c : Addr} {o : HO}, G c = some o → (∀ xs, o ≠ .lst xs) → c ∉ S := fun e n m => by
    obtain ⟨xs, hx⟩ := hs _ m
    rw [e] at hx
    injection hx with hx
    exact n xs hx
  refine ⟨dy, bn, ol, vs, b _ _ h1 (no h1 fun xs => by intro z; cases z), b _ _ h2 (no h2 fun xs => by intro z; cases z), b _ _ h3 (no h3 fun xs => by intro z; cases z), b.lagR (fun q m xs e => no e (fun ys => by intro z; cases z) m) h4⟩
theorem PenOf.lst {H : Hp} {p s : Addr} {b : Nat} (h : PenOf H p s b) : ∀ q ∈ [p], ∃ xs, H q = some (.lst xs) := fun q m => by
  obtain ⟨ns, n, r, h1, _⟩ := h
  rw [List.mem_singleton.mp m]
  exact ⟨_, h1⟩
theorem sort_one {ls ms ms' : List Lag} (h : SortOf ls ms) (k : SortOf ls ms') : ms = ms' := asc_one ltLag_irr ltLag_tr h.1 k.1 fun x => (h.2 x).trans (k.2 x).symm
theorem sortT_one {ts us us' : List (Str × Int)} (h : SortT ts us) (k : SortT ts us') : us = us' :=
  asc_one (lt := fun a b : Str × Int => ltS a.1 b.1) (fun a => ltS_irr a.1) (fun a b c => ltS_tr) h.1 k.1 fun x => (h.2.mem_iff).trans (k.2.mem_iff).symm
theorem log_small {z : Int} (h0 : -1000000 ≤ z) (h1 : z ≤ 1000000) : z.natAbs.log2 < 1920 := by
  have : z.natAbs.log2 < 64 := by
    by_cases c : z.natAbs = 0
    · rw [c]; decide
    · rw [Nat.log2_lt c]
      have : z.natAbs ≤ 1000000 := by omega
      exact Nat.lt_of_le_of_lt this (by decide)
  omega
theorem reprs_eq (z : Int) : (!decide (V.str (toString z) = V.str (toString z))) = false := by simp
/-- all that is shown of one part's plan -/
structure PlanOk (wd : Int) (ts us : List (Str × Int)) (ls ms : List Lag) : Prop where
  plan : isPlan wd ts ls = true
  nd : (ts.map (·.1)).Nodup
  cons : Cons wd (ts.map (·.1)) ls
  hw0 : 0 ≤ wd
  hw1 : wd ≤ 1000000
  st : SortT ts us
  sl : SortOf ls ms
  len : ts.length ≤ 60
  lln : ls.length ≤ 100
section
variable {wd : Int} {ts us : List (Str × Int)} {ls ms : List Lag}
theorem PlanOk.hm (o : PlanOk wd ts us ls ms) : ∀ l ∈ ls, l.1 ∈ nds (ts.map (·.1)) ∧ l.2.1 ∈ nds (ts.map (·.1)) ∧ l.1 ≠ l.2.1 := fun l m => isLag_mem (isPlan_lag o.plan l m)
theorem PlanOk.mem (o : PlanOk wd ts us ls ms) (x : Str) : x ∈ us.map (·.1) ↔ x ∈ ts.map (·.1) := (o.st.2.map (·.1)).mem_iff
theorem PlanOk.memN (o : PlanOk wd ts us ls ms) {x : Str} : x ∈ nds (ts.map (·.1)) → x ∈ nodesOf ⟨wd, us, ms⟩ := fun m => by
  rcases List.mem_cons.mp m with q | q
  · rw [q]; exact List.mem_cons_self
  · exact List.mem_cons_of_mem _ ((o.mem x).mpr q)
theorem PlanOk.asc (o : PlanOk wd ts us ls ms) : ((⟨wd, us, ms⟩ : PlanD).ts.map (·.1)).Pairwise (fun a b => ltS a b = true) := by
  rw [List.pairwise_map]
  exact o.st.1
theorem PlanOk.mlen (o : PlanOk wd ts us ls ms) : ms.length ≤ 100 := Nat.le_trans (nodup_len ms ls (asc_nodup ltLag_irr o.sl.1) fun l m => (o.sl.2 l).mp m) o.lln
theorem PlanOk.ulen (o : PlanOk wd ts us ls ms) : us.length = ts.length := o.st.2.length_eq
theorem PlanOk.dist (o : PlanOk wd ts us ls ms) : Least wd (ts.map (·.1)) ls (get0 (distP ⟨wd, us, ms⟩).tot) ∧ ∀ a ∈ nds (ts.map (·.1)), ∀ b ∈ nds (ts.map (·.1)), look (distP ⟨wd, us, ms⟩).tot (a, b) = some (get0 (distP ⟨wd, us, ms⟩).tot a b) := by
  obtain ⟨d, hd⟩ := o.cons
  obtain ⟨h1, h2⟩ := dist_least (p := ⟨wd, us, ms⟩) (fun m => names_ne (isPlan_times o.plan) ((o.mem "").mp m)) (fun l m => by
    have := o.hm l ((o.sl.2 l).mp m)
    exact ⟨o.memN this.1, o.memN this.2.1, this.2.2⟩) ⟨d, hd.congr (fun x m => (o.mem x).mp m) fun l m => (o.sl.2 l).mp m⟩
  exact ⟨h1.congr (fun x => (o.mem x).symm) fun l => (o.sl.2 l).symm, fun a ha b hb => h2 a (o.memN ha) b (o.memN hb)⟩
end
/-- distance(plan, a, b), by the way a law calls it -/
theorem c_distance {H : Hp} {Q : VK} {E : XK} {x : Addr} {wd : Int} {ts us : List (Str × Int)} {ls ms : List Lag} {a b : Str} (o : PlanOk wd ts us ls ms) (hl : ts.length ≤ 40) (hp : PlanAt K H x ⟨wd, us, ms⟩) (ha : a ∈ nds (ts.map (·.1))) (hb : b ∈ nds (ts.map (·.1)))
    (k : ∀ H', Same H H' → Q (.int (get0 (distP ⟨wd, us, ms⟩).tot a b)) H') : sp_distance K [.ref x, .str a, .str b] H Q E := by
  have hul := o.ulen
  have hml := o.mlen
  exact ⟨_, _, _, rfl, x, _, a, b, _, rfl, rfl, rfl, hp, o.memN ha, o.memN hb, o.asc, by show us.length < 60; omega, by show ms.length ≤ 1000; omega, o.dist.2 a ha b hb, k⟩
theorem pure_law (T : Tx K mg) (vs : List V) (H : Hp) (Q : VK) (E : XK) (h : sp_law K vs H Q E) : t_law P w K ⟨fun _ H1 => Q .non H1, Q, fun _ _ => False, fun _ _ => False⟩ (start nm_law vs) H := by
  obtain ⟨_, rfl, s, ns, rfl, hs, hl, k⟩ := h
  have hM := million
  unfold t_law
  walk_at "go"
  refine ⟨_, rfl, s, ns, rfl, hs, hl, fun H1 p s1 n1 hP1 => ?_⟩
  walk_at "go"
  refine c_rng1At (by omega) (by omega) ?_
  refine for_w walk_range (fun i σ' H' => ∃ v2 v3 v4 v5 v6 v7 v8 v9 v10, σ' = [some (.ref s), some (.ref p), v2, v3, v4, v5, v6, v7, v8, v9, v10, none, none] ∧ PenAt H' p (100 * i)) ⟨_, _, _, _, _, _, _, _, _, rfl, hP1⟩ (fun _ _ _ _ _ => trivial) ?_ ?_
  · rintro i x σ' H2 H2' hi ⟨v2, v3, v4, v5, v6, v7, v8, v9, v10, rfl, hP⟩ ⟨rfl, rfl⟩
    have hi' : i < 6 := hi
    show tSeq _ _ ⟨_, _, _, _⟩ [some (.ref s), some (.ref p), some (.int (0 + (i : Nat))), v3, v4, v5, v6, v7, v8, v9, v10, none, none] H2'
    refine c_seq (c_asgG ?_)
    walk_at "go"
    refine ⟨_, _, rfl, p, 100 * i, 6, rfl, rfl, hP, by omega, by omega, by omega, fun H3 q t l wd ts ls b3 e3 et hls hP3 hw0 hw1 hnd hlen hts hll hmem hok => ?_⟩
    refine c_gTup (SqT.of e3) rfl (c_g3 ?_)
    show tSeq _ _ ⟨_, _, _, _⟩ [some (.ref s), some (.ref p), some (.int (0 + (i : Nat))), some (.int wd), some (.ref t), some (.ref l), v6, v7, v8, v9, v10, none, none] H3
    have hn : ("" : Str) ∉ ts.map (·.1) := fun m => by
      obtain ⟨e, he, q⟩ := List.mem_map.mp m
      exact no_pool11 (q ▸ (hts e he).1)
    have hmem3 : ∀ l ∈ ls, l.1 ∈ nds (ts.map (·.1)) ∧ l.2.1 ∈ nds (ts.map (·.1)) ∧ l.1 ≠ l.2.1 := fun l m => ⟨(hmem l m).1, (hmem l m).2.1, (hmem l m).2.2.1⟩
    have hmem2 : ∀ l ∈ ls, l.1 ∈ nds (ts.map (·.1)) ∧ l.2.1 ∈ nds (ts.map (·.1)) := fun l m => ⟨(hmem l m).1, (hmem l m).2.1⟩
    have hcons := cons_of hw0 hn hmem3 hok
    have hfar := cons_farOk hw0 hmem2 hcons
    have hplan : isPlan wd ts ls = true := isPlan_of hw0 hw1 (fun e m => ⟨name_pool11 _ (hts e m).1, (hts e m).2⟩) fun l m => by
      obtain ⟨d, hd⟩ := hcons
      have := hd.gap hw0 hmem2 l m
      exact ⟨(hmem l m).1, (hmem l m).2.1, (hmem l m).2.2.1, (hmem l m).2.2.2, by omega⟩
    have hxl : (ts.map (·.1)).length = ts.length := List.length_map ..
    walk_at "go"
    refine c_made fun y dy H4 n4 s4 e4 => ?_
    refine ⟨_, _, _, _, rfl, y, dy, wd, t, l, ts, ls, rfl, rfl, rfl, rfl, e4, s4 _ _ et, by omega, (hls.same s4).seq, by omega, hplan, hnd, hcons, fun H5 us ms b5 pl so sm => ⟨rfl, ?_⟩⟩
    have ok : PlanOk wd ts us ls ms := ⟨hplan, hnd, hcons, hw0, hw1, so, sm, by omega, by omega⟩
    have s35 : Same H3 H5 := But.toSame s4 b5 fun c m => by rw [List.mem_singleton.mp m]; exact n4
    walk_at "go"
    refine c_listD' (s35 _ _ et) fun q6 H6 n6 s6 e6 => ?_
    have ek : (dSI ts).map (fun kv => kV kv.1) = (ts.map (·.1)).map V.str := by
      unfold dSI
      rw [List.map_map, List.map_map]
      rfl
    rw [ek] at e6
    walk_at "go"
    refine ⟨_, _, _, rfl, q6, (ts.map fun e : Str × Int => e.1), wd, l, ls, rfl, rfl, rfl, e6, by omega, hls.same (s35.trans s6), by omega, hmem2, (fun f => absurd (f.symm.trans hfar) Bool.false_ne_true), fun _ q7 H7 n7 s7 e7 => ?_⟩
    have s37 := s35.trans (s6.trans s7)
    walk_at "go"
    refine c_nl rfl fun q8 H8 n8 s8 e8 => ?_
    walk_at "go"
    refine c_sortD' (s8 _ _ (s37 _ _ et)) (by omega) hnd fun q9 H9 ys n9 s9 e9 pm asc => ?_
    have hyl : ys.length = ts.length := by rw [pm.length_eq, hxl]
    refine c_cat (s9 _ _ e8) e9 (by rw [List.length_map, hyl]; show 1 + ts.length ≤ sizeLine; omega) fun q10 H10 n10 s10 e10 => ?_
    have e10' : H10 q10 = some (.lst (((("" : Str) :: ys : List Str)).map V.str)) := e10
    have s710 := s8.trans (s9.trans s10)
    have efar : H10 q7 = some (.dT (dPI (far (ts.map (·.1)) wd ls))) := s710 _ _ e7
    have pl10 := pl.same (s6.trans (s7.trans s710))
    have hP10 : PenAt H10 p (100 * i + 100) := (hP3.same s37).same s710
    have t10 := s710 _ _ (s37 _ _ et)
    have l10 := (hls.same s37).same s710
    clear e8 e9 e6 e7 e4 s8 s9 s10 s710 s37 s6 s7 s4 s35 pl b5 n4 n6 n7 n8 n9 n10 e3
    have memY : ∀ a ∈ ("" :: ys : List Str), a ∈ nds (ts.map (·.1)) := fun a m => by
      rcases List.mem_cons.mp m with q | q
      · rw [q]; exact List.mem_cons_self
      · exact List.mem_cons_of_mem _ (pm.mem_iff.mp q)
    have fl := far_least hw0 hn hmem3 hfar
    have same : ∀ a ∈ nds (ts.map (·.1)), ∀ b ∈ nds (ts.map (·.1)), get0 (distP ⟨wd, us, ms⟩).tot a b = get0 (far (ts.map (·.1)) wd ls) a b := fun a ha b hb => ok.dist.1.one (fun _ => Iff.rfl) (fun _ => Iff.rfl) fl a ha b hb
    have bnd : ∀ a ∈ nds (ts.map (·.1)), ∀ b ∈ nds (ts.map (·.1)), -1000000 ≤ get0 (far (ts.map (·.1)) wd ls) a b ∧ get0 (far (ts.map (·.1)) wd ls) a b ≤ 1000000 := fun a ha b hb => by
      have h1 := fl.pot.lo hw0 a ha b hb
      have h2 := fl.pot.hi hw0 a ha b hb
      unfold baseV at h1
      split at h1 <;> omega
    walk_at "go"
    refine c_iListAt (SqL.of e10') ?_
    refine for_w (walk_list (xs := (("" : Str) :: ys).map V.str)) (fun _ σ' H' => ∃ v9 v10, σ' = [some (.ref s), some (.ref p), some (.int (0 + (i : Nat))), some (.int wd), some (.ref t), some (.ref l), some (.ref y), some (.ref q7), some (.ref q10), v9, v10, none, none] ∧ Same H10 H') ⟨_, _, rfl, Same.refl _⟩ (fun _ _ H' _ ⟨_, _, _, e⟩ => e.seq (SqL.of e10')) ?_ ?_
    · rintro j v σ' H11 H11' hj ⟨v9, v10, rfl, s11⟩ ⟨rfl, hv⟩
      rw [List.getElem?_map] at hv
      cases ha : ("" :: ys : List Str)[j]? with
      | none => rw [ha] at hv; cases hv
      | some a =>
        rw [ha] at hv
        cases hv
        have ham := memY a (List.mem_of_getElem? ha)
        show tFor _ _ _ ⟨_, _, _, _⟩ [some (.ref s), some (.ref p), some (.int (0 + (i : Nat))), some (.int wd), some (.ref t), some (.ref l), some (.ref y), some (.ref q7), some (.ref q10), some (.str a), v10, none, none] H11'
        walk_at "go"
        refine c_iListAt (s11.seq (SqL.of e10')) ?_
        refine for_w (walk_list (xs := (("" : Str) :: ys).map V.str)) (fun _ σ' H' => ∃ v10, σ' = [some (.ref s), some (.ref p), some (.int (0 + (i : Nat))), some (.int wd), some (.ref t), some (.ref l), some (.ref y), some (.ref q7), some (.ref q10), some (.str a), v10, none, none] ∧ Same H10 H') ⟨_, rfl, s11⟩ (fun _ _ H' _ ⟨_, _, e⟩ => e.seq (SqL.of e10')) ?_ ?_
        · rintro n v σ' H12 H12' hn' ⟨v10, rfl, s12⟩ ⟨rfl, hv⟩
          rw [List.getElem?_map] at hv
          cases hb : ("" :: ys : List Str)[n]? with
          | none => rw [hb] at hv; cases hv
          | some b =>
            rw [hb] at hv
            cases hv
            have hbm := memY b (List.mem_of_getElem? hb)
            show tIfS _ _ _ ⟨_, _, _, _⟩ [some (.ref s), some (.ref p), some (.int (0 + (i : Nat))), some (.int wd), some (.ref t), some (.ref l), some (.ref y), some (.ref q7), some (.ref q10), some (.str a), some (.str b), none, none] H12'
            have bb := bnd a ham b hbm
            walk_at "go"
            refine c_distance ok (by omega) (pl10.same s12) ham hbm fun H13 s13 => ?_
            rw [same a ham b hbm]
            walk_at "go"
            refine c_reprI' (log_small bb.1 bb.2) ?_
            walk_at "go"
            refine c_nl rfl fun q14 H14 n14 s14 e14 => ?_
            have s1014 := s12.trans (s13.trans s14)
            refine c_getT (k := kP (a, b)) (s1014 _ _ efar) e14 (val_get0 (by rw [far_get ham hbm]; rfl)) ?_
            walk_at "go"
            refine c_reprI' (log_small bb.1 bb.2) ?_
            walk_at "go"
            rw [reprs_eq]
            walk_at "go"
            exact ⟨_, rfl, s1014⟩
        · rintro σ' H12 ⟨v10, rfl, s12⟩
          exact ⟨_, _, rfl, s12⟩
    · rintro σ' H11 ⟨v9, v10, rfl, s11⟩
      walk_at "go"
      refine c_made fun z dz H12 n12 s12 e12 => ?_
      have s1012 := s11.trans s12
      refine ⟨_, _, _, _, rfl, z, dz, wd, t, l, ts, ls, rfl, rfl, rfl, rfl, e12, s1012 _ _ t10, by omega, (l10.same s1012).seq, by omega, hplan, hnd, hcons, fun H13 us' ms' b13 pl' so' sm' => ⟨rfl, ?_⟩⟩
      have s1013 : Same H11 H13 := But.toSame s12 b13 fun c m => by rw [List.mem_singleton.mp m]; exact n12
      have eu := sortT_one so so'
      have em := sort_one sm sm'
      subst eu
      subst em
      have plA := pl10.same (s11.trans s1013)
      obtain ⟨da, bn, ol, xs1, i1, _⟩ := id plA
      obtain ⟨db, bn2, ol2, xs2, i2, _⟩ := id pl'
      refine ⟨y, z, da, db, _, _, rfl, rfl, i1, i2, _, _, rfl, y, z, _, _, rfl, rfl, plA, pl', rfl, asc_nodup ltS_irr ok.asc, fun H14 s14 => ⟨true, rfl, ?_⟩⟩
      rw [show (!true) = false from rfl]
      walk_at "go"
      exact ⟨_, _, _, _, _, _, _, _, _, rfl, (hP10.same (s11.trans (s1013.trans s14))).mono (by omega)⟩
  · rintro σ' H2 ⟨v2, v3, v4, v5, v6, v7, v8, v9, v10, rfl, hP⟩
    refine c_seq (c_asgG ?_)
    walk_at "go"
    refine ⟨_, rfl, p, _, rfl, hP, by decide, fun H3 q l m y xs ss pl b3 e3 el em hpl hP3 hxl hnd hsl asc hl60 hl1000 hmem hdist => ?_⟩
    refine c_gTup (SqT.of e3) rfl (c_g3 ?_)
    obtain ⟨s3, hP3⟩ := hP3
    have hlp : l ≠ p := strs_ne_pen el hP3
    have hmp : m ≠ p := fun z => by
      obtain ⟨ns, n, r, h1, _⟩ := id hP3
      rw [z, h1] at em
      cases ss with
      | nil => cases hsl
      | cons a r => injection em with em; injection em with em; cases em
    show tSeq _ _ ⟨_, _, _, _⟩ [some (.ref s), some (.ref p), v2, v3, v4, v5, some (.ref y), v7, v8, v9, v10, some (.ref l), some (.ref m)] H3
    walk_at "go"
    refine ⟨_, _, rfl, p, s3, _, 3, rfl, rfl, hP3, by decide, by omega, by omega, fun H4 d4 b4 hP4 d40 d41 => ?_⟩
    walk_at "go"
    refine ⟨_, _, rfl, p, s3, _, 9, rfl, rfl, hP4, by decide, by omega, by omega, fun H5 d5 b5 hP5 d50 d51 => ?_⟩
    walk_at "go"
    refine ⟨_, _, rfl, p, s3, _, 9, rfl, rfl, hP5, by decide, by omega, by omega, fun H6 d6 b6 hP6 d60 d61 => ?_⟩
    walk_at "go"
    refine c_nl rfl fun q7 H7 n7 s7 e7 => ?_
    have hpl7 := (((hpl.butL b4 hP3.lst).butL b5 hP4.lst).butL b6 hP5.lst).same s7
    have el7 := s7 _ _ (b6 _ _ (b5 _ _ (b4 _ _ el (not1 hlp)) (not1 hlp)) (not1 hlp))
    have em7 := s7 _ _ (b6 _ _ (b5 _ _ (b4 _ _ em (not1 hmp)) (not1 hmp)) (not1 hmp))
    refine c_iTupAt (SqT.of e7) ?_
    refine for_w (walk_tup (xs := [.int 29, .int (28 - d5), .int (8 + d6)])) (fun _ σ' H' => ∃ v10, σ' = [some (.ref s), some (.ref p), v2, v3, v4, v5, some (.ref y), v7, v8, some (.int d4), v10, some (.ref l), some (.ref m)] ∧ Same H7 H') ⟨_, rfl, Same.refl _⟩ (fun _ _ H' _ ⟨_, _, e⟩ => SqT.of (e _ _ e7)) ?_ ?_
    · rintro n v σ' H8 H8' hn' ⟨v10, rfl, s8⟩ ⟨rfl, hv⟩
      have hval : ∃ o : Nat, v = .int (o : Int) ∧ 8 ≤ o ∧ o < 30 := by
        match n, hv with
        | 0, hv => cases hv; exact ⟨29, rfl, by omega, by omega⟩
        | 1, hv => cases hv; exact ⟨(28 - d5).toNat, by rw [Int.toNat_of_nonneg (by omega)], by omega, by omega⟩
        | 2, hv => cases hv; exact ⟨(8 + d6).toNat, by rw [Int.toNat_of_nonneg (by omega)], by omega, by omega⟩
        | n + 3, hv => cases hv
      obtain ⟨o, rfl, ho0, ho1⟩ := hval
      obtain ⟨d, rfl⟩ : ∃ d : Nat, d4 = (d : Int) := ⟨d4.toNat, by omega⟩
      obtain ⟨xa, hxa⟩ : ∃ x, xs[d]? = some x := ⟨_, List.getElem?_eq_getElem (by omega)⟩
      obtain ⟨xb, hxb⟩ : ∃ x, xs[o]? = some x := ⟨_, List.getElem?_eq_getElem (by omega)⟩
      obtain ⟨sa, hsa⟩ : ∃ x, ss[d]? = some x := ⟨_, List.getElem?_eq_getElem (by omega)⟩
      obtain ⟨sb, hsb⟩ : ∃ x, ss[o]? = some x := ⟨_, List.getElem?_eq_getElem (by omega)⟩
      show tIfS _ _ _ ⟨_, _, _, _⟩ [some (.ref s), some (.ref p), v2, v3, v4, v5, some (.ref y), v7, v8, some (.int (d : Int)), some (.int (o : Int)), some (.ref l), some (.ref m)] H8'
      walk_at "go"
      refine c_ixL (SqL.of (s8 _ _ el7)) (by rw [atI_nat, strs_at hxa]) ?_
      walk_at "go"
      refine c_ixL (SqL.of (s8 _ _ el7)) (by rw [atI_nat, strs_at hxb]) ?_
      walk_at "go"
      refine ⟨_, _, _, rfl, y, pl, xa, xb, _, rfl, rfl, rfl, hpl7.same s8, hmem _ (List.mem_of_getElem? hxa), hmem _ (List.mem_of_getElem? hxb), asc, hl60, hl1000, hdist d o xa xb sa sb (by omega) hxa hxb hsa hsb, fun H9 s9 => ?_⟩
      have s79 := s8.trans s9
      walk_at "go"
      refine c_ixL (SqL.of (s79 _ _ em7)) (by rw [atI_nat, ints_at hsb]) ?_
      walk_at "go"
      refine c_ixL (SqL.of (s79 _ _ em7)) (by rw [atI_nat, ints_at hsa]) ?_
      walk_at "go"
      rw [show (!decide (V.int (sb - sa) = V.int (sb - sa))) = false by simp]
      walk_at "go"
      exact ⟨_, rfl, s79⟩
    · rintro σ' H8 ⟨v10, rfl, s8⟩
      walk_at "go"
      refine c_nw fun q9 H9 n9 s9 e9 => ?_
      walk_at "go"
      refine c_made fun y2 dy H10 n10 s10 e10 => ?_
      have hcons : Cons 0 (([] : List (Str × Int)).map (·.1)) [] := cons_nil (Int.le_refl _)
      refine ⟨_, _, _, _, rfl, y2, dy, 0, q9, _, [], [], rfl, rfl, rfl, rfl, e10, s10 _ _ e9, by decide, ?_, by decide, rfl, List.nodup_nil, hcons, fun H11 us ms b11 pl2 so sm => ⟨rfl, ?_⟩⟩
      · exact ⟨[], .inr (T.emp_Plan_init _), .nil⟩
      have ok : PlanOk 0 [] us [] ms := ⟨rfl, List.nodup_nil, hcons, Int.le_refl _, by omega, so, sm, by decide, by decide⟩
      walk_at "go"
      refine c_distance ok (by decide) pl2 List.mem_cons_self List.mem_cons_self fun H12 s12 => ?_
      rw [ok.dist.1.pot.dia "" List.mem_cons_self]
      walk_at "go"
      exact k H12

end
end Rt
end
section
set_option maxHeartbeats 4000000
namespace Rt
open PySem PySem.Spec PyProof.Rows L2
section
variable {P : Program} {w : World} {K : PySem.W.Frag} {mg : Str → Option Value} {base : Heap}
theorem pss_is_integer (T : Tx K mg) {f : Addr} {cdv : Value} {A : Around} {outer : List Env} {s : Shared} {H : Hp} {E : XK} (hr : Room 0 (A.deeper (envOfC "is_integer" (defScope s_is_integer) s.heap.objs.size f cdv))) :
    PSs (cxOf CX0 P w K mg base nm_is_integer "is_integer" (defScope s_is_integer) f cdv A outer s H E).nox (defBody s_is_integer) (t_is_integer P w K) :=
  pss_one (ps_ret (pe_and (pe_callB (call_isi) (by rfl) T.free_isinstance (by decide +kernel) (pa_cons (pv 0) (pa_cons (pe_bltn (by rfl) T.free_int (by decide +kernel) rfl) (pa_nil)))) (pe_and (pe_not (pe_callB (call_isi) (by rfl) T.free_isinstance (by decide +kernel) (pa_cons (pv 0) (pa_cons (pe_bltn (by rfl) T.free_bool (by decide +kernel) rfl) (pa_nil))))) (pe_one (pe_chain o_le o_le (pv 1) (pv 0) (pv 2))))))
theorem cal_is_integer (T : Tx K mg) : Cal CX0 P w K mg base 1 "is_integer" (sp_is_integer K) [] := by
  obtain ⟨fd, F⟩ := T.says.def_ 0 (d := d_is_integer) rfl
  exact ⟨_, fd, pr_is_integer, [], F.ok sc_is_integer (fun vs H Q E h => len3 h) (fun cdv A outer s H vs Q E hr h => ⟨t_is_integer P w K, PSs.nox (pss_is_integer T hr), pure_is_integer T vs H Q E h⟩), T.glo_is_integer, F.kp, F.bindsN fun _ _ _ _ _ _ us hl => match us, hl with | [_, _, _], _ => rfl, .nil⟩
theorem pss_is_name (T : Tx K mg) {f : Addr} {cdv : Value} {A : Around} {outer : List Env} {s : Shared} {H : Hp} {E : XK} (hr : Room 0 (A.deeper (envOfC "is_name" (defScope s_is_name) s.heap.objs.size f cdv))) :
    PSs (cxOf CX0 P w K mg base nm_is_name "is_name" (defScope s_is_name) f cdv A outer s H E).nox (defBody s_is_name) (t_is_name P w K) :=
  pss_one (ps_ret (pe_and (pe_callB (call_isi) (by rfl) T.free_isinstance (by decide +kernel) (pa_cons (pv 0) (pa_cons (pe_bltn (by rfl) T.free_str (by decide +kernel) rfl) (pa_nil)))) (pe_and (pe_chain o_le o_le (pe_int) (pe_callB (c_lenS) (by rfl) T.free_len (by decide +kernel) (pa_cons (pv 0) (pa_nil))) (C8.pe_gc rfl (T.int_MAX_NAME))) (pe_one (pe_callB (cr_all rfl) (by rfl) T.free_all (by decide +kernel) (pa_cons (pe_lc (own := [("sign", 1)]) (g := gName 1) (tt := tYes) rfl sc_is_name.nd (pi_str (pv 0)) (blkOk_by (N := nm_is_name) (sc := defScope s_is_name) (by decide +kernel)) (fun _ _ _ _ _ => pg_name (i := 1) sc_is_name.nd rfl (Or.inl rfl)) (fun _ _ _ _ _ => pts_nil) (fun _ _ _ _ _ => pe_cmpR o_inSg (pv 1) (C8.pe_gc rfl (T.str_LETTERS)) (by rfl))) (pa_nil)))))))
theorem cal_is_name (T : Tx K mg) : Cal CX0 P w K mg base 1 "is_name" (sp_is_name K) [] := by
  obtain ⟨fd, F⟩ := T.says.def_ 1 (d := d_is_name) rfl
  exact ⟨_, fd, pr_is_name, [], F.ok sc_is_name (fun vs H Q E h => len1 h) (fun cdv A outer s H vs Q E hr h => ⟨t_is_name P w K, PSs.nox (pss_is_name T hr), pure_is_name T vs H Q E h⟩), T.glo_is_name, F.kp, F.bindsN fun _ _ _ _ _ _ us hl => match us, hl with | [_], _ => rfl, .nil⟩
theorem pss_is_times (T : Tx K mg) {f : Addr} {cdv : Value} {A : Around} {outer : List Env} {s : Shared} {H : Hp} {E : XK} (hr : Room 1 (A.deeper (envOfC "is_times" (defScope s_is_times) s.heap.objs.size f cdv))) :
    PSs (cxOf CX0 P w K mg base nm_is_times "is_times" (defScope s_is_times) f cdv A outer s H E).nox (defBody s_is_times) (t_is_times P w K) :=
  pss_cons (ps_if (pt_not (pt_val (pe_callB (call_isi) (by rfl) T.free_isinstance (by decide +kernel) (pa_cons (pv 1) (pa_cons (pe_bltn (by rfl) T.free_dict (by decide +kernel) rfl) (pa_nil)))))) (pss_one (ps_ret (pe_bl))) (pss_nil)) (pss_one (ps_ret (pe_callB (cr_all rfl) (by rfl) T.free_all (by decide +kernel) (pa_cons (pe_lock (pe_lc (own := [("name", 2), ("time", 3)]) (g := gTup K 2 (gCons (gName 2) (gCons (gName 3) (gNil)))) (tt := tYes) rfl sc_is_times.nd (pi_items (pv 1)) (blkOk_by (N := nm_is_times) (sc := defScope s_is_times) (by decide +kernel)) (fun _ _ _ _ _ => pg_tup (by rfl) (pgs_cons (pg_name (i := 2) sc_is_times.nd rfl (Or.inl rfl)) (pgs_cons (pg_name (i := 3) sc_is_times.nd rfl (Or.inl rfl)) (pgs_nil)))) (fun _ _ _ _ _ => pts_nil) (fun _ _ _ _ _ => pe_and (pc_call (cal_is_name T) hr (by decide) pass0 rfl (pa_cons (pv 2) (pa_nil))) (pe_one (pc_call (cal_is_integer T) hr (by decide) pass0 rfl (pa_cons (pv 3) (pa_cons (pe_int) (pa_cons (pv 0) (pa_nil))))))))) (pa_nil)))))
theorem cal_is_times (T : Tx K mg) : Cal CX0 P w K mg base 2 "is_times" (sp_is_times K) [] := by
  obtain ⟨fd, F⟩ := T.says.def_ 2 (d := d_is_times) rfl
  exact ⟨_, fd, pr_is_times, [], F.ok sc_is_times (fun vs H Q E h => len2 h) (fun cdv A outer s H vs Q E hr h => ⟨t_is_times P w K, PSs.nox (pss_is_times T hr), pure_is_times T vs H Q E h⟩), T.glo_is_times, F.kp, F.bindsN fun _ _ _ _ _ _ us hl => match us, hl with | [_, _], _ => rfl, .nil⟩
theorem pss_is_node (T : Tx K mg) {f : Addr} {cdv : Value} {A : Around} {outer : List Env} {s : Shared} {H : Hp} {E : XK} (hr : Room 0 (A.deeper (envOfC "is_node" (defScope s_is_node) s.heap.objs.size f cdv))) :
    PSs (cxOf CX0 P w K mg base nm_is_node "is_node" (defScope s_is_node) f cdv A outer s H E).nox (defBody s_is_node) (t_is_node P w K) :=
  pss_one (ps_ret (pe_and (pe_callB (call_isi) (by rfl) T.free_isinstance (by decide +kernel) (pa_cons (pv 1) (pa_cons (pe_bltn (by rfl) T.free_str (by decide +kernel) rfl) (pa_nil)))) (pe_one (pe_or (pe_cmpR op_eq (pv 1) (C8.pe_gc rfl (T.str_ORIGIN)) (nomark _)) (pe_one (pe_cmp (pc_din (hu_of hr) (pv 1) (pv 0)) rfl))))))
theorem cal_is_node (T : Tx K mg) : Cal CX0 P w K mg base 1 "is_node" (sp_is_node K) [] := by
  obtain ⟨fd, F⟩ := T.says.def_ 3 (d := d_is_node) rfl
  exact ⟨_, fd, pr_is_node, [], F.ok sc_is_node (fun vs H Q E h => len2 h) (fun cdv A outer s H vs Q E hr h => ⟨t_is_node P w K, PSs.nox (pss_is_node T hr), pure_is_node T vs H Q E h⟩), T.glo_is_node, F.kp, F.bindsN fun _ _ _ _ _ _ us hl => match us, hl with | [_, _], _ => rfl, .nil⟩
theorem pss_is_lag (T : Tx K mg) {f : Addr} {cdv : Value} {A : Around} {outer : List Env} {s : Shared} {H : Hp} {E : XK} (hr : Room 1 (A.deeper (envOfC "is_lag" (defScope s_is_lag) s.heap.objs.size f cdv))) :
    PSs (cxOf CX0 P w K mg base nm_is_lag "is_lag" (defScope s_is_lag) f cdv A outer s H E).nox (defBody s_is_lag) (t_is_lag P w K) :=
  pss_cons (ps_if (PW.pt (pw_or (pt_not (pt_val (pe_callB (call_isi) (by rfl) T.free_isinstance (by decide +kernel) (pa_cons (pv 1) (pa_cons (pe_bltn (by rfl) T.free_tuple (by decide +kernel) rfl) (pa_nil)))))) (pw_or (pt_cmpR op_ne (pe_callB (call_len_seq) (by rfl) T.free_len (by decide +kernel) (pa_cons (pv 1) (pa_nil))) (pe_int) (nomark _)) (pw_or1 (pt_not (pt_val (pc_call (cal_is_integer T) hr (by decide) pass0 rfl (pa_cons (pe_ix ix_tup (pv 1) (pe_int) (fun _ _ => rfl)) (pa_cons (pe_un u_neg (C8.pe_gc rfl (T.int_MAX_GAP))) (pa_cons (C8.pe_gc rfl (T.int_MAX_GAP)) (pa_nil))))))))))) (pss_one (ps_ret (pe_bl))) (pss_nil)) (pss_one (ps_ret (pe_and (pc_call (cal_is_node T) hr (by decide) pass0 rfl (pa_cons (pv 0) (pa_cons (pe_ix ix_tup (pv 1) (pe_int) (fun _ _ => rfl)) (pa_nil)))) (pe_and (pc_call (cal_is_node T) hr (by decide) pass0 rfl (pa_cons (pv 0) (pa_cons (pe_ix ix_tup (pv 1) (pe_int) (fun _ _ => rfl)) (pa_nil)))) (pe_one (pe_cmpR op_ne (pe_ix ix_tup (pv 1) (pe_int) (fun _ _ => rfl)) (pe_ix ix_tup (pv 1) (pe_int) (fun _ _ => rfl)) (nomark _)))))))
theorem cal_is_lag (T : Tx K mg) : Cal CX0 P w K mg base 2 "is_lag" (sp_is_lag K) [] := by
  obtain ⟨fd, F⟩ := T.says.def_ 4 (d := d_is_lag) rfl
  exact ⟨_, fd, pr_is_lag, [], F.ok sc_is_lag (fun vs H Q E h => len2 h) (fun cdv A outer s H vs Q E hr h => ⟨t_is_lag P w K, PSs.nox (pss_is_lag T hr), pure_is_lag T vs H Q E h⟩), T.glo_is_lag, F.kp, F.bindsN fun _ _ _ _ _ _ us hl => match us, hl with | [_, _], _ => rfl, .nil⟩
theorem pss_is_plan (T : Tx K mg) {f : Addr} {cdv : Value} {A : Around} {outer : List Env} {s : Shared} {H : Hp} {E : XK} (hr : Room 2 (A.deeper (envOfC "is_plan" (defScope s_is_plan) s.heap.objs.size f cdv))) :
    PSs (cxOf CX0 P w K mg base nm_is_plan "is_plan" (defScope s_is_plan) f cdv A outer s H E).nox (defBody s_is_plan) (t_is_plan P w K) :=
  pss_cons (ps_if (PW.pt (pw_or (pt_not (pt_val (pc_call (cal_is_integer T) hr (by decide) pass0 rfl (pa_cons (pv 0) (pa_cons (pe_int) (pa_cons (C8.pe_gc rfl (T.int_MAX_HORIZON)) (pa_nil))))))) (pw_or1 (pt_not (pt_val (pc_call (cal_is_times T) hr (by decide) pass0 rfl (pa_cons (pv 0) (pa_cons (pv 1) (pa_nil))))))))) (pss_one (ps_ret (pe_bl))) (pss_nil)) (pss_one (ps_ret (pe_and (pe_callB (call_isiT) (by rfl) T.free_isinstance (by decide +kernel) (pa_cons (pv 2) (pa_cons (pe_tup (pa_cons (pe_bltn (by rfl) T.free_tuple (by decide +kernel) rfl) (pa_cons (pe_bltn (by rfl) T.free_list (by decide +kernel) rfl) (pa_nil)))) (pa_nil)))) (pe_one (pe_callB (cr_all rfl) (by rfl) T.free_all (by decide +kernel) (pa_cons (pe_lc (own := [("lag", 3)]) (g := gName 3) (tt := tYes) rfl sc_is_plan.nd (pi_sq (pv 2)) (blkOk_by (N := nm_is_plan) (sc := defScope s_is_plan) (by decide +kernel)) (fun _ _ _ _ _ => pg_name (i := 3) sc_is_plan.nd rfl (Or.inl rfl)) (fun _ _ _ _ _ => pts_nil) (fun _ _ _ _ _ => pc_call (cal_is_lag T) hr (by decide) pass0 rfl (pa_cons (pv 1) (pa_cons (pv 3) (pa_nil))))) (pa_nil)))))))
theorem cal_is_plan (T : Tx K mg) : Cal CX0 P w K mg base 3 "is_plan" (sp_is_plan K) [] := by
  obtain ⟨fd, F⟩ := T.says.def_ 5 (d := d_is_plan) rfl
  exact ⟨_, fd, pr_is_plan, [], F.ok sc_is_plan (fun vs H Q E h => len3 h) (fun cdv A outer s H vs Q E hr h => ⟨t_is_plan P w K, PSs.nox (pss_is_plan T hr), pure_is_plan T vs H Q E h⟩), T.glo_is_plan, F.kp, F.bindsN fun _ _ _ _ _ _ us hl => match us, hl with | [_, _, _], _ => rfl, .nil⟩
theorem pss_greatest_gaps (T : Tx K mg) {f : Addr} {cdv : Value} {A : Around} {outer : List Env} {s : Shared} {H : Hp} {E : XK} (hr : Room 0 (A.deeper (envOfC "greatest_gaps" (defScope s_greatest_gaps) s.heap.objs.size f cdv))) :
    PSs (cxOf CX0 P w K mg base nm_greatest_gaps "greatest_gaps" (defScope s_greatest_gaps) f cdv A outer s H E).nox (defBody s_greatest_gaps) (t_greatest_gaps P w K) :=
  pss_cons (ps_set (i := 3) sc_greatest_gaps.nd rfl (Or.inl rfl) (pe_dnewT)) (pss_cons (ps_lock (ps_for PassesOwn.never rfl (pi_keys (pv 1)) (pg_name (i := 4) sc_greatest_gaps.nd rfl (Or.inl rfl)) (pss_cons (ps_dput (hu_of hr) (pv 3) (pe_tup (pa_cons (C8.pe_gc rfl (T.str_ORIGIN)) (pa_cons (pv 4) (pa_nil)))) (pe_int) rfl) (pss_one (ps_dput (hu_of hr) (pv 3) (pe_tup (pa_cons (pv 4) (pa_cons (C8.pe_gc rfl (T.str_ORIGIN)) (pa_nil)))) (pe_un u_neg (pv 0)) rfl))))) (pss_cons (ps_for PassesOwn.never rfl (pi_sq (pv 2)) (pg_tup (by rfl) (pgs_cons (pg_name (i := 5) sc_greatest_gaps.nd rfl (Or.inl rfl)) (pgs_cons (pg_name (i := 6) sc_greatest_gaps.nd rfl (Or.inl rfl)) (pgs_cons (pg_name (i := 7) sc_greatest_gaps.nd rfl (Or.inl rfl)) (pgs_nil))))) (pss_one (ps_dput (hu_of hr) (pv 3) (pe_tup (pa_cons (pv 5) (pa_cons (pv 6) (pa_nil)))) (pe_callB (c_max2 rfl) (by rfl) T.free_max (by decide +kernel) (pa_cons (pv 7) (pa_cons (pe_dget2 (hu_of hr) (pv 3) (pe_tup (pa_cons (pv 5) (pa_cons (pv 6) (pa_nil)))) (pv 7) ⟨rfl, rfl, rfl, rfl⟩) (pa_nil)))) rfl))) (pss_one (ps_ret (pv 3)))))
theorem cal_greatest_gaps (T : Tx K mg) : Cal CX0 P w K mg base 1 "greatest_gaps" (sp_greatest_gaps K) [] := by
  obtain ⟨fd, F⟩ := T.says.def_ 6 (d := d_greatest_gaps) rfl
  exact ⟨_, fd, pr_greatest_gaps, [], F.ok sc_greatest_gaps (fun vs H Q E h => len3 h) (fun cdv A outer s H vs Q E hr h => ⟨t_greatest_gaps P w K, PSs.nox (pss_greatest_gaps T hr), pure_greatest_gaps T vs H Q E h⟩), T.glo_greatest_gaps, F.kp, F.bindsN fun _ _ _ _ _ _ us hl => match us, hl with | [_, _, _], _ => rfl, .nil⟩
theorem pss_raise_totals (T : Tx K mg) {f : Addr} {cdv : Value} {A : Around} {outer : List Env} {s : Shared} {H : Hp} {E : XK} (hr : Room 0 (A.deeper (envOfC "raise_totals" (defScope s_raise_totals) s.heap.objs.size f cdv))) :
    PSs (cxOf CX0 P w K mg base nm_raise_totals "raise_totals" (defScope s_raise_totals) f cdv A outer s H E).nox (defBody s_raise_totals) (t_raise_totals P w K) :=
  pss_cons (ps_set (i := 3) sc_raise_totals.nd rfl (Or.inl rfl) (pe_non)) (pss_cons (ps_lock (ps_for PassesOwn.never rfl (pi_itemsT (pv 0)) (pg_tup (by rfl) (pgs_cons (pg_tup (by rfl) (pgs_cons (pg_name (i := 4) sc_raise_totals.nd rfl (Or.inl rfl)) (pgs_cons (pg_name (i := 5) sc_raise_totals.nd rfl (Or.inl rfl)) (pgs_nil)))) (pgs_cons (pg_name (i := 6) sc_raise_totals.nd rfl (Or.inl rfl)) (pgs_nil)))) (pss_one (ps_if (pt_cmpR o_gt (pe_op o_add (pe_dget (hu_of hr) (pv 1) (pv 4) (fun _ _ => rfl)) (pv 6)) (pe_dget (hu_of hr) (pv 1) (pv 5) (fun _ _ => rfl)) (nomark _)) (pss_cons (ps_dput (hu_of hr) (pv 1) (pv 5) (pe_op o_add (pe_dget (hu_of hr) (pv 1) (pv 4) (fun _ _ => rfl)) (pv 6)) rfl) (pss_cons (ps_dput (hu_of hr) (pv 2) (pv 5) (pv 4) rfl) (pss_one (ps_set (i := 3) sc_raise_totals.nd rfl (Or.inl rfl) (pv 5))))) (pss_nil))))) (pss_one (ps_ret (pv 3))))
theorem cal_raise_totals (T : Tx K mg) : Cal CX0 P w K mg base 1 "raise_totals" (sp_raise_totals K) [] := by
  obtain ⟨fd, F⟩ := T.says.def_ 7 (d := d_raise_totals) rfl
  exact ⟨_, fd, pr_raise_totals, [], F.ok sc_raise_totals (fun vs H Q E h => len3 h) (fun cdv A outer s H vs Q E hr h => ⟨t_raise_totals P w K, PSs.nox (pss_raise_totals T hr), pure_raise_totals T vs H Q E h⟩), T.glo_raise_totals, F.kp, F.bindsN fun _ _ _ _ _ _ us hl => match us, hl with | [_, _, _], _ => rfl, .nil⟩
theorem pss_cycle_behind (T : Tx K mg) {f : Addr} {cdv : Value} {A : Around} {outer : List Env} {s : Shared} {H : Hp} {E : XK} (hr : Room 0 (A.deeper (envOfC "cycle_behind" (defScope s_cycle_behind) s.heap.objs.size f cdv))) :
    PSs (cxOf CX0 P w K mg base nm_cycle_behind "cycle_behind" (defScope s_cycle_behind) f cdv A outer s H E).nox (defBody s_cycle_behind) (t_cycle_behind P w K) :=
  pss_cons (ps_for PassesOwn.never rfl (pi_range1 (by rfl) T.free_range (pa_cons (pe_callB (c_lenD) (by rfl) T.free_len (by decide +kernel) (pa_cons (pv 0) (pa_nil))) (pa_nil))) (pg_name (i := 2) sc_cycle_behind.nd rfl (Or.inl rfl)) (pss_one (ps_set (i := 1) sc_cycle_behind.nd rfl (Or.inl rfl) (pe_dget (hu_of hr) (pv 0) (pv 1) (fun _ _ => rfl))))) (pss_cons (ps_set (i := 3) sc_cycle_behind.nd rfl (Or.inl rfl) (pe_lst (pa_cons (pv 1) (pa_nil)))) (pss_cons (ps_while PassesOwn.never (pt_cmpR op_ne (pe_dget (hu_of hr) (pv 0) (pe_ix ix_list (pv 3) (pe_un u_neg (pe_int)) (fun _ _ => rfl)) (fun _ _ => rfl)) (pv 1) (nomark _)) (pss_one (ps_expr (pe_bm PySem.F.plainAttrs_list PySem.F.slot_list_append PySem.F.type_list_append mt_append (pv 3) (pa_cons (pe_dget (hu_of hr) (pv 0) (pe_ix ix_list (pv 3) (pe_un u_neg (pe_int)) (fun _ _ => rfl)) (fun _ _ => rfl)) (pa_nil)))))) (pss_one (ps_ret (pe_callTy (c_tupOf) (by rfl) T.free_tuple (by decide +kernel) (pa_cons (pe_revL (pv 3)) (pa_nil)))))))
theorem cal_cycle_behind (T : Tx K mg) : Cal CX0 P w K mg base 1 "cycle_behind" (sp_cycle_behind K) [] := by
  obtain ⟨fd, F⟩ := T.says.def_ 8 (d := d_cycle_behind) rfl
  exact ⟨_, fd, pr_cycle_behind, [], F.ok sc_cycle_behind (fun vs H Q E h => len2 h) (fun cdv A outer s H vs Q E hr h => ⟨t_cycle_behind P w K, PSs.nox (pss_cycle_behind T hr), pure_cycle_behind T vs H Q E h⟩), T.glo_cycle_behind, F.kp, F.bindsN fun _ _ _ _ _ _ us hl => match us, hl with | [_, _], _ => rfl, .nil⟩
theorem pss_positive_cycle (T : Tx K mg) {f : Addr} {cdv : Value} {A : Around} {outer : List Env} {s : Shared} {H : Hp} {E : XK} (hr : Room 1 (A.deeper (envOfC "positive_cycle" (defScope s_positive_cycle) s.heap.objs.size f cdv))) :
    PSs (cxOf CX0 P w K mg base nm_positive_cycle "positive_cycle" (defScope s_positive_cycle) f cdv A outer s H E).nox (defBody s_positive_cycle) (t_positive_cycle P w K) :=
  pss_cons (ps_set (i := 3) sc_positive_cycle.nd rfl (Or.inl rfl) (pc_call (cal_greatest_gaps T) hr (by decide) pass0 rfl (pa_cons (pv 0) (pa_cons (pv 1) (pa_cons (pv 2) (pa_nil)))))) (pss_cons (ps_setDc (i := 4) (own := [("node", 8)]) (g := gName 8) (tt := tYes) rfl sc_positive_cycle.nd rfl rfl (sw_dict rfl rfl rfl (by decide +kernel)) (pi_list (pe_op op_cat (pe_lst (pa_cons (C8.pe_gc rfl (T.str_ORIGIN)) (pa_nil))) (pe_callTy (c_listD rfl) (by rfl) T.free_list (by decide +kernel) (pa_cons (pv 1) (pa_nil))))) (blkOk_by (N := nm_positive_cycle) (sc := defScope s_positive_cycle) (by decide +kernel)) (fun _ _ _ _ _ => pg_name (i := 8) sc_positive_cycle.nd rfl (Or.inl rfl)) (fun _ _ _ _ _ => pts_nil) (fun _ _ _ _ _ => pv 8) (fun _ _ _ _ _ => pe_int)) (pss_cons (ps_set (i := 5) sc_positive_cycle.nd rfl (Or.inl rfl) (pe_dnewK)) (pss_cons (ps_set (i := 6) sc_positive_cycle.nd rfl (Or.inl rfl) (C8.pe_gc rfl (T.str_ORIGIN))) (pss_cons (ps_for PassesOwn.never rfl (pi_range1 (by rfl) T.free_range (pa_cons (pe_op o_add (pe_callB (c_lenD) (by rfl) T.free_len (by decide +kernel) (pa_cons (pv 4) (pa_nil))) (pe_int)) (pa_nil))) (pg_name (i := 7) sc_positive_cycle.nd rfl (Or.inl rfl)) (pss_cons (ps_set (i := 6) sc_positive_cycle.nd rfl (Or.inl rfl) (pc_call (cal_raise_totals T) hr (by decide) pass0 rfl (pa_cons (pv 3) (pa_cons (pv 4) (pa_cons (pv 5) (pa_nil)))))) (pss_one (ps_if (pt_cmpR op_isN1 (pv 6) (pe_non) (nomark _)) (pss_one (ps_ret (pe_non))) (pss_nil))))) (pss_one (ps_ret (pc_call (cal_cycle_behind T) hr (by decide) pass0 rfl (pa_cons (pv 5) (pa_cons (pv 6) (pa_nil))))))))))
theorem cal_positive_cycle (T : Tx K mg) : Cal CX0 P w K mg base 2 "positive_cycle" (sp_positive_cycle K) [] := by
  obtain ⟨fd, F⟩ := T.says.def_ 9 (d := d_positive_cycle) rfl
  exact ⟨_, fd, pr_positive_cycle, [], F.ok sc_positive_cycle (fun vs H Q E h => len3 h) (fun cdv A outer s H vs Q E hr h => ⟨t_positive_cycle P w K, PSs.nox (pss_positive_cycle T hr), pure_positive_cycle T vs H Q E h⟩), T.glo_positive_cycle, F.kp, F.bindsN fun _ _ _ _ _ _ us hl => match us, hl with | [_, _, _], _ => rfl, .nil⟩
theorem pss_Plan_init (T : Tx K mg) {f : Addr} {cdv : Value} {A : Around} {outer : List Env} {s : Shared} {H : Hp} {E : XK} (hr : Room 3 (A.deeper (envOfC "Plan.__init__" (defScope s_Plan_init) s.heap.objs.size f cdv))) :
    PSs (cxOf CX0 P w K mg base nm_Plan_init "Plan.__init__" (defScope s_Plan_init) f cdv A outer s H E).nox (defBody s_Plan_init) (t_Plan_init P w K) :=
  pss_cons (ps_if (pt_not (pt_val (pc_call (cal_is_plan T) hr (by decide) pass0 rfl (pa_cons (pv 1) (pa_cons (pv 2) (pa_cons (pv 3) (pa_nil))))))) (pss_one (ps_never)) (pss_nil)) (pss_cons (ps_set (i := 4) sc_Plan_init.nd rfl (Or.inl rfl) (pc_call (cal_positive_cycle T) hr (by decide) pass0 rfl (pa_cons (pv 1) (pa_cons (pv 2) (pa_cons (pv 3) (pa_nil)))))) (pss_cons (ps_if (pt_cmpR op_notN1 (pv 4) (pe_non) (nomark _)) (pss_one (ps_never)) (pss_nil)) (pss_cons (ps_fld (pv 0) (pv 1) rfl) (pss_cons (ps_fld (pv 0) (pe_dc (own := [("name", 5)]) (g := gName 5) (tt := tYes) rfl sc_Plan_init.nd (pi_list (pe_callB (c_sortD rfl) (by rfl) T.free_sorted (by decide +kernel) (pa_cons (pv 2) (pa_nil)))) (blkOk_by (N := nm_Plan_init) (sc := defScope s_Plan_init) (by decide +kernel)) (fun _ _ _ _ _ => pg_name (i := 5) sc_Plan_init.nd rfl (Or.inl rfl)) (fun _ _ _ _ _ => pts_nil) (fun _ _ _ _ _ => pv 5) (fun _ _ _ _ _ => pe_dget (hu_of hr) (pv 2) (pv 5) (fun _ _ => rfl))) rfl) (pss_one (ps_fld (pv 0) (pe_callTy (c_tupOf) (by rfl) T.free_tuple (by decide +kernel) (pa_cons (pe_sortSet (by rfl) T.free_sorted (by rfl) T.free_set (hu64 hr) rfl (pv 3)) (pa_nil))) rfl))))))
theorem fok_Plan_init (T : Tx K mg) : ∃ fd, FunD K "__init__" "Plan.__init__" (defArgs s_Plan_init) (defBody s_Plan_init) (defScope s_Plan_init) (d_Plan_init.dvs K) [] (He.ma K (He.ga K "Plan") "__init__") fd ∧ FnOk P w K mg base CX0 4 (He.ma K (He.ga K "Plan") "__init__") fd pr_Plan_init (sp_Plan_init K) := by
  obtain ⟨fd, F⟩ := T.says.def_ 10 (d := d_Plan_init) rfl
  exact ⟨fd, F, F.ok sc_Plan_init (fun vs H Q E h => len4 h) (fun cdv A outer s H vs Q E hr h => ⟨t_Plan_init P w K, PSs.nox (pss_Plan_init T hr), pure_Plan_init T vs H Q E h⟩)⟩
theorem mak_Plan (T : Tx K mg) : Mak CX0 P w K mg base 4 "Plan" (He.ga K "Plan") (sp_Plan_init K) [] := by
  obtain ⟨fd, F, G⟩ := fok_Plan_init (P := P) (w := w) (base := base) T
  obtain ⟨ds, v, b⟩ := F.binds1 (ps := pr_Plan_init) 4 1 (List.cons_ne_nil _ _) rfl fun T kV doc pm an cdv ct us its hu hi => match us, its, hu, hi with | [_, _, _, _], [_], _, _ => ⟨_, rfl, rfl⟩
  have e : ds = [] := by
    cases v
    rfl
  subst e
  exact ⟨_, fd, pr_Plan_init, [], T.mkr_Plan, G, T.glo_Plan, b, .nil⟩
theorem mak_Plan_d1 (T : Tx K mg) : Mak CX0 P w K mg base 4 "Plan" (He.ga K "Plan") (sp_Plan_init K) (dv_Plan K) := by
  obtain ⟨fd, F, G⟩ := fok_Plan_init (P := P) (w := w) (base := base) T
  obtain ⟨ds, v, b⟩ := F.binds1 (ps := pr_Plan_init) 3 0 (List.cons_ne_nil _ _) rfl fun T kV doc pm an cdv ct us its hu hi => match us, its, hu, hi with | [_, _, _], [_], _, _ => ⟨_, rfl, rfl⟩
  exact ⟨_, fd, pr_Plan_init, ds, T.mkr_Plan, G, T.glo_Plan, b, v⟩
theorem pss_Plan_times (T : Tx K mg) {f : Addr} {cdv : Value} {A : Around} {outer : List Env} {s : Shared} {H : Hp} {E : XK} (hr : Room 0 (A.deeper (envOfC "Plan.times" (defScope s_Plan_times) s.heap.objs.size f cdv))) :
    PSs (cxOf CX0 P w K mg base nm_Plan_times "Plan.times" (defScope s_Plan_times) f cdv A outer s H E).nox (defBody s_Plan_times) (t_Plan_times P w K) :=
  pss_one (ps_ret (pe_callTy (c_dictD) (by rfl) T.free_dict (by decide +kernel) (pa_cons (pe_fld (pv 0) rfl) (pa_nil))))
theorem met_Plan_times (T : Tx K mg) : Met CX0 P w K mg base 1 (He.ga K "Plan") "times" (sp_Plan_times K) [] := by
  obtain ⟨fd, F⟩ := T.says.def_ 11 (d := d_Plan_times) rfl
  exact ⟨_, fd, pr_Plan_times, [], T.cls_Plan, T.meth_Plan_times, F.ok sc_Plan_times (fun vs H Q E h => len1 h) (fun cdv A outer s H vs Q E hr h => ⟨t_Plan_times P w K, PSs.nox (pss_Plan_times T hr), pure_Plan_times T vs H Q E h⟩), F.bindsN fun _ _ _ _ _ _ us hl => match us, hl with | [_], _ => rfl, .nil⟩
theorem pss_Plan_time (T : Tx K mg) {f : Addr} {cdv : Value} {A : Around} {outer : List Env} {s : Shared} {H : Hp} {E : XK} (hr : Room 0 (A.deeper (envOfC "Plan.time" (defScope s_Plan_time) s.heap.objs.size f cdv))) :
    PSs (cxOf CX0 P w K mg base nm_Plan_time "Plan.time" (defScope s_Plan_time) f cdv A outer s H E).nox (defBody s_Plan_time) (t_Plan_time P w K) :=
  pss_cons (ps_if (PW.pt (pw_or (pt_not (pt_val (pe_callB (call_isi) (by rfl) T.free_isinstance (by decide +kernel) (pa_cons (pv 1) (pa_cons (pe_bltn (by rfl) T.free_str (by decide +kernel) rfl) (pa_nil)))))) (pw_or1 (pt_cmp (pc_dnotin (hu_of hr) (pv 1) (pe_fld (pv 0) rfl)) rfl)))) (pss_one (ps_never)) (pss_nil)) (pss_one (ps_ret (pe_dget (hu_of hr) (pe_fld (pv 0) rfl) (pv 1) (fun _ _ => rfl))))
theorem met_Plan_time (T : Tx K mg) : Met CX0 P w K mg base 1 (He.ga K "Plan") "time" (sp_Plan_time K) [] := by
  obtain ⟨fd, F⟩ := T.says.def_ 12 (d := d_Plan_time) rfl
  exact ⟨_, fd, pr_Plan_time, [], T.cls_Plan, T.meth_Plan_time, F.ok sc_Plan_time (fun vs H Q E h => len2 h) (fun cdv A outer s H vs Q E hr h => ⟨t_Plan_time P w K, PSs.nox (pss_Plan_time T hr), pure_Plan_time T vs H Q E h⟩), F.bindsN fun _ _ _ _ _ _ us hl => match us, hl with | [_, _], _ => rfl, .nil⟩
theorem pss_Plan_lags (T : Tx K mg) {f : Addr} {cdv : Value} {A : Around} {outer : List Env} {s : Shared} {H : Hp} {E : XK} (hr : Room 0 (A.deeper (envOfC "Plan.lags" (defScope s_Plan_lags) s.heap.objs.size f cdv))) :
    PSs (cxOf CX0 P w K mg base nm_Plan_lags "Plan.lags" (defScope s_Plan_lags) f cdv A outer s H E).nox (defBody s_Plan_lags) (t_Plan_lags P w K) :=
  pss_one (ps_ret (pe_fld (pv 0) rfl))
theorem met_Plan_lags (T : Tx K mg) : Met CX0 P w K mg base 1 (He.ga K "Plan") "lags" (sp_Plan_lags K) [] := by
  obtain ⟨fd, F⟩ := T.says.def_ 13 (d := d_Plan_lags) rfl
  exact ⟨_, fd, pr_Plan_lags, [], T.cls_Plan, T.meth_Plan_lags, F.ok sc_Plan_lags (fun vs H Q E h => len1 h) (fun cdv A outer s H vs Q E hr h => ⟨t_Plan_lags P w K, PSs.nox (pss_Plan_lags T hr), pure_Plan_lags T vs H Q E h⟩), F.bindsN fun _ _ _ _ _ _ us hl => match us, hl with | [_], _ => rfl, .nil⟩
theorem pss_Plan_len (T : Tx K mg) {f : Addr} {cdv : Value} {A : Around} {outer : List Env} {s : Shared} {H : Hp} {E : XK} (hr : Room 0 (A.deeper (envOfC "Plan.__len__" (defScope s_Plan_len) s.heap.objs.size f cdv))) :
    PSs (cxOf CX0 P w K mg base nm_Plan_len "Plan.__len__" (defScope s_Plan_len) f cdv A outer s H E).nox (defBody s_Plan_len) (t_Plan_len P w K) :=
  pss_one (ps_ret (pe_callB (c_lenD) (by rfl) T.free_len (by decide +kernel) (pa_cons (pe_fld (pv 0) rfl) (pa_nil))))
theorem met_Plan_len (T : Tx K mg) : Met CX0 P w K mg base 1 (He.ga K "Plan") "__len__" (sp_Plan_len K) [] := by
  obtain ⟨fd, F⟩ := T.says.def_ 14 (d := d_Plan_len) rfl
  exact ⟨_, fd, pr_Plan_len, [], T.cls_Plan, T.meth_Plan_len, F.ok sc_Plan_len (fun vs H Q E h => len1 h) (fun cdv A outer s H vs Q E hr h => ⟨t_Plan_len P w K, PSs.nox (pss_Plan_len T hr), pure_Plan_len T vs H Q E h⟩), F.bindsN fun _ _ _ _ _ _ us hl => match us, hl with | [_], _ => rfl, .nil⟩
theorem pss_Plan_eq (T : Tx K mg) {f : Addr} {cdv : Value} {A : Around} {outer : List Env} {s : Shared} {H : Hp} {E : XK} (hr : Room 2 (A.deeper (envOfC "Plan.__eq__" (defScope s_Plan_eq) s.heap.objs.size f cdv))) :
    PSs (cxOf CX0 P w K mg base nm_Plan_eq "Plan.__eq__" (defScope s_Plan_eq) f cdv A outer s H E).nox (defBody s_Plan_eq) (t_Plan_eq P w K) :=
  pss_cons (ps_if (PW.pt (pw_or (pt_not (pt_val (pe_callB (c_isiC T.isc_Plan) (by rfl) T.free_isinstance (by decide +kernel) (pa_cons (pv 1) (pa_cons (C8.pe_gc rfl ⟨_, T.glo_Plan, rfl⟩) (pa_nil)))))) (pw_or1 (pt_cmpR op_ne (pe_fld (pv 0) rfl) (pe_fld (pv 1) rfl) (nomark _))))) (pss_one (ps_ret (pe_bl))) (pss_nil)) (pss_one (ps_ret (pe_and (pe_cmpR (op_eqV (hu64 hr)) (pe_fld (pv 0) rfl) (pe_fld (pv 1) rfl) (nomark _)) (pe_one (pe_cmpR (op_eqG (rcG_tup (mon_tup mon_flat) (eqG_tup mon_flat eqG_flat)) (hr.mono (by decide))) (pe_fld (pv 0) rfl) (pe_fld (pv 1) rfl) (nomark _))))))
theorem met_Plan_eq (T : Tx K mg) : Met CX0 P w K mg base 3 (He.ga K "Plan") "__eq__" (sp_Plan_eq K) [] := by
  obtain ⟨fd, F⟩ := T.says.def_ 15 (d := d_Plan_eq) rfl
  exact ⟨_, fd, pr_Plan_eq, [], T.cls_Plan, T.meth_Plan_eq, F.ok sc_Plan_eq (fun vs H Q E h => len2 h) (fun cdv A outer s H vs Q E hr h => ⟨t_Plan_eq P w K, PSs.nox (pss_Plan_eq T hr), pure_Plan_eq T vs H Q E h⟩), F.bindsN fun _ _ _ _ _ _ us hl => match us, hl with | [_, _], _ => rfl, .nil⟩
theorem pss_nodes_of (T : Tx K mg) {f : Addr} {cdv : Value} {A : Around} {outer : List Env} {s : Shared} {H : Hp} {E : XK} (hr : Room 1 (A.deeper (envOfC "nodes_of" (defScope s_nodes_of) s.heap.objs.size f cdv))) :
    PSs (cxOf CX0 P w K mg base nm_nodes_of "nodes_of" (defScope s_nodes_of) f cdv A outer s H E).nox (defBody s_nodes_of) (t_nodes_of P w K) :=
  pss_one (ps_ret (pe_op op_cat (pe_lst (pa_cons (C8.pe_gc rfl (T.str_ORIGIN)) (pa_nil))) (pe_callB (c_sortD rfl) (by rfl) T.free_sorted (by decide +kernel) (pa_cons (pc_meth0 (met_Plan_times T) hr (by decide) pass0 (pv 0)) (pa_nil)))))
theorem cal_nodes_of (T : Tx K mg) : Cal CX0 P w K mg base 2 "nodes_of" (sp_nodes_of K) [] := by
  obtain ⟨fd, F⟩ := T.says.def_ 16 (d := d_nodes_of) rfl
  exact ⟨_, fd, pr_nodes_of, [], F.ok sc_nodes_of (fun vs H Q E h => len1 h) (fun cdv A outer s H vs Q E hr h => ⟨t_nodes_of P w K, PSs.nox (pss_nodes_of T hr), pure_nodes_of T vs H Q E h⟩), T.glo_nodes_of, F.kp, F.bindsN fun _ _ _ _ _ _ us hl => match us, hl with | [_], _ => rfl, .nil⟩
theorem pss_check_node (T : Tx K mg) {f : Addr} {cdv : Value} {A : Around} {outer : List Env} {s : Shared} {H : Hp} {E : XK} (hr : Room 1 (A.deeper (envOfC "check_node" (defScope s_check_node) s.heap.objs.size f cdv))) :
    PSs (cxOf CX0 P w K mg base nm_check_node "check_node" (defScope s_check_node) f cdv A outer s H E).nox (defBody s_check_node) (t_check_node P w K) :=
  pss_one (ps_if (PW.pt (pw_or (pt_not (pt_val (pe_callB (call_isi) (by rfl) T.free_isinstance (by decide +kernel) (pa_cons (pv 1) (pa_cons (pe_bltn (by rfl) T.free_str (by decide +kernel) rfl) (pa_nil)))))) (pw_or1 (PW.pt (pw_and (pt_cmpR op_ne (pv 1) (C8.pe_gc rfl (T.str_ORIGIN)) (nomark _)) (pw_and1 (pt_cmp (pc_dnotin (hu_of hr) (pv 1) (pc_meth0 (met_Plan_times T) hr (by decide) pass0 (pv 0))) rfl))))))) (pss_one (ps_never)) (pss_nil))
theorem cal_check_node (T : Tx K mg) : Cal CX0 P w K mg base 2 "check_node" (sp_check_node K) [] := by
  obtain ⟨fd, F⟩ := T.says.def_ 17 (d := d_check_node) rfl
  exact ⟨_, fd, pr_check_node, [], F.ok sc_check_node (fun vs H Q E h => len2 h) (fun cdv A outer s H vs Q E hr h => ⟨t_check_node P w K, PSs.nox (pss_check_node T hr), pure_check_node T vs H Q E h⟩), T.glo_check_node, F.kp, F.bindsN fun _ _ _ _ _ _ us hl => match us, hl with | [_, _], _ => rfl, .nil⟩
theorem pss_Distances_improve (T : Tx K mg) {f : Addr} {cdv : Value} {A : Around} {outer : List Env} {s : Shared} {H : Hp} {E : XK} (hr : Room 0 (A.deeper (envOfC "Distances.improve" (defScope s_Distances_improve) s.heap.objs.size f cdv))) :
    PSs (cxOf CX0 P w K mg base nm_Distances_improve "Distances.improve" (defScope s_Distances_improve) f cdv A outer s H E).nox (defBody s_Distances_improve) (t_Distances_improve P w K) :=
  pss_cons (ps_set (i := 4) sc_Distances_improve.nd rfl (Or.inl rfl) (pe_op o_add (pe_dget (hu_of hr) (pe_fld (pv 0) rfl) (pe_tup (pa_cons (pv 1) (pa_cons (pv 3) (pa_nil)))) (fun _ _ => rfl)) (pe_dget (hu_of hr) (pe_fld (pv 0) rfl) (pe_tup (pa_cons (pv 3) (pa_cons (pv 2) (pa_nil)))) (fun _ _ => rfl)))) (pss_one (ps_if (PW.pt (pw_or (pt_cmp (pc_dnotin (hu_of hr) (pe_tup (pa_cons (pv 1) (pa_cons (pv 2) (pa_nil)))) (pe_fld (pv 0) rfl)) rfl) (pw_or1 (pt_cmpR o_lt (pe_dget (hu_of hr) (pe_fld (pv 0) rfl) (pe_tup (pa_cons (pv 1) (pa_cons (pv 2) (pa_nil)))) (fun _ _ => rfl)) (pv 4) (nomark _))))) (pss_cons (ps_dput (hu_of hr) (pe_fld (pv 0) rfl) (pe_tup (pa_cons (pv 1) (pa_cons (pv 2) (pa_nil)))) (pv 4) rfl) (pss_one (ps_dput (hu_of hr) (pe_fld (pv 0) rfl) (pe_tup (pa_cons (pv 1) (pa_cons (pv 2) (pa_nil)))) (pv 3) rfl))) (pss_nil)))
theorem met_Distances_improve (T : Tx K mg) : Met CX0 P w K mg base 1 (He.ga K "Distances") "improve" (sp_Distances_improve K) [] := by
  obtain ⟨fd, F⟩ := T.says.def_ 20 (d := d_Distances_improve) rfl
  exact ⟨_, fd, pr_Distances_improve, [], T.cls_Distances, T.meth_Distances_improve, F.ok sc_Distances_improve (fun vs H Q E h => len4 h) (fun cdv A outer s H vs Q E hr h => ⟨t_Distances_improve P w K, PSs.nox (pss_Distances_improve T hr), pure_Distances_improve T vs H Q E h⟩), F.bindsN fun _ _ _ _ _ _ us hl => match us, hl with | [_, _, _, _], _ => rfl, .nil⟩
theorem pss_Distances_pass_through (T : Tx K mg) {f : Addr} {cdv : Value} {A : Around} {outer : List Env} {s : Shared} {H : Hp} {E : XK} (hr : Room 1 (A.deeper (envOfC "Distances.pass_through" (defScope s_Distances_pass_through) s.heap.objs.size f cdv))) :
    PSs (cxOf CX0 P w K mg base nm_Distances_pass_through "Distances.pass_through" (defScope s_Distances_pass_through) f cdv A outer s H E).nox (defBody s_Distances_pass_through) (t_Distances_pass_through P w K) :=
  pss_one (ps_for PassesOwn.never rfl (pi_list (pe_fld (pv 0) rfl)) (pg_name (i := 2) sc_Distances_pass_through.nd rfl (Or.inl rfl)) (pss_one (ps_for PassesOwn.never rfl (pi_list (pe_fld (pv 0) rfl)) (pg_name (i := 3) sc_Distances_pass_through.nd rfl (Or.inl rfl)) (pss_one (ps_if (PW.pt (pw_and (pt_cmp (pc_din (hu_of hr) (pe_tup (pa_cons (pv 2) (pa_cons (pv 1) (pa_nil)))) (pe_fld (pv 0) rfl)) rfl) (pw_and1 (pt_cmp (pc_din (hu_of hr) (pe_tup (pa_cons (pv 1) (pa_cons (pv 3) (pa_nil)))) (pe_fld (pv 0) rfl)) rfl)))) (pss_one (ps_expr (pc_meth (met_Distances_improve T) hr (by decide) pass0 (pv 0) (pa_cons (pv 2) (pa_cons (pv 3) (pa_cons (pv 1) (pa_nil))))))) (pss_nil))))))
theorem met_Distances_pass_through (T : Tx K mg) : Met CX0 P w K mg base 2 (He.ga K "Distances") "pass_through" (sp_Distances_pass_through K) [] := by
  obtain ⟨fd, F⟩ := T.says.def_ 19 (d := d_Distances_pass_through) rfl
  exact ⟨_, fd, pr_Distances_pass_through, [], T.cls_Distances, T.meth_Distances_pass_through, F.ok sc_Distances_pass_through (fun vs H Q E h => len2 h) (fun cdv A outer s H vs Q E hr h => ⟨t_Distances_pass_through P w K, PSs.nox (pss_Distances_pass_through T hr), pure_Distances_pass_through T vs H Q E h⟩), F.bindsN fun _ _ _ _ _ _ us hl => match us, hl with | [_, _], _ => rfl, .nil⟩
theorem pss_Distances_init (T : Tx K mg) {f : Addr} {cdv : Value} {A : Around} {outer : List Env} {s : Shared} {H : Hp} {E : XK} (hr : Room 2 (A.deeper (envOfC "Distances.__init__" (defScope s_Distances_init) s.heap.objs.size f cdv))) :
    PSs (cxOf CX0 P w K mg base nm_Distances_init "Distances.__init__" (defScope s_Distances_init) f cdv A outer s H E).nox (defBody s_Distances_init) (t_Distances_init P w K) :=
  pss_cons (ps_fld (pv 0) (pc_call (cal_nodes_of T) hr (by decide) pass0 rfl (pa_cons (pv 1) (pa_nil))) rfl) (pss_cons (ps_fld (pv 0) (pc_call (cal_greatest_gaps T) hr (by decide) pass0 rfl (pa_cons (pe_fld (pv 1) rfl) (pa_cons (pc_meth0 (met_Plan_times T) hr (by decide) pass0 (pv 1)) (pa_cons (pc_meth0 (met_Plan_lags T) hr (by decide) pass0 (pv 1)) (pa_nil))))) rfl) (pss_cons (ps_fld (pv 0) (pe_dnewT) rfl) (pss_cons (ps_for PassesOwn.never rfl (pi_list (pe_fld (pv 0) rfl)) (pg_name (i := 2) sc_Distances_init.nd rfl (Or.inl rfl)) (pss_one (ps_dput (hu_of hr) (pe_fld (pv 0) rfl) (pe_tup (pa_cons (pv 2) (pa_cons (pv 2) (pa_nil)))) (pe_int) rfl))) (pss_one (ps_for PassesOwn.never rfl (pi_list (pe_fld (pv 0) rfl)) (pg_name (i := 3) sc_Distances_init.nd rfl (Or.inl rfl)) (pss_one (ps_expr (pc_meth (met_Distances_pass_through T) hr (by decide) pass0 (pv 0) (pa_cons (pv 3) (pa_nil))))))))))
theorem mak_Distances (T : Tx K mg) : Mak CX0 P w K mg base 3 "Distances" (He.ga K "Distances") (sp_Distances_init K) [] := by
  obtain ⟨fd, F⟩ := T.says.def_ 18 (d := d_Distances_init) rfl
  exact ⟨_, fd, pr_Distances_init, [], T.mkr_Distances, F.ok sc_Distances_init (fun vs H Q E h => len2 h) (fun cdv A outer s H vs Q E hr h => ⟨t_Distances_init P w K, PSs.nox (pss_Distances_init T hr), pure_Distances_init T vs H Q E h⟩), T.glo_Distances, F.bindsN fun _ _ _ _ _ _ us hl => match us, hl with | [_, _], _ => rfl, .nil⟩
theorem pss_Distances_between (T : Tx K mg) {f : Addr} {cdv : Value} {A : Around} {outer : List Env} {s : Shared} {H : Hp} {E : XK} (hr : Room 0 (A.deeper (envOfC "Distances.between" (defScope s_Distances_between) s.heap.objs.size f cdv))) :
    PSs (cxOf CX0 P w K mg base nm_Distances_between "Distances.between" (defScope s_Distances_between) f cdv A outer s H E).nox (defBody s_Distances_between) (t_Distances_between P w K) :=
  pss_one (ps_ret (pe_dget (hu_of hr) (pe_fld (pv 0) rfl) (pe_tup (pa_cons (pv 1) (pa_cons (pv 2) (pa_nil)))) (fun _ _ => rfl)))
theorem met_Distances_between (T : Tx K mg) : Met CX0 P w K mg base 1 (He.ga K "Distances") "between" (sp_Distances_between K) [] := by
  obtain ⟨fd, F⟩ := T.says.def_ 21 (d := d_Distances_between) rfl
  exact ⟨_, fd, pr_Distances_between, [], T.cls_Distances, T.meth_Distances_between, F.ok sc_Distances_between (fun vs H Q E h => len3 h) (fun cdv A outer s H vs Q E hr h => ⟨t_Distances_between P w K, PSs.nox (pss_Distances_between T hr), pure_Distances_between T vs H Q E h⟩), F.bindsN fun _ _ _ _ _ _ us hl => match us, hl with | [_, _, _], _ => rfl, .nil⟩
theorem pss_distance (T : Tx K mg) {f : Addr} {cdv : Value} {A : Around} {outer : List Env} {s : Shared} {H : Hp} {E : XK} (hr : Room 4 (A.deeper (envOfC "distance" (defScope s_distance) s.heap.objs.size f cdv))) :
    PSs (cxOf CX0 P w K mg base nm_distance "distance" (defScope s_distance) f cdv A outer s H E).nox (defBody s_distance) (t_distance P w K) :=
  pss_cons (ps_expr (pc_call (cal_check_node T) hr (by decide) pass0 rfl (pa_cons (pv 0) (pa_cons (pv 1) (pa_nil))))) (pss_cons (ps_expr (pc_call (cal_check_node T) hr (by decide) pass0 rfl (pa_cons (pv 0) (pa_cons (pv 2) (pa_nil))))) (pss_one (ps_ret (pc_meth (met_Distances_between T) hr (by decide) pass0 (pc_make (mak_Distances T) hr (by decide) pass0 rfl (pa_cons (pv 0) (pa_nil))) (pa_cons (pv 1) (pa_cons (pv 2) (pa_nil)))))))
theorem cal_distance (T : Tx K mg) : Cal CX0 P w K mg base 5 "distance" (sp_distance K) [] := by
  obtain ⟨fd, F⟩ := T.says.def_ 23 (d := d_distance) rfl
  exact ⟨_, fd, pr_distance, [], F.ok sc_distance (fun vs H Q E h => len3 h) (fun cdv A outer s H vs Q E hr h => ⟨t_distance P w K, PSs.nox (pss_distance T hr), pure_distance T vs H Q E h⟩), T.glo_distance, F.kp, F.bindsN fun _ _ _ _ _ _ us hl => match us, hl with | [_, _, _], _ => rfl, .nil⟩
theorem pss_law_pen (T : Tx K mg) {f : Addr} {cdv : Value} {A : Around} {outer : List Env} {s : Shared} {H : Hp} {E : XK} (hr : Room 0 (A.deeper (envOfC "_law_pen" (defScope s_law_pen) s.heap.objs.size f cdv))) :
    PSs (cxOf CX0 P w K mg base nm_law_pen "_law_pen" (defScope s_law_pen) f cdv A outer s H E).nox (defBody s_law_pen) (t_law_pen P w K) :=
  pss_one (ps_ret (pe_lst (pa_cons (pe_callTy (c_listOf) (by rfl) T.free_list (by decide +kernel) (pa_cons (pe_slice sl_list (pv 0) (po_none) (po_some (pe_int))) (pa_nil))) (pa_cons (pe_int) (pa_cons (pe_int) (pa_nil))))))
theorem cal_law_pen (T : Tx K mg) : Cal CX0 P w K mg base 1 "_law_pen" (sp_law_pen K) [] := by
  obtain ⟨fd, F⟩ := T.says.def_ 24 (d := d_law_pen) rfl
  exact ⟨_, fd, pr_law_pen, [], F.ok sc_law_pen (fun vs H Q E h => len1 h) (fun cdv A outer s H vs Q E hr h => ⟨t_law_pen P w K, PSs.nox (pss_law_pen T hr), pure_law_pen T vs H Q E h⟩), T.glo_law_pen, F.kp, F.bindsN fun _ _ _ _ _ _ us hl => match us, hl with | [_], _ => rfl, .nil⟩
theorem pss_law_next (T : Tx K mg) {f : Addr} {cdv : Value} {A : Around} {outer : List Env} {s : Shared} {H : Hp} {E : XK} (hr : Room 0 (A.deeper (envOfC "_law_next" (defScope s_law_next) s.heap.objs.size f cdv))) :
    PSs (cxOf CX0 P w K mg base nm_law_next "_law_next" (defScope s_law_next) f cdv A outer s H E).nox (defBody s_law_next) (t_law_next P w K) :=
  pss_cons (ps_set (i := 1) sc_law_next.nd rfl (Or.inl rfl) (pe_ix ix_list (pv 0) (pe_int) (fun _ _ => rfl))) (pss_cons (ps_asg (pe_op o_add (pv 1) (pe_int)) (pg_sub (pv 0) (pe_int) set_list)) (pss_cons (ps_set (i := 2) sc_law_next.nd rfl (Or.inl rfl) (pe_op o_add (pe_op o_mul (pe_int) (pv 1)) (pe_int))) (pss_cons (ps_if (pt_cmpR o_gt (pe_callB (call_len_seq) (by rfl) T.free_len (by decide +kernel) (pa_cons (pe_ix ix_list (pv 0) (pe_int) (fun _ _ => rfl)) (pa_nil))) (pe_int) (nomark _)) (pss_one (ps_set (i := 2) sc_law_next.nd rfl (Or.inl rfl) (pe_ix ix_list (pe_ix ix_list (pv 0) (pe_int) (fun _ _ => rfl)) (pe_op o_mod (pv 1) (pe_callB (call_len_seq) (by rfl) T.free_len (by decide +kernel) (pa_cons (pe_ix ix_list (pv 0) (pe_int) (fun _ _ => rfl)) (pa_nil)))) (fun _ _ => rfl)))) (pss_nil)) (pss_cons (ps_if (PW.pt (pw_and (pt_cmpR o_lt (pv 1) (pe_callB (call_len_seq) (by rfl) T.free_len (by decide +kernel) (pa_cons (pe_ix ix_list (pv 0) (pe_int) (fun _ _ => rfl)) (pa_nil))) (nomark _)) (pw_and1 (pt_cmpR o_ge (pv 2) (pe_op o_pow (pe_int) (pe_int)) (nomark _))))) (pss_one (ps_ret (pv 2))) (pss_nil)) (pss_cons (ps_set (i := 3) sc_law_next.nd rfl (Or.inl rfl) (pe_op o_mod (pe_op o_pow (pe_op o_add (pe_op o_add (pe_op o_mul (pe_op o_mod (pv 2) (pe_int)) (pe_op o_add (pv 1) (pe_int))) (pe_op o_mul (pe_int) (pv 1))) (pe_int)) (pe_int)) (pe_int))) (pss_cons (ps_set (i := 4) sc_law_next.nd rfl (Or.inl rfl) (pe_op o_mod (pe_op o_pow (pe_op o_add (pe_op o_add (pe_op o_mul (pv 3) (pe_op o_add (pv 1) (pe_int))) (pe_op o_mod (pv 2) (pe_int))) (pe_int)) (pe_int)) (pe_int))) (pss_cons (ps_set (i := 5) sc_law_next.nd rfl (Or.inl rfl) (pe_op o_mod (pe_op o_add (pe_op o_add (pe_op o_mul (pv 4) (pv 4)) (pv 3)) (pe_op o_mul (pe_int) (pv 1))) (pe_int))) (pss_one (ps_ret (pe_op o_add (pe_op o_mul (pe_op o_add (pe_op o_mul (pv 5) (pe_int)) (pv 4)) (pe_int)) (pv 3)))))))))))
theorem cal_law_next (T : Tx K mg) : Cal CX0 P w K mg base 1 "_law_next" (sp_law_next K) [] := by
  obtain ⟨fd, F⟩ := T.says.def_ 25 (d := d_law_next) rfl
  exact ⟨_, fd, pr_law_next, [], F.ok sc_law_next (fun vs H Q E h => len1 h) (fun cdv A outer s H vs Q E hr h => ⟨t_law_next P w K, PSs.nox (pss_law_next T hr), pure_law_next T vs H Q E h⟩), T.glo_law_next, F.kp, F.bindsN fun _ _ _ _ _ _ us hl => match us, hl with | [_], _ => rfl, .nil⟩
theorem pss_law_draw (T : Tx K mg) {f : Addr} {cdv : Value} {A : Around} {outer : List Env} {s : Shared} {H : Hp} {E : XK} (hr : Room 1 (A.deeper (envOfC "_law_draw" (defScope s_law_draw) s.heap.objs.size f cdv))) :
    PSs (cxOf CX0 P w K mg base nm_law_draw "_law_draw" (defScope s_law_draw) f cdv A outer s H E).nox (defBody s_law_draw) (t_law_draw P w K) :=
  pss_cons (ps_if (pt_cmpR o_lt (pe_ix ix_list (pv 0) (pe_int) (fun _ _ => rfl)) (pv 1) (nomark _)) (pss_one (ps_asg (pc_call (cal_law_next T) hr (by decide) pass0 rfl (pa_cons (pv 0) (pa_nil))) (pg_sub (pv 0) (pe_int) set_list))) (pss_nil)) (pss_cons (ps_set (i := 2) sc_law_draw.nd rfl (Or.inl rfl) (pe_op o_mod (pe_ix ix_list (pv 0) (pe_int) (fun _ _ => rfl)) (pv 1))) (pss_cons (ps_asg (pe_op o_fdv (pe_ix ix_list (pv 0) (pe_int) (fun _ _ => rfl)) (pv 1)) (pg_sub (pv 0) (pe_int) set_list)) (pss_one (ps_ret (pv 2)))))
theorem cal_law_draw (T : Tx K mg) : Cal CX0 P w K mg base 2 "_law_draw" (sp_law_draw K) [] := by
  obtain ⟨fd, F⟩ := T.says.def_ 26 (d := d_law_draw) rfl
  exact ⟨_, fd, pr_law_draw, [], F.ok sc_law_draw (fun vs H Q E h => len2 h) (fun cdv A outer s H vs Q E hr h => ⟨t_law_draw P w K, PSs.nox (pss_law_draw T hr), pure_law_draw T vs H Q E h⟩), T.glo_law_draw, F.kp, F.bindsN fun _ _ _ _ _ _ us hl => match us, hl with | [_, _], _ => rfl, .nil⟩
theorem pss_law_names (T : Tx K mg) {f : Addr} {cdv : Value} {A : Around} {outer : List Env} {s : Shared} {H : Hp} {E : XK} (hr : Room 2 (A.deeper (envOfC "_law_names" (defScope s_law_names) s.heap.objs.size f cdv))) :
    PSs (cxOf CX0 P w K mg base nm_law_names "_law_names" (defScope s_law_names) f cdv A outer s H E).nox (defBody s_law_names) (t_law_names P w K) :=
  pss_cons (ps_set (i := 2) sc_law_names.nd rfl (Or.inr rfl) (pe_lst (pa_cons (pe_str) (pa_cons (pe_str) (pa_cons (pe_str) (pa_cons (pe_str) (pa_cons (pe_str) (pa_cons (pe_str) (pa_cons (pe_str) (pa_cons (pe_str) (pa_cons (pe_str) (pa_cons (pe_str) (pa_cons (pe_str) (pa_nil)))))))))))))) (pss_one (ps_ret (pe_lc (own := [("_law_turn", 3)]) (g := gName 3) (tt := tYes) rfl sc_law_names.nd (pi_range1 (by rfl) T.free_range (pa_cons (pv 1) (pa_nil))) (blkOk_by (N := nm_law_names) (sc := defScope s_law_names) (by decide +kernel)) (fun _ _ _ _ _ => pg_name (i := 3) sc_law_names.nd rfl (Or.inl rfl)) (fun _ _ _ _ _ => pts_nil) (fun _ _ _ _ _ => pe_bm PySem.F.plainAttrs_list PySem.F.slot_list_pop PySem.F.type_list_pop mt_popAt (pv 2) (pa_cons (pc_call (cal_law_draw T) hr (by decide) pass0 rfl (pa_cons (pv 0) (pa_cons (pe_callB (call_len_seq) (by rfl) T.free_len (by decide +kernel) (pa_cons (pv 2) (pa_nil))) (pa_nil)))) (pa_nil))))))
theorem cal_law_names (T : Tx K mg) : Cal CX0 P w K mg base 3 "_law_names" (sp_law_names K) [] := by
  obtain ⟨fd, F⟩ := T.says.def_ 27 (d := d_law_names) rfl
  exact ⟨_, fd, pr_law_names, [], F.ok sc_law_names (fun vs H Q E h => len2 h) (fun cdv A outer s H vs Q E hr h => ⟨t_law_names P w K, PSs.nox (pss_law_names T hr), pure_law_names T vs H Q E h⟩), T.glo_law_names, F.kp, F.bindsN fun _ _ _ _ _ _ us hl => match us, hl with | [_, _], _ => rfl, .nil⟩
theorem pss_law_starts (T : Tx K mg) {f : Addr} {cdv : Value} {A : Around} {outer : List Env} {s : Shared} {H : Hp} {E : XK} (hr : Room 2 (A.deeper (envOfC "_law_starts" (defScope s_law_starts) s.heap.objs.size f cdv))) :
    PSs (cxOf CX0 P w K mg base nm_law_starts "_law_starts" (defScope s_law_starts) f cdv A outer s H E).nox (defBody s_law_starts) (t_law_starts P w K) :=
  pss_one (ps_ret (pe_callTy (c_dictP rfl) (by rfl) T.free_dict (by decide +kernel) (pa_cons (pe_lc (own := [("_law_one", 3)]) (g := gName 3) (tt := tYes) rfl sc_law_starts.nd (pi_list (pv 1)) (blkOk_by (N := nm_law_starts) (sc := defScope s_law_starts) (by decide +kernel)) (fun _ _ _ _ _ => pg_name (i := 3) sc_law_starts.nd rfl (Or.inl rfl)) (fun _ _ _ _ _ => pts_nil) (fun _ _ _ _ _ => pe_tup (pa_cons (pv 3) (pa_cons (pc_call (cal_law_draw T) hr (by decide) pass0 rfl (pa_cons (pv 0) (pa_cons (pe_op o_add (pv 2) (pe_int)) (pa_nil)))) (pa_nil))))) (pa_nil))))
theorem cal_law_starts (T : Tx K mg) : Cal CX0 P w K mg base 3 "_law_starts" (sp_law_starts K) [] := by
  obtain ⟨fd, F⟩ := T.says.def_ 28 (d := d_law_starts) rfl
  exact ⟨_, fd, pr_law_starts, [], F.ok sc_law_starts (fun vs H Q E h => len3 h) (fun cdv A outer s H vs Q E hr h => ⟨t_law_starts P w K, PSs.nox (pss_law_starts T hr), pure_law_starts T vs H Q E h⟩), T.glo_law_starts, F.kp, F.bindsN fun _ _ _ _ _ _ us hl => match us, hl with | [_, _, _], _ => rfl, .nil⟩
theorem pss_law_far (T : Tx K mg) {f : Addr} {cdv : Value} {A : Around} {outer : List Env} {s : Shared} {H : Hp} {E : XK} (hr : Room 0 (A.deeper (envOfC "_law_far" (defScope s_law_far) s.heap.objs.size f cdv))) :
    PSs (cxOf CX0 P w K mg base nm_law_far "_law_far" (defScope s_law_far) f cdv A outer s H E).nox (defBody s_law_far) (t_law_far P w K) :=
  pss_cons (ps_set (i := 3) sc_law_far.nd rfl (Or.inl rfl) (pe_op op_cat (pe_lst (pa_cons (pe_str) (pa_nil))) (pe_callTy (c_listOf) (by rfl) T.free_list (by decide +kernel) (pa_cons (pv 0) (pa_nil))))) (pss_cons (ps_set (i := 4) sc_law_far.nd rfl (Or.inr rfl) (pe_dnewT)) (pss_cons (ps_for PassesOwn.never rfl (pi_list (pv 3)) (pg_name (i := 5) sc_law_far.nd rfl (Or.inl rfl)) (pss_one (ps_for PassesOwn.never rfl (pi_list (pv 3)) (pg_name (i := 6) sc_law_far.nd rfl (Or.inl rfl)) (pss_one (ps_dput (hu_of hr) (pv 4) (pe_tup (pa_cons (pv 5) (pa_cons (pv 6) (pa_nil)))) (pe_ifExp (pt_cmpR op_in_seq (pv 5) (pe_tup (pa_cons (pe_str) (pa_cons (pv 6) (pa_nil)))) (by rfl)) (pe_int) (pe_un u_neg (pv 1))) rfl))))) (pss_cons (ps_for PassesOwn.never rfl (pi_list (pv 2)) (pg_tup (by rfl) (pgs_cons (pg_name (i := 5) sc_law_far.nd rfl (Or.inl rfl)) (pgs_cons (pg_name (i := 6) sc_law_far.nd rfl (Or.inl rfl)) (pgs_cons (pg_name (i := 7) sc_law_far.nd rfl (Or.inl rfl)) (pgs_nil))))) (pss_one (ps_dput (hu_of hr) (pv 4) (pe_tup (pa_cons (pv 5) (pa_cons (pv 6) (pa_nil)))) (pe_callB (c_max2 rfl) (by rfl) T.free_max (by decide +kernel) (pa_cons (pe_dget (hu_of hr) (pv 4) (pe_tup (pa_cons (pv 5) (pa_cons (pv 6) (pa_nil)))) (fun _ _ => rfl)) (pa_cons (pv 7) (pa_nil)))) rfl))) (pss_cons (ps_for PassesOwn.never rfl (pi_list (pv 3)) (pg_name (i := 8) sc_law_far.nd rfl (Or.inl rfl)) (pss_one (ps_for PassesOwn.never rfl (pi_list (pv 3)) (pg_name (i := 5) sc_law_far.nd rfl (Or.inl rfl)) (pss_one (ps_for PassesOwn.never rfl (pi_list (pv 3)) (pg_name (i := 6) sc_law_far.nd rfl (Or.inl rfl)) (pss_cons (ps_set (i := 9) sc_law_far.nd rfl (Or.inl rfl) (pe_op o_add (pe_dget (hu_of hr) (pv 4) (pe_tup (pa_cons (pv 5) (pa_cons (pv 8) (pa_nil)))) (fun _ _ => rfl)) (pe_dget (hu_of hr) (pv 4) (pe_tup (pa_cons (pv 8) (pa_cons (pv 6) (pa_nil)))) (fun _ _ => rfl)))) (pss_one (ps_dput (hu_of hr) (pv 4) (pe_tup (pa_cons (pv 5) (pa_cons (pv 6) (pa_nil)))) (pe_callB (c_max2 rfl) (by rfl) T.free_max (by decide +kernel) (pa_cons (pe_dget (hu_of hr) (pv 4) (pe_tup (pa_cons (pv 5) (pa_cons (pv 6) (pa_nil)))) (fun _ _ => rfl)) (pa_cons (pv 9) (pa_nil)))) rfl)))))))) (pss_cons (ps_if (pt_val (pe_callB (cr_any rfl) (by rfl) T.free_any (by decide +kernel) (pa_cons (pe_lc (own := [("_law_one", 5)]) (g := gName 5) (tt := tYes) rfl sc_law_far.nd (pi_list (pv 3)) (blkOk_by (N := nm_law_far) (sc := defScope s_law_far) (by decide +kernel)) (fun _ _ _ _ _ => pg_name (i := 5) sc_law_far.nd rfl (Or.inl rfl)) (fun _ _ _ _ _ => pts_nil) (fun _ _ _ _ _ => pe_cmpR o_gt (pe_dget (hu_of hr) (pv 4) (pe_tup (pa_cons (pv 5) (pa_cons (pv 5) (pa_nil)))) (fun _ _ => rfl)) (pe_int) (nomark _))) (pa_nil)))) (pss_one (ps_ret (pe_non))) (pss_nil)) (pss_one (ps_ret (pv 4))))))))
theorem cal_law_far (T : Tx K mg) : Cal CX0 P w K mg base 1 "_law_far" (sp_law_far K) [] := by
  obtain ⟨fd, F⟩ := T.says.def_ 29 (d := d_law_far) rfl
  exact ⟨_, fd, pr_law_far, [], F.ok sc_law_far (fun vs H Q E h => len3 h) (fun cdv A outer s H vs Q E hr h => ⟨t_law_far P w K, PSs.nox (pss_law_far T hr), pure_law_far T vs H Q E h⟩), T.glo_law_far, F.kp, F.bindsN fun _ _ _ _ _ _ us hl => match us, hl with | [_, _, _], _ => rfl, .nil⟩
theorem pss_law_limits (T : Tx K mg) {f : Addr} {cdv : Value} {A : Around} {outer : List Env} {s : Shared} {H : Hp} {E : XK} (hr : Room 2 (A.deeper (envOfC "_law_limits" (defScope s_law_limits) s.heap.objs.size f cdv))) :
    PSs (cxOf CX0 P w K mg base nm_law_limits "_law_limits" (defScope s_law_limits) f cdv A outer s H E).nox (defBody s_law_limits) (t_law_limits P w K) :=
  pss_cons (ps_set (i := 5) sc_law_limits.nd rfl (Or.inl rfl) (pe_op op_cat (pe_lst (pa_cons (pe_str) (pa_nil))) (pe_callTy (c_listOf) (by rfl) T.free_list (by decide +kernel) (pa_cons (pv 1) (pa_nil))))) (pss_cons (ps_set (i := 6) sc_law_limits.nd rfl (Or.inl rfl) (pe_lst (pa_nil))) (pss_cons (ps_for PassesOwn.never rfl (pi_range1 (by rfl) T.free_range (pa_cons (pv 4) (pa_nil))) (pg_name (i := 7) sc_law_limits.nd rfl (Or.inl rfl)) (pss_cons (ps_set (i := 8) sc_law_limits.nd rfl (Or.inl rfl) (pe_ix ix_list (pv 5) (pc_call (cal_law_draw T) hr (by decide) pass0 rfl (pa_cons (pv 0) (pa_cons (pe_callB (call_len_seq) (by rfl) T.free_len (by decide +kernel) (pa_cons (pv 5) (pa_nil))) (pa_nil)))) (fun _ _ => rfl))) (pss_cons (ps_set (i := 9) sc_law_limits.nd rfl (Or.inl rfl) (pe_ix ix_list (pv 5) (pc_call (cal_law_draw T) hr (by decide) pass0 rfl (pa_cons (pv 0) (pa_cons (pe_callB (call_len_seq) (by rfl) T.free_len (by decide +kernel) (pa_cons (pv 5) (pa_nil))) (pa_nil)))) (fun _ _ => rfl))) (pss_cons (ps_set (i := 10) sc_law_limits.nd rfl (Or.inl rfl) (pe_op o_sub (pe_op o_add (pe_op o_sub (pe_dget2 (hu_of hr) (pv 2) (pv 9) (pe_int) ⟨rfl, rfl, rfl, rfl⟩) (pe_dget2 (hu_of hr) (pv 2) (pv 8) (pe_int) ⟨rfl, rfl, rfl, rfl⟩)) (pc_call (cal_law_draw T) hr (by decide) pass0 rfl (pa_cons (pv 0) (pa_cons (pe_int) (pa_nil))))) (pe_int))) (pss_cons (ps_set (i := 10) sc_law_limits.nd rfl (Or.inl rfl) (pe_callB (c_max2 rfl) (by rfl) T.free_max (by decide +kernel) (pa_cons (pv 10) (pa_cons (pe_op o_sub (pe_int) (pe_op o_pow (pe_int) (pe_int))) (pa_nil))))) (pss_one (ps_if (PW.pt (pw_and (pt_cmpR op_ne (pv 8) (pv 9) (nomark _)) (pw_and1 (pt_cmpR op_notN1 (pc_call (cal_law_far T) hr (by decide) pass0 rfl (pa_cons (pv 1) (pa_cons (pv 3) (pa_cons (pe_op op_cat (pv 6) (pe_lst (pa_cons (pe_tup (pa_cons (pv 8) (pa_cons (pv 9) (pa_cons (pv 10) (pa_nil))))) (pa_nil)))) (pa_nil))))) (pe_non) (nomark _))))) (pss_one (ps_expr (pe_bm PySem.F.plainAttrs_list PySem.F.slot_list_append PySem.F.type_list_append mt_append (pv 6) (pa_cons (pe_tup (pa_cons (pv 8) (pa_cons (pv 9) (pa_cons (pv 10) (pa_nil))))) (pa_nil))))) (pss_nil)))))))) (pss_one (ps_ret (pv 6)))))
theorem cal_law_limits (T : Tx K mg) : Cal CX0 P w K mg base 3 "_law_limits" (sp_law_limits K) [] := by
  obtain ⟨fd, F⟩ := T.says.def_ 30 (d := d_law_limits) rfl
  exact ⟨_, fd, pr_law_limits, [], F.ok sc_law_limits (fun vs H Q E h => len5 h) (fun cdv A outer s H vs Q E hr h => ⟨t_law_limits P w K, PSs.nox (pss_law_limits T hr), pure_law_limits T vs H Q E h⟩), T.glo_law_limits, F.kp, F.bindsN fun _ _ _ _ _ _ us hl => match us, hl with | [_, _, _, _, _], _ => rfl, .nil⟩
theorem pss_law_parts (T : Tx K mg) {f : Addr} {cdv : Value} {A : Around} {outer : List Env} {s : Shared} {H : Hp} {E : XK} (hr : Room 3 (A.deeper (envOfC "_law_parts" (defScope s_law_parts) s.heap.objs.size f cdv))) :
    PSs (cxOf CX0 P w K mg base nm_law_parts "_law_parts" (defScope s_law_parts) f cdv A outer s H E).nox (defBody s_law_parts) (t_law_parts P w K) :=
  pss_cons (ps_set (i := 2) sc_law_parts.nd rfl (Or.inl rfl) (pc_call (cal_law_names T) hr (by decide) pass0 rfl (pa_cons (pv 0) (pa_cons (pe_op o_add (pe_int) (pc_call (cal_law_draw T) hr (by decide) pass0 rfl (pa_cons (pv 0) (pa_cons (pv 1) (pa_nil))))) (pa_nil))))) (pss_cons (ps_set (i := 3) sc_law_parts.nd rfl (Or.inl rfl) (pe_ix ix_list (pe_lst (pa_cons (pe_int) (pa_cons (pe_int) (pa_cons (pe_int) (pa_cons (pe_op o_pow (pe_int) (pe_int)) (pa_cons (pe_int) (pa_cons (pe_int) (pa_nil)))))))) (pc_call (cal_law_draw T) hr (by decide) pass0 rfl (pa_cons (pv 0) (pa_cons (pe_int) (pa_nil)))) (fun _ _ => rfl))) (pss_cons (ps_set (i := 4) sc_law_parts.nd rfl (Or.inl rfl) (pc_call (cal_law_starts T) hr (by decide) pass0 rfl (pa_cons (pv 0) (pa_cons (pv 2) (pa_cons (pe_ix ix_list (pe_lst (pa_cons (pe_callB (c_min2 rfl) (by rfl) T.free_min (by decide +kernel) (pa_cons (pv 3) (pa_cons (pe_int) (pa_nil)))) (pa_cons (pv 3) (pa_nil)))) (pe_op o_fdv (pc_call (cal_law_draw T) hr (by decide) pass0 rfl (pa_cons (pv 0) (pa_cons (pe_int) (pa_nil)))) (pe_int)) (fun _ _ => rfl)) (pa_nil)))))) (pss_one (ps_ret (pe_tup (pa_cons (pv 3) (pa_cons (pv 4) (pa_cons (pc_call (cal_law_limits T) hr (by decide) pass0 rfl (pa_cons (pv 0) (pa_cons (pv 2) (pa_cons (pv 4) (pa_cons (pv 3) (pa_cons (pc_call (cal_law_draw T) hr (by decide) pass0 rfl (pa_cons (pv 0) (pa_cons (pe_op o_add (pe_op o_mul (pe_int) (pe_callB (call_len_seq) (by rfl) T.free_len (by decide +kernel) (pa_cons (pv 2) (pa_nil)))) (pe_int)) (pa_nil)))) (pa_nil))))))) (pa_nil)))))))))
theorem cal_law_parts (T : Tx K mg) : Cal CX0 P w K mg base 4 "_law_parts" (sp_law_parts K) [] := by
  obtain ⟨fd, F⟩ := T.says.def_ 31 (d := d_law_parts) rfl
  exact ⟨_, fd, pr_law_parts, [], F.ok sc_law_parts (fun vs H Q E h => len2 h) (fun cdv A outer s H vs Q E hr h => ⟨t_law_parts P w K, PSs.nox (pss_law_parts T hr), pure_law_parts T vs H Q E h⟩), T.glo_law_parts, F.kp, F.bindsN fun _ _ _ _ _ _ us hl => match us, hl with | [_, _], _ => rfl, .nil⟩
theorem pss_law_row (T : Tx K mg) {f : Addr} {cdv : Value} {A : Around} {outer : List Env} {s : Shared} {H : Hp} {E : XK} (hr : Room 5 (A.deeper (envOfC "_law_row" (defScope s_law_row) s.heap.objs.size f cdv))) :
    PSs (cxOf CX0 P w K mg base nm_law_row "_law_row" (defScope s_law_row) f cdv A outer s H E).nox (defBody s_law_row) (t_law_row P w K) :=
  pss_cons (ps_set (i := 1) sc_law_row.nd rfl (Or.inl rfl) (pe_str)) (pss_cons (ps_set (i := 2) sc_law_row.nd rfl (Or.inr rfl) (pe_op op_cat (pe_callTy (c_listS rfl) (by rfl) T.free_list (by decide +kernel) (pa_cons (pv 1) (pa_nil))) (pe_lst (pa_cons (pe_str) (pa_cons (pe_str) (pa_cons (pe_str) (pa_cons (pe_str) (pa_nil)))))))) (pss_cons (ps_set (i := 3) sc_law_row.nd rfl (Or.inr rfl) (pe_lc (own := [("_law_k", 7)]) (g := gName 7) (tt := tYes) rfl sc_law_row.nd (pi_range1 (by rfl) T.free_range (pa_cons (pe_int) (pa_nil))) (blkOk_by (N := nm_law_row) (sc := defScope s_law_row) (by decide +kernel)) (fun _ _ _ _ _ => pg_name (i := 7) sc_law_row.nd rfl (Or.inl rfl)) (fun _ _ _ _ _ => pts_nil) (fun _ _ _ _ _ => pe_bm PySem.F.plainAttrs_list PySem.F.slot_list_pop PySem.F.type_list_pop mt_popAt (pv 2) (pa_cons (pc_call (cal_law_draw T) hr (by decide) pass0 rfl (pa_cons (pv 0) (pa_cons (pe_callB (call_len_seq) (by rfl) T.free_len (by decide +kernel) (pa_cons (pv 2) (pa_nil))) (pa_nil)))) (pa_nil))))) (pss_cons (ps_set (i := 4) sc_law_row.nd rfl (Or.inr rfl) (pe_lc (own := [("_law_k", 7)]) (g := gName 7) (tt := tYes) rfl sc_law_row.nd (pi_range1 (by rfl) T.free_range (pa_cons (pe_int) (pa_nil))) (blkOk_by (N := nm_law_row) (sc := defScope s_law_row) (by decide +kernel)) (fun _ _ _ _ _ => pg_name (i := 7) sc_law_row.nd rfl (Or.inl rfl)) (fun _ _ _ _ _ => pts_nil) (fun _ _ _ _ _ => pe_op o_sub (pc_call (cal_law_draw T) hr (by decide) pass0 rfl (pa_cons (pv 0) (pa_cons (pe_int) (pa_nil)))) (pe_int)))) (pss_cons (ps_setLc (i := 5) (own := [("_law_k", 7)]) (g := gName 7) (tt := tYes) rfl sc_law_row.nd rfl rfl (sw_true rfl rfl rfl (by decide +kernel)) (pi_range1 (by rfl) T.free_range (pa_cons (pe_int) (pa_nil))) (blkOk_by (N := nm_law_row) (sc := defScope s_law_row) (by decide +kernel)) (fun _ _ _ _ _ => pg_name (i := 7) sc_law_row.nd rfl (Or.inl rfl)) (fun _ _ _ _ _ => pts_nil) (fun _ _ _ _ _ => pe_callB (cr_sum rfl) (by rfl) T.free_sum (by decide +kernel) (pa_cons (pe_slice sl_list (pv 4) (po_none) (po_some (pv 7))) (pa_nil)))) (pss_cons (ps_setLc (i := 6) (own := [("_law_k", 7)]) (g := gName 7) (tt := tYes) rfl sc_law_row.nd rfl rfl (sw_true rfl rfl rfl (by decide +kernel)) (pi_range1 (by rfl) T.free_range (pa_cons (pe_int) (pa_nil))) (blkOk_by (N := nm_law_row) (sc := defScope s_law_row) (by decide +kernel)) (fun _ _ _ _ _ => pg_name (i := 7) sc_law_row.nd rfl (Or.inl rfl)) (fun _ _ _ _ _ => pts_nil) (fun _ _ _ _ _ => pe_tup (pa_cons (pe_ix ix_list (pv 3) (pv 7) (fun _ _ => rfl)) (pa_cons (pe_ix ix_list (pv 3) (pe_op o_add (pv 7) (pe_int)) (fun _ _ => rfl)) (pa_cons (pe_ix ix_list (pv 4) (pv 7) (fun _ _ => rfl)) (pa_nil)))))) (pss_cons (ps_set (i := 6) sc_law_row.nd rfl (Or.inl rfl) (pe_op op_cat (pv 6) (pe_lc (own := [("_law_k", 7)]) (g := gName 7) (tt := tYes) rfl sc_law_row.nd (pi_range1 (by rfl) T.free_range (pa_cons (pe_int) (pa_nil))) (blkOk_by (N := nm_law_row) (sc := defScope s_law_row) (by decide +kernel)) (fun _ _ _ _ _ => pg_name (i := 7) sc_law_row.nd rfl (Or.inl rfl)) (fun _ _ _ _ _ => pts_nil) (fun _ _ _ _ _ => pe_tup (pa_cons (pe_ix ix_list (pv 3) (pe_op o_mod (pv 7) (pe_int)) (fun _ _ => rfl)) (pa_cons (pe_ix ix_list (pv 3) (pe_op o_add (pe_op o_mod (pv 7) (pe_int)) (pe_int)) (fun _ _ => rfl)) (pa_cons (pe_op o_sub (pe_op o_sub (pe_ix ix_list (pv 4) (pe_op o_mod (pv 7) (pe_int)) (fun _ _ => rfl)) (pe_int)) (pe_op o_fdv (pv 7) (pe_int))) (pa_nil)))))))) (pss_one (ps_ret (pe_tup (pa_cons (pv 3) (pa_cons (pv 5) (pa_cons (pc_make (mak_Plan T) hr (by decide) pass0 rfl (pa_cons (pe_op o_pow (pe_int) (pe_int)) (pa_cons (pe_callTy (c_dictP rfl) (by rfl) T.free_dict (by decide +kernel) (pa_cons (pe_lc (own := [("_law_name", 8)]) (g := gName 8) (tt := tYes) rfl sc_law_row.nd (pi_list (pv 3)) (blkOk_by (N := nm_law_row) (sc := defScope s_law_row) (by decide +kernel)) (fun _ _ _ _ _ => pg_name (i := 8) sc_law_row.nd rfl (Or.inl rfl)) (fun _ _ _ _ _ => pts_nil) (fun _ _ _ _ _ => pe_tup (pa_cons (pv 8) (pa_cons (pe_int) (pa_nil))))) (pa_nil))) (pa_cons (pv 6) (pa_nil))))) (pa_nil)))))))))))))
theorem cal_law_row (T : Tx K mg) : Cal CX0 P w K mg base 6 "_law_row" (sp_law_row K) [] := by
  obtain ⟨fd, F⟩ := T.says.def_ 32 (d := d_law_row) rfl
  exact ⟨_, fd, pr_law_row, [], F.ok sc_law_row (fun vs H Q E h => len1 h) (fun cdv A outer s H vs Q E hr h => ⟨t_law_row P w K, PSs.nox (pss_law_row T hr), pure_law_row T vs H Q E h⟩), T.glo_law_row, F.kp, F.bindsN fun _ _ _ _ _ _ us hl => match us, hl with | [_], _ => rfl, .nil⟩
theorem pss_law (T : Tx K mg) {f : Addr} {cdv : Value} {A : Around} {outer : List Env} {s : Shared} {H : Hp} {E : XK} (hr : Room 6 (A.deeper (envOfC "law" (defScope s_law) s.heap.objs.size f cdv))) :
    PSs (cxOf CX0 P w K mg base nm_law "law" (defScope s_law) f cdv A outer s H E).nox (defBody s_law) (t_law P w K) :=
  pss_cons (ps_set (i := 1) sc_law.nd rfl (Or.inl rfl) (pc_call (cal_law_pen T) hr (by decide) pass0 rfl (pa_cons (pv 0) (pa_nil)))) (pss_cons (ps_for PassesOwn.never rfl (pi_range1 (by rfl) T.free_range (pa_cons (pe_int) (pa_nil))) (pg_name (i := 2) sc_law.nd rfl (Or.inl rfl)) (pss_cons (ps_asg (pc_call (cal_law_parts T) hr (by decide) pass0 rfl (pa_cons (pv 1) (pa_cons (pe_int) (pa_nil)))) (pg_tup (by rfl) (pgs_cons (pg_name (i := 3) sc_law.nd rfl (Or.inl rfl)) (pgs_cons (pg_name (i := 4) sc_law.nd rfl (Or.inl rfl)) (pgs_cons (pg_name (i := 5) sc_law.nd rfl (Or.inl rfl)) (pgs_nil)))))) (pss_cons (ps_set (i := 6) sc_law.nd rfl (Or.inl rfl) (pc_make (mak_Plan T) hr (by decide) pass0 rfl (pa_cons (pv 3) (pa_cons (pv 4) (pa_cons (pv 5) (pa_nil)))))) (pss_cons (ps_set (i := 7) sc_law.nd rfl (Or.inl rfl) (pc_call (cal_law_far T) hr (by decide) pass0 rfl (pa_cons (pe_callTy (c_listD rfl) (by rfl) T.free_list (by decide +kernel) (pa_cons (pv 4) (pa_nil))) (pa_cons (pv 3) (pa_cons (pv 5) (pa_nil)))))) (pss_cons (ps_set (i := 8) sc_law.nd rfl (Or.inl rfl) (pe_op op_cat (pe_lst (pa_cons (pe_str) (pa_nil))) (pe_callB (c_sortD rfl) (by rfl) T.free_sorted (by decide +kernel) (pa_cons (pv 4) (pa_nil))))) (pss_cons (ps_for PassesOwn.never rfl (pi_list (pv 8)) (pg_name (i := 9) sc_law.nd rfl (Or.inl rfl)) (pss_one (ps_for PassesOwn.never rfl (pi_list (pv 8)) (pg_name (i := 10) sc_law.nd rfl (Or.inl rfl)) (pss_one (ps_if (pt_cmpR op_ne (pe_callB (c_reprI) (by rfl) T.free_repr (by decide +kernel) (pa_cons (pc_call (cal_distance T) hr (by decide) pass0 rfl (pa_cons (pv 6) (pa_cons (pv 9) (pa_cons (pv 10) (pa_nil))))) (pa_nil))) (pe_callB (c_reprI) (by rfl) T.free_repr (by decide +kernel) (pa_cons (pe_dget (hu_of hr) (pv 7) (pe_tup (pa_cons (pv 9) (pa_cons (pv 10) (pa_nil)))) (fun _ _ => rfl)) (pa_nil))) (nomark _)) (pss_one (ps_ret (pe_bl))) (pss_nil)))))) (pss_one (ps_if (pt_cmpR (o_neOwn (met_Plan_eq T) hr (by decide) pass0 T.ne_Plan.1 T.ne_Plan.2) (pv 6) (pc_make (mak_Plan T) hr (by decide) pass0 rfl (pa_cons (pv 3) (pa_cons (pv 4) (pa_cons (pv 5) (pa_nil))))) (nomark _)) (pss_one (ps_ret (pe_bl))) (pss_nil))))))))) (pss_cons (ps_asg (pc_call (cal_law_row T) hr (by decide) pass0 rfl (pa_cons (pv 1) (pa_nil))) (pg_tup (by rfl) (pgs_cons (pg_name (i := 11) sc_law.nd rfl (Or.inl rfl)) (pgs_cons (pg_name (i := 12) sc_law.nd rfl (Or.inl rfl)) (pgs_cons (pg_name (i := 6) sc_law.nd rfl (Or.inl rfl)) (pgs_nil)))))) (pss_cons (ps_set (i := 9) sc_law.nd rfl (Or.inl rfl) (pc_call (cal_law_draw T) hr (by decide) pass0 rfl (pa_cons (pv 1) (pa_cons (pe_int) (pa_nil))))) (pss_cons (ps_for PassesOwn.never rfl (pi_tup (pe_tup (pa_cons (pe_int) (pa_cons (pe_op o_sub (pe_int) (pc_call (cal_law_draw T) hr (by decide) pass0 rfl (pa_cons (pv 1) (pa_cons (pe_int) (pa_nil))))) (pa_cons (pe_op o_add (pe_int) (pc_call (cal_law_draw T) hr (by decide) pass0 rfl (pa_cons (pv 1) (pa_cons (pe_int) (pa_nil))))) (pa_nil)))))) (pg_name (i := 10) sc_law.nd rfl (Or.inl rfl)) (pss_one (ps_if (pt_cmpR op_ne (pc_call (cal_distance T) hr (by decide) pass0 rfl (pa_cons (pv 6) (pa_cons (pe_ix ix_list (pv 11) (pv 9) (fun _ _ => rfl)) (pa_cons (pe_ix ix_list (pv 11) (pv 10) (fun _ _ => rfl)) (pa_nil))))) (pe_op o_sub (pe_ix ix_list (pv 12) (pv 10) (fun _ _ => rfl)) (pe_ix ix_list (pv 12) (pv 9) (fun _ _ => rfl))) (nomark _)) (pss_one (ps_ret (pe_bl))) (pss_nil)))) (pss_one (ps_ret (pe_cmpR op_eq (pc_call (cal_distance T) hr (by decide) pass0 rfl (pa_cons (pc_make (mak_Plan_d1 T) hr (by decide) pass0 rfl (pa_cons (pe_int) (pa_cons (pe_dnewK) (pa_nil)))) (pa_cons (pe_str) (pa_cons (pe_str) (pa_nil))))) (pe_int) (nomark _))))))))
theorem cal_law (T : Tx K mg) : Cal CX0 P w K mg base 7 "law" (sp_law K) [] := by
  obtain ⟨fd, F⟩ := T.says.def_ 33 (d := d_law) rfl
  exact ⟨_, fd, pr_law, [], F.ok sc_law (fun vs H Q E h => len1 h) (fun cdv A outer s H vs Q E hr h => ⟨t_law P w K, PSs.nox (pss_law T hr), pure_law T vs H Q E h⟩), T.glo_law, F.kp, F.bindsN fun _ _ _ _ _ _ us hl => match us, hl with | [_], _ => rfl, .nil⟩
end
end Rt
end
section
set_option maxHeartbeats 0
namespace Rt
open PySem PySem.Spec PyProof.Rows L2
abbrev hk : PySem.W.Hook := hookR 5 fa fb fn
def ob (s : PySem.W.SharedT) : He.AlD := obsRG 5 fa fb fn (HandSHeadRun.getT s)
theorem ob_eq (s : PySem.W.SharedT) : ob s = hk.obs s.abs := obsRG_eq (HandSHeadRun.getT_eq s)
theorem run (w : World) : HandSHeadRun.RunEq R (PySem.W.view R.prog [38]) hk ob 4000 looseA w := by
  intro os
  kernel_rfl
end Rt
end
section
set_option maxHeartbeats 0
namespace Rt
open PySem PySem.Spec PyProof.Rows L2
theorem endF {P : Program} {w : World} {K : PySem.W.Frag} {h : Heap} {mg : Str → Option Value} {f : Addr} (X : K.In h) (G : h.Ns mainGlobals mg) (hfa : mg ("law" : Str) = some (.ref f)) (c : SaysR fa fb fn K) :
    ∃ fd : FuncData, (∀ (s : Shared) (v : Value), BindsTo s fd ⟨[v], []⟩ [("_law_script", v)]) ∧ ∀ base : Heap, K.In base → base.Ns mainGlobals mg → FnOk P w K mg base CX0 7 f fd ["_law_script"] (sp_law K) := by
  obtain ⟨fd, F⟩ := c.def_ 33 (d := d_law) rfl
  have T : Tx K mg := ⟨c, h, X, G⟩
  have e := hfa.symm.trans T.glo_law
  cases e
  have b := FunD.bindsA (ps := pr_law) F fun _ _ _ _ _ _ us hl => match us, hl with | [_], _ => rfl
  exact ⟨fd, fun s v => b s [v] rfl, fun base _ _ => F.ok sc_law (fun vs H Q E h => len1 h) (fun cdv A outer s H vs Q E hr h => ⟨t_law P w K, PSs.nox (pss_law T hr), pure_law T vs H Q E h⟩)⟩
end Rt
open PySem PySem.W PySem.Calls PyProof.Rows
set_option maxRecDepth 100000 in
set_option maxHeartbeats 0 in
theorem PySem.Challenge.cw_retime_k11_distances_holds : PySem.Challenge.rw_retime_k11_distances.Holds := by
  w_on; o_law
  refine HandSHeadRun.head_any (r := OpenLaw.row PySem.Challenge.rw_retime_k11_distances) (q := view (OpenLaw.row PySem.Challenge.rw_retime_k11_distances).prog [38]) (H := Rt.hk) (ob := Rt.ob) (M := 4000) (loose := Rt.looseA) (d := HandSHeadRun.topDef (OpenLaw.row PySem.Challenge.rw_retime_k11_distances).prog 38) (kwd := []) Rt.ob_eq
    (by kernel_rfl) (fun s => by kernel_rfl) Rt.run (by kernel_rfl) (by kernel_rfl) (by kernel_rfl) (by rfl) (by first | assumption | decide +kernel) (by decide +kernel) ⟨rfl, rfl, rfl, rfl, rfl, by decide +kernel⟩ ?hw ?hc
  case hw => w_witness2
  case hc =>
    refine L2.walk_ofE (l := PySem.Challenge.rw_retime_k11_distances) (n := 63) (k := 7) (x := "_law_script") (CX := L2.CX0) rfl (by decide) (by kernel_rfl) ⟨rfl, by decide, by decide⟩ ?F (fun _ _ _ _ z => z)
    intro w mg fa h Y G hmg0
    obtain ⟨K, KX, c⟩ := Y
    have hmg : mg ("law" : PySem.Str) = some (.ref fa) := by
      have e : (HandSHeadRun.topDef (OpenLaw.row PySem.Challenge.rw_retime_k11_distances).prog 38).name = ("law" : PySem.Str) := by kernel_rfl
      rw [← e]
      exact hmg0
    obtain ⟨fd, hb, hF⟩ := Rt.endF (P := (PySem.Challenge.rw_retime_k11_distances).prog) (w := w) KX G hmg c
    exact ⟨K, fd, Rt.sp_law K, KX, hb, fun H a ns hl _ hS => ⟨_, rfl, a, ns, rfl, hS, hl, fun _ => rfl⟩, hF⟩
end
