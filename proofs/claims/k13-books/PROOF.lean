import PyProof.Rows.All
import Wide.All
import OpenK.AllK
import Wide.FinOn
import HandS.ForMost
import HandS.Exc
import HandS.TryOnly
import HandS.ExcOwn
import HandS.WordsExc
import HandS.IsInst
import HandS.SortInts
import HandS.SortKw
import HandS.Evl
import HandS.Conv
import HandS.SetFor
import HandS.SetKeys
import KE.DataMinMax
import KE.SortData
import KE.DatumOrd
import HandS.Style
import HandS.ExcIs
import HandS.TupMul
import HandS.CallLocal
import HandS.TupAny
import HandS.RevTup
import KE.KDictPairs
import KE.KDictZip
import HandS.Nested
import HandS.EndTab
import KE.SortKeyHeap
import KE.KDictSum
import KE.GoesMore
import HandS.RepeatKit
import HandS.Sort
import HandS.Text
import HandS.List
import HandS.Walk
import KE.GoesComp
import KE.GoesRaise
import KE.KAsSuite
import HandS.SuiteRaise
import PySem.Challenge.RW_berthrow_k13_books
set_option Elab.async false
set_option linter.all false
set_option maxRecDepth 100000
set_option maxHeartbeats 4000000
/-! A layer for the berthrow laws: defs by their names, readings run step by step. -/
namespace B
open PySem PySem.Spec PyProof.Rows L2
open PySem.W (Frag)

/-! ### defs by their names -/
/-- the def x of the text stands where the name x leads -/
def Stands (K : Frag) (mg : Str → Option Value) (x : Str) (st : Stmt) : Prop :=
  ∃ (f : Addr) (fd : FuncData), Fun K x x st f fd ∧ mg x = some (.ref f)
/-- the name x leads to a def that keeps the promise -/
def Has (P : Program) (w : World) (K : Frag) (mg : Str → Option Value) (base : Heap) (x : Str) (k : Nat) (ps : List Str) (sp : Sp) : Prop :=
  ∃ (f : Addr) (fd : FuncData), FnOk P w K mg base (L2.CX P w) k f fd ps sp ∧ mg x = some (.ref f) ∧ PySem.W.keepIn K (.ref f) = true ∧ Binds K fd ps []
section
variable {P : Program} {w : World} {K : Frag} {mg : Str → Option Value} {base : Heap}
theorem has_of {x : Str} {st : Stmt} {N ps : List Str} {k : Nat} {sp : Sp} (S : Stands K mg x st) (C : FnScope N ps (defScope st))
    (hb : ∀ (kV doc pm : Value) (an : Option Addr) (cdv ct : Value) (us : List Value), us.length = ps.length → bindArgs (PySem.W.fnOf x x (defArgs st) (defBody st) (defScope st) .none kV doc pm an cdv ct) ⟨us, []⟩ = pure (ps.zip us))
    (len : ∀ vs H Q E, sp vs H Q E → vs.length = ps.length)
    (hbody : ∀ (f : Addr) (cdv : Value) (A : Around) (outer : List Env) (s : Shared) (H : Hp) (vs : List V) (Q : VK) (E : XK), Room k (A.deeper (envOfC x (defScope st) s.heap.objs.size f cdv)) → sp vs H Q E →
      ∃ t, PSs (cxOf (L2.CX P w) P w K mg base N x (defScope st) f cdv A outer s H E) (defBody st) t ∧ t { nx := fun _ H' => Q .non H', rt := Q } (start N vs) H) :
    Has P w K mg base x (k + 1) ps sp := by
  obtain ⟨f, fd, F, m⟩ := S
  exact ⟨f, fd, F.okX C len (fun cdv A outer s H vs Q E hr h => hbody f cdv A outer s H vs Q E hr h), m, F.kp, F.binds hb⟩
end
section
variable {X : Cx} {k j : Nat} {x : Str} {ps : List Str} {sp : Sp} {E : XK} {p pos : Pos} {e : Expr} {es : List Expr} {t : TA}
theorem pe_has (h : Has X.prog X.w X.K X.mg X.base x j ps sp) (hr : Room k X.A) (hx : Passes (L2.CX X.prog X.w) X E) (ha : PA X (e :: es) t) (hj : j ≤ k := by decide) (hg : Gl X x := by rfl)
    (hdb : (x == ("__debug__" : Str)) = false := by decide) (he : starEach (e :: es) X.env = (false, eval e X.env) :: starEach es X.env := by rfl) (hpl : (backTo pos (starEach es X.env)).any (·.1) = false := by rfl) :
    PE X (.Call (.Name x p) (e :: es) [] pos) (tCall sp [] E t) := by
  obtain ⟨f, fd, F, m, kp, b⟩ := h
  exact pe_call F (hr.mono hj) hg m kp b .nil hx ha hdb he hpl
end

/-! ### readings, run step by step -/
abbrev Ex := Evl.Ex
theorem exg {H H' : Hp} {a : Addr} {o : HO} (e : Ex H H') (h : H a = some o) : H' a = some o := e a o h
theorem exn {H H' : Hp} {a : Addr} (e : Ex H H') (h : H' a = none) : H a = none := Evl.fresh_back e h
section
variable {K : Frag} {σ : L2.St} {H H' : Hp} {Q : VK} {QT : Bool → Hp → Prop} {QA : List V → Hp → Prop} {i : Nat} {v x y z : V} {ta tb te : TE} {tt tu tv : TT} {tr : TA} {b : Bool} {D : Ends} {s1 s2 : TS} {g : TG} {a : Addr} {xs ys : List V}
theorem x_var (h : σ[i]? = some (some v)) (q : Q v H) : tVar i σ H Q := ⟨v, h, q⟩
theorem x_c (q : Q v H) : tC v σ H Q := q
theorem x_op {r : R2} (h : ta σ H fun x H1 => tb σ H1 fun y H2 => r x y H2 Q) : tOp r ta tb σ H Q := h
theorem x_un {r : V → Hp → VK → Prop} (h : ta σ H fun x H1 => r x H1 Q) : tUn r ta σ H Q := h
theorem x_rI0 {f : Int → Int → V} {m n : Int} (q : Q (f m n) H) : rI0 f (.int m) (.int n) H Q := ⟨m, n, rfl, rfl, q⟩
theorem x_rI {C : Int → Int → Prop} {f : Int → Int → V} {m n : Int} (c : C m n) (q : Q (f m n) H) : rI C f (.int m) (.int n) H Q := ⟨m, n, rfl, rfl, c, q⟩
theorem x_rEq (s : scal x y = true) (q : Q (.bl (decide (x = y))) H) : rEq x y H Q := ⟨s, q⟩
theorem x_rNe (s : scal x y = true) (q : Q (.bl (!decide (x = y))) H) : rNe x y H Q := ⟨s, q⟩
theorem x_rU {f : Int → V} {m : Int} (q : Q (f m) H) : rU f (.int m) H Q := ⟨m, rfl, q⟩
theorem x_nil (q : QA [] H) : tNil σ H QA := q
theorem x_cons (h : ta σ H fun x H1 => tr σ H1 fun xs H2 => QA (x :: xs) H2) : tCons ta tr σ H QA := h
theorem x_CB {r : List V → Hp → VK → Prop} (h : tr σ H fun vs H1 => r vs H1 Q) : tCB r tr σ H Q := h
theorem x_call {sp : Sp} {E : XK} {dvs : List V} (h : tr σ H fun vs H1 => sp (vs ++ dvs) H1 Q E) : tCall sp dvs E tr σ H Q := h
theorem x_test (h : te σ H fun x H' => ∃ k, x = .bl k ∧ QT k H') : tTest te σ H QT := h
theorem x_B (h : te σ H fun x H' => ∃ k, x = .bl k ∧ QT k H') : tB te σ H QT := h
theorem x_bl (q : QT b H) : ∃ k, V.bl b = .bl k ∧ QT k H := ⟨b, rfl, q⟩
theorem x_and (h : tt σ H fun c H1 => if c = true then tu σ H1 QT else QT false H1) : tAnd tt tu σ H QT := h
theorem x_or (h : tt σ H fun c H1 => if c = true then QT true H1 else tu σ H1 QT) : tOr tt tu σ H QT := h
theorem x_not (h : tt σ H fun c H1 => QT (!c) H1) : tNot tt σ H QT := h
theorem x_andV (h : ta σ H fun x H1 => ∃ c, x = .bl c ∧ if c = true then tb σ H1 Q else Q (.bl false) H1) : tAndV ta tb σ H Q := h
theorem x_orV (h : ta σ H fun x H1 => ∃ c, x = .bl c ∧ if c = true then Q (.bl true) H1 else tb σ H1 Q) : tOrV ta tb σ H Q := h
theorem x_notV (h : ta σ H fun x H1 => ∃ c, x = .bl c ∧ Q (.bl (!c)) H1) : tNotV ta σ H Q := h
theorem x_blV {f : Bool → Prop} (q : f b) : ∃ c, V.bl b = .bl c ∧ f c := ⟨b, rfl, q⟩
theorem x_if (h : tt σ H fun c H1 => if c = true then ta σ H1 Q else tb σ H1 Q) : tIf tt ta tb σ H Q := h
theorem x_isN (h : ta σ H fun x H1 => Q (.bl (decide (x = .non))) H1) : tIsN ta σ H Q := h
theorem x_notN (h : ta σ H fun x H1 => Q (.bl (!decide (x = .non))) H1) : tNotN ta σ H Q := h
/-! statements -/
theorem x_seq (h : s1 { D with nx := s2 D } σ H) : tSeq s1 s2 D σ H := h
theorem x_next (q : D.nx σ H) : tNext D σ H := q
theorem x_brk (q : D.bk σ H) : tBreak D σ H := q
theorem x_cont (q : D.ct σ H) : tCont D σ H := q
theorem x_asg (h : te σ H fun v H1 => D.nx (σ.set i (some v)) H1) : tAsg te (gName i) D σ H := h
theorem x_gName {P : L2.St → Hp → Prop} (h : P (σ.set i (some v)) H) : gName i v σ H P := h
theorem x_drop (h : te σ H fun _ H1 => D.nx σ H1) : tDrop te D σ H := h
theorem x_ret (h : te σ H fun v H1 => D.rt v H1) : tRet te D σ H := h
theorem x_ifS (h : tt σ H fun b H1 => if b = true then s1 D σ H1 else s2 D σ H1) : tIfS tt s1 s2 D σ H := h
theorem x_nx {n bk ct : L2.St → Hp → Prop} {r : VK} (h : n σ H) : Ends.nx { nx := n, rt := r, bk := bk, ct := ct } σ H := h
theorem x_rt {n bk ct : L2.St → Hp → Prop} {r : VK} (h : r v H) : Ends.rt { nx := n, rt := r, bk := bk, ct := ct } v H := h
theorem x_aug {ip : TIp} (hv : σ[i]? = some (some x)) (h : te σ H fun y H1 => ip x y H1 fun z H2 => D.nx (σ.set i (some z)) H2) : tAug i te ip D σ H := ⟨x, hv, h⟩
theorem x_ipI {f : Int → Int → Int} {m n : Int} (q : Q (.int (f m n)) H) : ipI f (.int m) (.int n) H Q := ⟨m, n, rfl, rfl, q⟩
/-! ifs -/
theorem x_true {A B : Prop} (h : A) : if true = true then A else B := by rw [if_pos rfl]; exact h
theorem x_false {A B : Prop} (h : B) : if false = true then A else B := by rw [if_neg Bool.false_ne_true]; exact h
theorem x_dec {c A B : Prop} [Decidable c] (h1 : c → A) (h2 : ¬ c → B) : if decide c = true then A else B := by
  by_cases h : c
  · rw [decide_eq_true h]; exact x_true (h1 h)
  · rw [decide_eq_false h]; exact x_false (h2 h)
theorem x_decN {c A B : Prop} [Decidable c] (h1 : ¬ c → A) (h2 : c → B) : if (!decide c) = true then A else B := by
  by_cases h : c
  · rw [decide_eq_true h]; exact x_false (h2 h)
  · rw [decide_eq_false h]; exact x_true (h1 h)
theorem x_b {A B : Prop} (h1 : b = true → A) (h2 : b = false → B) : if b = true then A else B := by
  cases b
  · exact x_false (h2 rfl)
  · exact x_true (h1 rfl)
theorem x_bN {A B : Prop} (h1 : b = false → A) (h2 : b = true → B) : if (!b) = true then A else B := by
  cases b
  · exact x_true (h1 rfl)
  · exact x_false (h2 rfl)
/-! new objects -/
def MkT (Q : VK) : List V → Hp → Prop := fun vs H1 => vs.length ≤ sizeLine ∧ ∀ p, H1 p = none → Q (.ref p) (upd H1 p (.tup vs))
def MkL (Q : VK) : List V → Hp → Prop := fun vs H1 => vs.length ≤ sizeLine ∧ ∀ p, H1 p = none → Q (.ref p) (upd H1 p (.lst vs))
theorem x_tup (h : tr σ H (MkT Q)) : tTup tr σ H Q := h
theorem x_lst (h : tr σ H (MkL Q)) : tLst tr σ H Q := h
theorem x_mkT {vs : List V} (hl : vs.length ≤ 1000000) (h : ∀ p H', H p = none → Ex H H' → H' p = some (.tup vs) → Q (.ref p) H') : MkT Q vs H := ⟨Nat.le_trans hl (by decide), fun p hp => h p _ hp (Evl.Ex.new hp) upd_same⟩
theorem x_mkL {vs : List V} (hl : vs.length ≤ 1000000) (h : ∀ p H', H p = none → Ex H H' → H' p = some (.lst vs) → Q (.ref p) H') : MkL Q vs H := ⟨Nat.le_trans hl (by decide), fun p hp => h p _ hp (Evl.Ex.new hp) upd_same⟩
theorem x_dnew (h : ∀ p H', H p = none → Ex H H' → H' p = some (.dK []) → Q (.ref p) H') : tDNewK σ H Q := fun p hp => h p _ hp (Evl.Ex.new hp) upd_same
theorem x_new {o : HO} (h : ∀ p H', H p = none → Ex H H' → H' p = some o → Q (.ref p) H') : ∀ p, H p = none → Q (.ref p) (upd H p o) := fun p hp => h p _ hp (Evl.Ex.new hp) upd_same
end

/-! ### more about defs: ends without a raise, what a callee raises handed on -/
section
variable {P : Program} {w : World} {K : Frag} {mg : Str → Option Value} {base : Heap}
theorem has_ofN {x : Str} {st : Stmt} {N ps : List Str} {k : Nat} {sp : Sp} (S : Stands K mg x st) (C : FnScope N ps (defScope st))
    (hb : ∀ (kV doc pm : Value) (an : Option Addr) (cdv ct : Value) (us : List Value), us.length = ps.length → bindArgs (PySem.W.fnOf x x (defArgs st) (defBody st) (defScope st) .none kV doc pm an cdv ct) ⟨us, []⟩ = pure (ps.zip us))
    (len : ∀ vs H Q E, sp vs H Q E → vs.length = ps.length)
    (hbody : ∀ (f : Addr) (cdv : Value) (A : Around) (outer : List Env) (s : Shared) (H : Hp) (vs : List V) (Q : VK) (E : XK), Room k (A.deeper (envOfC x (defScope st) s.heap.objs.size f cdv)) → sp vs H Q E →
      ∃ t, PSs (cxOf (L2.CX P w) P w K mg base N x (defScope st) f cdv A outer s H E).nox (defBody st) t ∧ t { nx := fun _ H' => Q .non H', rt := Q } (start N vs) H) :
    Has P w K mg base x (k + 1) ps sp := has_of S C hb len fun f cdv A outer s H vs Q E hr h => by
  obtain ⟨t, ht, q⟩ := hbody f cdv A outer s H vs Q E hr h
  exact ⟨t, ht.nox, q⟩
end
section
variable {P : Program} {w : World} {K : Frag} {mg : Str → Option Value} {base : Heap}
theorem fn_okN {x : Str} {st : Stmt} {f : Addr} {fd : FuncData} {N ps : List Str} {k : Nat} {sp : Sp} (F : Fun K x x st f fd) (C : FnScope N ps (defScope st)) (len : ∀ vs H Q E, sp vs H Q E → vs.length = ps.length)
    (hbody : ∀ (cdv : Value) (A : Around) (outer : List Env) (s : Shared) (H : Hp) (vs : List V) (Q : VK) (E : XK), Room k (A.deeper (envOfC x (defScope st) s.heap.objs.size f cdv)) → sp vs H Q E →
      ∃ t, PSs (cxOf (L2.CX P w) P w K mg base N x (defScope st) f cdv A outer s H E).nox (defBody st) t ∧ t { nx := fun _ H' => Q .non H', rt := Q } (start N vs) H) :
    FnOk P w K mg base (L2.CX P w) (k + 1) f fd ps sp := F.okX C len fun cdv A outer s H vs Q E hr h => by
  obtain ⟨t, ht, q⟩ := hbody cdv A outer s H vs Q E hr h
  exact ⟨t, ht.nox, q⟩
end
theorem passL {X : Cx} : Passes (L2.CX X.prog X.w) X E0 := L2.passL
theorem passU {X : Cx} {E : XK} (tk : Takes X (fun cls d _ H => E cls d H)) : Passes (L2.CX X.prog X.w) X E := passes_call tk fun _ _ _ _ h => h
/-- a number of the module's -/
def Const (mg : Str → Option Value) (x : Str) (v : V) : Prop := ∃ u, mg x = some u ∧ RelV v u
theorem pe_const {X : Cx} {x : Str} {v : V} {pos : Pos} (c : Const X.mg x v) (hg : Gl X x := by rfl) (hd : (x == ("__debug__" : Str)) = false := by decide) : PE X (.Name x pos) (tC v) := by
  obtain ⟨u, m, r⟩ := c
  exact pe_glob hg m r hd
/-- an error class under ValueError -/
def Err (K : Frag) (mg : Str → Option Value) (x : Str) : Prop := ∃ C, mg x = some (.ref C) ∧ PySem.W.excIn K C [.type "ValueError", .type "Exception", .type "BaseException", .type "object"] "ValueError.__new__" = true ∧
  PySem.W.keepIn K (.ref C) = true ∧ PySem.W.subIn K (.ref C) (.type "BaseException") = some true ∧ PySem.W.typeIn K (.ref C) = some (.type "type")
theorem pmk {X : Cx} {x m : Str} {j : Nat} {p p2 pos : Pos} (E : Err X.K X.mg x) (hg : Gl X x := by rfl) (hdb : (x == ("__debug__" : Str)) = false := by decide) :
    PMk X (.Call (.Name x p) [.Constant (.str m) j p2] [] pos) (fun _ H Q => ∀ C, X.mg x = some (.ref C) → Q (.ref C) none H) := by
  obtain ⟨C, g, e, k, b, t⟩ := E
  intro pins s σ H Q I h
  exact pmk_own PySem.F.excBase_ValueError e g k (raises_own b t) hg hdb pins s σ H Q I (h C g)

/-! ### names of the interpreter -/
theorem boot_isinstance : bootBuiltins "isinstance" = some (.builtin "isinstance") := by decide +kernel
theorem boot_min : bootBuiltins "min" = some (.builtin "min") := by decide +kernel
theorem boot_max : bootBuiltins "max" = some (.builtin "max") := by decide +kernel
theorem boot_sum : bootBuiltins "sum" = some (.builtin "sum") := by decide +kernel
theorem boot_sorted : bootBuiltins "sorted" = some (.builtin "sorted") := by decide +kernel
theorem boot_all : bootBuiltins "all" = some (.builtin "all") := by decide +kernel
theorem boot_int : bootBuiltins "int" = some (.type "int") := by decide +kernel
theorem boot_bool : bootBuiltins "bool" = some (.type "bool") := by decide +kernel
theorem boot_str : bootBuiltins "str" = some (.type "str") := by decide +kernel
theorem boot_list : bootBuiltins "list" = some (.type "list") := by decide +kernel
theorem boot_tuple : bootBuiltins "tuple" = some (.type "tuple") := by decide +kernel
theorem boot_dict : bootBuiltins "dict" = some (.type "dict") := by decide +kernel
theorem boot_set : bootBuiltins "set" = some (.type "set") := by decide +kernel

/-! ### what is a list or a tuple -/
def Sq (K : Frag) (H : Hp) (a : Addr) (xs : List V) : Prop := SqL K H a xs ∨ SqT K H a xs
theorem Sq.ex {K : Frag} {H H' : Hp} {a : Addr} {xs : List V} (e : Ex H H') (h : Sq K H a xs) : Sq K H' a xs := h.elim (fun h => .inl (Evl.ex_l e h)) fun h => .inr (Evl.ex_t e h)
theorem Sq.l {K : Frag} {H : Hp} {a : Addr} {xs : List V} (h : SqL K H a xs) : Sq K H a xs := .inl h
theorem Sq.t {K : Frag} {H : Hp} {a : Addr} {xs : List V} (h : SqT K H a xs) : Sq K H a xs := .inr h
def iSq (K : Frag) (tl : TE) : TI := fun σ H R => iList K tl σ H R ∨ iTup K tl σ H R
theorem pi_sq {X : Cx} {tg l : Expr} {tl : TE} (hl : PE X l tl) : PI X tg l (iSq X.K tl) := ⟨fun pins s σ H R I h => h.elim (fun h => (pi_list hl).run pins s σ H R I h) fun h => (pi_tup hl).run pins s σ H R I h⟩
def rIxQ (K : Frag) : R2 := fun x y H Q => rIxL K x y H Q ∨ rIxT K x y H Q
theorem ix_sq {X : Cx} : IxR X (rIxQ X.K) := by
  intro value slice pins s σ H x y v u Q I rx ry h hs
  exact h.elim (fun h => ix_list value slice pins s σ H x y v u Q I rx ry h hs) fun h => ix_tup value slice pins s σ H x y v u Q I rx ry h hs

/-! ### kinds of values -/
def isNum : V → Bool
  | .int _ => true
  | _ => false
/-- a whole number from a least to a most one -/
def inB (x : V) (lo hi : Int) : Bool := match x with
  | .int i => decide (lo ≤ i) && decide (i ≤ hi)
  | _ => false
/-- a value whose class is told -/
def Kd (K : Frag) (H : Hp) (x : V) (t : String) : Prop := TyX K H x (.type t)
theorem Kd.int {K : Frag} {H : Hp} (i : Int) : Kd K H (.int i) "int" := .base (.int i)
theorem sz {n : Nat} (h : n ≤ 1000000) : n ≤ sizeLine := Nat.le_trans h (by decide)
theorem szl {n : Nat} (h : n ≤ 1000000) : n < sizeLine := Nat.lt_of_le_of_lt h (by decide)

/-! ### min(xs, default=d) of a list of ints -/
def rMinD (K : Frag) : List V → List V → Hp → VK → Prop := fun vs zs H Q => ∃ (a : Addr) (ns : List Int) (d : V), vs = [V.ref a] ∧ zs = [d] ∧ SqL K H a (ns.map V.int) ∧ (ns = [] → Q d H) ∧ ∀ m, m ∈ ns → (∀ y, y ∈ ns → m ≤ y) → Q (.int m) H

/-! ### loops, by what is gone through -/
theorem split_at {α : Type} {as : List α} {i : Nat} {x : α} (h : as[i]? = some x) : as = as.take i ++ x :: as.drop (i + 1) := by
  obtain ⟨hi, e⟩ := List.getElem?_eq_some_iff.mp h
  subst e
  simp
theorem take_snoc {α : Type} {as : List α} {i : Nat} {x : α} (h : as[i]? = some x) : as.take (i + 1) = as.take i ++ [x] := by
  rw [List.take_add_one, h]
  rfl
section
variable {K : Frag} {σ : L2.St} {H H' : Hp} {Q : VK} {QT : Bool → Hp → Prop} {i j : Nat} {v x y z : V} {ta tb te tl : TE} {tt tu tv : TT} {tr : TA} {b : Bool} {D : Ends} {s1 s2 ts : TS} {g : TG} {a : Addr} {xs ys : List V}
/-- a for's turns, from the iterator J -/
def ForRun (g : TG) (ts : TS) (D : Ends) (σ : L2.St) (J : It) (H1 : Hp) : Prop := ∃ W : Nat → Nat → L2.St → Hp → Prop, (∃ m, W 0 m σ H1) ∧ ∀ i m σ H, W i m σ H →
  (J.stop i H ∧ D.nx σ H) ∨ (J.go i H ∧ ∃ N : L2.St → Hp → Prop, (∀ σ' H', N σ' H' → ∃ m', m' < m ∧ W (i + 1) m' σ' H') ∧ ∀ x H', J.yld i H x H' → g x σ H' fun σ2 H2 => ts { D with nx := N, ct := N, bk := D.nx } σ2 H2)
theorem x_for {wi : TI} (h : wi σ H (ForRun g ts D σ)) : tFor wi g ts D σ H := h
theorem x_iList {R : It → Hp → Prop} (h : tl σ H fun x H1 => ∃ a, x = .ref a ∧ (∃ xs, SqL K H1 a xs) ∧ R (Itl K a) H1) : iList K tl σ H R := h
theorem x_iTup {R : It → Hp → Prop} (h : tl σ H fun x H1 => ∃ a, x = .ref a ∧ (∃ xs, SqT K H1 a xs) ∧ R (Itt K a) H1) : iTup K tl σ H R := h
theorem x_iRng1 {R : It → Hp → Prop} (h : tr σ H fun vs H1 => ∃ j : Int, vs = [.int j] ∧ -(2 ^ 62) ≤ j ∧ j < 2 ^ 62 ∧ R (Itr 0 j.toNat) H1) : iRng1 tr σ H R := h
theorem x_iRng2 {R : It → Hp → Prop} (h : tr σ H fun vs H1 => ∃ i j : Int, vs = [.int i, .int j] ∧ (-(2 ^ 62) ≤ i ∧ i < 2 ^ 62 ∧ -(2 ^ 62) ≤ j ∧ j < 2 ^ 62) ∧ R (Itr i (j - i).toNat) H1) : iRng2 tr σ H R := h
theorem x_rng1 {R : It → Hp → Prop} {n : Int} (hn : n ≤ 1000000 ∧ -1000000 ≤ n) (h : R (Itr 0 n.toNat) H) : ∃ j : Int, ([V.int n] : List V) = [.int j] ∧ -(2 ^ 62) ≤ j ∧ j < 2 ^ 62 ∧ R (Itr 0 j.toNat) H := ⟨n, rfl, by omega, by omega, h⟩
theorem x_rng2 {R : It → Hp → Prop} {m n : Int} (hm : m ≤ 1000000 ∧ -1000000 ≤ m) (hn : n ≤ 1000000 ∧ -1000000 ≤ n) (h : R (Itr m (n - m).toNat) H) :
    ∃ i j : Int, ([V.int m, V.int n] : List V) = [.int i, .int j] ∧ (-(2 ^ 62) ≤ i ∧ i < 2 ^ 62 ∧ -(2 ^ 62) ≤ j ∧ j < 2 ^ 62) ∧ R (Itr i (j - i).toNat) H := ⟨m, n, rfl, by omega, h⟩
/-- over a list that stands: as the items, f their values -/
theorem x_forL {α : Type} (as : List α) (f : α → V) (Pv : List α → L2.St → Hp → Prop) (h0 : Pv [] σ H) (hl : ∀ pre σ' H', pre.length ≤ as.length → Pv pre σ' H' → SqL K H' a (as.map f))
    (hs : ∀ pre x post σ' H', as = pre ++ x :: post → Pv pre σ' H' → g (f x) σ' H' fun σ2 H2 => ts { D with nx := Pv (pre ++ [x]), ct := Pv (pre ++ [x]), bk := D.nx } σ2 H2)
    (hd : ∀ σ' H', Pv as σ' H' → D.nx σ' H') : ∃ b, V.ref a = .ref b ∧ (∃ xs, SqL K H b xs) ∧ ForRun g ts D σ (Itl K b) H := by
  refine ⟨a, rfl, ⟨_, hl [] σ H (Nat.zero_le _) h0⟩, for_list (xs := as.map f) (fun i σ' H' => i ≤ as.length ∧ Pv (as.take i) σ' H') ⟨Nat.zero_le _, by rw [List.take_zero]; exact h0⟩ (fun i σ' H' _ p => hl _ σ' H' (by rw [List.length_take]; omega) p.2) (fun i x σ' H' hx p => ?_) fun σ' H' p => hd σ' H' (by
    have q := p.2
    rw [List.length_map, List.take_length] at q
    exact q)⟩
  rw [List.getElem?_map] at hx
  cases ex : as[i]? with
  | none => rw [ex] at hx; cases hx
  | some n =>
    rw [ex] at hx
    cases hx
    have hi : i < as.length := (List.getElem?_eq_some_iff.mp ex).1
    have q := hs (as.take i) n (as.drop (i + 1)) σ' H' (split_at ex) p.2
    have e1 : (fun σ'' H'' => i + 1 ≤ as.length ∧ Pv (as.take (i + 1)) σ'' H'') = Pv (as.take i ++ [n]) := by
      funext σ'' H''
      rw [take_snoc ex]
      exact propext ⟨fun q => q.2, fun q => ⟨hi, q⟩⟩
    rw [e1]
    exact q
theorem x_forT {α : Type} (as : List α) (f : α → V) (Pv : List α → L2.St → Hp → Prop) (h0 : Pv [] σ H) (hl : ∀ pre σ' H', pre.length ≤ as.length → Pv pre σ' H' → SqT K H' a (as.map f))
    (hs : ∀ pre x post σ' H', as = pre ++ x :: post → Pv pre σ' H' → g (f x) σ' H' fun σ2 H2 => ts { D with nx := Pv (pre ++ [x]), ct := Pv (pre ++ [x]), bk := D.nx } σ2 H2)
    (hd : ∀ σ' H', Pv as σ' H' → D.nx σ' H') : ∃ b, V.ref a = .ref b ∧ (∃ xs, SqT K H b xs) ∧ ForRun g ts D σ (Itt K b) H := by
  refine ⟨a, rfl, ⟨_, hl [] σ H (Nat.zero_le _) h0⟩, for_tup (xs := as.map f) (fun i σ' H' => i ≤ as.length ∧ Pv (as.take i) σ' H') ⟨Nat.zero_le _, by rw [List.take_zero]; exact h0⟩ (fun i σ' H' _ p => hl _ σ' H' (by rw [List.length_take]; omega) p.2) (fun i x σ' H' hx p => ?_) fun σ' H' p => hd σ' H' (by
    have q := p.2
    rw [List.length_map, List.take_length] at q
    exact q)⟩
  rw [List.getElem?_map] at hx
  cases ex : as[i]? with
  | none => rw [ex] at hx; cases hx
  | some n =>
    rw [ex] at hx
    cases hx
    have hi : i < as.length := (List.getElem?_eq_some_iff.mp ex).1
    have q := hs (as.take i) n (as.drop (i + 1)) σ' H' (split_at ex) p.2
    have e1 : (fun σ'' H'' => i + 1 ≤ as.length ∧ Pv (as.take (i + 1)) σ'' H'') = Pv (as.take i ++ [n]) := by
      funext σ'' H''
      rw [take_snoc ex]
      exact propext ⟨fun q => q.2, fun q => ⟨hi, q⟩⟩
    rw [e1]
    exact q
/-- over lo, lo + 1, .. : the turn's number k -/
theorem x_forR {lo : Int} {n : Nat} (Pv : Nat → L2.St → Hp → Prop) (h0 : Pv 0 σ H)
    (hs : ∀ k σ' H', k < n → Pv k σ' H' → g (.int (lo + (k : Nat))) σ' H' fun σ2 H2 => ts { D with nx := Pv (k + 1), ct := Pv (k + 1), bk := D.nx } σ2 H2)
    (hd : ∀ σ' H', Pv n σ' H' → D.nx σ' H') : ForRun g ts D σ (Itr lo n) H := for_range Pv h0 hs hd
theorem mono_var {k : Nat} (Q Q' : VK) (h : ∀ v H', Q v H' → Q' v H') (q : tVar k σ H Q) : tVar k σ H Q' := by
  obtain ⟨v, e, q⟩ := q
  exact ⟨v, e, h v H q⟩
/-- over a list or tuple that a name holds, which stood at H0 -/
theorem x_forQ {α : Type} {H0 : Hp} (as : List α) (f : α → V) (hv : σ[i]? = some (some (.ref a))) (hq : Sq K H0 a (as.map f)) (Pv : List α → L2.St → Hp → Prop) (h0 : Pv [] σ H) (hk : ∀ pre σ' H', pre.length ≤ as.length → Pv pre σ' H' → Ex H0 H')
    (hs : ∀ pre x post σ' H', as = pre ++ x :: post → Pv pre σ' H' → g (f x) σ' H' fun σ2 H2 => ts { D with nx := Pv (pre ++ [x]), ct := Pv (pre ++ [x]), bk := D.nx } σ2 H2)
    (hd : ∀ σ' H', Pv as σ' H' → D.nx σ' H') : tFor (iSq K (tVar i)) g ts D σ H := by
  have key : ∀ {k : Nat} {n : α} {σ' : L2.St} {H' : Hp}, as[k]? = some n → Pv (as.take k) σ' H' → g (f n) σ' H' fun σ2 H2 => ts { D with nx := fun σ'' H'' => k + 1 ≤ as.length ∧ Pv (as.take (k + 1)) σ'' H'', ct := fun σ'' H'' => k + 1 ≤ as.length ∧ Pv (as.take (k + 1)) σ'' H'', bk := D.nx } σ2 H2 := by
    intro k n σ' H' ex p
    have hi : k < as.length := (List.getElem?_eq_some_iff.mp ex).1
    have e1 : (fun σ'' H'' => k + 1 ≤ as.length ∧ Pv (as.take (k + 1)) σ'' H'') = Pv (as.take k ++ [n]) := by
      funext σ'' H''
      rw [take_snoc ex]
      exact propext ⟨fun q => q.2, fun q => ⟨hi, q⟩⟩
    rw [e1]
    exact hs (as.take k) n (as.drop (k + 1)) σ' H' (split_at ex) p
  have look : ∀ {k : Nat} {x : V}, (as.map f)[k]? = some x → ∃ n, as[k]? = some n ∧ x = f n := by
    intro k x hx
    rw [List.getElem?_map] at hx
    cases ex : as[k]? with
    | none => rw [ex] at hx; cases hx
    | some n => rw [ex] at hx; cases hx; exact ⟨n, rfl, rfl⟩
  have h0' : (0 : Nat) ≤ as.length ∧ Pv (as.take 0) σ H := ⟨Nat.zero_le _, by rw [List.take_zero]; exact h0⟩
  have hd' : ∀ σ' H', ((as.map f).length ≤ as.length ∧ Pv (as.take (as.map f).length) σ' H') → D.nx σ' H' := fun σ' H' p => hd σ' H' (by
    have q := p.2
    rw [List.length_map, List.take_length] at q
    exact q)
  rcases hq with hq | hq
  · refine .inl ⟨.ref a, hv, a, rfl, ⟨_, Evl.ex_l (hk [] σ H (Nat.zero_le _) h0) hq⟩, for_list (xs := as.map f) (fun i σ' H' => i ≤ as.length ∧ Pv (as.take i) σ' H') h0' (fun i σ' H' _ p => Evl.ex_l (hk _ σ' H' (by rw [List.length_take]; omega) p.2) hq) (fun i x σ' H' hx p => ?_) hd'⟩
    obtain ⟨n, ex, rfl⟩ := look hx
    exact key ex p.2
  · refine .inr ⟨.ref a, hv, a, rfl, ⟨_, Evl.ex_t (hk [] σ H (Nat.zero_le _) h0) hq⟩, for_tup (xs := as.map f) (fun i σ' H' => i ≤ as.length ∧ Pv (as.take i) σ' H') h0' (fun i σ' H' _ p => Evl.ex_t (hk _ σ' H' (by rw [List.length_take]; omega) p.2) hq) (fun i x σ' H' hx p => ?_) hd'⟩
    obtain ⟨n, ex, rfl⟩ := look hx
    exact key ex p.2
/-- while, by a word that falls -/
theorem x_while (W : Nat → L2.St → Hp → Prop) (m0 : Nat) (h0 : W m0 σ H)
    (hs : ∀ m σ' H', W m σ' H' → tt σ' H' fun b H1 => if b = true then ts { D with nx := fun σ2 H2 => ∃ m', m' < m ∧ W m' σ2 H2, ct := fun σ2 H2 => ∃ m', m' < m ∧ W m' σ2 H2, bk := D.nx } σ' H1 else D.nx σ' H1)
    (mono : ∀ σ H Q Q', (∀ b H1, Q b H1 → Q' b H1) → tt σ H Q → tt σ H Q') : tWhile tt ts D σ H := by
  refine ⟨W, ⟨m0, h0⟩, fun m σ' H' hw => mono σ' H' _ _ (fun b H1 q => ?_) (hs m σ' H' hw)⟩
  cases b with
  | true => exact ⟨_, fun _ _ q => q, q⟩
  | false => exact q

/-! ### list comprehensions -/
/-- what is to be said of [te for .. in a list if tt]: the items as, their values f; which are taken, what is made -/
def LcSay (K : Frag) (j : Nat) (vs : List Nat) (tt : TT) (te : TE) (σ : L2.St) (H1 : Hp) (Q : VK) (α : Type) (as : List α) (f : α → V) (p : α → Bool) (v : α → V) : Prop :=
  as.length ≤ 1000000 ∧ (∀ x, wipe ((wipe σ vs).set j (some x)) vs = wipe σ vs) ∧
  (∀ x ∈ as, ∀ H', Ex H1 H' → ∀ QT : Bool → Hp → Prop, (∀ H2, Ex H' H2 → QT (p x) H2) → tt ((wipe σ vs).set j (some (f x))) H' QT) ∧
  (∀ x ∈ as, p x = true → ∀ H', Ex H1 H' → ∀ Q' : VK, (∀ H2, Ex H' H2 → Q' (v x) H2) → te ((wipe σ vs).set j (some (f x))) H' Q') ∧
  ∀ D H2, H1 D = none → Ex H1 H2 → H2 D = some (.lst ((as.filter p).map v)) → Q (.ref D) H2
theorem lc_step {α : Type} {as : List α} {p : α → Bool} {v : α → V} {H1 H' : Hp} {Dl : Addr} {k : Nat} {n : α} {σ2 : L2.St} (hz : as.length ≤ 1000000) (ex : as[k]? = some n) (hD : H1 Dl = none) (e1 : Ex H1 H') (hl : H' Dl = some (.lst (((as.take k).filter p).map v)))
    (ht : ∀ QT : Bool → Hp → Prop, (∀ H2, Ex H' H2 → QT (p n) H2) → tt σ2 H' QT)
    (he : p n = true → ∀ H2, Ex H1 H2 → ∀ Q' : VK, (∀ H3, Ex H2 H3 → Q' (v n) H3) → te σ2 H2 Q') :
    tt σ2 H' fun b H3 => if b = true then te σ2 H3 fun y H4 => ∃ acc, H4 Dl = some (.lst acc) ∧ acc.length < sizeLine ∧ ((Ex H1 (upd H4 Dl (.lst (acc ++ [y])))) ∧ (upd H4 Dl (.lst (acc ++ [y]))) Dl = some (.lst (((as.take (k + 1)).filter p).map v)))
      else ((Ex H1 H3) ∧ H3 Dl = some (.lst (((as.take (k + 1)).filter p).map v))) := by
  refine ht _ fun H3 e3 => ?_
  rw [take_snoc ex, List.filter_append, List.map_append]
  cases hp : p n with
  | true =>
    refine x_true ?_
    refine he hp H3 (e1.trans e3) _ fun H4 e4 => ?_
    refine ⟨_, e4 Dl _ (e3 Dl _ hl), ?_, Evl.Ex.mut ((e1.trans e3).trans e4) hD, ?_⟩
    · have h1 := List.length_filter_le p (as.take k)
      rw [List.length_take] at h1
      rw [List.length_map]
      exact szl (by omega)
    · rw [upd_same, List.filter_cons, if_pos hp]
      rfl
  | false =>
    refine x_false ⟨e1.trans e3, ?_⟩
    rw [List.filter_cons, if_neg (by rw [hp]; decide), e3 Dl _ hl]
    simp
/-- a comprehension's turns, from the iterator J -/
def LcRun (g : TG) (tt : TT) (te : TE) (vs : List Nat) (σ : L2.St) (Q : VK) (J : It) (H1 : Hp) : Prop := ∀ D, H1 D = none → ∃ W : Nat → Nat → Hp → Prop, (∃ m, W 0 m (upd H1 D (.lst []))) ∧ ∀ i m H, W i m H →
  (J.stop i H ∧ Q (.ref D) H) ∨ (J.go i H ∧ ∃ Nx : Hp → Prop, (∀ H', Nx H' → ∃ m', m' < m ∧ W (i + 1) m' H') ∧ ∀ x H', J.yld i H x H' → g x (wipe σ vs) H' fun σ2 H2 => wipe σ2 vs = wipe σ vs ∧ tt σ2 H2 fun b H3 =>
    if b = true then te σ2 H3 fun y H4 => ∃ acc, H4 D = some (.lst acc) ∧ acc.length < sizeLine ∧ Nx (upd H4 D (.lst (acc ++ [y]))) else Nx H3)
theorem x_lc {wi : TI} {vs : List Nat} (h : wi σ H (LcRun g tt te vs σ Q)) : tLc wi g tt te vs σ H Q := h
theorem x_lcL {vs : List Nat} {α : Type} (as : List α) (f : α → V) (p : α → Bool) (v : α → V) (hl : SqL K H a (as.map f)) (h : LcSay K j vs tt te σ H Q α as f p v) :
    ∃ b, V.ref a = .ref b ∧ (∃ xs, SqL K H b xs) ∧ LcRun (gName j) tt te vs σ Q (Itl K b) H := by
  obtain ⟨hz, hw, ht, he, q⟩ := h
  refine ⟨a, rfl, ⟨_, hl⟩, fun Dl hD => lc_list (xs := as.map f) (fun k H' => Ex H H' ∧ H' Dl = some (.lst (((as.take k).filter p).map v))) ⟨Evl.Ex.new hD, by rw [upd_same]; rfl⟩ (fun k H' _ pp => Evl.ex_l pp.1 hl) (fun k x H' hx pp => ?_) fun H' pp => q Dl H' hD pp.1 (by
    have r := pp.2
    rw [List.length_map, List.take_length] at r
    exact r)⟩
  rw [List.getElem?_map] at hx
  cases ex : as[k]? with
  | none => rw [ex] at hx; cases hx
  | some n =>
    rw [ex] at hx
    cases hx
    have hm : n ∈ as := List.mem_of_getElem? ex
    exact ⟨hw _, lc_step hz ex hD pp.1 pp.2 (ht n hm H' pp.1) fun hp H2 e2 => he n hm hp H2 e2⟩
theorem x_lcT {vs : List Nat} {α : Type} (as : List α) (f : α → V) (p : α → Bool) (v : α → V) (hl : SqT K H a (as.map f)) (h : LcSay K j vs tt te σ H Q α as f p v) :
    ∃ b, V.ref a = .ref b ∧ (∃ xs, SqT K H b xs) ∧ LcRun (gName j) tt te vs σ Q (Itt K b) H := by
  obtain ⟨hz, hw, ht, he, q⟩ := h
  refine ⟨a, rfl, ⟨_, hl⟩, fun Dl hD => lc_tup (xs := as.map f) (fun k H' => Ex H H' ∧ H' Dl = some (.lst (((as.take k).filter p).map v))) ⟨Evl.Ex.new hD, by rw [upd_same]; rfl⟩ (fun k H' _ pp => Evl.ex_t pp.1 hl) (fun k x H' hx pp => ?_) fun H' pp => q Dl H' hD pp.1 (by
    have r := pp.2
    rw [List.length_map, List.take_length] at r
    exact r)⟩
  rw [List.getElem?_map] at hx
  cases ex : as[k]? with
  | none => rw [ex] at hx; cases hx
  | some n =>
    rw [ex] at hx
    cases hx
    have hm : n ∈ as := List.mem_of_getElem? ex
    exact ⟨hw _, lc_step hz ex hD pp.1 pp.2 (ht n hm H' pp.1) fun hp H2 e2 => he n hm hp H2 e2⟩
/-- lo, lo + 1, .. below hi -/
def irange (lo hi : Int) : List Int := (List.range (hi - lo).toNat).map fun k => lo + ((k : Nat) : Int)
theorem irange_len (lo hi : Int) : (irange lo hi).length = (hi - lo).toNat := by unfold irange; rw [List.length_map, List.length_range]
theorem irange_at {lo hi : Int} {k : Nat} (h : k < (hi - lo).toNat) : (irange lo hi)[k]? = some (lo + (k : Int)) := by
  unfold irange
  rw [List.getElem?_map, List.getElem?_range h]
  rfl
theorem mem_irange {lo hi i : Int} : i ∈ irange lo hi ↔ lo ≤ i ∧ i < hi := by
  unfold irange
  rw [List.mem_map]
  constructor
  · rintro ⟨k, hk, rfl⟩
    rw [List.mem_range] at hk
    omega
  · rintro ⟨h1, h2⟩
    exact ⟨(i - lo).toNat, by rw [List.mem_range]; omega, by omega⟩
theorem x_lcR {lo hi : Int} {vs : List Nat} (p : Int → Bool) (v : Int → V) (h : LcSay K j vs tt te σ H Q Int (irange lo hi) V.int p v) : LcRun (gName j) tt te vs σ Q (Itr lo (hi - lo).toNat) H := by
  obtain ⟨hz, hw, ht, he, q⟩ := h
  intro Dl hD
  refine lc_range (fun k H' => Ex H H' ∧ H' Dl = some (.lst ((((irange lo hi).take k).filter p).map v))) ⟨Evl.Ex.new hD, by rw [upd_same]; rfl⟩ (fun k H' hk pp => ?_) fun H' pp => q Dl H' hD pp.1 (by
    have r := pp.2
    rw [List.take_of_length_le (by rw [irange_len]; exact Nat.le_refl _)] at r
    exact r)
  have ex := irange_at hk
  have hm := List.mem_of_getElem? ex
  exact ⟨hw _, lc_step hz ex hD pp.1 pp.2 (ht _ hm H' pp.1) fun hp H2 e2 => he _ hm hp H2 e2⟩
end

/-! ### min(xs, default=d) -/
section
open PySem.W (dataLt dataLt_ii dataLt_pair minD min_list_default)
theorem dataLt_int (x y : Int) : dataLt (.int x) (.int y) = decide (x < y) := by
  have h := dataLt_ii 0 x 0 y
  rw [dataLt_pair rfl rfl] at h
  have e0 : PyData.eqv (.int 0) (.int 0) = true := by decide
  rw [if_pos e0] at h
  by_cases e : PyData.eqv (.int x) (.int y) = true
  · rw [if_pos e] at h
    have hxy : x = y := by simpa [PyData.eqv] using e
    subst hxy
    rw [show dataLt (.int x) (.int x) = false from PySem.W.dataLt_self _]
    simp
  · rw [if_neg e] at h
    rw [h]
    simp
theorem minD_least : ∀ (ns : List Int) (n : Int), ∃ m, minD (.int n) (ns.map PyData.int) = .int m ∧ m ∈ n :: ns ∧ ∀ y ∈ n :: ns, m ≤ y
  | [], n => ⟨n, rfl, by simp, by simp⟩
  | a :: ns, n => by
    have e : minD (.int n) ((a :: ns).map PyData.int) = minD (if dataLt (.int a) (.int n) then .int a else .int n) (ns.map PyData.int) := rfl
    rw [e, dataLt_int]
    by_cases h : a < n
    · rw [decide_eq_true h, if_pos rfl]
      obtain ⟨m, e1, h1, h2⟩ := minD_least ns a
      refine ⟨m, e1, List.mem_cons_of_mem _ h1, fun y hy => ?_⟩
      rcases List.mem_cons.mp hy with rfl | hy
      · exact Int.le_trans (h2 a List.mem_cons_self) (Int.le_of_lt h)
      · exact h2 y hy
    · rw [decide_eq_false h, if_neg Bool.false_ne_true]
      obtain ⟨m, e1, h1, h2⟩ := minD_least ns n
      refine ⟨m, e1, ?_, fun y hy => ?_⟩
      · rcases List.mem_cons.mp h1 with rfl | h1
        · exact List.mem_cons_self
        · exact List.mem_cons_of_mem _ (List.mem_cons_of_mem _ h1)
      · rcases List.mem_cons.mp hy with rfl | hy
        · exact h2 y List.mem_cons_self
        · rcases List.mem_cons.mp hy with rfl | hy
          · exact Int.le_trans (h2 n List.mem_cons_self) (by omega)
          · exact h2 y (List.mem_cons_of_mem _ hy)
theorem reads_ints {h : Heap} : ∀ {ns : List Int} {us : List Value}, Vals (ns.map V.int) us → ReadsAll h us (ns.map PyData.int) []
  | [], _, .nil => .nil
  | n :: ns, _, .cons r t => by
    obtain ⟨t1, rfl⟩ := r
    exact .cons (as := []) (bs := []) (Reads.int n t1) (reads_ints t)
theorem depth_ints : ∀ ns : List Int, PyData.depthAll (ns.map PyData.int) ≤ 1
  | [] => by decide
  | n :: ns => by
    have h := depth_ints ns
    show PyData.depthAll (PyData.int n :: ns.map PyData.int) ≤ 1
    simp only [PyData.depthAll, PyData.depth]
    omega
theorem call_minD {X : Cx} (hc : X.calm = true) (hu : X.A.units + 64 < cLine) : CallRK X (.builtin "min") [Str.ofString "default"] (rMinD X.K) := by
  intro pins s σ H xs zs us ws Q I r rz h
  obtain ⟨a, ns, d, rfl, rfl, hs, h0, h1⟩ := h
  obtain ⟨its, rv, hl, _⟩ := I.list hs
  obtain rfl := Vals.ref1 r
  obtain ⟨w1, rfl, e1⟩ := vals1 rz
  have hd := depth_ints ns
  refine min_list_default (xs := ns.map PyData.int) (as := []) (I.ok.hd hc) hl.isList (by simpa using reads_ints rv) ⟨fun x hx y hy => ?_, fun x hx => ?_⟩ (by omega) (fun e h' tk hk => ⟨d, H, I.kept hk, e1, h0 (by simpa using e)⟩) (fun y ys i v h' tk bs e hi hr hk => ?_)
  · obtain ⟨_, _, rfl⟩ := List.mem_map.mp hx
    obtain ⟨_, _, rfl⟩ := List.mem_map.mp hy
    rfl
  · obtain ⟨_, _, rfl⟩ := List.mem_map.mp hx
    exact fun z => nomatch z
  · cases ns with
    | nil => cases e
    | cons n ns =>
      injection e with e2 e3
      subst e2 e3
      obtain ⟨m, em, m1, m2⟩ := minD_least ns n
      rw [em] at hr
      obtain ⟨t, rfl, _⟩ := PyProof.Rows.reads_int_inv hr
      exact ⟨.int m, H, I.kept hk, ⟨t, rfl⟩, h1 m m1 m2⟩
end
end B

namespace B
open PySem PySem.Spec PyProof.Rows L2
open PySem.W (Frag)
/-! ### kinds of values -/
inductive KS where
  | non | bl | int | str | lst | tup | dct
  deriving DecidableEq
inductive Kind (K : Frag) (H : Hp) : V → KS → Prop where
  | non : Kind K H .non .non
  | bl (b : Bool) : Kind K H (.bl b) .bl
  | int (i : Int) : Kind K H (.int i) .int
  | str (x : Str) : Kind K H (.str x) .str
  | lst {a : Addr} {xs : List V} (h : SqL K H a xs) : Kind K H (.ref a) .lst
  | tup {a : Addr} {xs : List V} (h : SqT K H a xs) : Kind K H (.ref a) .tup
  | dct {a : Addr} {kvs : List (Key × V)} (h : H a = some (.dK kvs)) : Kind K H (.ref a) .dct
theorem Kind.ex {K : Frag} {H H' : Hp} {x : V} {s : KS} (e : Ex H H') (h : Kind K H x s) : Kind K H' x s := by
  cases h with
  | non => exact .non
  | bl b => exact .bl b
  | int i => exact .int i
  | str x => exact .str x
  | lst h => exact .lst (Evl.ex_l e h)
  | tup h => exact .tup (Evl.ex_t e h)
  | dct h => exact .dct (e _ _ h)
def KS.name : KS → String
  | .non => "NoneType" | .bl => "bool" | .int => "int" | .str => "str" | .lst => "list" | .tup => "tuple" | .dct => "dict"
/-- the class a value's kind is under -/
def KS.isA : KS → String → Bool
  | .bl, t => t == "bool" || t == "int"
  | k, t => k.name == t
theorem Kind.ty {K : Frag} {H : Hp} {x : V} {s : KS} (h : Kind K H x s) : TyX K H x (.type s.name) := by
  cases h with
  | non => exact .base .non
  | bl b => exact .base (.bl b)
  | int i => exact .base (.int i)
  | str x => exact .base (.str x)
  | lst h =>
    rcases h with (h | ⟨o, h⟩) | ⟨o, its, n, h⟩
    · exact .base (.lst h)
    · exact .base (.frz h)
    · exact .kList h.1 h.2.1
  | tup h =>
    rcases h with (h | ⟨o, h⟩) | ⟨o, its, n, h⟩
    · exact .base (.tup h)
    · exact .fTuple h
    · exact .kTuple h.1 h.2.1
  | dct h => exact .base (.dK h)

section
variable {K : Frag} {σ : L2.St} {H H' : Hp} {Q : VK} {QT : Bool → Hp → Prop} {i j : Nat} {v x y z : V} {ta tb te tl : TE} {tt tu tv : TT} {tr : TA} {b : Bool} {D : Ends} {s1 s2 ts : TS} {g : TG} {a : Addr} {xs ys : List V}
/-! ### isinstance -/
theorem kit_int (s : KS) : PySem.W.kitOne K (.type s.name) (.type "int") = some (s.isA "int") := by cases s <;> exact kit_ty (by decide +kernel)
theorem kit_bool (s : KS) : PySem.W.kitOne K (.type s.name) (.type "bool") = some (s.isA "bool") := by cases s <;> exact kit_ty (by decide +kernel)
theorem kit_list (s : KS) : PySem.W.kitOne K (.type s.name) (.type "list") = some (s.isA "list") := by cases s <;> exact kit_ty (by decide +kernel)
theorem kit_tuple (s : KS) : PySem.W.kitOne K (.type s.name) (.type "tuple") = some (s.isA "tuple") := by cases s <;> exact kit_ty (by decide +kernel)
theorem kit_str (s : KS) : PySem.W.kitOne K (.type s.name) (.type "str") = some (s.isA "str") := by cases s <;> exact kit_ty (by decide +kernel)
theorem x_isi_int {s : KS} (k : Kind K H x s) (q : Q (.bl (s.isA "int")) H) : rIsi K [x, .ty "int"] H Q := ⟨x, _, _, _, _, rfl, .ty _, k.ty, kit_int s, q⟩
theorem x_isi_bool {s : KS} (k : Kind K H x s) (q : Q (.bl (s.isA "bool")) H) : rIsi K [x, .ty "bool"] H Q := ⟨x, _, _, _, _, rfl, .ty _, k.ty, kit_bool s, q⟩
theorem x_isi_list {s : KS} (k : Kind K H x s) (q : Q (.bl (s.isA "list")) H) : rIsi K [x, .ty "list"] H Q := ⟨x, _, _, _, _, rfl, .ty _, k.ty, kit_list s, q⟩
theorem x_isi_tuple {s : KS} (k : Kind K H x s) (q : Q (.bl (s.isA "tuple")) H) : rIsi K [x, .ty "tuple"] H Q := ⟨x, _, _, _, _, rfl, .ty _, k.ty, kit_tuple s, q⟩
theorem x_isi_str {s : KS} (k : Kind K H x s) (q : Q (.bl (s.isA "str")) H) : rIsi K [x, .ty "str"] H Q := ⟨x, _, _, _, _, rfl, .ty _, k.ty, kit_str s, q⟩
/-- isinstance(x, (list, tuple)) -/
theorem x_isiLT {s : KS} {p : Addr} (k : Kind K H x s) (hp : H p = some (.tup [.ty "list", .ty "tuple"])) (q : Q (.bl (s.isA "list" || s.isA "tuple")) H) : rIsiT K [x, .ref p] H Q := by
  refine ⟨x, p, _, _, _, s.isA "list" || s.isA "tuple", rfl, hp, .cons (.ty _) (.cons (.ty _) .nil), k.ty, kitAny_cons (kit_list s) (fun e => kitAny_cons (r := s.isA "list" || s.isA "tuple") (kit_tuple s) (fun e2 => ?_) ?_) ?_, q⟩
  · rw [e, e2]; exact kitAny_nil
  all_goals (cases s <;> decide)

/-! ### lists and tuples: lengths, items, copies -/
def rLen (K : Frag) : List V → Hp → VK → Prop := fun xs H Q => ∃ p ys, xs = [.ref p] ∧ (SqL K H p ys ∨ SqT K H p ys) ∧ Q (.int ys.length) H
def rListOf (K : Frag) : List V → Hp → VK → Prop := fun xs H Q => ∃ p ys, xs = [.ref p] ∧ (SqL K H p ys ∨ SqT K H p ys) ∧ ∀ l, H l = none → Q (.ref l) (upd H l (.lst ys))
def rTupOf (K : Frag) : List V → Hp → VK → Prop := fun xs H Q => ∃ p ys, xs = [.ref p] ∧ ((SqL K H p ys ∧ ∀ l, H l = none → Q (.ref l) (upd H l (.tup ys))) ∨ (SqT K H p ys ∧ Q (.ref p) H))
theorem call_len {X : Cx} : CallR X (.builtin "len") (rLen X.K) := call_len_seq
theorem call_listOf {X : Cx} : CallR X (.type "list") (rListOf X.K) := call_list_of
theorem call_tupOf {X : Cx} : CallR X (.type "tuple") (rTupOf X.K) := call_tuple_of
def rMin2 : List V → Hp → VK → Prop := fun xs H Q => ∃ i j, xs = [.int i, .int j] ∧ Q (.int (if j < i then j else i)) H
def rMax2 : List V → Hp → VK → Prop := fun xs H Q => ∃ i j, xs = [.int i, .int j] ∧ Q (.int (if j > i then j else i)) H
theorem call_min2 {X : Cx} (hc : X.calm = true) : CallR X (.builtin "min") rMin2 := L2.call_min2 hc
theorem call_max2 {X : Cx} (hc : X.calm = true) : CallR X (.builtin "max") rMax2 := L2.call_max2 hc
theorem x_len (h : Sq K H a xs) (q : Q (.int xs.length) H) : rLen K [.ref a] H Q := ⟨a, xs, rfl, h, q⟩
theorem x_min2 {m n : Int} (q : Q (.int (if n < m then n else m)) H) : rMin2 [.int m, .int n] H Q := ⟨m, n, rfl, q⟩
theorem x_max2 {m n : Int} (q : Q (.int (if n > m then n else m)) H) : rMax2 [.int m, .int n] H Q := ⟨m, n, rfl, q⟩
theorem x_ixL {k : Int} (h : SqL K H a xs) (e : atI xs k = some v) (q : Q v H) : rIxL K (.ref a) (.int k) H Q := ⟨a, xs, k, v, rfl, rfl, h, e, q⟩
theorem x_ixT {k : Int} (h : SqT K H a xs) (e : atI xs k = some v) (q : Q v H) : rIxT K (.ref a) (.int k) H Q := ⟨a, xs, k, v, rfl, rfl, h, e, q⟩
theorem x_listOf (h : Sq K H a xs) (q : ∀ p H', H p = none → Ex H H' → H' p = some (.lst xs) → Q (.ref p) H') : rListOf K [.ref a] H Q := ⟨a, xs, rfl, h, x_new q⟩
theorem x_tupOf (h : SqL K H a xs) (q : ∀ p H', H p = none → Ex H H' → H' p = some (.tup xs) → Q (.ref p) H') : rTupOf K [.ref a] H Q := ⟨a, xs, rfl, .inl ⟨h, x_new q⟩⟩
/-! ### data compared -/
def vd : V → PyData
  | .non => .none
  | .bl b => .bool b
  | .int i => .int i
  | .str x => .str x
  | _ => .none
/-- None and whole numbers -/
def plainV : V → Bool
  | .non => true
  | .int _ => true
  | _ => false
theorem eqv_vd {x y : V} (hx : plainV x = true) (hy : plainV y = true) : PyData.eqv (vd x) (vd y) = decide (x = y) := by
  cases x <;> cases y <;> simp [plainV, vd, PyData.eqv] at * <;> exact Bool.beq_eq_decide_eq _ _
theorem eqv_vdAll : ∀ {xs ys : List V}, xs.all plainV = true → ys.all plainV = true → PyData.eqvAll (xs.map vd) (ys.map vd) = decide (xs = ys)
  | [], [], _, _ => by simp [PyData.eqvAll]
  | [], _ :: _, _, _ => by simp [PyData.eqvAll]
  | _ :: _, [], _, _ => by simp [PyData.eqvAll]
  | x :: xs, y :: ys, hx, hy => by
    simp only [List.all_cons, Bool.and_eq_true] at hx hy
    show (PyData.eqv (vd x) (vd y) && PyData.eqvAll (xs.map vd) (ys.map vd)) = _
    rw [eqv_vd hx.1 hy.1, eqv_vdAll hx.2 hy.2]
    by_cases e1 : x = y <;> by_cases e2 : xs = ys <;> simp [e1, e2]
theorem dpAll_vd : ∀ {xs : List V}, xs.all plainV = true → DpAll K H xs (xs.map vd)
  | [], _ => .nil
  | x :: xs, h => by
    simp only [List.all_cons, Bool.and_eq_true] at h
    refine .cons ?_ (dpAll_vd h.2)
    cases x <;> simp [plainV] at h
    · exact .non
    · exact .int _
theorem can_vd : ∀ xs : List V, xs.all plainV = true → PyData.canLayAll0 (xs.map vd) = true ∧ PyData.depthAll (xs.map vd) ≤ 1
  | [], _ => by decide
  | x :: xs, h => by
    simp only [List.all_cons, Bool.and_eq_true] at h
    obtain ⟨h1, h2⟩ := can_vd xs h.2
    cases x <;> simp [plainV] at h <;> simp_all [vd, PyData.canLayAll0, PyData.canLay0, PyData.depthAll, PyData.depth]
theorem shaped_l {xs : List V} (h : xs.all plainV = true) : SeqAt.shaped (.list (xs.map vd)) = true := by
  obtain ⟨h1, h2⟩ := can_vd xs h
  simp only [SeqAt.shaped, PyData.canLay0, PyData.depth, h1, Bool.true_and, decide_eq_true_eq]
  exact decide_eq_true (by omega)
theorem shaped_t {xs : List V} (h : xs.all plainV = true) : SeqAt.shaped (.tuple (xs.map vd)) = true := by
  obtain ⟨h1, h2⟩ := can_vd xs h
  simp only [SeqAt.shaped, PyData.canLay0, PyData.depth, h1, Bool.true_and, decide_eq_true_eq]
  exact decide_eq_true (by omega)
theorem x_eqL {c : Addr} (h1 : SqL K H a xs) (h2 : SqL K H c ys) (p1 : xs.all plainV = true) (p2 : ys.all plainV = true) (q : Q (.bl (decide (xs = ys))) H) : rEqD K (.ref a) (.ref c) H Q :=
  ⟨_, _, .lst h1 (dpAll_vd p1), .lst h2 (dpAll_vd p2), shaped_l p1, shaped_l p2, by rw [show PyData.eqv (.list (xs.map vd)) (.list (ys.map vd)) = PyData.eqvAll (xs.map vd) (ys.map vd) from by simp only [PyData.eqv], eqv_vdAll p1 p2]; exact q⟩
theorem x_neL {c : Addr} (h1 : SqL K H a xs) (h2 : SqL K H c ys) (p1 : xs.all plainV = true) (p2 : ys.all plainV = true) (q : Q (.bl (!decide (xs = ys))) H) : rNeD K (.ref a) (.ref c) H Q :=
  ⟨_, _, .lst h1 (dpAll_vd p1), .lst h2 (dpAll_vd p2), shaped_l p1, shaped_l p2, by rw [show PyData.eqv (.list (xs.map vd)) (.list (ys.map vd)) = PyData.eqvAll (xs.map vd) (ys.map vd) from by simp only [PyData.eqv], eqv_vdAll p1 p2]; exact q⟩
theorem x_eqT {c : Addr} (h1 : SqT K H a xs) (h2 : SqT K H c ys) (p1 : xs.all plainV = true) (p2 : ys.all plainV = true) (q : Q (.bl (decide (xs = ys))) H) : rEqD K (.ref a) (.ref c) H Q :=
  ⟨_, _, .tup h1 (dpAll_vd p1), .tup h2 (dpAll_vd p2), shaped_t p1, shaped_t p2, by rw [show PyData.eqv (.tuple (xs.map vd)) (.tuple (ys.map vd)) = PyData.eqvAll (xs.map vd) (ys.map vd) from by simp only [PyData.eqv], eqv_vdAll p1 p2]; exact q⟩
theorem x_neT {c : Addr} (h1 : SqT K H a xs) (h2 : SqT K H c ys) (p1 : xs.all plainV = true) (p2 : ys.all plainV = true) (q : Q (.bl (!decide (xs = ys))) H) : rNeD K (.ref a) (.ref c) H Q :=
  ⟨_, _, .tup h1 (dpAll_vd p1), .tup h2 (dpAll_vd p2), shaped_t p1, shaped_t p2, by rw [show PyData.eqv (.tuple (xs.map vd)) (.tuple (ys.map vd)) = PyData.eqvAll (xs.map vd) (ys.map vd) from by simp only [PyData.eqv], eqv_vdAll p1 p2]; exact q⟩
theorem plain_ints (ns : List Int) : (ns.map V.int).all plainV = true := by simp [plainV]
theorem ints_inj {ns ms : List Int} : ns.map V.int = ms.map V.int ↔ ns = ms := by
  constructor
  · intro h
    exact (List.map_inj_right (fun a b e => V.int.inj e)).mp h
  · intro h; rw [h]
/-- a ship's berth, or None -/
def optV : Option Int → V
  | none => .non
  | some b => .int b
theorem plain_opts (os : List (Option Int)) : (os.map optV).all plainV = true := by
  rw [List.all_map, List.all_eq_true]
  intro o _
  cases o <;> rfl
theorem optV_inj {a b : Option Int} (h : optV a = optV b) : a = b := by cases a <;> cases b <;> simp [optV] at h <;> simp_all
/-! ### sums, sorts -/
theorem x_sum {ns : List Int} (h : SqL K H a (ns.map V.int)) (q : Q (.int ns.sum) H) : rSum K [.ref a] H Q := ⟨a, ns, rfl, h, q⟩
theorem x_sorted {ns : List Int} (h : SqL K H a (ns.map V.int)) (q : ∀ (ns' : List Int) p H', ns'.Perm ns → ns'.Pairwise (· ≤ ·) → H p = none → Ex H H' → H' p = some (.lst (ns'.map V.int)) → Q (.ref p) H') : rSortedI K [.ref a] H Q :=
  ⟨a, ns, rfl, h, fun ns' p h1 h2 hp => q ns' p _ h1 h2 hp (Evl.Ex.new hp) upd_same⟩
end
end B

namespace B
open PySem PySem.Spec PyProof.Rows L2
open PySem.W (Frag)
/-! ### an object is changed -/
structure Upd (H : Hp) (l : Addr) (o : HO) (H' : Hp) : Prop where
  same : H' l = some o
  other : ∀ b, b ≠ l → H' b = H b
theorem Upd.mk0 {H : Hp} {l : Addr} {o : HO} : Upd H l o (upd H l o) := ⟨upd_same, fun _ h => upd_ne h⟩
theorem Upd.ex {H0 H H' : Hp} {l : Addr} {o : HO} (u : Upd H l o H') (e : Ex H0 H) (h : H0 l = none) : Ex H0 H' := fun b x q => by
  rw [u.other b (ne_of_none q h)]
  exact e b x q
theorem Upd.get {H H' : Hp} {l b : Addr} {o x : HO} (u : Upd H l o H') (n : b ≠ l) (h : H b = some x) : H' b = some x := by rw [u.other b n]; exact h
theorem Upd.getL {K : Frag} {H H' : Hp} {l b : Addr} {o : HO} {xs : List V} (u : Upd H l o H') (n : b ≠ l) (h : SqL K H b xs) : SqL K H' b xs := by
  rcases h with (h | ⟨z, h⟩) | h
  · exact .inl (.inl (u.get n h))
  · exact .inl (.inr ⟨z, u.get n h⟩)
  · exact .inr h
section
variable {K : Frag} {σ : L2.St} {H H' : Hp} {Q : VK} {QT : Bool → Hp → Prop} {i j : Nat} {v x y z : V} {ta tb te tl tv to td : TE} {tt tu : TT} {t tr : TA} {b : Bool} {D : Ends} {s1 s2 ts : TS} {g : TG} {a l : Addr} {xs ys : List V} {kvs : List (Key × V)} {k : Key}
/-! ### methods of lists -/
def rBML (K : Frag) (T : String) (r : V → List V → Hp → VK → Prop) (t : TA) (σ : L2.St) (Q : VK) : V → Hp → Prop := fun x H1 => tyV K T x H1 ∧ t σ H1 fun vs H2 => r x vs H2 Q
theorem x_BM {T : String} {r : V → List V → Hp → VK → Prop} (h : to σ H (rBML K T r t σ Q)) : tBM K T r to t σ H Q := h
def rBM0L (K : Frag) (T : String) (r : V → List V → Hp → VK → Prop) (Q : VK) : V → Hp → Prop := fun x H1 => tyV K T x H1 ∧ r x [] H1 Q
theorem x_BM0 {T : String} {r : V → List V → Hp → VK → Prop} (h : to σ H (rBM0L K T r Q)) : tBM0 K T r to σ H Q := h
theorem x_onL {r : V → List V → Hp → VK → Prop} (hl : SqL K H l xs) (h : t σ H fun vs H2 => r (.ref l) vs H2 Q) : rBML K "list" r t σ Q (.ref l) H := ⟨.inl ⟨rfl, xs, hl⟩, h⟩
theorem x_onL0 {r : V → List V → Hp → VK → Prop} (hl : SqL K H l xs) (h : r (.ref l) [] H Q) : rBM0L K "list" r Q (.ref l) H := ⟨.inl ⟨rfl, xs, hl⟩, h⟩
theorem x_append (hl : H l = some (.lst xs)) (hz : xs.length ≤ 1000000) (q : ∀ H', Upd H l (.lst (xs ++ [y])) H' → Q .non H') : rAppend (.ref l) [y] H Q := ⟨l, xs, y, rfl, rfl, hl, szl hz, q _ .mk0⟩
theorem x_remove {ns : List Int} {n : Int} (hl : H l = some (.lst (ns.map V.int))) (hj : ns[j]? = some n) (hno : ∀ m : Nat, m < j → ns[m]? ≠ some n) (q : ∀ H', Upd H l (.lst ((ns.eraseIdx j).map V.int)) H' → Q .non H') : rRemI (.ref l) [.int n] H Q :=
  ⟨l, ns, n, j, rfl, rfl, hl, hj, hno, q _ .mk0⟩
theorem x_clear (hl : H l = some (.lst xs)) (q : ∀ H', Upd H l (.lst []) H' → Q .non H') : rClear (.ref l) [] H Q := ⟨l, xs, rfl, rfl, hl, q _ .mk0⟩
theorem x_pop (hl : H l = some (.lst xs)) (hy : xs[xs.length - 1]? = some y) (q : ∀ H', Upd H l (.lst xs.dropLast) H' → Q y H') : rPop (.ref l) [] H Q := ⟨l, xs, y, rfl, rfl, hl, hy, q _ .mk0⟩
/-- xs.pop(i), i from 0 -/
theorem x_popAt {n : Nat} (hl : H l = some (.lst xs)) (hz : xs.length ≤ 1000000) (hy : xs[n]? = some y) (q : ∀ H', Upd H l (.lst (xs.eraseIdx n)) H' → Q y H') : rPopAt (.ref l) [.int (n : Nat)] H Q := by
  have hn : n < xs.length := (List.getElem?_eq_some_iff.mp hy).1
  refine ⟨l, xs, (n : Int), n, y, rfl, rfl, hl, by omega, by omega, ?_, hy, q _ .mk0⟩
  unfold seqIndex?
  have h0 : (0 : Int) ≤ (n : Int) := by omega
  have h1 : (n : Int) < (xs.length : Int) := by omega
  first
    | (simp only [h0, h1, if_true, Int.toNat_natCast]; done)
    | (simp [h0, h1]; done)
    | (rw [if_pos h0, if_pos h1]; simp)
    | (simp; omega)
/-- xs[i] = e -/
theorem x_asgG {G : TG} (h : te σ H fun v H1 => G v σ H1 D.nx) : tAsg te G D σ H := h
def gSubC (ti : TE) (w : TSet) (v : V) (σ : L2.St) (Qn : L2.St → Hp → Prop) : V → Hp → Prop := fun o H1 => ti σ H1 fun i H2 => w o i v H2 fun H3 => Qn σ H3
theorem x_gSub {Qn : L2.St → Hp → Prop} {w : TSet} (h : to σ H fun o H1 => tb σ H1 fun i H2 => w o i v H2 (Qn σ)) : gSub to tb w v σ H Qn := h
theorem x_setL {n : Nat} {Qh : Hp → Prop} (hl : H l = some (.lst xs)) (hn : n < xs.length) (q : ∀ H', Upd H l (.lst (xs.set n v)) H' → Qh H') : rSetL (.ref l) (.int (n : Nat)) v H Qh := ⟨l, xs, (n : Int), n, rfl, rfl, hl, Evl.ixN_nat hn, q _ .mk0⟩
/-! ### dicts -/
def rDIn (y x : V) : Hp → VK → Prop := fun H Q => ∃ a o, x = .ref a ∧ DGet H a y o ∧ Q (.bl o.isSome) H
def rDNotIn (y x : V) : Hp → VK → Prop := fun H Q => ∃ a o, x = .ref a ∧ DGet H a y o ∧ Q (.bl (!o.isSome)) H
theorem x_dIn (h : ta σ H fun y H1 => td σ H1 fun x H2 => rDIn y x H2 Q) : tDIn ta td σ H Q := h
theorem x_dNotIn (h : ta σ H fun y H1 => td σ H1 fun x H2 => rDNotIn y x H2 Q) : tDNotIn ta td σ H Q := h
theorem x_inI {n : Int} (hd : H a = some (.dK kvs)) (q : Q (.bl (valV kvs (.inl n)).isSome) H) : rDIn (.int n) (.ref a) H Q := ⟨a, _, rfl, DGet.k (k := .inl n) hd, q⟩
theorem x_inS {n : Str} (hd : H a = some (.dK kvs)) (q : Q (.bl (valV kvs (.inr n)).isSome) H) : rDIn (.str n) (.ref a) H Q := ⟨a, _, rfl, DGet.k (k := .inr n) hd, q⟩
theorem x_notInI {n : Int} (hd : H a = some (.dK kvs)) (q : Q (.bl (!(valV kvs (.inl n)).isSome)) H) : rDNotIn (.int n) (.ref a) H Q := ⟨a, _, rfl, DGet.k (k := .inl n) hd, q⟩
theorem x_notInS {n : Str} (hd : H a = some (.dK kvs)) (q : Q (.bl (!(valV kvs (.inr n)).isSome)) H) : rDNotIn (.str n) (.ref a) H Q := ⟨a, _, rfl, DGet.k (k := .inr n) hd, q⟩
def rDGet (x y : V) : Hp → VK → Prop := fun H Q => ∃ a v, x = .ref a ∧ DGet H a y (some v) ∧ Q v H
theorem x_dGet (h : td σ H fun x H1 => ta σ H1 fun y H2 => rDGet x y H2 Q) : tDGet td ta σ H Q := h
theorem x_getI {n : Int} (hd : H a = some (.dK kvs)) (e : valV kvs (.inl n) = some v) (q : Q v H) : rDGet (.ref a) (.int n) H Q := ⟨a, v, rfl, by rw [← e]; exact DGet.k (k := .inl n) hd, q⟩
theorem x_getS {n : Str} (hd : H a = some (.dK kvs)) (e : valV kvs (.inr n) = some v) (q : Q v H) : rDGet (.ref a) (.str n) H Q := ⟨a, v, rfl, by rw [← e]; exact DGet.k (k := .inr n) hd, q⟩
def rDPut (v x y : V) (nx : Hp → Prop) : Hp → Prop := fun H => ∃ a H4, x = .ref a ∧ DPut H a y v H4 ∧ nx H4
theorem x_dPut (h : tv σ H fun v H1 => td σ H1 fun x H2 => ta σ H2 fun y H3 => rDPut v x y (D.nx σ) H3) : sDPut td ta tv D σ H := h
theorem x_putI {n : Int} {nx : Hp → Prop} (hd : H a = some (.dK kvs)) (hz : kvs.length ≤ 1000000) (q : ∀ H', Upd H a (.dK (putK kvs (.inl n) v)) H' → nx H') : rDPut v (.ref a) (.int n) nx H := ⟨a, _, rfl, DPut.k (k := .inl n) hd (szl hz), q _ .mk0⟩
theorem x_putS {n : Str} {nx : Hp → Prop} (hd : H a = some (.dK kvs)) (hz : kvs.length ≤ 1000000) (q : ∀ H', Upd H a (.dK (putK kvs (.inr n) v)) H' → nx H') : rDPut v (.ref a) (.str n) nx H := ⟨a, _, rfl, DPut.k (k := .inr n) hd (szl hz), q _ .mk0⟩
/-! ### list(range(a, b)) -/
theorem rgV_eq (m n : Int) : rgV m n = (irange m n).map V.int := by unfold rgV irange; rw [List.map_map]; rfl
def rLstRg (Q : VK) : Int → Int → Hp → Prop := fun a b H1 => RgOk a b ∧ ∀ q, H1 q = none → Q (.ref q) (upd H1 q (.lst (rgV a b)))
theorem x_lstRg {tg : L2.St → Hp → (Int → Int → Hp → Prop) → Prop} (h : tg σ H (rLstRg Q)) : tLstRg tg σ H Q := h
theorem x_rg1 {R : Int → Int → Hp → Prop} (h : ta σ H fun x H1 => ∃ n, x = .int n ∧ R 0 n H1) : tRg1 ta σ H R := h
theorem x_rg2 {R : Int → Int → Hp → Prop} (h : ta σ H fun x H1 => tb σ H1 fun y H2 => ∃ i j, x = .int i ∧ y = .int j ∧ R i j H2) : tRg2 ta tb σ H R := h
theorem x_mkRg1 {n : Int} (hn : n ≤ 1000000 ∧ -1000000 ≤ n) (q : ∀ p H', H p = none → Ex H H' → H' p = some (.lst ((irange 0 n).map V.int)) → Q (.ref p) H') : ∃ m, V.int n = .int m ∧ rLstRg Q 0 m H :=
  ⟨n, rfl, ⟨by omega, by omega, by omega, by omega, by omega⟩, fun p hp => q p _ hp (Evl.Ex.new hp) (by rw [upd_same, rgV_eq])⟩
theorem x_mkRg2 {m n : Int} (hm : m ≤ 1000000 ∧ -1000000 ≤ m) (hn : n ≤ 1000000 ∧ -1000000 ≤ n) (q : ∀ p H', H p = none → Ex H H' → H' p = some (.lst ((irange m n).map V.int)) → Q (.ref p) H') : ∃ i j, V.int m = .int i ∧ V.int n = .int j ∧ rLstRg Q i j H :=
  ⟨m, n, rfl, rfl, ⟨by omega, by omega, by omega, by omega, by omega⟩, fun p hp => q p _ hp (Evl.Ex.new hp) (by rw [upd_same, rgV_eq])⟩
/-! ### keywords -/
theorem x_CKw {r : List V → List V → Hp → VK → Prop} {tk : TA} (h : t σ H fun vs H1 => tk σ H1 fun zs H2 => r vs zs H2 Q) : tCKw r t tk σ H Q := h
theorem x_minD {ns : List Int} {d : V} (h : SqL K H a (ns.map V.int)) (q0 : ns = [] → Q d H) (q : ∀ m, m ∈ ns → (∀ y, y ∈ ns → m ≤ y) → Q (.int m) H) : rMinD K [.ref a] [d] H Q := ⟨a, ns, d, rfl, rfl, h, q0, q⟩
/-! ### slices -/
theorem x_sl {r : V → Option Int → Option Int → Hp → VK → Prop} {tl' th : TO} (h : te σ H fun x H1 => tl' σ H1 fun lo H2 => th σ H2 fun hi H3 => r x lo hi H3 Q) : tSl r te tl' th σ H Q := h
theorem x_noPart {QO : Option Int → Hp → Prop} (h : QO none H) : tNoPart σ H QO := h
def rPart (QO : Option Int → Hp → Prop) : V → Hp → Prop := fun x H1 => ∃ i, x = .int i ∧ QO (some i) H1
theorem x_part {QO : Option Int → Hp → Prop} (h : te σ H (rPart QO)) : tPart te σ H QO := h
theorem x_partI {QO : Option Int → Hp → Prop} {n : Int} (h : QO (some n) H) : rPart QO (.int n) H := ⟨n, rfl, h⟩
theorem x_slL {lo hi : Option Int} (h : SqL K H a xs) (q : ∀ p H', H p = none → Ex H H' → H' p = some (.lst (cutV xs lo hi)) → Q (.ref p) H') : rSlL K (.ref a) lo hi H Q := ⟨a, xs, rfl, h, x_new q⟩
end
theorem at_head {x : V} {xs : List V} : atI (x :: xs) 0 = some x := by
  have h : atI (x :: xs) ((0 : Nat) : Int) = some x := atI_nat rfl
  exact h
/-- slices of lists, by drop and take -/
theorem cut_from (xs : List V) (n : Nat) : cutV xs (some (n : Int)) none = xs.drop n := by
  unfold cutV
  rw [HT.sIx_none, HT.sIx_nat]
  rcases Nat.le_total n xs.length with h | h
  · rw [Nat.min_eq_left h, List.take_of_length_le (by rw [List.length_drop]; exact Nat.le_refl _)]
  · rw [Nat.min_eq_right h, List.drop_length, List.drop_eq_nil_of_le h]
    simp
theorem cut_to (xs : List V) (n : Nat) : cutV xs none (some (n : Int)) = xs.take n := by
  unfold cutV
  rw [HT.sIx_none, HT.sIx_nat, List.drop_zero, Nat.sub_zero]
  rcases Nat.le_total n xs.length with h | h
  · rw [Nat.min_eq_left h]
  · rw [Nat.min_eq_right h, List.take_of_length_le h, List.take_of_length_le (Nat.le_refl _)]

/-! ### [e for a, b in zip(xs, ys) if t] -/
section
variable {K : Frag} {σ : L2.St} {H H' : Hp} {Q : VK} {i j : Nat} {te : TE} {tt : TT} {t : TA} {a b : Addr}
def rZip (K : Frag) (R : It → Hp → Prop) : List V → Hp → Prop := fun vs H1 => ∃ a b xs ys, vs = [.ref a, .ref b] ∧ SqL K H1 a xs ∧ SqL K H1 b ys ∧ R (Itz K a b) H1
theorem x_iZip {R : It → Hp → Prop} (h : t σ H (rZip K R)) : iZip K t σ H R := h
def LcSay2 (i j : Nat) (vs : List Nat) (tt : TT) (te : TE) (σ : L2.St) (H1 : Hp) (Q : VK) (α β : Type) (as : List (α × β)) (f : α → V) (g : β → V) (p : α × β → Bool) (v : α × β → V) : Prop :=
  as.length ≤ 1000000 ∧ (∀ x y, wipe (((wipe σ vs).set i (some x)).set j (some y)) vs = wipe σ vs) ∧
  (∀ x ∈ as, ∀ H', Ex H1 H' → ∀ QT : Bool → Hp → Prop, (∀ H2, Ex H' H2 → QT (p x) H2) → tt (((wipe σ vs).set i (some (f x.1))).set j (some (g x.2))) H' QT) ∧
  (∀ x ∈ as, p x = true → ∀ H', Ex H1 H' → ∀ Q' : VK, (∀ H2, Ex H' H2 → Q' (v x) H2) → te (((wipe σ vs).set i (some (f x.1))).set j (some (g x.2))) H' Q') ∧
  ∀ D H2, H1 D = none → Ex H1 H2 → H2 D = some (.lst ((as.filter p).map v)) → Q (.ref D) H2
theorem x_lcZ {α β : Type} {vs : List Nat} (xs : List α) (ys : List β) (f : α → V) (g : β → V) (p : α × β → Bool) (v : α × β → V) (h1 : SqL K H a (xs.map f)) (h2 : SqL K H b (ys.map g))
    (h : LcSay2 i j vs tt te σ H Q α β (xs.zip ys) f g p v) : rZip K (LcRun (gTup K 2 (gCons (gName i) (gCons (gName j) gNil))) tt te vs σ Q) [.ref a, .ref b] H := by
  obtain ⟨hz, hw, ht, he, q⟩ := h
  refine ⟨a, b, _, _, rfl, h1, h2, fun D hD => ?_⟩
  refine ⟨fun k m H' => m = (xs.zip ys).length - k ∧ k ≤ (xs.zip ys).length ∧ Ex H H' ∧ H' D = some (.lst ((((xs.zip ys).take k).filter p).map v)), ⟨_, rfl, Nat.zero_le _, Evl.Ex.new hD, by rw [upd_same]; rfl⟩, ?_⟩
  rintro k m H' ⟨rfl, hk, e1, hl⟩
  have q1 := Evl.ex_l e1 h1
  have q2 := Evl.ex_l e1 h2
  by_cases hlt : k < (xs.zip ys).length
  · have hlz := List.length_zip (l₁ := xs) (l₂ := ys)
    have kx : k < xs.length := by omega
    have ky : k < ys.length := by omega
    have ex : (xs.zip ys)[k]? = some (xs[k], ys[k]) := by rw [List.getElem?_eq_getElem hlt, List.getElem_zip]
    have mx : (xs.map f)[k]? = some (f xs[k]) := by rw [List.getElem?_map, List.getElem?_eq_getElem kx]; rfl
    have my : (ys.map g)[k]? = some (g ys[k]) := by rw [List.getElem?_map, List.getElem?_eq_getElem ky]; rfl
    refine .inr ⟨⟨_, _, _, _, q1, q2, mx, my⟩, fun H'' => Ex H H'' ∧ H'' D = some (.lst ((((xs.zip ys).take (k + 1)).filter p).map v)), fun H'' p' => ⟨_, by omega, rfl, hlt, p'.1, p'.2⟩, fun x H2 y => ?_⟩
    obtain ⟨T, x', y', rfl, hT, rfl, f1, f2⟩ := y
    have ex1 := Option.some.inj (mx.symm.trans (f1 _ q1))
    have ey1 := Option.some.inj (my.symm.trans (f2 _ q2))
    subst ex1 ey1
    have mem := List.mem_of_getElem? ex
    have e2 : Ex H' (upd H' T (.tup [f xs[k], g ys[k]])) := Evl.Ex.new hT
    refine ⟨T, _, rfl, .inl (.inl upd_same), rfl, _, _, rfl, _, _, rfl, rfl, hw _ _, ?_⟩
    exact lc_step hz ex hD (e1.trans e2) (e2 _ _ hl) (ht _ mem _ (e1.trans e2)) fun hp H3 e3 => he _ mem hp H3 e3
  · have e : k = (xs.zip ys).length := by omega
    subst e
    have hlz := List.length_zip (l₁ := xs) (l₂ := ys)
    refine .inl ⟨⟨_, _, q1, q2, ?_⟩, q D H' hD e1 ?_⟩
    · rw [List.length_map, List.length_map]
      omega
    · rw [List.take_length] at hl
      exact hl
end
end B

namespace B
open PySem PySem.Spec PyProof.Rows L2
open PySem.W (Frag)
section
variable {X : Cx} {tg : Expr}
/-! ### xs[i] op= e, of a list, at a place in its bounds -/
def rGetN (K : Frag) : V → V → Hp → VK → Prop := fun o i H Q => ∃ p xs k v, o = .ref p ∧ i = .int k ∧ SqL K H p xs ∧ 0 ≤ k ∧ atI xs k = some v ∧ Q v H
theorem get_list : PGet X (rGetN X.K) := by
  intro pins s σ H o i ov iv Q I ro ri h
  obtain ⟨p, xs, k, v, rfl, rfl, hq, k0, hv, q⟩ := h
  cases ro
  obtain ⟨t, rfl⟩ := ri
  obtain ⟨its, r, pl, hz⟩ := I.list hq
  obtain ⟨j, h1, h2, h3, h4, h5⟩ := atI_get hv
  obtain ⟨w, ew, rw'⟩ := r.get h2
  have hn := line63
  have hj : k.toNat = j := by
    rw [seqIndex_of k0 h5] at h1
    exact Option.some.inj h1
  exact wpAny_getItem_list pl.isList k0 (by omega) (by rw [hj]; simpa using ew) ⟨v, H, I, rw', q⟩
theorem ps_augL {o i e : Expr} {to ti te : TE} {tip : TIp} {op : Operator} {tpos pos : Pos} (ho : PE X o to) (hi : PE X i ti) (he : PE X e te) (hp : PIp X op tip)
    (ha : ∀ ov iv new, augStore i ov iv new = (do holding [new, ov, iv] (setItem ov iv new); release [new, ov, iv] []; pure .next) := by intros; rfl) : PS X (.AugAssign (.Subscript o i tpos) op e pos) (tAugS to ti te (rGetN X.K) tip rSetL) :=
  ps_augS ho hi get_list he hp set_list ha
end
section
variable {K : Frag} {σ : L2.St} {H H' : Hp} {Q : VK} {QT : Bool → Hp → Prop} {i j : Nat} {v x y z : V} {ta tb te tl to ti : TE} {tt : TT} {tr : TA} {b : Bool} {D : Ends} {ts : TS} {g : TG} {a l p : Addr} {xs ys : List V}
def rSetC (o i : V) (nx : Hp → Prop) : V → Hp → Prop := fun z H5 => rSetL o i z H5 nx
theorem x_augS {ip : TIp} (h : to σ H fun o H1 => ti σ H1 fun i H2 => rGetN K o i H2 fun x H3 => te σ H3 fun y H4 => ip x y H4 (rSetC o i (D.nx σ))) : tAugS to ti te (rGetN K) ip rSetL D σ H := h
theorem x_getN {n : Nat} (hl : SqL K H p xs) (hx : xs[n]? = some v) (q : Q v H) : rGetN K (.ref p) (.int (n : Nat)) H Q := ⟨p, xs, n, v, rfl, rfl, hl, by omega, atI_nat hx, q⟩
theorem x_setC {n : Nat} {nx : Hp → Prop} (hl : H l = some (.lst xs)) (hn : n < xs.length) (q : ∀ H', Upd H l (.lst (xs.set n v)) H' → nx H') : rSetC (.ref l) (.int (n : Nat)) nx v H := ⟨l, xs, (n : Int), n, rfl, rfl, hl, Evl.ixN_nat hn, q _ .mk0⟩
/-! ### range with a step of -1 -/
def rRng3 (R : It → Hp → Prop) : List V → Hp → Prop := fun vs H1 => ∃ (i j c : Int) (n : Nat), vs = [.int i, .int j, .int c] ∧ RgC i j c n ∧ R (Itc i c n) H1
theorem x_iRng3 {R : It → Hp → Prop} (h : tr σ H (rRng3 R)) : iRng3 tr σ H R := h
theorem x_down {R : It → Hp → Prop} {m n : Int} (hm : m ≤ 1000000 ∧ -1000000 ≤ m) (hn : n ≤ 1000000 ∧ -1000000 ≤ n) (h : R (Itc m (-1) (m - n).toNat) H) : rRng3 R [.int m, .int n, .int (-1)] H := ⟨m, n, -1, _, rfl, RgC.neg (by omega) (by omega) (by omega) (by omega), h⟩
theorem x_forC {lo c : Int} {n : Nat} (Pv : Nat → L2.St → Hp → Prop) (h0 : Pv 0 σ H)
    (hs : ∀ k σ' H', k < n → Pv k σ' H' → g (.int (lo + (k : Nat) * c)) σ' H' fun σ2 H2 => ts { D with nx := Pv (k + 1), ct := Pv (k + 1), bk := D.nx } σ2 H2)
    (hd : ∀ σ' H', Pv n σ' H' → D.nx σ' H') : ForRun g ts D σ (Itc lo c n) H := for_rangeC Pv h0 hs hd
/-! ### is, of bools -/
theorem op_isbl {X : Cx} : OpR X (compareOp .Is) rIsB := op_isBl
theorem x_isB {c d : Bool} (q : Q (.bl (decide (c = d))) H) : rIsB (.bl c) (.bl d) H Q := ⟨c, d, rfl, rfl, q⟩
/-! ### xs[::-1] -/
def rRevL (K : Frag) (Q : VK) : V → Hp → Prop := fun x H1 => ∃ a xs, x = .ref a ∧ SqL K H1 a xs ∧ ∀ p, H1 p = none → Q (.ref p) (upd H1 p (.lst xs.reverse))
theorem x_revL (h : te σ H (rRevL K Q)) : tRevL K te σ H Q := h
theorem x_rev (h : SqL K H a xs) (q : ∀ p H', H p = none → Ex H H' → H' p = some (.lst xs.reverse) → Q (.ref p) H') : rRevL K Q (.ref a) H := ⟨a, xs, rfl, h, x_new q⟩
/-! ### xs * n -/
theorem x_rep {n : Int} (hl : H l = some (.lst xs)) (h0 : 0 ≤ n) (h1 : n ≤ 1000000) (hz : xs.length ≤ 1) (q : ∀ p H', H p = none → Ex H H' → H' p = some (.lst ((List.replicate n.toNat xs).flatten)) → Q (.ref p) H') : rRep (.ref l) (.int n) H Q := by
  refine ⟨l, n, xs, rfl, rfl, hl, by omega, by omega, sz ?_, fun p hp => ?_⟩
  · have : xs.length * n.toNat ≤ 1 * n.toNat := Nat.mul_le_mul_right _ hz
    omega
  · exact q p _ hp (Evl.Ex.new hp) (by rw [upd_same])
/-! ### for i, x in enumerate(xs) -/
def rEnum (K : Frag) (R : It → Hp → Prop) : List V → Hp → Prop := fun vs H1 => ∃ a xs, vs = [.ref a] ∧ SqL K H1 a xs ∧ R (Ite K a) H1
theorem x_iEnum {R : It → Hp → Prop} (h : tr σ H (rEnum K R)) : iEnum K tr σ H R := h
theorem x_forE {α : Type} (as : List α) (f : α → V) (Pv : List α → L2.St → Hp → Prop) (h0 : Pv [] σ H) (hl : ∀ pre σ' H', pre.length ≤ as.length → Pv pre σ' H' → SqL K H' a (as.map f))
    (mono : ∀ pre σ' H' H'', Pv pre σ' H' → Ex H' H'' → Pv pre σ' H'')
    (hs : ∀ pre x post σ' H', as = pre ++ x :: post → Pv pre σ' H' → ts { D with nx := Pv (pre ++ [x]), ct := Pv (pre ++ [x]), bk := D.nx } ((σ'.set i (some (.int (pre.length : Nat)))).set j (some (f x))) H')
    (hd : ∀ σ' H', Pv as σ' H' → D.nx σ' H') : rEnum K (ForRun (gTup K 2 (gCons (gName i) (gCons (gName j) gNil))) ts D σ) [.ref a] H := by
  refine ⟨a, _, rfl, hl [] σ H (Nat.zero_le _) h0, fun k m σ' H' => m = as.length - k ∧ k ≤ as.length ∧ Pv (as.take k) σ' H', ⟨_, rfl, Nat.zero_le _, by rw [List.take_zero]; exact h0⟩, ?_⟩
  rintro k m σ' H' ⟨rfl, hk, p⟩
  have hq := hl _ σ' H' (by rw [List.length_take]; omega) p
  by_cases hlt : k < as.length
  · have ex : as[k]? = some as[k] := List.getElem?_eq_getElem hlt
    have ev : (as.map f)[k]? = some (f as[k]) := by rw [List.getElem?_map, ex]; rfl
    refine .inr ⟨⟨_, _, hq, ev⟩, Pv (as.take k ++ [as[k]]), fun σ'' H'' p' => ⟨as.length - (k + 1), by omega, rfl, hlt, by rw [take_snoc ex]; exact p'⟩, fun x H2 y => ?_⟩
    obtain ⟨T, x', rfl, hT, rfl, f1⟩ := y
    have e1 := Option.some.inj (ev.symm.trans (f1 _ hq))
    subst e1
    refine ⟨T, _, rfl, .inl (.inl upd_same), rfl, _, _, rfl, _, _, rfl, rfl, ?_⟩
    have q := hs (as.take k) as[k] (as.drop (k + 1)) σ' _ (split_at ex) (mono _ _ _ _ p (Evl.Ex.new (o := .tup [.int (k : Nat), f as[k]]) hT))
    have el : (as.take k).length = k := by rw [List.length_take]; omega
    rw [el] at q
    exact q
  · have e : k = as.length := by omega
    subst e
    refine .inl ⟨⟨_, hq, by rw [List.length_map]; exact Nat.le_refl _⟩, hd σ' H' ?_⟩
    rw [List.take_length] at p
    exact p
end
end B
namespace B
open PySem PySem.Spec PyProof.Rows L2
/-- a statement at which the steps stop -/
def tStop (t : TS) : TS := t
theorem ps_stop {X : Cx} {st : Stmt} {t : TS} (h : PS X st t) : PS X st (tStop t) := h
theorem x_stop {t : TS} {D : Ends} {σ : L2.St} {H : Hp} (h : t D σ H) : tStop t D σ H := h
/-- what follows a statement is shown once, from R -/
theorem x_join {t : TS} {D : Ends} {σ : L2.St} {H : Hp} (R : L2.St → Hp → Prop) (hr : ∀ σ' H', R σ' H' → D.nx σ' H') (h : (∀ σ' H', R σ' H' → D.nx σ' H') → t D σ H) : tStop t D σ H := h hr
/-- an edge that the search for facts does not take -/
def Far (H H' : Hp) : Prop := Ex H H'
theorem Far.of {H H' : Hp} (e : Ex H H') : Far H H' := e
theorem Far.e {H H' : Hp} (e : Far H H') : Ex H H' := e
theorem inV_int (b : Int) (ms : List Int) : inV (.int b) (ms.map V.int) = decide (b ∈ ms) := by
  unfold inV
  induction ms with
  | nil => simp
  | cons a ms ih =>
    rw [List.map_cons, List.any_cons, ih]
    by_cases h : b = a
    · subst h
      simp [eqV]
    · have h2 : ¬ a = b := fun z => h z.symm
      simp [eqV, h, h2]
theorem x_notIn {K : PySem.W.Frag} {H : Hp} {Q : VK} {p : Addr} {ms : List Int} {b : Int} (h : SqL K H p (ms.map V.int)) (q : Q (.bl (!decide (b ∈ ms))) H) : rIn K true (.int b) (.ref p) H Q :=
  ⟨p, _, rfl, .inl h, rfl, by simp [flatV], by rw [inV_int]; exact q⟩
theorem x_isIn {K : PySem.W.Frag} {H : Hp} {Q : VK} {p : Addr} {ms : List Int} {b : Int} (h : SqL K H p (ms.map V.int)) (q : Q (.bl (decide (b ∈ ms))) H) : rIn K false (.int b) (.ref p) H Q :=
  ⟨p, _, rfl, .inl h, rfl, by simp [flatV], by rw [inV_int]; exact q⟩
theorem cut_init (xs : List V) : cutV xs none (some (-1)) = xs.dropLast := by
  unfold cutV
  have h : HT.sIx xs.length xs.length (some (-1)) = xs.length - 1 := by
    show (if (-1 : Int) < 0 then ((-1 : Int) + (xs.length : Int)).toNat else min (-1 : Int).toNat xs.length) = _
    rw [if_pos (by decide)]
    omega
  rw [HT.sIx_none, h, List.drop_zero, Nat.sub_zero, List.dropLast_eq_take]
end B

namespace B
open PySem PySem.Spec PyProof.Rows L2
open PySem.W (Frag)
/-! ### an exception that is caught and kept under a name -/
/-- the exception at a: an instance of cls, with its fields, without a dict of its own -/
def ExC (a : Addr) (cls : Value) (d : Option Addr) : HO := .ext fun h => ∃ (oe : Obj) (vs : Array Value), h.get? a = some oe ∧ Zc cls d oe ∧ oe.data = .fields vs
section
variable {X : Cx} {pins : List (Addr × Obj)} {σ : L2.St} {H : Hp} {s : Shared}
theorem exC_ok {P : Program} {w : World} {H : Hp} {h : Heap} {a : Addr} {cls : Value} {d : Option Addr} {oe : Obj} {vs : Array Value} (e : h.get? a = some oe) (z : Zc cls d oe) (hd : oe.data = .fields vs) : ObjOk P w H h a (ExC a cls d) :=
  ⟨⟨oe, vs, e, z, hd⟩, ⟨oe, e⟩, fun h1 h2 ⟨o, us, g1, g2, g3⟩ k => ⟨o, us, k _ g1, g2, g3⟩⟩
/-- an object of which nothing was said, new since the entry, is told of from now on -/
theorem inv_track {a : Addr} {cls : Value} {d : Option Addr} {oe : Obj} {vs : Array Value} (I : Inv X pins σ H s) (e : s.heap.get? a = some oe) (z : Zc cls d oe) (hd : oe.data = .fields vs) (na : H a = none)
    (nL : a ≠ X.env.locals) (n0 : X.s_0.heap.get? a = none) (np : ∀ p ∈ X.pn ++ pins, p.1 ≠ a) : Inv X pins σ (upd H a (ExC a cls d)) s where
  ok := I.ok
  os := I.os
  bare := I.bare
  base :=
    { keep := I.base.keep
      slot := I.base.slot
      free := fun b o h1 h2 h3 => by
        rw [upd_ne (fun q => by rw [q, n0] at h1; cases h1)]
        exact I.base.free b o h1 h2 h3
      there := I.base.there
      tups := fun b xs q => by
        have r := I.base.tups b xs q
        rw [upd_ne (ne_of_none r na)]
        exact r
      frzs := fun b o u q => by
        have r := I.base.frzs b o u q
        rw [upd_ne (ne_of_none r na)]
        exact r
      tbls := fun b ps q => by
        obtain ⟨m, r⟩ := I.base.tbls b ps q
        exact ⟨m, by rw [upd_ne (ne_of_none r na)]; exact r⟩ }
  loc := I.loc
  cell := I.cell
  free := by rw [upd_ne (Ne.symm nL)]; exact I.free
  freeC := fun x c hc => by
    have ne : c ≠ a := by
      rintro rfl
      obtain ⟨v, hv⟩ := I.cell x c hc
      obtain ⟨oc, h1, h2⟩ := hv
      rw [e] at h1
      cases h1
      rw [hd] at h2
      cases h2
    rw [upd_ne ne]
    exact I.freeC x c hc
  pin := fun p hp => by
    obtain ⟨h1, h2, h3, h4, h5⟩ := I.pin p hp
    exact ⟨h1, by rw [upd_ne (np p hp)]; exact h2, h3, h4, h5⟩
  hok := fun b u q => by
    by_cases hb : b = a
    · subst hb
      rw [upd_same] at q
      cases q
      exact exC_ok e z hd
    · rw [upd_ne hb] at q
      exact (I.hok b u q).stay (fun _ _ _ r => r) (fun c r => by rw [upd_ne (ne_of_none r na)]; exact r) fun c xs r => by rw [upd_ne (ne_of_none r na)]; exact r
  len := I.len
/-- what is wished where the body raises: caught, kept in slot j, the clause's own name (slot i) gone; or not of the class -/
def wKeep (K : Frag) (c : Value) (i j : Nat) (Wout : WX) (D : Ends) : WX := fun cls d σ H =>
  ∃ b, PySem.W.exmOne K cls c = some b ∧ (b = true → ∀ a, H a = none → D.nx (((σ.set i (some (.ref a))).set j (some (.ref a))).set i none) (upd H a (ExC a cls d))) ∧ (b = false → Wout cls d σ H)
end
section
variable {X : Cx} {x n : Str} {c : Value} {i j : Nat} {body suite : List Stmt} {st0 : Stmt} {q1 q2 q3 : Pos} {tb : WX → TS} {Wout : WX}
/-- try: body / except x as n: kept = n -/
theorem ps_try_keep (stk : X.stack = X.env :: X.outer) (frm : X.env.frame = some X.env.locals) (noex : X.ex = []) (nd : X.N.Nodup) (ni : X.N[i]? = some n) (loc : X.env.kindOf n = some .local) (nm : Names X x c) (out : Takes X Wout)
    (run : ∀ (W : WX) (pn : List (Addr × Obj)) (xe : Value → Shared → Prop), Takes (X.tr pn xe) W → PassesOwn (model X.prog X.w) X.A X.env xe → PSs (X.tr pn xe) body (tb W))
    (sui : ∀ (a : Addr) (oe : Obj) (pn : List (Addr × Obj)), PSs (X.suite a ((a, oe) :: pn)) (st0 :: suite) (tAsg (tVar i) (gName j))) :
    PS X (.Try body [.ExceptHandler (some (.Name x q1)) (some n) (st0 :: suite) q2] [] [] q3) (fun D σ H => tb (wKeep X.K c i j Wout D) D σ H) := by
  constructor
  intro pins s σ H D I go
  have good := I.ok
  have hfrs : X.A.frames = some (X.env :: X.outer) := good.frames.trans (congrArg some stk)
  apply wpAny_Try_except
  have B0 := (run (wKeep X.K c i j Wout D) (X.pn ++ pins) (fun ev z1 => wpAny (model X.prog X.w) X.A (noteFrame ev X.env) (fun _ z2 => wpAny (model X.prog X.w) X.A (setFlight ev none) (fun _ z3 => wpAny (model X.prog X.w) X.A
    (handleBy ev X.env [.ExceptHandler (some (.Name x q1)) (some n) (st0 :: suite) q2]) (SP X pins D) X.xe z3) X.xe z2) X.xe z1) ?caught PassesOwn.looking).run [] s σ H D (I.toTry _) go
  case caught =>
    rintro u z ⟨a, G, sG, pp, σ', H', cls, d, rfl, JT, apart, upto, sky, free, eos, eag, b, isC, yes, no⟩
    have J : Inv X pins σ' H' sG := JT.ofTry good
    rw [stk] at sky
    show wpAny (model X.prog X.w) X.A (noteFrame (.ref a) X.env) _ _ _
    refine Sky.land Zc.steady hfrs frm sky fun hA fA uA => ?_
    have JA : Inv X pins σ' H' { z with heap := hA } := J.landed apart fA.1 (upto.trans uA) eos eag
    obtain ⟨oA, vA, gA, zA, dA⟩ := fA.there
    have offStack : a ∉ frs (X.env :: X.outer) := fun m => by
      obtain ⟨_, o', g', nf⟩ := fA.2.2.1.mem m
      rw [gA] at g'
      cases g'
      exact nf _ dA
    have offLoc : a ≠ X.env.locals := fun q => offStack (List.mem_filterMap.mpr ⟨X.env, List.mem_cons_self, by rw [frm, q]⟩)
    have offOut : a ∉ X.fs := fun m => by
      obtain ⟨ev, he, hq⟩ := List.mem_filterMap.mp m
      exact offStack (List.mem_filterMap.mpr ⟨ev, List.mem_cons_of_mem _ he, hq⟩)
    have newG : sG.heap.get? a = none := by
      cases e : sG.heap.get? a with
      | none => rfl
      | some o =>
        have g1 := apart a o e (by rw [stk]; exact offStack)
        rw [fA.2.1] at g1
        cases g1
    have newS : X.s_0.heap.get? a = none := by
      cases e : X.s_0.heap.get? a with
      | none => rfl
      | some o =>
        obtain ⟨o', g1⟩ := J.base.there a o e (by rw [noex]; simp)
        rw [newG] at g1
        cases g1
    have apartP : ∀ p ∈ X.pn ++ pins, p.1 ≠ a := fun p hp q => by
      have g1 := (J.pin p hp).1
      rw [q, newG] at g1
      cases g1
    have SA := JA.suite gA dA free offLoc offOut
    refine wpAny_handleBy_cons (codeAny_handlers_test ?_) (by intro q; cases q)
    have tyA : PySem.W.Looks (model X.prog X.w) hA (typeOf (.ref a)) cls := fun _ _ _ _ k r => wpAny_typeOf_ref (k _ _ gA) (by rw [zA.1]; exact r)
    have isA := PySem.W.exm_one (M := model X.prog X.w) JA.kIn tyA isC
    have look : ∀ {Q E : Value → Shared → Prop}, Q c { z with heap := hA } → wpAny (model X.prog X.w) (X.A.mark (some (.ref a))) (eval (.Name x q1) X.env) Q E { z with heap := hA } := fun r => by
      rcases nm with ⟨g1, g2, g3 | ⟨g3, g4, g5⟩⟩
      · exact ld_glob (X := X.suite a ((a, oA) :: (X.pn ++ pins))) SA g1 g3 r g2
      · exact ld_blt (X := X.suite a ((a, oA) :: (X.pn ++ pins))) SA g1 g3 g4 r g5 g2
    refine look (isA.here ?_)
    cases b
    · -- another class: it flies on
      show wpAny _ X.A (handleBy (.ref a) X.env []) _ _ _
      apply wpAny_handleBy_nil
      have flyOn : wpAny (model X.prog X.w) X.A (setFlight (.ref a) X.env.frame) (fun _ z4 => wpAny (model X.prog X.w) X.A (throw (.ref a) : Sem Flow) (SP X pins D) X.xe z4) X.xe { z with heap := hA } := by
        rw [frm]
        refine HandSPX.setFlight_upZ fA fun hB fB uB => wpAny_throw (out _ _ ⟨a, G, sG, pins, σ', H', cls, d, rfl, J, apart, (upto.trans uA).trans uB, ?_, free, eos, eag, no rfl⟩)
        rw [stk]
        exact .inr (.inr fB)
      obtain ⟨_, _, _, oe, us, T, oT, ts, g1, g2, g3, g4, g5⟩ := id fA
      unfold PySem.passOn
      refine wpAny_bind (wpAny_field g1 g3 g4 ?_)
      rw [if_neg (show ¬ ((Value.ref T == Value.none) = true) from by simp)]
      first
        | exact wpAny_bind (wpAny_pure (wpAny_bind flyOn))
        | exact wpAny_bind flyOn
    · -- the clause's own
      apply codeAny_handlers_suite_as
      refine HandSPX.lands_againZ fA fun hB fB uB => ?_
      have JB : Inv X pins σ' H' { z with heap := hB } := J.landed apart fB.1 ((upto.trans uA).trans uB) eos eag
      obtain ⟨oB, vB, gB, zB, dB⟩ := fB.there
      have SB := JB.suite gB dB free offLoc offOut
      refine store_ok (X := X.suite a ((a, oB) :: (X.pn ++ pins))) (v := .ref a) SB nd ni (.inl loc) rfl (fun z5 S5 => ?_) (.inr loc)
      have li : i < σ'.length := by rw [J.len]; exact (List.getElem?_eq_some_iff.mp ni).1
      have fin := (sui a oB (X.pn ++ pins)).run [] z5 _ H' { nx := fun σ6 H6 => σ6 = (σ'.set i (some (.ref a))).set j (some (.ref a)) ∧ H6 = H', rt := fun _ _ => False, bk := fun _ _ => False, ct := fun _ _ => False } S5
        ⟨.ref a, by rw [List.getElem?_set_self li], rfl, rfl⟩
      refine wpAny_mono fin (fun fl z6 hz => ?_) (fun _ _ q => q.elim)
      cases fl with
      | next =>
        obtain ⟨σ6, H6, S6, rfl, rfl⟩ := hz
        have g6 := (S6.pin (a, oB) (List.mem_append.mpr (.inl List.mem_cons_self))).1
        have T6 := inv_track (S6.unsuite good) g6 zB dB free offLoc newS apartP
        exact gone_ok T6 nd ni loc fun z7 J7 => ⟨_, _, J7, yes rfl a free⟩
      | brk => obtain ⟨_, _, _, q⟩ := hz; exact q.elim
      | cont => obtain ⟨_, _, _, q⟩ := hz; exact q.elim
      | ret u => obtain ⟨_, _, _, _, _, q⟩ := hz; exact q.elim
  refine wpAny_mono B0 (fun fl z hz => ?_) (fun _ _ q => q)
  cases fl with
  | next => obtain ⟨σ', H', J, q⟩ := hz; exact wpAny_execs_nil ⟨σ', H', J.ofTry good, q⟩
  | brk => obtain ⟨σ', H', J, q⟩ := hz; exact ⟨σ', H', J.ofTry good, q⟩
  | cont => obtain ⟨σ', H', J, q⟩ := hz; exact ⟨σ', H', J.ofTry good, q⟩
  | ret u => obtain ⟨v, σ', H', J, r, q⟩ := hz; exact ⟨v, σ', H', J.ofTry good, r, q⟩
end
/-! ### isinstance of what was caught -/
/-- None, or an exception whose class is D -/
inductive Caught (K : Frag) (H : Hp) : V → Option Addr → Prop where
  | no : Caught K H .non none
  | yes {a D : Addr} (h : H a = some (ExC a (.ref D) none)) : Caught K H (.ref a) (some D)
theorem Caught.ex {K : Frag} {H H' : Hp} {x : V} {o : Option Addr} (e : Ex H H') (h : Caught K H x o) : Caught K H' x o := by
  cases h with
  | no => exact .no
  | yes h => exact .yes (e _ _ h)
/-- the class of what was caught -/
def clsOf : Option Addr → Value
  | none => .type "NoneType"
  | some D => .ref D
def rIsiC (K : Frag) : List V → Hp → VK → Prop := fun xs H Q => ∃ (x cv : V) (o : Option Addr) (u : Value) (b : Bool), xs = [x, cv] ∧ ClsV cv u ∧ Caught K H x o ∧ (∀ D, o = some D → ExcC K D) ∧ PySem.W.kitOne K (clsOf o) u = some b ∧ Q (.bl b) H
def rIsiCT (K : Frag) : List V → Hp → VK → Prop := fun xs H Q => ∃ (x : V) (tp : Addr) (cs : List V) (o : Option Addr) (us : List Value) (b : Bool), xs = [x, .ref tp] ∧ H tp = some (.tup cs) ∧ Paired ClsV cs us ∧ Caught K H x o ∧ (∀ D, o = some D → ExcC K D) ∧ PySem.W.kitAny K (clsOf o) us = some b ∧ Q (.bl b) H
section
variable {X : Cx} {pins : List (Addr × Obj)} {σ : L2.St} {H : Hp} {s : Shared}
theorem kit_caught {x : V} {u : Value} {o : Option Addr} (I : Inv X pins σ H s) (rx : RelV x u) (h : Caught X.K H x o) (hc : ∀ D, o = some D → ExcC X.K D) : ∃ P : Heap → Prop, PySem.W.KitX X.K u (clsOf o) P ∧ P s.heap ∧ u ≠ .builtin "__main__.__loader__#opaque" := by
  cases h with
  | no => cases (show u = Value.none from rx); exact ⟨_, PySem.W.kitx_none, True.intro, fun z => nomatch z⟩
  | @yes a D e =>
    cases (show u = Value.ref a from rx)
    obtain ⟨⟨oe, vs, g1, g2, g3⟩, _, _⟩ := (show ObjOk X.prog X.w H s.heap a (ExC a (.ref D) none) from I.hok a _ e)
    have C := hc D rfl
    have J : PySem.W.InstAt s.heap a oe D none := by
      obtain ⟨oc, od, oda, osl⟩ := oe
      obtain ⟨e1, e2⟩ := g2
      dsimp only at e1 e2 g3
      subst e1 e2 g3
      exact ⟨g1, rfl, rfl, trivial⟩
    exact ⟨_, PySem.W.handS_kitx_exc C.hg C.hk C.hs C.hd C.ha C.hn C.ht C.hm, J, fun z => nomatch z⟩
theorem call_isiC : CallR X (.builtin "isinstance") (rIsiC X.K) := by
  intro pins s σ H xs us Q I r h
  obtain ⟨x, cv, o, w, b, rfl, k, ca, hc, e, q⟩ := h
  obtain ⟨u1, u2, rfl, r1, r2⟩ := vals2 r
  obtain rfl := k.eq r2
  obtain ⟨P, Z, p, hx⟩ := kit_caught I r1 ca hc
  exact PySem.W.kia_one Z I.kIn p e hx fun tk => ⟨.bl b, H, I.tok tk, rfl, q⟩
theorem call_isiCT : CallR X (.builtin "isinstance") (rIsiCT X.K) := by
  intro pins s σ H xs us Q I r h
  obtain ⟨x, tp, cs, o, ws, b, rfl, hT, k, ca, hc, e, q⟩ := h
  obtain ⟨u1, u2, rfl, r1, r2⟩ := vals2 r
  cases (show u2 = Value.ref tp from r2)
  obtain ⟨P, Z, p, hx⟩ := kit_caught I r1 ca hc
  obtain ⟨_, its, rv, ob, g1, g2, n, g3⟩ := (show ObjOk X.prog X.w H s.heap tp (.tup cs) from I.hok tp _ hT)
  obtain rfl := ClsV.all k rv
  obtain ⟨oc, od, dt, sl⟩ := ob
  simp only at g2 g3
  subst g2 g3
  exact PySem.W.kia_tup Z I.kIn p g1 e hx fun tk => ⟨.bl b, H, I.tok tk, rfl, q⟩
end
end B

namespace B
open PySem PySem.Spec PyProof.Rows L2
open PySem.W (Frag)
section
/-! ### (v,) * n, any n -/
theorem tupMul_one (l : Addr) (its : Array Value) (n : Nat) (dd : Option Addr) (sl : Array (Option Value)) (u : Tok) :
    Meets (Builtin.«tuple.__mul__» ⟨[.ref l, .int 1 u], []⟩) (fun _ R s => s.heap.get? l = some { cls := .type "tuple", dict := dd, data := .seq its n, slots := sl } ∧ R (.ok (.ret (Value.ref l))) s) :=
  .of_wp fun prog w A R s h => by
    obtain ⟨hp, g, d, tk, os⟩ := s
    obtain ⟨hl, h⟩ := h
    have f1 := AutoSeq1.idx_int
    have c1 : (its.isEmpty || (1 : Int) == 1) = true := by simp
    wp_walk using wpAny_loadPart' hl
    exact ⟨_, rfl, h⟩
theorem tupMul_none (l : Addr) (its : Array Value) (n : Nat) (dd : Option Addr) (sl : Array (Option Value)) (k : Int) (u : Tok) (hk : k ≤ 0) (hk2 : -1000000 ≤ k) (hi : its.isEmpty = false) :
    Meets (Builtin.«tuple.__mul__» ⟨[.ref l, .int k u], []⟩) (fun _ R s => s.heap.get? l = some { cls := .type "tuple", dict := dd, data := .seq its n, slots := sl } ∧
      R (.ok (.ret (Value.ref s.heap.objs.size))) { s with heap := s.heap.push { cls := Value.type "tuple", data := Data.seq #[] }, toks := s.toks }) :=
  .of_wp fun prog w A R s h => by
    obtain ⟨hp, g, d, tk, os⟩ := s
    obtain ⟨hl, h⟩ := h
    have f1 := AutoSeq1.idx_int
    have c0 : (decide (k < -(2 ^ 63)) || decide (k ≥ 2 ^ 63)) = false := by rw [decide_eq_false (by omega), decide_eq_false (by omega)] <;> rfl
    have c1 : (its.isEmpty || k == 1) = false := by rw [hi, Bool.false_or]; exact beq_eq_false_iff_ne.mpr (by omega)
    have c2 : (decide (k ≤ 0) || its.isEmpty) = true := by rw [decide_eq_true hk]; rfl
    wp_walk using wpAny_loadPart' hl
    repeat (first
      | (refine wpAny_ite_false (decide_eq_false (by rw [c0]; exact Bool.false_ne_true)) ?_; wp_walk using wpAny_loadPart' hl)
      | (refine wpAny_ite_false (decide_eq_false (by rw [c1]; exact Bool.false_ne_true)) ?_; wp_walk using wpAny_loadPart' hl)
      | (refine wpAny_ite_true (decide_eq_true c2) ?_; wp_walk using wpAny_loadPart' hl))
    exact ⟨_, rfl, h⟩
end
/-- t * k of a tuple that isn't empty -/
def rRepTX (K : Frag) : R2 := fun x y H Q => ∃ l k xs, x = .ref l ∧ y = .int k ∧ H l = some (.tup xs) ∧ xs ≠ [] ∧ -1000 ≤ k ∧ k ≤ 1000 ∧ xs.length ≤ 1000 ∧
  ∀ p H', Ex H H' → H' p = some (.tup (List.replicate k.toNat xs).flatten) → Q (.ref p) H'
theorem op_repTX {X : Cx} : OpR X (binaryOp .Mult) (rRepTX X.K) := by
  intro pins s σ H x y v u Q I rx ry h
  obtain ⟨l, k, xs, rfl, rfl, hT, hne, h1, h2, hz, q⟩ := h
  by_cases k2 : 2 ≤ k
  · exact op_repT pins s σ H _ _ v u Q I rx ry ⟨l, k, xs, rfl, rfl, .inl (.inl hT), hne, k2, h2, hz, fun p hp => q p _ (Evl.Ex.new hp) upd_same⟩
  · cases rx
    obtain ⟨t, rfl⟩ := ry
    obtain ⟨hs, its, r, ⟨cls, dd, data, sl⟩, ho, hc, n, hd⟩ := (show ObjOk X.prog X.w H s.heap l (.tup xs) from I.hok l _ hT)
    simp only at hc hd
    subst hc hd
    have hle : its.length = xs.length := r.length.symm
    have hi : its.toArray.isEmpty = false := by
      cases its with
      | nil => exact absurd (List.eq_nil_of_length_eq_zero hle.symm) hne
      | cons a b => rfl
    have go : ∀ {P : Value → Shared → Prop}, wpAny (model X.prog X.w) X.A (call (.builtin "tuple.__mul__") [.ref l, .int k t]) P X.xe s → wpAny (model X.prog X.w) X.A (binaryOp .Mult (.ref l) (.int k t)) P X.xe s := fun {P} w =>
      wpAny_binaryOp_repeat_ref (T := "tuple") (U := "int") (by decide) ⟨_, ho, rfl⟩ (fun s' => typeIs_int s' k t) noFill_tuple_mul F.fills_int_mul F.slot_int_rmul repeat_tuple F.slot_int_index.lookup
        (call_meets F.slot_int_rmul (typeIs_int s k t) F.entry_int_rmul (F.args_int_rmul_2 _ _) (int_rmul_tuple k t l its.toArray n dd sl) ⟨ho, rfl, ⟨_, ho, rfl⟩, w⟩)
    by_cases k1 : k = 1
    · subst k1
      refine go (call_meets F.slot_tuple_mul ⟨_, ho, rfl⟩ F.entry_tuple_mul (F.args_tuple_mul_2 _ _) (tupMul_one l its.toArray n dd sl t) ⟨ho, ?_⟩)
      refine ⟨.ref l, H, I, rfl, q l H (Evl.Ex.refl H) ?_⟩
      rw [hT]
      simp
    · refine go (call_meets F.slot_tuple_mul ⟨_, ho, rfl⟩ F.entry_tuple_mul (F.args_tuple_mul_2 _ _) (tupMul_none l its.toArray n dd sl k t (by omega) (by omega) hi) ⟨ho, ?_⟩)
      have hn := I.hok.fresh (Nat.le_refl _)
      refine ⟨.ref s.heap.objs.size, _, I.laid (t' := s.toks) (o := .tup []) (fun b ob q => Heap.get?_push_of_some _ q) (Nat.le_refl _) ⟨Nat.zero_le _, [], .nil, IsTup.new _ _⟩, rfl, q _ _ (Evl.Ex.new hn) ?_⟩
      rw [upd_same, show k.toNat = 0 from by omega]
      rfl
section
/-! ### xs + ys of lists that are only read -/
theorem addL_meets (l b : Addr) (its its2 : Array Value) (n n2 : Nat) (dd dd2 : Option Addr) (sl sl2 : Array (Option Value)) (hz : its.size + its2.size ≤ sizeLine) :
    Meets (Builtin.«list.__add__» ⟨[.ref l, .ref b], []⟩) (fun _ R s => s.heap.get? l = some { cls := .type "list", dict := dd, data := .seq its n, slots := sl } ∧ s.heap.get? b = some { cls := .type "list", dict := dd2, data := .seq its2 n2, slots := sl2 } ∧
      R (.ok (.ret (Value.ref s.heap.objs.size))) { s with heap := s.heap.push { cls := Value.type "list", data := Data.seq (its ++ its2) }, toks := s.toks }) :=
  .of_wp fun prog w A R s h => by
    obtain ⟨hp, g, d, tk, os⟩ := s
    obtain ⟨hl, hb, h⟩ := h
    have f3 := AutoSeq1.sub_list_list
    wp_walk using wpAny_loadPart' hl, wpAny_loadPart' hb
    exact ⟨_, rfl, h⟩
end
def rCatR (K : Frag) : R2 := fun x y H Q => ∃ l b xs ys, x = .ref l ∧ y = .ref b ∧ SqL K H l xs ∧ SqL K H b ys ∧ xs.length + ys.length ≤ 1000000 ∧ ∀ p, H p = none → Q (.ref p) (upd H p (.lst (xs ++ ys)))
theorem op_catR {X : Cx} : OpR X (binaryOp .Add) (rCatR X.K) := by
  intro pins s σ H x y v u Q I rx ry h
  obtain ⟨l, b, xs, ys, rfl, rfl, h1, h2, hz, q⟩ := h
  cases rx
  cases ry
  obtain ⟨its, r1, ⟨⟨c1, d1, t1, s1⟩, n1, g1, e1, e2, e3⟩, _⟩ := I.list h1
  obtain ⟨its2, r2, ⟨⟨c2, d2, t2, s2⟩, n2, g2, e4, e5, e6⟩, _⟩ := I.list h2
  simp only at e1 e2 e3 e4 e5 e6
  subst e1 e2 e3 e4 e5 e6
  have hl1 := r1.length
  have hl2 := r2.length
  refine concat_meets ⟨_, g1, rfl⟩ ⟨_, g2, rfl⟩ noFill_list_add seq_list_add F.slot_list_add F.entry_list_add (F.args_list_add_2 _ _) (addL_meets l b its.toArray its2.toArray n1 n2 none none s1 s2 (by rw [List.size_toArray, List.size_toArray]; exact sz (by omega))) ⟨g1, g2, ?_⟩
  have ea : its.toArray ++ its2.toArray = (its ++ its2).toArray := by simp
  rw [ea]
  exact ⟨.ref _, _, I.lnew (t' := s.toks) (r1.append r2) (by rw [List.length_append]; exact sz hz), rfl, q _ I.fresh⟩
/-! ### name *= e, of ints -/
def ipM : TIp := fun x y H Q => ∃ i j, x = .int i ∧ y = .int j ∧ CMul i j ∧ Q (.int (i * j)) H
theorem ip_mul {X : Cx} : PIp X .Mult ipM := by
  intro pins s σ H x y v u Q I r1 r2 h
  obtain ⟨i, j, rfl, rfl, c, q⟩ := h
  obtain ⟨t, rfl⟩ := r1
  obtain ⟨t', rfl⟩ := r2
  exact imul_int ⟨.int _, H, I.tok _, ⟨_, rfl⟩, q⟩ c.ok
section
variable {X : Cx} {k i : Nat} {f : Addr} {x : Str} {p pos : Pos} {e : Expr} {es : List Expr} {t : TA}
/-! ### a call of a def that a local name holds, one of a family; what it raises is wished for at the caller's slots -/
def tCallF (i : Nat) (S : Addr → Sp → Prop) (E : L2.St → XK) (t : TA) : TE := fun σ H Q => ∃ f sp, σ[i]? = some (some (.ref f)) ∧ S f sp ∧ t σ H fun vs H1 => sp vs H1 Q (E σ)
/-- the defs of a family keep their promises -/
def Fam (P : Program) (w : World) (K : Frag) (mg : Str → Option Value) (base : Heap) (k : Nat) (S : Addr → Sp → Prop) : Prop :=
  ∀ f sp, S f sp → ∃ fd ps, FnOk P w K mg base (L2.CX P w) k f fd ps sp ∧ PySem.W.keepIn K (.ref f) = true ∧ Binds K fd ps []
theorem pe_callF {S : Addr → Sp → Prop} {E : L2.St → XK} {j : Nat} (A : Fam X.prog X.w X.K X.mg X.base j S) (hr : Room k X.A) (hx : ∀ σ, PassesAt (L2.CX X.prog X.w) X σ (E σ)) (ha : PA X (e :: es) t) (hj : j ≤ k := by decide) (hN : X.N[i]? = some x := by rfl)
    (hv : Vis X.env.scope x := by first | exact Or.inl rfl | exact Or.inr (Or.inl rfl) | exact Or.inr (Or.inr rfl)) (hdb : (x == ("__debug__" : Str)) = false := by decide) (hcd : (x == ("__classdict__" : Str)) = false := by decide)
    (he : starEach (e :: es) X.env = (false, eval e X.env) :: starEach es X.env := by rfl) (hpl : (backTo pos (starEach es X.env)).any (·.1) = false := by rfl) : PE X (.Call (.Name x p) (e :: es) [] pos) (tCallF i S E t) := by
  constructor
  intro pins s σ H Q I h
  obtain ⟨f, sp, hs, hS, ht⟩ := h
  obtain ⟨fd, ps, F, hk, hb⟩ := A f sp hS
  refine wpAny_Call_Name_kw (thn ((pe_var (pos := p) hN hv hdb hcd).run pins s σ H (fun v H1 => v = .ref f ∧ H1 = H) I ⟨.ref f, hs, rfl, rfl⟩) fun u s1 z => ?_)
  obtain ⟨v, H1, I1, r1, rfl, rfl⟩ := z
  cases r1
  exact PySem.W.callWith_K (h₀ := X.base) I.ok.mod.kin hk (thn (ha.run pos pins s1 σ _ _ I1 ht) fun us s2 z2 => by
    obtain ⟨vs, H2, I2, r, q⟩ := z2
    exact ⟨I2.kIn, run_fnS F (hr.mono hj) hb (hx σ) I2 r q⟩) he hpl
end
section
variable {K : Frag} {σ : L2.St} {H H' : Hp} {Q : VK} {i j : Nat} {v x y z : V} {ta tb te tl to ti : TE} {tt : TT} {t tr : TA} {b : Bool} {D : Ends} {ts : TS} {g : TG} {a l p : Addr} {xs ys : List V}
theorem x_ipM {m n : Int} (c : CMul m n) (q : Q (.int (m * n)) H) : ipM (.int m) (.int n) H Q := ⟨m, n, rfl, rfl, c, q⟩
theorem x_catR (h1 : SqL K H a xs) (h2 : SqL K H l ys) (hz : xs.length + ys.length ≤ 1000000) (q : ∀ p H', H p = none → Ex H H' → H' p = some (.lst (xs ++ ys)) → Q (.ref p) H') : rCatR K (.ref a) (.ref l) H Q := ⟨a, l, xs, ys, rfl, rfl, h1, h2, hz, x_new q⟩
theorem x_cat (h1 : H a = some (.lst xs)) (h2 : H l = some (.lst ys)) (hz : xs.length + ys.length ≤ 1000000) (q : ∀ p H', H p = none → Ex H H' → H' p = some (.lst (xs ++ ys)) → Q (.ref p) H') : rCat (.ref a) (.ref l) H Q := ⟨a, l, xs, ys, rfl, rfl, h1, h2, sz hz, x_new q⟩
/-- (v,) * n -/
theorem x_repT {n : Int} (h : H a = some (.tup [v])) (h0 : -1000 ≤ n) (h1 : n ≤ 1000) (q : ∀ p H', Ex H H' → H' p = some (.tup (List.replicate n.toNat v)) → Q (.ref p) H') : rRepTX K (.ref a) (.int n) H Q :=
  ⟨a, n, [v], rfl, rfl, h, by simp, h0, h1, by simp, fun p H' e hp => q p H' e (by rw [hp, List.flatten_replicate_singleton])⟩
/-- xs * n, n from 0 -/
theorem x_repL {n : Int} (hl : H l = some (.lst xs)) (h0 : -1000000 ≤ n) (h1 : n ≤ 1000) (hz : xs.length ≤ 1000) (q : ∀ p H', H p = none → Ex H H' → H' p = some (.lst ((List.replicate n.toNat xs).flatten)) → Q (.ref p) H') : rRep (.ref l) (.int n) H Q := by
  refine ⟨l, n, xs, rfl, rfl, hl, by omega, by omega, sz ?_, fun p hp => q p _ hp (Evl.Ex.new hp) upd_same⟩
  have : xs.length * n.toNat ≤ 1000 * 1000 := Nat.mul_le_mul hz (by omega)
  omega
def rInt1 : List V → Hp → VK → Prop := fun xs H Q => (∃ i, xs = [.int i] ∧ Q (.int i) H) ∨ ∃ k, xs = [.bl k] ∧ Q (.int (if k then 1 else 0)) H
theorem call_int1 {X : Cx} : CallR X (.type "int") rInt1 := L2.call_int1
theorem x_intB {c : Bool} (q : Q (.int (if c then 1 else 0)) H) : rInt1 [.bl c] H Q := .inr ⟨c, rfl, q⟩
theorem x_callF {S : Addr → Sp → Prop} {E : L2.St → XK} {f : Addr} {sp : Sp} (hs : σ[i]? = some (some (.ref f))) (hS : S f sp) (h : t σ H fun vs H1 => sp vs H1 Q (E σ)) : tCallF i S E t σ H Q := ⟨f, sp, hs, hS, h⟩
theorem x_un' {m : Int} (q : Q (.int (-m)) H) : rU (fun i => V.int (-i)) (.int m) H Q := ⟨m, rfl, q⟩
end
/-! ### classes by their names -/
def at_ (mg : Str → Option Value) (x : Str) : Addr := match mg x with
  | some (.ref a) => a
  | _ => 0
theorem at_of {mg : Str → Option Value} {x : Str} {C : Addr} (h : mg x = some (.ref C)) : at_ mg x = C := by
  unfold at_
  rw [h]
theorem m_of {mg : Str → Option Value} {x : Str} {C : Addr} (h : mg x = some (.ref C)) : mg x = some (.ref (at_ mg x)) := by
  rw [at_of h]
  exact h
theorem pe_cls {X : Cx} {x : Str} {C : Addr} {pos : Pos} (m : X.mg x = some (.ref C)) (hg : Gl X x := by rfl) (hd : (x == ("__debug__" : Str)) = false := by decide) : PE X (.Name x pos) (tC (.ref C)) := pe_glob hg m rfl hd
theorem Has.held {P : Program} {w : World} {K : Frag} {mg : Str → Option Value} {base : Heap} {x : Str} {j k : Nat} {ps : List Str} {sp : Sp} (h : Has P w K mg base x j ps sp) (hj : j ≤ k) :
    ∃ fd ps, FnOk P w K mg base (L2.CX P w) k (at_ mg x) fd ps sp ∧ PySem.W.keepIn K (.ref (at_ mg x)) = true ∧ Binds K fd ps [] := by
  obtain ⟨f, fd, F, m, kp, b⟩ := h
  rw [at_of m]
  exact ⟨fd, ps, F.mono hj, kp, b⟩
section
variable {X : Cx} {k j : Nat} {x : Str} {ps : List Str} {sp : Sp} {E : L2.St → XK} {p pos : Pos} {e : Expr} {es : List Expr} {t : TA}
theorem pe_hasS (h : Has X.prog X.w X.K X.mg X.base x j ps sp) (hr : Room k X.A) (hx : ∀ σ, PassesAt (L2.CX X.prog X.w) X σ (E σ)) (ha : PA X (e :: es) t) (hj : j ≤ k := by decide) (hg : Gl X x := by rfl)
    (hdb : (x == ("__debug__" : Str)) = false := by decide) (he : starEach (e :: es) X.env = (false, eval e X.env) :: starEach es X.env := by rfl) (hpl : (backTo pos (starEach es X.env)).any (·.1) = false := by rfl) :
    PE X (.Call (.Name x p) (e :: es) [] pos) (tCallS sp E t) := by
  obtain ⟨f, fd, F, m, kp, b⟩ := h
  exact pe_callS F (hr.mono hj) hg m kp b hx ha hdb he hpl
theorem x_callS {σ : L2.St} {H : Hp} {Q : VK} (h : t σ H fun vs H1 => sp vs H1 Q (E σ)) : tCallS sp E t σ H Q := h
end
section
variable {K : Frag} {H : Hp} {Q : VK} {x : V} {o : Option Addr}
theorem x_isiC {cv : V} {u : Value} {b : Bool} (k : ClsV cv u) (c : Caught K H x o) (hc : ∀ D, o = some D → ExcC K D) (e : PySem.W.kitOne K (clsOf o) u = some b) (q : Q (.bl b) H) : rIsiC K [x, cv] H Q := ⟨x, cv, o, u, b, rfl, k, c, hc, e, q⟩
theorem x_isiCT {tp : Addr} {cs : List V} {us : List Value} {b : Bool} (h : H tp = some (.tup cs)) (k : Paired ClsV cs us) (c : Caught K H x o) (hc : ∀ D, o = some D → ExcC K D) (e : PySem.W.kitAny K (clsOf o) us = some b) (q : Q (.bl b) H) : rIsiCT K [x, .ref tp] H Q :=
  ⟨x, tp, cs, o, us, b, rfl, h, k, c, hc, e, q⟩
end
/-! ### a comprehension whose items are new objects -/
theorem x_lcN {K : Frag} {σ : L2.St} {H : Hp} {Q : VK} {j : Nat} {te : TE} {a : Addr} {vs : List Nat} {α : Type} (as : List α) (f : α → V) (o : α → HO) (hl : SqL K H a (as.map f)) (hz : as.length ≤ 1000000) (hw : ∀ x, wipe ((wipe σ vs).set j (some x)) vs = wipe σ vs)
    (he : ∀ x ∈ as, ∀ H', Ex H H' → ∀ Q' : VK, (∀ p H2, H' p = none → Ex H' H2 → H2 p = some (o x) → Q' (.ref p) H2) → te ((wipe σ vs).set j (some (f x))) H' Q')
    (q : ∀ D H2 (ps : List Addr), H D = none → Ex H H2 → H2 D = some (.lst (ps.map V.ref)) → ps.length = as.length → (∀ (i : Nat) (x : α) (p : Addr), as[i]? = some x → ps[i]? = some p → H2 p = some (o x)) → Q (.ref D) H2) :
    ∃ b, V.ref a = .ref b ∧ (∃ xs, SqL K H b xs) ∧ LcRun (gName j) tYes te vs σ Q (Itl K b) H := by
  refine ⟨a, rfl, ⟨_, hl⟩, fun Dl hD => lc_list (xs := as.map f) (fun k H' => Ex H H' ∧ ∃ ps : List Addr, H' Dl = some (.lst (ps.map V.ref)) ∧ ps.length = k ∧ ∀ (i : Nat) (x : α) (p : Addr), as[i]? = some x → ps[i]? = some p → p ≠ Dl ∧ H' p = some (o x))
    ⟨Evl.Ex.new hD, [], by rw [upd_same]; rfl, rfl, fun i x p _ h => by simp at h⟩ (fun k H' _ pp => Evl.ex_l pp.1 hl) (fun k x H' hx pp => ?_) fun H' pp => ?_⟩
  · rw [List.getElem?_map] at hx
    cases ex : as[k]? with
    | none => rw [ex] at hx; cases hx
    | some n =>
      rw [ex] at hx
      cases hx
      have hk : k < as.length := (List.getElem?_eq_some_iff.mp ex).1
      obtain ⟨e1, ps, hps, hlen, hall⟩ := pp
      refine ⟨hw _, ?_⟩
      refine x_true (B := True) ?_
      refine he n (List.mem_of_getElem? ex) H' e1 _ fun p H2 p0 e2 hp => ?_
      have npD : p ≠ Dl := Ne.symm (ne_of_none hps p0)
      refine ⟨_, e2 _ _ hps, by rw [List.length_map, hlen]; exact szl (by omega), Evl.Ex.mut (e1.trans e2) hD, ps ++ [p], by rw [upd_same, List.map_append]; rfl, by rw [List.length_append, hlen]; rfl, fun i y r hi hr => ?_⟩
      by_cases h : i < ps.length
      · rw [List.getElem?_append_left h] at hr
        obtain ⟨h1, h2⟩ := hall i y r hi hr
        exact ⟨h1, by rw [upd_ne h1]; exact e2 _ _ h2⟩
      · have h2 := (List.getElem?_eq_some_iff.mp hr).1
        rw [List.length_append, List.length_singleton] at h2
        have h3 : i = ps.length := by omega
        subst h3
        rw [List.getElem?_append_right (Nat.le_refl _), Nat.sub_self] at hr
        cases hr
        rw [hlen, ex] at hi
        cases hi
        exact ⟨npD, by rw [upd_ne npD]; exact hp⟩
  · obtain ⟨e1, ps, hps, hlen, hall⟩ := pp
    rw [List.length_map] at hlen
    exact q Dl H' ps hD e1 hps hlen fun i x p hi hp => (hall i x p hi hp).2
theorem at2 {x y : V} {k : Int} (h0 : 0 ≤ k) (h : k < 2) : ∃ v, atI [x, y] k = some v ∧ (v = x ∨ v = y) := by
  rcases (by omega : k = 0 ∨ k = 1) with rfl | rfl
  · exact ⟨x, rfl, .inl rfl⟩
  · exact ⟨y, rfl, .inr rfl⟩
end B

namespace B
open PySem PySem.Spec PyProof.Rows L2
open PySem.W (Frag)
theorem boot_ValueError : bootBuiltins "ValueError" = some (.type "ValueError") := by decide +kernel
/-! ### list(range(a, b, -1)) -/
/-- a, a - 1, .., b + 1 -/
def downs (a b : Int) : List Int := (List.range (a - b).toNat).map fun i => a - (i : Nat)
theorem downs_len (a b : Int) : (downs a b).length = (a - b).toNat := by unfold downs; rw [List.length_map, List.length_range]
def rDownL (Q : VK) : List V → Hp → Prop := fun vs H1 => ∃ i j, vs = [.int i, .int j, .int (-1)] ∧ i ≤ 1000000 ∧ -1000000 ≤ i ∧ j ≤ 1000000 ∧ -1000000 ≤ j ∧ ∀ p, H1 p = none → Q (.ref p) (upd H1 p (.lst ((downs i j).map V.int)))
def tLstDn (ta : TA) : TE := fun σ H Q => ta σ H (rDownL Q)
section
variable {X : Cx} {a b c : Expr} {ta : TA} {p pos p2 pos2 : Pos}
theorem pe_listDn (hc : X.calm = true) (hg : Gl X "list") (hm : X.mg "list" = none) (hg2 : Gl X "range") (hm2 : X.mg "range" = none) (ha : PA X [a, b, c] ta)
    (na : starEach [.Call (.Name "range" p2) [a, b, c] [] pos2] X.env = (false, eval (.Call (.Name "range" p2) [a, b, c] [] pos2) X.env) :: starEach [] X.env := by rfl)
    (hs : starEach [a, b, c] X.env = (false, eval a X.env) :: starEach [b, c] X.env := by rfl) (hpl : (backTo pos2 (starEach [b, c] X.env)).any (·.1) = false := by rfl) :
    PE X (.Call (.Name "list" p) [.Call (.Name "range" p2) [a, b, c] [] pos2] [] pos) (tLstDn ta) := by
  refine ⟨fun pins s σ H Q I h => ?_⟩
  refine Call_ (ld_blt I hg hm boot_list (PyProof.Rows.callWith_type1 (args_cons ?_ na) na))
  refine Call_ (ld_blt I hg2 hm2 boot_range (PyProof.Rows.callWith_type1 (thn (ha.run pos2 pins s σ H _ I h) fun us s1 ⟨vs, H1, I1, r1, q1⟩ => ?_) hs hpl))
  obtain ⟨i, j, e, i1, i2, j1, j2, q⟩ := q1
  subst e
  cases r1 with
  | cons r rr =>
    cases rr with
    | cons r' rr =>
      cases rr with
      | cons r'' rr =>
        cases rr
        obtain ⟨t, rfl⟩ := r
        obtain ⟨t', rfl⟩ := r'
        obtain ⟨t'', rfl⟩ := r''
        refine call_range_3 (by decide) ?_ (.inl (PyProof.noPylong_small (by decide)))
        refine args_nil ?_
        have I2 : Inv X pins σ H1 { s1 with heap := s1.heap.push { cls := .type "range", data := .fields #[.int i t, .int j t', .int (-1) t''] } } := I1.kept (t' := s1.toks) fun b o e => Heap.get?_push_of_some _ e
        refine call_list_range (n := (i - j).toNat) (I2.ok.hd hc) (IsRange.new ..) (PySem.W.small_down (by omega) (by omega) (by omega) (by omega)) (PySem.W.rangeSize_downNat i j) (by omega) fun h' tk acc c' hk e' hi => ?_
        refine ⟨.ref _, upd H1 _ (.lst ((downs i j).map V.int)), I2.laid hk (Nat.le_refl _) (show ObjOk X.prog X.w _ _ _ (.lst ((downs i j).map V.int)) from ⟨?_, acc.toList, c', ?_, ?_⟩), rfl, q _ (I2.hok.fresh (Nat.le_refl _))⟩
        · rw [List.length_map, downs_len]
          rw [sizeLine_eq]
          omega
        · have el : acc.toList.length = (i - j).toNat := by rw [Array.length_toList]; exact hi.1
          unfold downs
          rw [List.map_map, ← el]
          refine vals_of_get acc.toList _ fun k u hu => ?_
          obtain ⟨z, rfl⟩ := hi.2 k u (by rw [← hu, Array.getElem?_toList])
          refine ⟨z, ?_⟩
          show Value.int (i + (k : Nat) * -1) z = Value.int (i - (k : Nat)) z
          rw [show i + ((k : Nat) : Int) * -1 = i - (k : Nat) from by omega]
        · rw [Array.toArray_toList]; exact e'
end
section
variable {K : Frag} {σ : L2.St} {H H' : Hp} {Q : VK} {ta : TA}
theorem x_callF2 {i j k : Nat} {S : Addr → Sp → Prop} {E : L2.St → XK} {f : Addr} {x y : V} (hf : σ[i]? = some (some (.ref f))) (hx : σ[j]? = some (some x)) (hy : σ[k]? = some (some y)) (h : ∃ sp, S f sp ∧ sp [x, y] H Q (E σ)) :
    tCallF i S E (tCons (tVar j) (tCons (tVar k) tNil)) σ H Q := by
  obtain ⟨sp, h1, h2⟩ := h
  exact ⟨f, sp, hf, h1, x, hx, y, hy, h2⟩
theorem x_neD {x y : V} {d e : PyData} {b : Bool} (hd : Dp K H x d) (he : Dp K H y e) (sd : SeqAt.shaped d = true) (se : SeqAt.shaped e = true) (hb : PyData.eqv d e = b) (q : Q (.bl (!b)) H) : rNeD K x y H Q := ⟨d, e, hd, he, sd, se, by rw [hb]; exact q⟩
/-- an exception of the class: kept, the suite's end is what comes next -/
theorem x_kept {i j : Nat} {c cls : Value} {Wout : WX} {D : Ends} (e : PySem.W.exmOne K cls c = some true) (q : ∀ a H', H a = none → Ex H H' → H' a = some (ExC a cls none) → D.nx (((σ.set i (some (.ref a))).set j (some (.ref a))).set i none) H') : WE (wKeep K c i j Wout D) σ cls none H :=
  ⟨true, e, fun _ a h0 => q a _ h0 (Evl.Ex.new h0) upd_same, fun z => nomatch z⟩
theorem x_inL {x : V} {l : Addr} {xs : List V} (h : SqL K H l xs) (hx : flatV x = true) {b : Bool} (hs : xs.all flatV = true) (e : inV x xs = b) (q : Q (.bl b) H) : rIn K false x (.ref l) H Q := ⟨l, xs, rfl, .inl h, hx, hs, by rw [← e] at q; exact q⟩
theorem x_lstDn (h : ta σ H (rDownL Q)) : tLstDn ta σ H Q := h
theorem x_downs {m n : Int} (hm : m ≤ 1000000 ∧ -1000000 ≤ m) (hn : n ≤ 1000000 ∧ -1000000 ≤ n) (q : ∀ p H', H p = none → Ex H H' → H' p = some (.lst ((downs m n).map V.int)) → Q (.ref p) H') : rDownL Q [.int m, .int n, .int (-1)] H :=
  ⟨m, n, rfl, hm.1, hm.2, hn.1, hn.2, fun p hp => q p _ hp (Evl.Ex.new hp) (by rw [upd_same])⟩
end
end B

namespace B
open PySem PySem.Spec PyProof.Rows L2
open PySem.W (Frag DatumOrd minOf maxOf HoldAll)
/-! ### sorted(t) of a tuple of ints -/
section
variable {prog : Program} {w : World} {A : Around} {E : Value → Shared → Prop} {s : Shared}
/-- the heap after a tuple's items were put into a new list -/
def gotHeap (h : Heap) (vs : List Value) : Heap := (h.push (seqObj "list" #[] 0)).update h.objs.size (Obj.mapSeq (· ++ vs.toArray))
theorem got_size (h : Heap) (vs : List Value) : (gotHeap h vs).objs.size = h.objs.size + 1 := by unfold gotHeap; rw [Heap.size_update, size_push']
theorem got_old {h : Heap} {vs : List Value} {b : Addr} {o : Obj} (e : h.get? b = some o) : (gotHeap h vs).get? b = some o := by
  unfold gotHeap; rw [Heap.get?_update_ne _ _ _ _ (Nat.ne_of_lt (Heap.lt_size e))]; exact Heap.get?_push_of_some _ e
theorem collect_tup {t : Addr} {vs : List Value} {Q : List Value → Shared → Prop} (ht : IsTup s.heap t vs.toArray) (hz : vs.length ≤ sizeLine) (h : Q vs { s with heap := gotHeap s.heap vs }) : wpAny (model prog w) A (collect (.ref t)) Q E s := by
  obtain ⟨o, ho, hc, n, hd⟩ := id ht
  unfold collect; refine wpAny_bind (wpAny_runValue (codeAny_builtin entry_proto_collect' ?_))
  show wpAny _ _ (do again (.builtin "list.__iadd__" ⟨[← newList [], .ref t], []⟩)) _ _ s
  refine wpAny_bind (wpAny_newList (wpAny_pure ⟨Code.quiet_builtin _ (by decide +kernel), codeAny_builtin entry_list_iadd' ?_⟩)); show wpAny _ _ (Builtin.List.listExtendWith (.ref s.heap.objs.size) (.ref t) (.ref s.heap.objs.size)) _ _ { s with heap := s.heap.push (seqObj "list" #[] 0) }
  unfold Builtin.List.listExtendWith; have ho' : (s.heap.push (seqObj "list" #[] 0)).get? t = some o := Heap.get?_push_of_some _ ho
  refine wpAny_bind (wpAny_typeOf (T := "tuple") ⟨o, ho', hc⟩ ?_)
  rw [if_pos (by simp)]
  refine wpAny_bind (listItems_at ho' hd (wpAny_bind (listItems_at (xs := #[]) (n := 0) (Heap.get?_push_size _ rfl) rfl ?_)))
  rw [if_neg (by simp)]; refine wpAny_bind (listUpdate_at (xs := #[]) (n := 0) (Heap.get?_push_size _ rfl) rfl (wpAny_pure ?_) (Nat.zero_le _) (by show (#[] ++ vs.toArray).size ≤ sizeLine + 1; rw [Array.size_append, List.size_toArray]; simp only [List.size_toArray, List.length_nil]; omega))
  show wpAny (model prog w) A (load s.heap.objs.size >>= fun o => match o.data with | .seq xs _ => pure xs.toList | _ => unsupported "internal:collect") Q E { s with heap := gotHeap s.heap vs }
  refine wpAny_bind (wpAny_load (get?_update_seq (Heap.get?_push_size _ rfl) _) (show wpAny _ _ (pure ((#[] : Array Value) ++ vs.toArray).toList) Q E _ from ?_))
  rw [show ((#[] : Array Value) ++ vs.toArray).toList = vs by simp]; exact wpAny_pure h
theorem sorted_tup {t : Addr} {vs : List Value} {ns : List Int} {Q : Value → Shared → Prop} (ht : IsTup s.heap t vs.toArray) (hz : vs.length ≤ sizeLine) (hi : IntsAre vs ns)
    (h : ∀ out : List Value, SrtO.Srtd SrtO.ltIv out → SrtO.Stb SrtO.ltIv out vs → Q (.ref (s.heap.objs.size + 1)) { s with heap := sortedAll s.heap vs out.toArray }) : wpAny (model prog w) A (call (.builtin "sorted") [.ref t]) Q E s := by
  refine Calls.call_function_entry kind_sorted plain_sorted entry_sorted (args_sorted1 _) (show wpAny _ _ (Builtin.«sorted» _) _ _ _ from ?_)
  unfold Builtin.«sorted»; refine wpAny_bind (m := checkCount "sorted" 1 1 _) (wpAny_pure (wpAny_bind (collect_tup ht hz (wpAny_bind (wpAny_newList ?_ hz)))))
  have hoL : ((gotHeap s.heap vs).push (seqObj "list" vs.toArray 0)).get? (s.heap.objs.size + 1) = some (seqObj "list" vs.toArray 0) := by rw [← got_size s.heap vs]; exact Heap.get?_push_size _ rfl
  show wpAny _ _ _ _ _ { s with heap := (gotHeap s.heap vs).push (seqObj "list" vs.toArray 0) }
  rw [got_size]
  refine wpAny_bind (wpAny_holding (wpAny_call_entry slot_list_sort ⟨_, hoL, rfl⟩ entry_list_sort (SrtO.list_sort_ord SrtO.swo_int hoL hz (fun h2 => SrtO.ints_sortable hi h2) fun out hs hb => ⟨_, rfl, wpAny_pure ⟨_, rfl, h out hs hb⟩⟩) (args_list_sort _)))
end
def rSortedT (K : Frag) : List V → Hp → VK → Prop := fun vs H Q => ∃ (a : Addr) (ns : List Int), vs = [V.ref a] ∧ SqT K H a (ns.map V.int) ∧ ∀ (ns' : List Int) (p : Addr), ns'.Perm ns → ns'.Pairwise (· ≤ ·) → H p = none → Q (.ref p) (upd H p (.lst (ns'.map V.int)))
def rMinT (K : Frag) : List V → Hp → VK → Prop := fun vs H Q => ∃ (a : Addr) (ns : List Int), vs = [V.ref a] ∧ SqT K H a (ns.map V.int) ∧ ns ≠ [] ∧ ∀ m, m ∈ ns → (∀ y, y ∈ ns → m ≤ y) → Q (.int m) H
def rMaxT (K : Frag) : List V → Hp → VK → Prop := fun vs H Q => ∃ (a : Addr) (ns : List Int), vs = [V.ref a] ∧ SqT K H a (ns.map V.int) ∧ ns ≠ [] ∧ ∀ m, m ∈ ns → (∀ y, y ∈ ns → y ≤ m) → Q (.int m) H
section
variable {X : Cx}
theorem call_sortedT : CallR X (.builtin "sorted") (rSortedT X.K) := by
  intro pins s σ H vs us Q I r h
  obtain ⟨a, ns, rfl, hs, q⟩ := h
  obtain ⟨its, rv, ht, hz⟩ := I.tuple hs
  rw [Vals.ref1 r]
  have hi := rv.ints
  refine sorted_tup ht (by rw [← rv.length]; exact hz) hi fun out h1 h2 => ?_
  obtain ⟨k1, k2, k3⟩ := SrtO.ints_out hi h1 h2
  obtain ⟨ep, he'⟩ := PyProof.Rows.sortedAll_at s.heap its out.toArray
  have hlen : ((out.map SrtO.iv).map V.int).length ≤ sizeLine := by rw [List.length_map, k2.length_eq, ← List.length_map (f := V.int)]; exact hz
  exact ⟨.ref _, upd H _ (.lst ((out.map SrtO.iv).map V.int)), I.laid (t' := s.toks) (fun _ _ => PyProof.Rows.sortedAll_old) (Nat.le_succ _) ⟨hlen, out, ep, vals_of_ints k1, he'⟩, rfl, q _ _ k2 k3 (I.hok.fresh (Nat.le_succ _))⟩
theorem lt_int {a b : Int} : DatumOrd.lt a b = decide (a < b) := rfl
theorem minOf_int (x : Int) (xs : List Int) : minOf x xs ∈ x :: xs ∧ ∀ y ∈ x :: xs, minOf x xs ≤ y := by
  induction xs generalizing x with
  | nil => simp [minOf]
  | cons z zs ih =>
    have e : minOf x (z :: zs) = minOf (if z < x then z else x) zs := by
      show minOf (if DatumOrd.lt z x = true then z else x) zs = _
      rw [lt_int]
      by_cases h : z < x <;> simp [h]
    rw [e]
    obtain ⟨h1, h2⟩ := ih (if z < x then z else x)
    by_cases h : z < x
    · rw [if_pos h] at h1 h2 ⊢
      refine ⟨List.mem_cons_of_mem _ h1, fun y hy => ?_⟩
      rcases List.mem_cons.mp hy with rfl | hy
      · have := h2 z List.mem_cons_self
        omega
      · exact h2 y hy
    · rw [if_neg h] at h1 h2 ⊢
      refine ⟨?_, fun y hy => ?_⟩
      · rcases List.mem_cons.mp h1 with h1 | h1
        · rw [h1]; exact List.mem_cons_self
        · exact List.mem_cons_of_mem _ (List.mem_cons_of_mem _ h1)
      · rcases List.mem_cons.mp hy with rfl | hy
        · exact h2 _ List.mem_cons_self
        · rcases List.mem_cons.mp hy with rfl | hy
          · have := h2 x List.mem_cons_self
            omega
          · exact h2 y (List.mem_cons_of_mem _ hy)
theorem maxOf_int (x : Int) (xs : List Int) : maxOf x xs ∈ x :: xs ∧ ∀ y ∈ x :: xs, y ≤ maxOf x xs := by
  induction xs generalizing x with
  | nil => simp [maxOf]
  | cons z zs ih =>
    have e : maxOf x (z :: zs) = maxOf (if x < z then z else x) zs := by
      show maxOf (if DatumOrd.lt x z = true then z else x) zs = _
      rw [lt_int]
      by_cases h : x < z <;> simp [h]
    rw [e]
    obtain ⟨h1, h2⟩ := ih (if x < z then z else x)
    by_cases h : x < z
    · rw [if_pos h] at h1 h2 ⊢
      refine ⟨List.mem_cons_of_mem _ h1, fun y hy => ?_⟩
      rcases List.mem_cons.mp hy with rfl | hy
      · have := h2 z List.mem_cons_self
        omega
      · exact h2 y hy
    · rw [if_neg h] at h1 h2 ⊢
      refine ⟨?_, fun y hy => ?_⟩
      · rcases List.mem_cons.mp h1 with h1 | h1
        · rw [h1]; exact List.mem_cons_self
        · exact List.mem_cons_of_mem _ (List.mem_cons_of_mem _ h1)
      · rcases List.mem_cons.mp hy with rfl | hy
        · exact h2 _ List.mem_cons_self
        · rcases List.mem_cons.mp hy with rfl | hy
          · have := h2 x List.mem_cons_self
            omega
          · exact h2 y (List.mem_cons_of_mem _ hy)
theorem call_minT (hc : X.calm = true) (hu : X.A.units + 64 < cLine) : CallR X (.builtin "min") (rMinT X.K) := by
  intro pins s σ H vs us Q I r h
  obtain ⟨a, ns, rfl, hs, hne, q⟩ := h
  obtain ⟨its, rv, ht, hz⟩ := I.tuple hs
  rw [Vals.ref1 r]
  have hi := rv.ints
  cases ns with
  | nil => exact absurd rfl hne
  | cons x xs =>
    refine PySem.W.min_tuple_datum (α := Int) (I.ok.hd hc) ht (x := x) (xs := xs) (HoldAll.of_ints hi) (show X.A.units + 1 + 0 < cLine by omega) fun i v h' tk hi' hv hk => ?_
    obtain ⟨as, hv⟩ := hv
    cases hv
    exact ⟨.int _, H, I.kept hk, ⟨_, rfl⟩, q _ (minOf_int x xs).1 (minOf_int x xs).2⟩
theorem call_maxT (hc : X.calm = true) (hu : X.A.units + 64 < cLine) : CallR X (.builtin "max") (rMaxT X.K) := by
  intro pins s σ H vs us Q I r h
  obtain ⟨a, ns, rfl, hs, hne, q⟩ := h
  obtain ⟨its, rv, ht, hz⟩ := I.tuple hs
  rw [Vals.ref1 r]
  have hi := rv.ints
  cases ns with
  | nil => exact absurd rfl hne
  | cons x xs =>
    refine PySem.W.max_tuple_datum (α := Int) (I.ok.hd hc) ht (x := x) (xs := xs) (HoldAll.of_ints hi) (show X.A.units + 1 + 0 < cLine by omega) fun i v h' tk hi' hv hk => ?_
    obtain ⟨as, hv⟩ := hv
    cases hv
    exact ⟨.int _, H, I.kept hk, ⟨_, rfl⟩, q _ (maxOf_int x xs).1 (maxOf_int x xs).2⟩
end
/-! ### t[::-1] -/
theorem rev_at (xs : Array Value) : ((List.range xs.size).filterMap fun (k : Nat) => xs[((xs.size : Int) - 1 + (k : Int) * (-1)).toNat]?).toArray = xs.toList.reverse.toArray := by
  congr 1
  have key : ∀ n, n ≤ xs.size → (List.range n).filterMap (fun (k : Nat) => xs[((xs.size : Int) - 1 + (k : Int) * (-1)).toNat]?) = xs.toList.reverse.take n := by
    intro n
    induction n with
    | zero => intro _; simp
    | succ n ih =>
      intro hn
      have e : ((xs.size : Int) - 1 + (n : Int) * (-1)).toNat = xs.size - 1 - n := by omega
      have hx : xs.size - 1 - n < xs.size := by omega
      rw [List.range_succ, List.filterMap_append, ih (by omega)]
      simp only [List.filterMap_cons, List.filterMap_nil, e, Array.getElem?_eq_getElem hx]
      rw [List.take_succ, List.getElem?_reverse (by simp; omega)]
      simp only [Array.length_toList]
      rw [Array.getElem?_toList, Array.getElem?_eq_getElem hx]
      rfl
  rw [key _ (Nat.le_refl _), List.take_of_length_le (by simp)]
section
variable {prog : Program} {w : World} {A : Around} {E : Value → Shared → Prop} {s : Shared}
theorem applied_rev {sl : Addr} {vl vu vs : Value} {n : Nat} {Q : Int × Int × Nat → Shared → Prop} (hs : s.heap.IsSliceOf sl vl vu vs) (pl : IsPart vl none) (pu : IsPart vu none) (ps : IsPart vs (some (-1))) (h : Q ((n : Int) - 1, -1, n) s) :
    wpAny (model prog w) A (Builtin.Slice.sliceApplied (.ref sl) (pure (n : Int))) Q E s := by
  obtain ⟨os, hos, hcs, hds⟩ := id hs
  unfold Builtin.Slice.sliceApplied Builtin.Slice.sliceFields; refine wpAny_bind (wpAny_bind (wpAny_field hos hds (x := vl) rfl (wpAny_bind (wpAny_field hos hds (x := vu) rfl (wpAny_bind (wpAny_field hos hds (x := vs) rfl (wpAny_pure (wpAny_bind (HT.slicePart_ ps ?_)))))))))
  show wpAny _ _ (if ((-1 : Int) == 0) = true then _ else _) _ _ s
  rw [if_neg (by decide)]; refine wpAny_bind (HT.slicePart_ pl (wpAny_bind (HT.slicePart_ pu (wpAny_bind (wpAny_pure ?_)))))
  have e : Builtin.Slice.slicePlaces ((n : Int) - 1) (-1) (-1) = n := by
    unfold Builtin.Slice.slicePlaces
    rw [if_neg (by decide)]
    by_cases h0 : (n : Int) - 1 > -1
    · rw [if_pos h0, show (n : Int) - 1 - -1 - 1 = n - 1 from by omega, show (- -1 : Int) = 1 from rfl, Int.ediv_one]
      omega
    · rw [if_neg h0]
      omega
  show wpAny _ _ (pure ((n : Int) - 1, (-1 : Int), Builtin.Slice.slicePlaces ((n : Int) - 1) (-1) (-1))) _ _ s
  rw [e]
  exact wpAny_pure h
theorem getItem_tup_rev {t sl : Addr} {items : Array Value} {vl vu vs : Value} {Q : Value → Shared → Prop} (ht : IsTup s.heap t items) (hs : s.heap.IsSliceOf sl vl vu vs) (pl : IsPart vl none) (pu : IsPart vu none) (ps : IsPart vs (some (-1))) (hsz : items.size ≤ sizeLine)
    (h : Q (.ref s.heap.objs.size) { s with heap := s.heap.push { cls := .type "tuple", data := .seq items.toList.reverse.toArray } }) : wpAny (model prog w) A (getItem (.ref t) (.ref sl)) Q E s := by
  have hok : sizeOk (.seq items.toList.reverse.toArray) := by show items.toList.reverse.toArray.size ≤ sizeLine; simpa using hsz
  obtain ⟨os, hos, hcs, hds⟩ := id hs
  have hT : s.TypeIs (.ref sl) "slice" := ⟨os, hos, hcs⟩
  unfold getItem
  try with_reducible refine wpAny_holding ?_
  first | refine wpAny_bind (wpAny_pure ?_) | skip
  refine wpAny_bind (wpAny_sequenceKey ht.typeIs (by decide) (wpAny_bind (wpAny_callSpecial?_slot (name := Str.ofString "__getitem__") ht.typeIs PyProof.Rows.slot_tuple_getitem (wpAny_call_entry PyProof.Rows.slot_tuple_getitem ht.typeIs entry_tuple_getitem ?_ (args_tuple_getitem _ _)))))
  show wpAny _ _ (Builtin.Tuple.tupleItemsOf (.ref t) >>= _) _ _ s
  refine wpAny_bind (tupleItemsOf_ ht (wpAny_bind (wpAny_typeOf hT ?_)))
  rw [if_pos (by decide)]; refine wpAny_bind (applied_rev hs pl pu ps ?_)
  show wpAny _ _ (if ((((items.size : Int) - 1 == 0) && ((-1 : Int) == 1)) && (items.size == items.size)) = true then _ else _) _ _ s
  rw [if_neg (by rw [show ((-1 : Int) == 1) = false from rfl, Bool.and_false, Bool.false_and]; exact Bool.false_ne_true), rev_at]
  first
    | exact wpAny_bind (m := Builtin.Tuple.tupleExact _) (wpAny_newObj_type (wpAny_pure ⟨_, rfl, wpAny_pure h⟩) hok)
    | exact wpAny_bind (m := Builtin.Tuple.tupleExact _) (wpAny_newObj_type (wpAny_bind (wpAny_pure (wpAny_pure ⟨_, rfl, wpAny_pure h⟩))) hok)
    | exact wpAny_bind (wpAny_bind (m := Builtin.Tuple.tupleExact _) (wpAny_newObj_type (wpAny_pure (wpAny_pure ⟨_, rfl, wpAny_pure h⟩)) hok))
    | exact wpAny_bind (wpAny_bind (m := Builtin.Tuple.tupleExact _) (wpAny_newObj_type (wpAny_pure ⟨_, rfl, wpAny_pure h⟩) hok))
end
def rRevT (K : Frag) (Q : VK) : V → Hp → Prop := fun x H1 => ∃ a xs, x = .ref a ∧ SqT K H1 a xs ∧ ∀ p, H1 p = none → Q (.ref p) (upd H1 p (.tup xs.reverse))
def tRevT (K : Frag) (te : TE) : TE := fun σ H Q => te σ H (rRevT K Q)
theorem pe_revT {X : Cx} {e : Expr} {te : TE} {k : Nat} {p1 p2 p3 pos : Pos} (he : PE X e te) : PE X (.Subscript e (.Slice none none (some (.UnaryOp .USub (.Constant (.int 1) k p1) p2)) p3) pos) (tRevT X.K te) := by
  refine ⟨fun pins s σ H Q I h => ?_⟩
  refine Subscript_ (thn (he.run pins s σ H _ I h) fun v s1 ⟨x, H1, I1, r1, a, xs, ex, hx, q⟩ => ?_)
  subst ex
  cases r1
  have hst : PO X (some (.UnaryOp .USub (.Constant (.int 1) k p1) p2)) (tPart (tUn (rU fun i => .int (-i)) (tC (.int 1)))) := po_some (pe_un un_neg pe_int)
  refine wpAny_Slice (thn (po_none.run pins s1 σ H1 (fun o H2 => o = none ∧ H2 = H1) I1 ⟨rfl, rfl⟩) fun vl s2 ⟨l, H2, I2, pl, el, e2⟩ => thn (po_none.run pins s2 σ H2 (fun o H3 => o = none ∧ H3 = H2) I2 ⟨rfl, rfl⟩) fun vu s3 ⟨u, H3, I3, pu, eu, e3⟩ => ?_)
  subst el e2 eu e3
  refine thn (hst.run pins s3 σ H3 (fun o H4 => o = some (-1) ∧ H4 = H3) I3 ⟨1, rfl, -1, rfl, rfl, rfl⟩) fun vs s4 ⟨o, H4, I4, ps, eo, e4⟩ => ?_
  subst eo e4
  have I5 : Inv X pins σ H4 { s4 with heap := s4.heap.push { cls := .type "slice", data := .fields #[vl, vu, vs] } } := I4.kept (t' := s4.toks) fun b ob q => Heap.get?_push_of_some _ q
  obtain ⟨its, r, ht, hz⟩ := I5.tuple hx
  have hlen := r.length
  show wpAny (model X.prog X.w) X.A (subscriptTail e (.Slice none none (some (.UnaryOp .USub (.Constant (.int 1) k p1) p2)) p3) (.ref a) (.ref s4.heap.objs.size)) (EP X pins σ Q) X.xe { s4 with heap := s4.heap.push { cls := .type "slice", data := .fields #[vl, vu, vs] } }
  refine tail_any (ops := [.ref a, .ref s4.heap.objs.size]) ht.typeIs PyProof.Rows.slot_tuple_getitem.lookup ?_ (by with_unfolding_all rfl)
  refine getItem_tup_rev ht (Heap.IsSliceOf.new _ vl vu vs) pl pu ps (by rw [List.size_toArray, ← hlen]; exact hz) ?_
  exact ⟨.ref _, _, I5.laid (t' := s4.toks) (o := .tup xs.reverse) (fun b ob q => Heap.get?_push_of_some _ q) (Nat.le_refl _) ⟨by rw [List.length_reverse]; exact hz, _, r.reverse, IsTup.new _ _⟩, rfl, q _ (I5.hok.fresh (Nat.le_refl _))⟩
section
variable {K : Frag} {σ : L2.St} {H H' : Hp} {Q : VK} {te : TE} {a b : Addr} {xs ys : List V}
theorem x_revT (h : te σ H (rRevT K Q)) : tRevT K te σ H Q := h
theorem x_revt (h : SqT K H a xs) (q : ∀ p H', H p = none → Ex H H' → H' p = some (.tup xs.reverse) → Q (.ref p) H') : rRevT K Q (.ref a) H := ⟨a, xs, rfl, h, x_new q⟩
theorem x_sortedT {ns : List Int} (h : SqT K H a (ns.map V.int)) (q : ∀ (ns' : List Int) p H', ns'.Perm ns → ns'.Pairwise (· ≤ ·) → H p = none → Ex H H' → H' p = some (.lst (ns'.map V.int)) → Q (.ref p) H') : rSortedT K [.ref a] H Q :=
  ⟨a, ns, rfl, h, fun ns' p h1 h2 hp => q ns' p _ h1 h2 hp (Evl.Ex.new hp) upd_same⟩
theorem x_tupQ (h : Sq K H a xs) (q : ∀ p H', Ex H H' → SqT K H' p xs → Q (.ref p) H') : rTupOf K [.ref a] H Q := by
  rcases h with h | h
  · exact ⟨a, xs, rfl, .inl ⟨h, fun p hp => q p _ (Evl.Ex.new hp) (Evl.st_of upd_same)⟩⟩
  · exact ⟨a, xs, rfl, .inr ⟨h, q a H (Evl.Ex.refl H) h⟩⟩
theorem x_minT {ns : List Int} (h : SqT K H a (ns.map V.int)) (hn : ns ≠ []) (q : ∀ m, m ∈ ns → (∀ y, y ∈ ns → m ≤ y) → Q (.int m) H) : rMinT K [.ref a] H Q := ⟨a, ns, rfl, h, hn, q⟩
theorem x_maxT {ns : List Int} (h : SqT K H a (ns.map V.int)) (hn : ns ≠ []) (q : ∀ m, m ∈ ns → (∀ y, y ∈ ns → y ≤ m) → Q (.int m) H) : rMaxT K [.ref a] H Q := ⟨a, ns, rfl, h, hn, q⟩
/-- a part of a tuple -/
theorem x_slT {lo hi : Option Int} (h : SqT K H a xs) (q : ∀ p H', Ex H H' → SqT K H' p (cutV xs lo hi) → Q (.ref p) H') : rSlA K (.ref a) lo hi H Q := by
  refine ⟨a, xs, rfl, h, fun z => ?_, fun _ p hp => q p _ (Evl.Ex.new hp) (Evl.st_of upd_same)⟩
  refine q a H (Evl.Ex.refl H) ?_
  have e : cutV xs lo hi = xs := by
    unfold cutV
    rw [z.1, z.2, List.drop_zero, Nat.sub_zero, List.take_length]
  rw [e]
  exact h
theorem x_catT (h1 : SqT K H a xs) (h2 : SqT K H b ys) (hz : xs.length + ys.length ≤ 1000000) (q : ∀ p H', Ex H H' → SqT K H' p (xs ++ ys) → Q (.ref p) H') : rCatA K (.ref a) (.ref b) H Q := by
  refine ⟨a, b, xs, ys, rfl, rfl, h1, h2, sz hz, fun e => ?_, fun _ e => ?_, fun _ _ p hp => q p _ (Evl.Ex.new hp) (Evl.st_of upd_same)⟩
  · subst e
    exact q b H (Evl.Ex.refl H) h2
  · subst e
    exact q a H (Evl.Ex.refl H) (by rw [List.append_nil]; exact h1)
theorem x_ltT {ns ms : List Int} (h1 : SqT K H a (ns.map V.int)) (h2 : SqT K H b (ms.map V.int)) (q : Q (.bl (HT.lexLt ns ms)) H) : rLtT K (.ref a) (.ref b) H Q := ⟨a, b, ns, ms, rfl, rfl, h1, h2, q⟩
end
end B

namespace B
open PySem PySem.Spec PyProof.Rows L2
open PySem.W (Frag)
/-! ### what is said of a value stays when a list is changed -/
structure Lasts (Pe : V → Hp → Prop) : Prop where
  ex : ∀ {v H H'}, Ex H H' → Pe v H → Pe v H'
  up : ∀ {v H l xs ys}, H l = some (.lst xs) → Pe v H → Pe v (upd H l (.lst ys))
theorem Upd.getT {K : Frag} {H H' : Hp} {l b : Addr} {zs xs : List V} {o : HO} (u : Upd H l o H') (e : H l = some (.lst zs)) (h : SqT K H b xs) : SqT K H' b xs := by
  rcases h with (h | ⟨z, h⟩) | h
  · have n : b ≠ l := fun q => by rw [q, e] at h; cases h
    exact .inl (.inl (u.get n h))
  · have n : b ≠ l := fun q => by rw [q, e] at h; cases h
    exact .inl (.inr ⟨z, u.get n h⟩)
  · exact .inr h
theorem Lasts.of {Pe : V → Hp → Prop} (h : Lasts Pe) {v : V} {H H' : Hp} {l : Addr} {xs ys : List V} (u : Upd H l (.lst ys) H') (e : H l = some (.lst xs)) (p : Pe v H) : Pe v H' := by
  have : H' = upd H l (.lst ys) := by
    funext b
    by_cases c : b = l
    · subst c
      rw [upd_same, u.same]
    · rw [upd_ne c, u.other b c]
  rw [this]
  exact h.up e p
/-- a tuple of which something holds -/
def TupP (K : Frag) (P : List V → Prop) (v : V) (H : Hp) : Prop := ∃ p xs, v = .ref p ∧ SqT K H p xs ∧ P xs
theorem TupP.lasts {K : Frag} {P : List V → Prop} : Lasts (TupP K P) where
  ex := fun e ⟨p, xs, h1, h2, h3⟩ => ⟨p, xs, h1, Evl.ex_t e h2, h3⟩
  up := fun e ⟨p, xs, h1, h2, h3⟩ => ⟨p, xs, h1, Upd.getT .mk0 e h2, h3⟩
section
variable {K : Frag} {σ : L2.St} {H : Hp} {Q : VK} {j : Nat} {te : TE} {a : Addr} {vs : List Nat}
theorem x_lcRP {lo hi : Int} (Pe : Int → V → Hp → Prop) (ls : ∀ i, Lasts (Pe i)) (hz : (hi - lo).toNat ≤ 1000000) (hw : ∀ x, wipe ((wipe σ vs).set j (some x)) vs = wipe σ vs)
    (he : ∀ i, lo ≤ i → i < hi → ∀ H', Ex H H' → ∀ Q' : VK, (∀ v H2, Ex H' H2 → Pe i v H2 → Q' v H2) → te ((wipe σ vs).set j (some (.int i))) H' Q')
    (q : ∀ D H2 (zs : List V), H D = none → Ex H H2 → H2 D = some (.lst zs) → zs.length = (hi - lo).toNat → (∀ (k : Nat) v, zs[k]? = some v → Pe (lo + (k : Nat)) v H2) → Q (.ref D) H2) :
    LcRun (gName j) tYes te vs σ Q (Itr lo (hi - lo).toNat) H := by
  intro Dl hD
  refine lc_range (fun k H' => Ex H H' ∧ ∃ zs : List V, H' Dl = some (.lst zs) ∧ zs.length = k ∧ ∀ (i : Nat) v, zs[i]? = some v → Pe (lo + (i : Nat)) v H')
    ⟨Evl.Ex.new hD, [], by rw [upd_same], rfl, fun i v h => by simp at h⟩ (fun k H' hk pp => ?_) fun H' pp => ?_
  · obtain ⟨e1, zs, hzs, hlen, hall⟩ := pp
    refine ⟨hw _, ?_⟩
    refine x_true (B := True) ?_
    refine he (lo + (k : Nat)) (by omega) (by omega) H' e1 _ fun v H2 e2 hv => ?_
    have g2 := e2 _ _ hzs
    refine ⟨_, g2, by rw [hlen]; exact szl (by omega), Evl.Ex.mut (e1.trans e2) hD, zs ++ [v], by rw [upd_same], by rw [List.length_append, hlen]; rfl, fun i y hi => ?_⟩
    by_cases h : i < zs.length
    · rw [List.getElem?_append_left h] at hi
      exact (ls _).up g2 ((ls _).ex e2 (hall i y hi))
    · have h2 := (List.getElem?_eq_some_iff.mp hi).1
      rw [List.length_append, List.length_singleton] at h2
      have h3 : i = zs.length := by omega
      subst h3
      rw [List.getElem?_append_right (Nat.le_refl _), Nat.sub_self] at hi
      cases hi
      rw [hlen]
      exact (ls _).up g2 hv
  · obtain ⟨e1, zs, hzs, hlen, hall⟩ := pp
    exact q Dl H' zs hD e1 hzs hlen hall
theorem x_lcLP {α : Type} (as : List α) (f : α → V) (Pe : α → V → Hp → Prop) (ls : ∀ i, Lasts (Pe i)) (hl : SqL K H a (as.map f)) (hz : as.length ≤ 1000000) (hw : ∀ x, wipe ((wipe σ vs).set j (some x)) vs = wipe σ vs)
    (he : ∀ x ∈ as, ∀ H', Ex H H' → ∀ Q' : VK, (∀ v H2, Ex H' H2 → Pe x v H2 → Q' v H2) → te ((wipe σ vs).set j (some (f x))) H' Q')
    (q : ∀ D H2 (zs : List V), H D = none → Ex H H2 → H2 D = some (.lst zs) → zs.length = as.length → (∀ (k : Nat) x v, as[k]? = some x → zs[k]? = some v → Pe x v H2) → Q (.ref D) H2) :
    ∃ b, V.ref a = .ref b ∧ (∃ xs, SqL K H b xs) ∧ LcRun (gName j) tYes te vs σ Q (Itl K b) H := by
  refine ⟨a, rfl, ⟨_, hl⟩, fun Dl hD => lc_list (xs := as.map f) (fun k H' => Ex H H' ∧ ∃ zs : List V, H' Dl = some (.lst zs) ∧ zs.length = k ∧ ∀ (i : Nat) x v, as[i]? = some x → zs[i]? = some v → Pe x v H')
    ⟨Evl.Ex.new hD, [], by rw [upd_same], rfl, fun i x v _ h => by simp at h⟩ (fun k H' _ pp => Evl.ex_l pp.1 hl) (fun k x H' hx pp => ?_) fun H' pp => ?_⟩
  · rw [List.getElem?_map] at hx
    cases ex : as[k]? with
    | none => rw [ex] at hx; cases hx
    | some n =>
      rw [ex] at hx
      cases hx
      have hk : k < as.length := (List.getElem?_eq_some_iff.mp ex).1
      obtain ⟨e1, zs, hzs, hlen, hall⟩ := pp
      refine ⟨hw _, ?_⟩
      refine x_true (B := True) ?_
      refine he n (List.mem_of_getElem? ex) H' e1 _ fun v H2 e2 hv => ?_
      have g2 := e2 _ _ hzs
      refine ⟨_, g2, by rw [hlen]; exact szl (by omega), Evl.Ex.mut (e1.trans e2) hD, zs ++ [v], by rw [upd_same], by rw [List.length_append, hlen]; rfl, fun i x y hx hi => ?_⟩
      by_cases h : i < zs.length
      · rw [List.getElem?_append_left h] at hi
        exact (ls _).up g2 ((ls _).ex e2 (hall i x y hx hi))
      · have h2 := (List.getElem?_eq_some_iff.mp hi).1
        rw [List.length_append, List.length_singleton] at h2
        have h3 : i = zs.length := by omega
        subst h3
        rw [List.getElem?_append_right (Nat.le_refl _), Nat.sub_self] at hi
        cases hi
        rw [hlen, ex] at hx
        cases hx
        exact (ls _).up g2 hv
  · obtain ⟨e1, zs, hzs, hlen, hall⟩ := pp
    rw [List.length_map] at hlen
    exact q Dl H' zs hD e1 hzs hlen hall
theorem op_notBl0 {X : Cx} : OpR X (compareOp .IsNot) rNotB := op_notBl
theorem x_notB {c d : Bool} (q : Q (.bl (!decide (c = d))) H) : rNotB (.bl c) (.bl d) H Q := ⟨c, d, rfl, rfl, q⟩
theorem map_self (xs : List V) : xs.map (fun x => x) = xs := List.map_id' xs
end
end B

namespace B
open PySem PySem.Spec PyProof.Rows L2
open PySem.W (Frag)
/-! ### dict(xs) of pairs whose keys are tuples -/
def mergeT (kvs more : List (List Key × V)) : List (List Key × V) := more.foldl (fun acc kv => putK acc kv.1 kv.2) kvs
theorem putT_len (kvs : List (List Key × V)) (k : List Key) (v : V) : (putK kvs k v).length ≤ kvs.length + 1 := by
  unfold putK
  split
  · rw [List.length_map]; omega
  · rw [List.length_append]; exact Nat.le_refl _
theorem mergeT_len : ∀ (more kvs : List (List Key × V)), (mergeT kvs more).length ≤ kvs.length + more.length
  | [], _ => Nat.le_refl _
  | p :: r, kvs => by
    have h1 := mergeT_len r (putK kvs p.1 p.2)
    have h2 := putT_len kvs p.1 p.2
    rw [List.length_cons]
    show (mergeT (putK kvs p.1 p.2) r).length ≤ _
    omega
theorem ktAll {H : Hp} : ∀ {more : List (List Key × V)} {rs : List (List Key × Addr × Value)} {kvs : List (List Key × V)} {xs : List (List Key × Addr × Value)}, KT H more rs → KT H kvs xs → KT H (mergeT kvs more) (storedAllH xs rs)
  | _, _, _, _, .nil, r => r
  | _, _, kvs, xs, .cons (a := p) (b := q) h t, r => by
    obtain ⟨h1, h2, h3⟩ := h
    have k := KT.put r p.1 h2 h3
    rw [show storedH xs p.1 q.2.1 q.2.2 = storedH xs q.1 q.2.1 q.2.2 from by rw [h1]] at k
    exact ktAll (kvs := putK kvs p.1 p.2) (xs := storedH xs q.1 q.2.1 q.2.2) t k
theorem ktMem {H : Hp} : ∀ {kvs : List (List Key × V)} {rs : List (List Key × Addr × Value)}, KT H kvs rs → ∀ x ∈ rs, H x.2.1 = some (.tup (x.1.map kV))
  | _, _, .nil, _, hx => nomatch hx
  | _, _, .cons (a := p) (b := q) h t, x, hx => by
    rcases List.mem_cons.mp hx with rfl | hx
    · rw [← h.1]; exact h.2.1
    · exact ktMem t x hx
/-- a pair (tuple, value) at p -/
def PairT (K : Frag) (H : Hp) (p : Addr) (kv : List Key × V) : Prop := ∃ b, SqT K H p [.ref b, kv.2] ∧ H b = some (.tup (kv.1.map kV))
def rDictT (K : Frag) : List V → Hp → VK → Prop := fun vs H Q => ∃ (a : Addr) (ps : List Addr) (kvs : List (List Key × V)), vs = [.ref a] ∧ SqL K H a (ps.map V.ref) ∧ Paired (PairT K H) ps kvs ∧ ∀ d, H d = none → Q (.ref d) (upd H d (.dT (mergeT [] kvs)))
section
variable {X : Cx}
theorem pairs_ofT {pins : List (Addr × Obj)} {σ : L2.St} {H : Hp} {s : Shared} (I : Inv X pins σ H s) : ∀ {ps : List Addr} {kvs : List (List Key × V)}, Paired (PairT X.K H) ps kvs →
    ∃ rs : List (List Key × Addr × Value), KT H kvs rs ∧ rs.length = ps.length ∧ ∀ (j : Nat) (q : List Key × Addr × Value), rs[j]? = some q → ∃ p : Addr, ps[j]? = some p ∧ IsTup s.heap p #[.ref q.2.1, q.2.2]
  | _, _, .nil => ⟨[], .nil, rfl, fun j q e => by simp at e⟩
  | _, _, .cons (a := p) (b := kv) h t => by
    obtain ⟨rs, r, hl, hp⟩ := pairs_ofT I t
    obtain ⟨b, ht, hb⟩ := h
    obtain ⟨its, rv, hT, _⟩ := I.tuple ht
    obtain ⟨u, y, ei, ru, ry⟩ := vals2 rv
    subst ei
    cases ru
    refine ⟨(kv.1, b, y) :: rs, .cons ⟨rfl, hb, ry⟩ r, by rw [List.length_cons, List.length_cons, hl], fun j q e => ?_⟩
    cases j with
    | zero => cases e; exact ⟨p, rfl, hT⟩
    | succ j =>
      obtain ⟨p', e1, e2⟩ := hp j q (by simpa using e)
      exact ⟨p', by simpa using e1, e2⟩
theorem call_dictT (hc : X.calm = true) (hu : X.A.units + 64 < cLine) : CallR X (.type "dict") (rDictT X.K) := by
  intro pins s σ H vs us Q I r h
  obtain ⟨a, ps, kvs, rfl, hl, hp, q⟩ := h
  obtain ⟨its, rv, pl, hz⟩ := I.list hl
  rw [Vals.ref1 r]
  have ei := refs_at rv
  subst ei
  rw [List.length_map] at hz
  obtain ⟨rs, rel, hlen, hpr⟩ := pairs_ofT I hp
  obtain ⟨o, n, ho, hcl, hd, hdat⟩ := pl
  have P := PySem.PairArg.list (prog := X.prog) (w := X.w) a (ps.map Value.ref).toArray (fun j => ps.getD j 0) (rs.map fun q => (.ref q.2.1, q.2.2))
  have sz : (rs.map fun q => ((Value.ref q.2.1 : Value), q.2.2)).length = ps.length := by rw [List.length_map, hlen]
  refine PySem.call_dict_pairsH (knd := tupleKind (mixKind X.prog X.w)) (ps := rs) P (I.ok.hd hc) ?_ ⟨⟨o, n, ho, hcl, hd, hdat⟩, by simp [hlen], fun j k v e => ?_⟩ ⟨by rw [sz, hlen], fun i key v e => ?_⟩ (fun h' hk x hx => ?_) (by rw [sz]; exact hz) fun h' tk hd' hk => ?_
  · exact PySem.tupleKind_room_in1 (A := X.A.in1) (show X.A.units + 1 + 1 < cLine by omega)
  · rw [List.getElem?_map] at e
    cases er : rs[j]? with
    | none => rw [er] at e; cases e
    | some q =>
      rw [er] at e
      cases e
      obtain ⟨p, ep, hT⟩ := hpr j q er
      exact ⟨by simp [ep], .inl (by show s.heap.IsTuple (ps.getD j 0) _; rw [List.getD_eq_getElem?_getD, ep]; exact hT)⟩
  · have e : (rs.map fun q => ((Value.ref q.2.1 : Value), q.2.2))[i]? = some (key, v) := e
    rw [List.getElem?_map] at e
    cases er : rs[i]? with
    | none => rw [er] at e; cases e
    | some q => rw [er] at e; cases e; exact ⟨_, _, rfl, rfl⟩
  · obtain ⟨ob, items, m, g1, g2, g3, g4⟩ := key_of I.hok (ktMem rel x hx)
    exact ⟨ob, items, m, hk _ _ (Nat.ne_of_lt (Heap.lt_size g1)) (by simp) g1, g2, g3, g4⟩
  · have hm : (s.heap.objs.size == sysModules) = false := beq_eq_false_iff_ne.mpr (Nat.ne_of_gt I.big)
    have keep : ∀ b o, s.heap.get? b = some o → h'.get? b = some o := fun b o e => hk b o (by simp) e
    have lenT : (mergeT [] kvs).length ≤ sizeLine := by
      have := mergeT_len kvs []
      rw [List.length_nil, rel.length, hlen] at this
      omega
    have hn := I.hok.fresh (Nat.le_refl _)
    obtain ⟨od, es, ep, d1, d2, d3, d4, _, d5⟩ := hd'
    refine ⟨.ref s.heap.objs.size, upd H s.heap.objs.size (.dT (mergeT [] kvs)), I.laid (t' := tk) keep (Nat.le_refl _) ⟨lenT, hm, storedAllH [] rs, ?_, od, es, ep, d1, d2, d3, d4, d5⟩, rfl, q _ hn⟩
    refine KT.keeps (ktAll rel .nil) fun b ys e => ?_
    rw [upd_ne (ne_of_none e hn)]
    exact e
end
section
variable {K : Frag} {H : Hp} {Q : VK} {a b : Addr} {xs ys : List V} {v : V}
theorem x_dictT {ps : List Addr} {kvs : List (List Key × V)} (hl : SqL K H a (ps.map V.ref)) (hp : Paired (PairT K H) ps kvs) (q : ∀ d H', H d = none → Ex H H' → H' d = some (.dT (mergeT [] kvs)) → Q (.ref d) H') : rDictT K [.ref a] H Q := ⟨a, ps, kvs, rfl, hl, hp, x_new q⟩
/-- the first items of a tuple, not all -/
theorem x_slP {n : Nat} (h : SqT K H a xs) (hn : n < xs.length) (q : ∀ p H', H p = none → Ex H H' → H' p = some (.tup (xs.take n)) → Q (.ref p) H') : rSlA K (.ref a) none (some (n : Int)) H Q := by
  refine ⟨a, xs, rfl, h, fun z => ?_, fun _ p hp => q p _ hp (Evl.Ex.new hp) (by rw [upd_same, cut_to])⟩
  have e := cut_to xs n
  unfold cutV at e
  rw [z.1, z.2] at e
  have := congrArg List.length e
  rw [List.length_take, List.length_take, List.length_drop] at this
  omega
theorem x_catH (h1 : H a = some (.tup xs)) (h2 : H b = some (.tup ys)) (hz : xs.length + ys.length ≤ 1000000) (q : ∀ p H', Ex H H' → H' p = some (.tup (xs ++ ys)) → Q (.ref p) H') : rCatA K (.ref a) (.ref b) H Q := by
  refine ⟨a, b, xs, ys, rfl, rfl, Evl.st_of h1, Evl.st_of h2, sz hz, fun e => ?_, fun _ e => ?_, fun _ _ p hp => q p _ (Evl.Ex.new hp) upd_same⟩
  · subst e
    exact q b H (Evl.Ex.refl H) h2
  · subst e
    exact q a H (Evl.Ex.refl H) (by rw [List.append_nil]; exact h1)
/-- t in d, of a dict with tuple keys -/
theorem x_inT {kvs : List (List Key × V)} {k : List Key} (hd : H a = some (.dT kvs)) (hb : H b = some (.tup (k.map kV))) (q : Q (.bl (valV kvs k).isSome) H) : rDIn (.ref b) (.ref a) H Q := ⟨a, _, rfl, DGet.t hd hb, q⟩
end
theorem valT_put (kvs : List (List Key × V)) (k k' : List Key) (v : V) : (valV (putK kvs k v) k').isSome = (decide (k = k') || (valV kvs k').isSome) := by
  rw [← valV_any, ← valV_any]
  unfold putK
  by_cases c : (kvs.any fun kv => decide (kv.1 = k)) = true
  · rw [if_pos c, List.any_map]
    have e : ((fun kv : List Key × V => decide (kv.1 = k')) ∘ fun kv : List Key × V => if kv.1 = k then (kv.1, v) else kv) = fun kv => decide (kv.1 = k') := by
      funext kv
      show decide ((if kv.1 = k then (kv.1, v) else kv).1 = k') = decide (kv.1 = k')
      split <;> rfl
    rw [e]
    by_cases h : k = k'
    · subst h
      rw [c]
      simp
    · simp [h]
  · rw [if_neg c, List.any_append, List.any_cons, List.any_nil, Bool.or_false, Bool.or_comm]
theorem valT_merge : ∀ (more kvs : List (List Key × V)) (k : List Key), (valV (mergeT kvs more) k).isSome = (more.any (fun kv => decide (kv.1 = k)) || (valV kvs k).isSome)
  | [], _, _ => by simp [mergeT]
  | p :: r, kvs, k => by
    show (valV (mergeT (putK kvs p.1 p.2) r) k).isSome = _
    rw [valT_merge r, valT_put, List.any_cons, ← Bool.or_assoc, Bool.or_comm (r.any _)]
end B

namespace B
open PySem PySem.Spec PyProof.Rows L2
open PySem.W (Frag)
/-! ### while, any test -/
def WTurn (ts : TS) (D : Ends) (W : Nat → L2.St → Hp → Prop) (m : Nat) (σ : L2.St) : Bool → Hp → Prop := fun b H1 =>
  if b = true then ∃ N : L2.St → Hp → Prop, (∀ σ' H', N σ' H' → ∃ m', m' < m ∧ W m' σ' H') ∧ ts { D with nx := N, ct := N, bk := D.nx } σ H1 else D.nx σ H1
section
variable {σ : L2.St} {H : Hp} {tt : TT} {ts : TS} {D : Ends} {W : Nat → L2.St → Hp → Prop} {m : Nat} {b : Bool}
theorem x_whileG (W : Nat → L2.St → Hp → Prop) (m0 : Nat) (h0 : W m0 σ H) (hs : ∀ m σ' H', W m σ' H' → tt σ' H' (WTurn ts D W m σ')) : tWhile tt ts D σ H := ⟨W, ⟨m0, h0⟩, hs⟩
theorem x_wt (h : if b = true then ts { D with nx := fun σ2 H2 => ∃ m', m' < m ∧ W m' σ2 H2, ct := fun σ2 H2 => ∃ m', m' < m ∧ W m' σ2 H2, bk := D.nx } σ H else D.nx σ H) : WTurn ts D W m σ b H := by
  cases b with
  | true => exact ⟨_, fun _ _ q => q, h⟩
  | false => exact h
end
end B

namespace B
open PySem PySem.Spec PyProof.Rows L2
open PySem.W (Frag KeyPure kla_fn kla_obj EachIs AllAlike Sortable dataLe)
open LamX (CodeO TabS Tabs ExtN TabB)
/-! ### sorted(x, key=lambda n: held[n]) -/
/-- what reads an item of the captured thing u by v: it gives the number k, and no object is changed -/
def ItemIs (P : Program) (w : World) (h : Heap) (u v : Value) (k : Int) : Prop :=
  ∃ T id : String, typeLookup (.type T) "__getitem__" = pure (some (.builtin id)) ∧ ∀ (A : Around) (E Q : Value → Shared → Prop) (s : Shared), (∀ b o, h.get? b = some o → s.heap.get? b = some o) →
    s.TypeIs u T ∧ ((∀ t tk, Q (.int k t) { s with toks := tk }) → wpAny (model P w) A (getItem u v) Q E s)
section
variable {prog : Program} {w : World} {A : Around} {s : Shared}
theorem lam_item {f c' cell : Addr} {q x y : Str} {params : Arguments} {scope : Scope} {cl : List (Str × Addr)} {pm ctv v u : Value} {py px pp : Pos} {k : Int} {h0 : Heap}
    (hroom : A.depth < recursionLimit) (ho : s.heap.get? f = some (kla_obj "<lambda>" q params (.Subscript (.Name y py) (.Name x px) pp) scope cl pm c' ctv)) (hcd : s.heap.CodeRec (.ref c') q) (lim : s.heap.NoLimit)
    (hbind : bindArgs (kla_fn "<lambda>" q params (.Subscript (.Name y py) (.Name x px) pp) scope cl pm (.ref c') ctv) ⟨[v], []⟩ = pure [(x, v)])
    (hk : scope.kind = .function) (hco : scope.isCoroutine = false) (hgen : scope.isGenerator = false) (nocell : ∀ z ∈ scope.names, z.2 ≠ .cell) (hx : scope.names.lookup x = some .local) (hy : scope.names.lookup y = some .free)
    (hcl : cl.lookup y = some cell) (hcell : s.heap.IsCell cell (some u)) (dx : (x == ("__debug__" : Str)) = false) (dy : (y == ("__debug__" : Str)) = false) (cy : (y == ("__classdict__" : Str)) = false)
    (kp0 : ∀ b o, h0.get? b = some o → s.heap.get? b = some o) (get : ItemIs prog w h0 u v k) :
    wpAny (model prog w) A (call (.ref f) [v]) (KeyPure (.int k) s) (fun _ _ => False) s := by
  obtain ⟨T, id, hl, get⟩ := get
  refine wpAny_call (PySem.W.kla_callFunE hroom ho rfl hco hgen rfl hcd ?_)
  rw [hbind]
  refine wpAny_pure (wpAny_newFunctionEnv nocell (fun z hz => ?_) (fun h₁ hns hsb => ⟨lim.fresh _ hsb, PySem.W.kla_codeExpr ?_⟩) hk)
  · have : z = (x, v) := by simpa using hz
    rw [this]
    exact hx
  have kp : ∀ b o, s.heap.get? b = some o → h₁.get? b = some o := fun b o e => hsb.extBut b o (Nat.ne_of_lt (Heap.lt_size e)) (Heap.get?_push_of_some _ e)
  refine subD_of hl (fun _ _ => rfl) (wpAny_Name (wpAny_loadName_free (v := u) hk hy hcl ?_ (wpAny_Name (wpAny_loadName_local (m := fun z => ([(x, v)] : List (Str × Value)).reverse.lookup z) (v := v) hk hx hns ?_ ?_) dx) cy) dy)
  · obtain ⟨o, e1, e2⟩ := hcell
    exact ⟨o, kp _ _ e1, e2⟩
  · show ([(x, v)] : List (Str × Value)).reverse.lookup x = some v
    simp
  · obtain ⟨g1, g2⟩ := get _ _ _ { s with heap := h₁, toks := s.toks + ([(x, v)] : List (Str × Value)).length } fun b o e => kp b o (kp0 b o e)
    exact ⟨g1, g2 fun t tk => ⟨h₁, tk, rfl, kp, .int k t⟩⟩
end
section
variable {X : Cx} {pins : List (Addr × Obj)} {σ : L2.St} {H : Hp} {s : Shared}
theorem item_dict {d : Addr} {kvs : List (Key × V)} {n k : Int} {t : Tok} (I : Inv X pins σ H s) (e : H d = some (.dK kvs)) (hv : valV kvs (.inl n) = some (.int k)) : ItemIs X.prog X.w s.heap (.ref d) (.int n t) k :=
  ⟨"dict", _, PySem.F.slot_dict_getitem.lookup, fun A E Q s' kp => by
    have ok' : HOk X.prog X.w H s'.heap := I.hok.kept kp
    obtain ⟨_, _, vs, rel, dd⟩ := dk_of ok' e
    obtain ⟨w', hw, rw'⟩ := RelO.some_of (v := .int k) (o := valueAt vs (.inl n)) (by rw [← hv]; exact rel.val _)
    obtain ⟨t', rfl⟩ := rw'
    exact ⟨dd.typeIs, fun q => wpAny_getItem_of (kV_is (k := .inl n) ⟨t, rfl⟩) dd.mapOf hw (q t' _)⟩⟩
theorem item_list {d : Addr} {xs : List V} {n : Nat} {k : Int} {t : Tok} (I : Inv X pins σ H s) (e : H d = some (.lst xs)) (hv : xs[n]? = some (.int k)) : ItemIs X.prog X.w s.heap (.ref d) (.int (n : Nat) t) k :=
  ⟨"list", _, PySem.F.slot_list_getitem.lookup, fun A E Q s' kp => by
    have ok' : HOk X.prog X.w H s'.heap := I.hok.kept kp
    obtain ⟨hz, its, m, r, hob⟩ := (show ObjOk X.prog X.w H s'.heap d (.lst xs) from ok' d _ e)
    obtain ⟨u, eu, ru⟩ := r.get hv
    obtain ⟨t', rfl⟩ := ru
    have hl : n < xs.length := (List.getElem?_eq_some_iff.mp hv).1
    have hn := line63
    have il : s'.heap.IsList d its.toArray := ⟨_, hob, rfl, _, rfl⟩
    exact ⟨il.typeIs, fun q => wpAny_getItem_list (k := (n : Nat)) il (by omega) (by omega) (by simpa using eu) (q t' s'.toks)⟩⟩
/-- what is gone through by sorted: the keys of a dict, or a range -/
def Coll (H : Hp) (x : V) (ns : List Int) : Prop := (∃ d kvs, x = .ref d ∧ H d = some (.dK kvs) ∧ kvs.map (·.1) = ns.map Sum.inl) ∨ ∃ (r : Addr) (n : Nat), x = .ref r ∧ H r = some (.rng 0 (n : Nat)) ∧ ns = irange 0 (n : Nat) ∧ n ≤ 1000000
theorem ints_of_at : ∀ {us : List Value} {ns : List Int}, us.length = ns.length → (∀ (j : Nat) (v : Value), us[j]? = some v → ∃ n t, ns[j]? = some n ∧ v = .int n t) → IntsAre us ns
  | [], [], _, _ => .nil
  | [], _ :: _, h, _ => by simp at h
  | _ :: _, [], h, _ => by simp at h
  | u :: us, n :: ns, h, f => by
    obtain ⟨m, t, e1, rfl⟩ := f 0 u rfl
    have e1 : n = m := Option.some.inj e1
    subst e1
    refine .cons _ _ (ints_of_at (by simpa using h) fun j v e => ?_)
    obtain ⟨m, t, e1, e2⟩ := f (j + 1) v (by simpa using e)
    exact ⟨m, t, by simpa using e1, e2⟩
theorem collect_coll {A : Around} {E : Value → Shared → Prop} {R : List Value → Shared → Prop} {x : V} {u : Value} {ns : List Int} (hh : A.handled = none) (I : Inv X pins σ H s) (c : Coll H x ns) (rx : RelV x u)
    (h : ∀ h' tk us, (∀ b o, s.heap.get? b = some o → h'.get? b = some o) → IntsAre us ns → us.length ≤ 1000000 + sizeLine → us.length ≤ sizeLine → R us { s with heap := h', toks := tk }) : wpAny (model X.prog X.w) A (collect u) R E s := by
  rcases c with ⟨d, kvs, rfl, hd, hks⟩ | ⟨r, n, rfl, hr, rfl, hn⟩
  · obtain rfl : u = Value.ref d := rx
    obtain ⟨z, lo, vs, rel, dd⟩ := dk_of I.hok hd
    obtain ⟨ep, hat⟩ := dd.dictAt
    have hkeys : vs.map (·.1) = ns.map Sum.inl := rel.keys.symm.trans hks
    have hvl : vs.length ≤ sizeLine := by rw [← rel.length]; exact z
    have hl : vs.length = ns.length := by simpa using congrArg List.length hkeys
    refine PySem.W.kdu_collect (PySem.W.kdl_dict (knd := mixKind X.prog X.w) (kvs := vs) (ep := ep) lo) hh hat hvl fun h' tk acc hk hacc => ?_
    have hal : acc.toList.length = ns.length := by rw [Array.length_toList, hacc.1, hl]
    refine h h' tk acc.toList hk (ints_of_at hal fun j v e => ?_) (by omega) (by omega)
    obtain ⟨k, y, e1, e2⟩ := hacc.2 j v (by rw [← Array.getElem?_toList]; exact e)
    have e3 : (vs.map (·.1))[j]? = some k := by rw [List.getElem?_map, e1]; rfl
    rw [hkeys, List.getElem?_map] at e3
    cases e4 : ns[j]? with
    | none => rw [e4] at e3; cases e3
    | some m =>
      rw [e4] at e3
      have e5 : Sum.inl m = k := Option.some.inj e3
      subst e5
      rcases keyIs_shape (show keyIs (Sum.inl m) v = true from e2) with ⟨i, t, ek, ev⟩ | ⟨z, t, ek, ev⟩
      · cases ek
        exact ⟨_, t, rfl, ev⟩
      · cases ek
  · obtain rfl : u = Value.ref r := rx
    obtain ⟨t, u, v, hr'⟩ := (show ObjOk X.prog X.w H s.heap r (.rng 0 (n : Nat)) from I.hok r _ hr)
    have hsz : (1000000 : Nat) ≤ sizeLine := by decide
    refine collect_range (n := n) hh hr' (small_one (by omega) (by omega) (by omega) (by omega)) (by rw [rangeSize_nat]; simp) (by omega) fun h' tk acc hk hi => ?_
    have hal : acc.toList.length = n := by rw [Array.length_toList]; exact hi.1
    refine h h' tk acc.toList hk (ints_of_at (by rw [hal, irange_len]; simp) fun j v e => ?_) (by omega) (by omega)
    obtain ⟨t, rfl⟩ := hi.2 j v (by rw [← Array.getElem?_toList]; exact e)
    have hj : j < n := by
      have := (List.getElem?_eq_some_iff.mp e).1
      omega
    exact ⟨_, t, irange_at (by simpa using hj), by simp⟩
/-- the items of what is captured -/
def KeyAt (H : Hp) (d : Addr) (key : Int → Int) (ns : List Int) : Prop := (∃ kvs, H d = some (.dK kvs) ∧ ∀ n ∈ ns, valV kvs (.inl n) = some (.int (key n))) ∨ ∃ xs, H d = some (.lst xs) ∧ ∀ n ∈ ns, ∃ m : Nat, n = (m : Nat) ∧ xs[m]? = some (.int (key n))
theorem KeyAt.item {d : Addr} {key : Int → Int} {ns : List Int} {n : Int} {t : Tok} (I : Inv X pins σ H s) (h : KeyAt H d key ns) (hn : n ∈ ns) : ItemIs X.prog X.w s.heap (.ref d) (.int n t) (key n) := by
  rcases h with ⟨kvs, e, h⟩ | ⟨xs, e, h⟩
  · exact item_dict I e (h n hn)
  · obtain ⟨m, rfl, e2⟩ := h n hn
    exact item_list I e e2
theorem KeyAt.extN {H' : Hp} {d : Addr} {key : Int → Int} {ns : List Int} (e : ExtN H H') (h : KeyAt H d key ns) : KeyAt H' d key ns := by
  rcases h with ⟨kvs, e1, h⟩ | ⟨xs, e1, h⟩
  · exact .inl ⟨kvs, e _ _ e1 (fun ps z => by cases z), h⟩
  · exact .inr ⟨xs, e _ _ e1 (fun ps z => by cases z), h⟩
theorem Coll.extN {H' : Hp} {x : V} {ns : List Int} (e : ExtN H H') (h : Coll H x ns) : Coll H' x ns := by
  rcases h with ⟨d, kvs, h1, h2, h3⟩ | ⟨r, n, h1, h2, h3⟩
  · exact .inl ⟨d, kvs, h1, e _ _ h2 (fun ps z => by cases z), h3⟩
  · exact .inr ⟨r, n, h1, e _ _ h2 (fun ps z => by cases z), h3⟩
theorem each_ints : ∀ {us : List Value} {ns : List Int}, IntsAre us ns → EachIs (fun v n => ∃ t, v = .int n t) us ns
  | _, _, .nil => EachIs.nil
  | _, _, .cons _ _ h => EachIs.cons ⟨_, rfl⟩ (each_ints h)
theorem vals_each : ∀ {us : List Value} {ns : List Int}, EachIs (fun v n => ∃ t, v = .int n t) us ns → Vals (ns.map V.int) us
  | _, _, .nil => .nil
  | _, _, .cons ⟨t, e⟩ h => .cons ⟨t, e⟩ (vals_each h)
def SortAsk (T : List (Addr × Str)) (j : Nat) (σ : L2.St) (Q : VK) : List V → Hp → Prop := fun vs H1 => ∃ v, vs = [v] ∧ Tabs T H1 ∧ ∃ (d : Addr) (ns : List Int) (key : Int → Int), σ[j]? = some (some (.ref d)) ∧ Coll H1 v ns ∧ KeyAt H1 d key ns ∧
  ∀ (ns' : List Int) p Hm H2, ExtN H1 Hm → Tabs T Hm → Hm p = none → Ex Hm H2 → H2 p = some (.lst (ns'.map V.int)) → ns'.Perm ns → ns'.Pairwise (fun a b => key a ≤ key b) → Q (.ref p) H2
def tSortLam (T : List (Addr × Str)) (j : Nat) (te : TE) : TE := fun σ H Q => tCons te tNil σ H (SortAsk T j σ Q)
theorem pe_sortLam {T : List (Addr × Str)} {c P : Addr} {k j : Nat} {x y : Str} {e : Expr} {te : TE} {params : Arguments} {scope : Scope} {p py px pp lpos kpos pos : Pos} (hc : X.calm = true) (hr : Room (k + 1) X.A) (hg : Gl X "sorted") (hm : X.mg "sorted" = none) (he : PE X e te)
    (hN : X.N[j]? = some y) (hv : X.env.scope.names.lookup y = some .cell) (TB : TabB X.base X.mg c P) (hcode : X.env.code = .ref c) (hmT : (P, X.env.qual ++ "<lambda>") ∈ T) (hu : ∀ p ∈ T, p.1 = P → p.2 = X.env.qual ++ "<lambda>")
    (hdef : defaultsOf params X.env = ([], [])) (hbind : ∀ (q : Str) (cl : List (Str × Addr)) (pm cv ctv v : Value), bindArgs (kla_fn "<lambda>" q params (.Subscript (.Name y py) (.Name x px) pp) scope cl pm cv ctv) ⟨[v], []⟩ = pure [(x, v)])
    (hk : scope.kind = .function) (hco : scope.isCoroutine = false) (hgen : scope.isGenerator = false) (hnm : scope.names = [(x, .local), (y, .free)] ∨ scope.names = [(y, .free), (x, .local)]) (hxy : (x == y) = false)
    (dx : (x == ("__debug__" : Str)) = false) (dy : (y == ("__debug__" : Str)) = false) (cy : (y == ("__classdict__" : Str)) = false)
    (hs : starEach [e] X.env = (false, eval e X.env) :: starEach [] X.env := by rfl) :
    PE X (.Call (.Name "sorted" p) [e] [⟨some "key", .Lambda params (.Subscript (.Name y py) (.Name x px) pp) scope lpos, kpos⟩] pos) (tSortLam T j te) := by
  refine ⟨fun pins s σ H Q I h => ?_⟩
  have hyx : (y == x) = false := by
    cases c : (y == x) with
    | false => rfl
    | true => rw [eq_of_beq c] at hxy; simp at hxy
  have hx : scope.names.lookup x = some .local := by
    rcases hnm with e | e <;> rw [e] <;> simp [List.lookup, hxy]
  have hy : scope.names.lookup y = some .free := by
    rcases hnm with e | e <;> rw [e] <;> simp [List.lookup, hyx]
  have nocell : ∀ z ∈ scope.names, z.2 ≠ .cell := by
    rcases hnm with e | e <;> rw [e] <;> simp
  have ymem : (y, NameKind.free) ∈ scope.names := by
    rcases hnm with e | e <;> rw [e] <;> simp
  have hfree : ∀ z ∈ scope.names, z.2 = .free → ∃ c, X.env.cells.lookup z.1 = some c := by
    intro z hz ez
    have : z = (y, .free) := by
      rcases hnm with e | e <;> rw [e] at hz <;> simp at hz <;> rcases hz with rfl | rfl <;> first | rfl | (cases ez)
    rw [this]
    exact I.ok.has _ (.inl hv)
  refine wpAny_Call_Name_kw (ld_blt I hg hm boot_sorted ?_)
  refine PyProof.Rows.callWith_kw (thn ((show PA X [e] (tCons te tNil) from pa_cons he pa_nil hs).run pos pins s σ H _ I h) fun us s1 ⟨vs, H1, I1, r1, v, ev, hT, d, ns, key, hd, hcol, hkey, q⟩ => ?_) (by rw [hs]; rfl) (by rw [hs]; rfl)
  subst ev
  obtain ⟨u, rfl, ru⟩ := vals1 r1
  show wpAny _ _ (evalAll ((do let v ← eval (.Lambda params (.Subscript (.Name y py) (.Name x px) pp) scope lpos) X.env; standAt pos; pure v) :: [])) _ _ s1
  refine wpAny_evalAll_cons (wpAny_bind (LamX.lam_make2 I1 TB hcode hmT hu hT hdef hfree fun f c' pm' ctv H2 s2 I2 eN T2 hf hfn hfr hcd => wpAny_bind (wpAny_standAt (wpAny_pure (wpAny_evalAll_nil ?_)))))
  show wpAny _ _ (call (.builtin "sorted") [u] [(Str.ofString "key", .ref f)]) _ _ s2
  -- the captured cell
  obtain ⟨mm, hnm2, hl⟩ := I2.loc
  obtain ⟨w, rw', l⟩ := hl j y (.ref d) hN hd (.inr (.inl hv))
  obtain rfl : w = Value.ref d := rw'
  obtain ⟨cell, hcl, hcell⟩ : ∃ cell, X.env.cells.lookup y = some cell ∧ s2.heap.IsCell cell (some (.ref d)) := by
    rcases l with ⟨z, _⟩ | ⟨_, a', ha', hc'⟩
    · have z' : X.env.scope.names.lookup y = some .local := z
      rw [hv] at z'
      cases z'
    · exact ⟨a', ha', hc'⟩
  have hclo := NdefX.clo_has hfree ymem hcl
  refine PyProof.Rows.call_function_entry_kw PyProof.Rows.kind_sorted PyProof.Rows.plain_sorted PyProof.Rows.entry_sorted (PyProof.Rows.ksk_s1 _ _) ?_
  unfold Builtin.«sorted»
  refine wpAny_bind (m := checkCount "sorted" 1 1 _) (wpAny_pure ?_)
  refine wpAny_bind (collect_coll (A := X.A.in1) hr.hd I2 (hcol.extN eN) ru fun h' tk us hk' hi _ hz => ?_)
  have I3 : Inv X pins σ H2 { s2 with heap := h', toks := tk } := I2.kept hk'
  refine wpAny_bind (wpAny_newList ?_ hz)
  have hoL : (h'.push (seqObj "list" us.toArray 0)).get? h'.objs.size = some (seqObj "list" us.toArray 0) := Heap.get?_push_size _ rfl
  show wpAny _ _ _ _ _ { s2 with heap := h'.push (seqObj "list" us.toArray 0), toks := tk }
  have up : ∀ {g : Heap}, PySem.W.KeepsBut h'.objs.size (h'.push (seqObj "list" us.toArray 0)) g → ∀ b o, h'.get? b = some o → g.get? b = some o := fun {g} kp b o e =>
    kp b o (Nat.ne_of_lt (Heap.lt_size e)) (Heap.get?_push_of_some _ e)
  have el := each_ints hi
  have hlen : ns.length = us.length := hi.length.symm
  refine wpAny_bind (wpAny_holding (PyProof.Rows.wpAny_call_entry_kw PyProof.Rows.slot_list_sort ⟨_, hoL, rfl⟩ PyProof.Rows.entry_list_sort ?body (PyProof.Rows.ksk_l1 _ _)))
  rw [PyProof.Rows.ksk_t1]
  have hsortable : Sortable (ns.map fun n => PyData.int (key n)) := by
    unfold PySem.W.Sortable
    right
    intro d hd
    obtain ⟨_, _, rfl⟩ := List.mem_map.mp hd
    exact ⟨(by intro z; cases z), (by intro _ z; cases z)⟩
  refine PySem.W.keyH_tree (kz := ns.map fun n => PyData.int (key n)) (b := false) (s := { s2 with heap := h'.push (seqObj "list" us.toArray 0), toks := tk }) hoL (by rw [List.length_map, hlen]) hz (PySem.W.AllAlike.of fun _ _ => by simp [PySem.W.alike]) hsortable (fun d hd => ?_)
    (PySem.W.keyH_turns (s := { s2 with heap := h'.push (seqObj "list" us.toArray 0), toks := tk }) el fun v n ⟨t, ev⟩ hn g tk2 kp => ?_) fun g tk2 out c2 kp hD ko => ⟨_, rfl, wpAny_pure ⟨_, rfl, ?_⟩⟩
  · obtain ⟨_, _, rfl⟩ := List.mem_map.mp hd
    have := hr.un
    show X.A.units + 1 + 1 + 0 < cLine
    omega
  · subst ev
    have kg := up kp
    have ks : ∀ b o, s2.heap.get? b = some o → g.get? b = some o := fun b o e => kg b o (hk' b o e)
    refine lam_item (h0 := s2.heap) (by have := hr.dp; show X.A.depth < _; omega) (ks _ _ hf) (NdefX.codeO_at (I2.hok.kept ks) hcd) (I2.nolimit.keeps ks) (hbind _ _ _ _ _ _) hk hco hgen nocell hx hy hclo ?_ dx dy cy ks ((hkey.extN eN).item I2 hn)
    obtain ⟨o, e1, e2⟩ := hcell
    exact ⟨o, ks _ _ e1, e2⟩
  · have eo := PySem.W.keyedOut_each (fun n => PyData.int (key n)) ko el
    rw [PySem.W.dataLe_int] at eo
    have hp := List.mergeSort_perm ns (fun a b => decide (key a ≤ key b))
    have hn0 := I3.hok.fresh (Nat.le_refl _)
    refine ⟨.ref h'.objs.size, upd H2 h'.objs.size (.lst ((ns.mergeSort (fun a b => decide (key a ≤ key b))).map V.int)), I3.laid (t' := tk2) (up kp) (Nat.le_refl _) ⟨?_, out, c2, vals_each eo, hD⟩, rfl, q _ _ H2 _ eN T2 hn0 (Evl.Ex.new hn0) upd_same hp ?_⟩
    · rw [List.length_map, hp.length_eq, hlen]
      exact hz
    · have := List.pairwise_mergeSort (le := fun a b => decide (key a ≤ key b)) (fun a b c h1 h2 => by simp at *; omega) (fun a b => by simp; omega) ns
      exact this.imp fun h => by simpa using h
end
end B

namespace B
open PySem PySem.Spec PyProof.Rows L2
open PySem.W (Frag)
open LamX (CodeO TabS Tabs ExtN TabB)
/-! ### a def that makes a lambda: its code object is told -/
def StandsC (K : Frag) (mg : Str → Option Value) (x : Str) (st : Stmt) (c : Addr) : Prop :=
  ∃ (f : Addr) (oc : Value) (od : Option Addr) (kV doc pm : Value) (an : Option Addr) (ct : Value) (osl : Array (Option Value)),
    K.lookup f = some ⟨oc, od, .func (PySem.W.fnOf x x (defArgs st) (defBody st) (defScope st) .none kV doc pm an (.ref c) ct), osl⟩ ∧ PySem.W.codeIn K (.ref c) x = true ∧ PySem.W.keepIn K (.ref f) = true ∧ mg x = some (.ref f)
section
variable {P : Program} {w : World} {K : Frag} {mg : Str → Option Value} {base : Heap}
theorem has_ofC {x : Str} {st : Stmt} {c : Addr} {N ps : List Str} {k : Nat} {sp : Sp} (S : StandsC K mg x st c) (C : FnScope N ps (defScope st))
    (hb : ∀ (kV doc pm : Value) (an : Option Addr) (cdv ct : Value) (us : List Value), us.length = ps.length → bindArgs (PySem.W.fnOf x x (defArgs st) (defBody st) (defScope st) .none kV doc pm an cdv ct) ⟨us, []⟩ = pure (ps.zip us))
    (len : ∀ vs H Q E, sp vs H Q E → vs.length = ps.length)
    (hbody : ∀ (f : Addr) (A : Around) (outer : List Env) (s : Shared) (H : Hp) (vs : List V) (Q : VK) (E : XK), Room k (A.deeper (envOfC x (defScope st) s.heap.objs.size f (.ref c))) → sp vs H Q E →
      ∃ t, PSs (cxOf (L2.CX P w) P w K mg base N x (defScope st) f (.ref c) A outer s H E) (defBody st) t ∧ t { nx := fun _ H' => Q .non H', rt := Q } (start N vs) H) :
    Has P w K mg base x (k + 1) ps sp := by
  obtain ⟨f, oc, od, kV, doc, pm, an, ct, osl, lk, hcd, hk, hm⟩ := S
  have F : Fun K x x st f _ := fun_mk lk hcd hk
  exact ⟨f, _, fn_of lk hcd C len fun A outer s H vs Q E hr hsp => hbody f A outer s H vs Q E hr hsp, hm, hk, F.binds hb⟩
end
/-! ### edges along which tables may grow -/
theorem exgN {H H' : Hp} {a : Addr} {o : HO} (e : ExtN H H') (h : H a = some o) (n : ∀ ps, o ≠ .tbl ps) : H' a = some o := e a o h n
section
variable {K : Frag} {H H' H0 : Hp} {a l : Addr} {xs ys : List V} {x : V} {s : KS} {o : HO} {T : List (Addr × Str)}
theorem SqL.exN (e : ExtN H H') (h : SqL K H a xs) : SqL K H' a xs := by
  rcases h with (h | ⟨z, h⟩) | h
  · exact .inl (.inl (e _ _ h fun ps q => by cases q))
  · exact .inl (.inr ⟨z, e _ _ h fun ps q => by cases q⟩)
  · exact .inr h
theorem SqT.exN (e : ExtN H H') (h : SqT K H a xs) : SqT K H' a xs := by
  rcases h with (h | ⟨z, h⟩) | h
  · exact .inl (.inl (e _ _ h fun ps q => by cases q))
  · exact .inl (.inr ⟨z, e _ _ h fun ps q => by cases q⟩)
  · exact .inr h
theorem Sq.exN (e : ExtN H H') (h : Sq K H a xs) : Sq K H' a xs := h.elim (fun h => .inl (SqL.exN e h)) fun h => .inr (SqT.exN e h)
theorem Kind.exN (e : ExtN H H') (h : Kind K H x s) : Kind K H' x s := by
  cases h with
  | non => exact .non
  | bl b => exact .bl b
  | int i => exact .int i
  | str x => exact .str x
  | lst h => exact .lst (SqL.exN e h)
  | tup h => exact .tup (SqT.exN e h)
  | dct h => exact .dct (e _ _ h fun ps q => by cases q)
theorem Caught.exN {o : Option Addr} (e : ExtN H H') (h : Caught K H x o) : Caught K H' x o := by
  cases h with
  | no => exact .no
  | yes h => exact .yes (e _ _ h fun ps q => by unfold ExC at q; cases q)
theorem ExtN.ex (e : Ex H H') : ExtN H H' := ExtN.of e
theorem ExtN.upd (e : ExtN H0 H) (u : Upd H l o H') (f : ∃ Hk, ExtN H0 Hk ∧ Hk l = none) : ExtN H0 H' := fun b x h n => by
  obtain ⟨Hk, e1, h1⟩ := f
  have hb : b ≠ l := ne_of_none (e1 b x h n) h1
  rw [u.other b hb]
  exact e b x h n
theorem Tabs.upd (t : Tabs T H) (u : Upd H l o H') (h : ∃ x, H l = some x ∧ (∀ ps, x ≠ .tbl ps) ∧ ∀ c q, x ≠ CodeO c q) : Tabs T H' := fun p hp => by
  obtain ⟨x, hx, n1, n2⟩ := h
  obtain ⟨ps, h1, h2, h3⟩ := t p hp
  refine ⟨ps, u.get (fun z => ?_) h1, h2, fun pos cv hc => ?_⟩
  · rw [z, hx] at h1
    exact n1 ps (Option.some.inj h1)
  · obtain ⟨c, e1, e2⟩ := h3 pos cv hc
    refine ⟨c, e1, u.get (fun z => ?_) e2⟩
    rw [z, hx] at e2
    exact n2 _ _ (Option.some.inj e2)
theorem Tabs.updL (t : Tabs T H) (u : Upd H l o H') (h : H l = some (.lst xs)) : Tabs T H' := Tabs.upd t u ⟨_, h, (fun ps z => by cases z), (fun c q z => by unfold CodeO at z; cases z)⟩
theorem Tabs.ex (t : Tabs T H) (e : Ex H H') : Tabs T H' := LamX.Tabs.ext t e
end
end B

namespace B
open PySem PySem.Spec PyProof.Rows L2
open PySem.W (Frag)
/-! ### enumerate(t) of a tuple -/
def enumObj (a : Addr) : Obj := { cls := .type "enumerate", data := .fields #[.none, .bool false, .ref a, rawInt 0, .none, .none] }
theorem enum_new {v : Value} {oi : Obj} {Hd : Heap → Prop} (Bg : Begins v oi Hd) :
    Meets (Builtin.«enumerate.__new__» ⟨[.type "enumerate", v], []⟩) (fun _ R s => Hd s.heap ∧ R (.ok (.ret (.ref (s.heap.push oi).objs.size))) { s with heap := (s.heap.push oi).push (enumObj s.heap.objs.size) }) :=
  .of_wp fun prog w A R s hh => by
    obtain ⟨hp, g, d, tk, os⟩ := s
    obtain ⟨hd, hr⟩ := hh
    have hsub := sub_enumerate
    have start : ∀ {A' : Around} {E Q : Value → Shared → Prop}, Q (.ref hp.objs.size) ⟨hp.push oi, g, d, tk, os⟩ → wpAny (model prog w) A' (pyIter v) Q E ⟨hp, g, d, tk, os⟩ := fun q => Bg.iter prog w _ _ ⟨hp, g, d, tk, os⟩ _ hd q
    wp_walk using start
    refine wpAny_stack_any fun _ => wpAny_pure ?_
    split
    · rename_i c _ _ _ _ _
      cases (c == Value.type "enumerate") <;> (wp_walk using start; exact ⟨_, rfl, hr⟩)
    · wp_walk using start
      exact ⟨_, rfl, hr⟩
theorem call_enumB {prog : Program} {w : World} {A : Around} {E : Value → Shared → Prop} {s : Shared} {v : Value} {oi : Obj} {Hd : Heap → Prop} {Q : Value → Shared → Prop} (Bg : Begins v oi Hd) (hd : Hd s.heap)
    (h : ∀ h', IsEnum h' (s.heap.objs.size + 1) s.heap.objs.size 0 .none → h'.get? s.heap.objs.size = some oi → (∀ b o, s.heap.get? b = some o → h'.get? b = some o) → Q (.ref (s.heap.objs.size + 1)) { s with heap := h' }) :
    wpAny (model prog w) A (call (.type "enumerate") [v]) Q E s := by
  have sz1 : (s.heap.push oi).objs.size = s.heap.objs.size + 1 := Heap.size_push ..
  have made : IsEnum ((s.heap.push oi).push (enumObj s.heap.objs.size)) (s.heap.objs.size + 1) s.heap.objs.size 0 .none := by
    rw [← sz1]
    exact Heap.get?_push_size _ rfl
  refine callType_new F.called_enumerate (by decide) (F.typeCall_enumerate_1 _) (F.newCall_enumerate_1 _) (fun ob => F.args_object_init_2 ob _) F.entry_enumerate_new (enum_new Bg) ⟨hd, ?_⟩
  rw [sz1]
  exact ⟨⟨_, made, rfl⟩, h _ made (Heap.get?_push_of_some _ (Heap.get?_push_size _ Bg.free)) fun b o x => Heap.get?_push_of_some _ (Heap.get?_push_of_some _ x)⟩
/-- a tuple's items, each in a new pair with its place -/
def Iet (K : Frag) (a : Addr) : It :=
  ⟨fun i H => ∃ (xs : List V) (x : V), SqT K H a xs ∧ xs[i]? = some x,
   fun i H v H' => ∃ T x, v = .ref T ∧ H T = none ∧ H' = upd H T (.tup [.int (i : Nat), x]) ∧ ∀ xs, SqT K H a xs → xs[i]? = some x,
   fun i H => ∃ xs : List V, SqT K H a xs ∧ xs.length = i⟩
theorem rel_inj {x y : V} {u : Value} (h1 : RelV x u) (h2 : RelV y u) : x = y := L2.RelV.inj h1 h2
theorem vals_same {xs ys : List V} {us : List Value} (h1 : Vals xs us) (h2 : Vals ys us) : xs = ys := by
  induction h1 generalizing ys with
  | nil => cases h2; rfl
  | cons r t ih =>
    cases h2 with
    | cons r' t' => rw [rel_inj r r', ih t']
theorem tup_same {X : Cx} {pins : List (Addr × Obj)} {σ : L2.St} {H : Hp} {s : Shared} {a : Addr} {xs ys : List V} (I : Inv X pins σ H s) (h1 : SqT X.K H a xs) (h2 : SqT X.K H a ys) : xs = ys := by
  obtain ⟨i1, r1, ⟨o1, g1, _, n1, d1⟩, _⟩ := I.tuple h1
  obtain ⟨i2, r2, ⟨o2, g2, _, n2, d2⟩, _⟩ := I.tuple h2
  rw [g1] at g2
  cases g2
  rw [d1] at d2
  injection d2 with e _
  have e' : i1 = i2 := by simpa using e
  subst e'
  exact vals_same r1 r2
theorem turn_enumT {P : Program} {w : World} {K : Frag} {elts : List Expr} {kk : Nat} {tpos : Pos} (a e it : Addr) :
    Turn P w K (.Tuple elts kk tpos) (Iet K a) [e, it] e (fun i h => (∃ old, IsEnum h e it ((i : Nat) : Int) old) ∧ h.IsTupleIter it a i ∧ e ≠ it ∧ e ≠ a ∧ a ≠ it) where
  mem := List.mem_cons_self
  obj := fun i h st b hb => by
    obtain ⟨⟨old, he⟩, ⟨o, ho, _, hd⟩, _⟩ := st
    rcases List.mem_cons.mp hb with rfl | hb
    · exact ⟨_, he, fun v q => nomatch q⟩
    · obtain rfl : b = it := by simpa using hb
      exact ⟨o, ho, fun v q => by rw [hd] at q; cases q⟩
  keep := fun i h h' st k => by
    obtain ⟨⟨old, he⟩, hi, ne⟩ := st
    exact ⟨⟨old, k e List.mem_cons_self _ he⟩, hi.at fun o q => k it (by simp) o q, ne⟩
  item := by
    intro X hP hw hK calm i pins s σ H E I hf st hg
    subst hP hw hK
    obtain ⟨⟨old, he⟩, hit, ne1, ne2, ne3⟩ := st
    obtain ⟨xs, x, hq, hx⟩ := hg
    obtain ⟨its, rv, tp, _⟩ := I.tuple hq
    obtain ⟨u, hu, ru⟩ := rv.get hx
    have ile : i < its.toArray.size := by
      rw [List.size_toArray]
      exact (List.getElem?_eq_some_iff.mp hu).1
    have el : e < s.heap.objs.size := Heap.lt_size he
    have il : it < s.heap.objs.size := by
      obtain ⟨_, q, _⟩ := hit
      exact Heap.lt_size q
    refine wpAny_pyNext_enum_itemD (Draws.tuple (A := X.A.in1) (I.ok.hd calm) it a ne3 its.toArray) he ⟨hit, tp⟩ ile ne1 (by simp [ne1, ne2]) fun y h' tk hy hout st' hT _ hk => ?_
    have ey : y = u := by
      have : its.toArray[i]? = some y := hy
      rw [List.getElem?_toArray, hu] at this
      exact (Option.some.inj this).symm
    subst ey
    refine ⟨_, rfl, wpAny_letOwnedTupleGo_enum (s := { s with heap := h', toks := tk + 1 }) hout fun h2 he2 same => ?_⟩
    have hT2 : h2.get? s.heap.objs.size = some { cls := .type "tuple", data := .seq #[.int i tk, y] } := (same.2 _ (Nat.ne_of_gt el)).trans hT
    have ok : ObjOk X.prog X.w (upd H s.heap.objs.size (.tup [.int (i : Nat), x])) h2 s.heap.objs.size (.tup [.int (i : Nat), x]) := ⟨by show 2 ≤ sizeLine; decide, [.int i tk, y], .cons ⟨_, rfl⟩ (.cons ru .nil), ⟨_, hT2, rfl, _, rfl⟩⟩
    have J : Inv X pins σ (upd H s.heap.objs.size (.tup [.int (i : Nat), x])) { s with heap := h2, toks := tk + 1 } :=
      I.turnedNew (ch := [e, it]) (fun b ob hb q => (same.2 b fun z => hb (by simp [z])).trans (hk b ob (fun z => hb (by simp [z])) (fun z => hb (by simp [z])) q)) hf (Nat.le_refl _) ok
    refine ⟨.ref s.heap.objs.size, _, J, rfl, ⟨_, x, rfl, I.hok.fresh (Nat.le_refl _), rfl, fun ys hy => by rw [tup_same I hy hq]; exact hx⟩, ⟨⟨y, ?_⟩, st'.1.at fun o q => (same.2 it (Ne.symm ne1)).trans q, ne1, ne2, ne3⟩, fun b hb => ?_⟩
    · rw [show ((i + 1 : Nat) : Int) = (i : Int) + 1 from by omega]
      exact he2
    · have lt : b < s.heap.objs.size := by
        rcases List.mem_cons.mp hb with rfl | hb
        · exact el
        · obtain rfl : b = it := by simpa using hb
          exact il
      rw [upd_ne (Nat.ne_of_lt lt)]
      exact (hf b hb).1
  done := by
    intro X hP hw hK calm i pins s σ H E I hf st hg
    subst hP hw hK
    obtain ⟨⟨old, he⟩, hit, ne1, ne2, ne3⟩ := st
    obtain ⟨xs, hq, hx⟩ := hg
    obtain ⟨its, rv, tp, _⟩ := I.tuple hq
    have hl := rv.length
    obtain ⟨f0, f1, f2, f3, f4, f5⟩ := hf it (by simp)
    have sz : its.toArray.size = i := by
      rw [List.size_toArray]
      omega
    exact wpAny_pyNext_enum_endD (Draws.tuple (A := X.A.in1) (I.ok.hd calm) it a ne3 its.toArray) he ⟨by rw [sz]; exact hit, tp⟩ fun h' eb => ⟨rfl, I.turned (t' := s.toks) (fun b o hb q => eb b o hb q) f0 f1 f3 f4 f5⟩
  self := fun A i s Q E st h => by
    obtain ⟨⟨old, he⟩, _⟩ := st
    exact wpAny_pyIter_enum he h
def rEnumT (K : Frag) (R : It → Hp → Prop) : List V → Hp → Prop := fun vs H1 => ∃ a xs, vs = [.ref a] ∧ SqT K H1 a xs ∧ R (Iet K a) H1
def rEnumQ (K : Frag) (R : It → Hp → Prop) : List V → Hp → Prop := fun vs H1 => rEnum K R vs H1 ∨ rEnumT K R vs H1
def iEnumQ (K : Frag) (ta : TA) : TI := fun σ H R => ta σ H (rEnumQ K R)
theorem pi_enumT {X : Cx} {e : Expr} {ta : TA} {p pos tpos : Pos} {elts : List Expr} {kk : Nat} (hg : Gl X "enumerate") (hm : X.mg "enumerate" = none) (ha : PA X [e] ta) (hs : starEach [e] X.env = [(false, eval e X.env)] := by rfl) :
    PI X (.Tuple elts kk tpos) (.Call (.Name "enumerate" p) [e] [] pos) (iEnumQ X.K ta) := by
  refine ⟨fun pins s σ H R I hh => ?_⟩
  refine Call_ (ld_blt I hg hm boot_enumerate (callWith_type1 (thn (ha.run pos pins s σ H _ I hh) fun us s1 z => ?_) hs rfl))
  obtain ⟨vs, H1, I1, r1, z⟩ := z
  have fp : ∀ {H' : Hp} {h' : Heap}, (∀ b, s1.heap.objs.size ≤ b → H' b = none) → ∀ b ∈ [s1.heap.objs.size + 1, s1.heap.objs.size], FpOk X pins H' b := fun {H' h'} hn b hb => by
    have hle : s1.heap.objs.size ≤ b := by
      rcases List.mem_cons.mp hb with rfl | hb
      · exact Nat.le_succ _
      · obtain rfl : b = s1.heap.objs.size := by simpa using hb
        exact Nat.le_refl _
    exact I1.fpOk hle (hn b hle)
  rcases z with ⟨a, xs, rfl, hq, q⟩ | ⟨a, xs, rfl, hq, q⟩
  · obtain ⟨u, rfl, ru⟩ := vals1 r1
    obtain rfl : u = Value.ref a := ru
    obtain ⟨its, rv, pl, _⟩ := I1.list hq
    refine call_enumerate_list pl.isList fun h' he hit _ hk => wpAny_pyIter_enum he ⟨s1.heap.objs.size + 1, [s1.heap.objs.size + 1, s1.heap.objs.size], _, _, H1, rfl, I1.kept (t' := s1.toks) hk, turn_enum a _ _, ⟨⟨.none, he⟩, hit, Nat.succ_ne_self _⟩, fp (h' := h') fun b hb => I1.hok.fresh hb, q⟩
  · obtain ⟨u, rfl, ru⟩ := vals1 r1
    obtain rfl : u = Value.ref a := ru
    obtain ⟨its, rv, tp, _⟩ := I1.tuple hq
    have la : a < s1.heap.objs.size := by
      obtain ⟨o, e, _⟩ := tp
      exact Heap.lt_size e
    refine call_enumB (begins_tuple a its.toArray) tp fun h' he hit hk => wpAny_pyIter_enum he ⟨s1.heap.objs.size + 1, [s1.heap.objs.size + 1, s1.heap.objs.size], _, _, H1, rfl, I1.kept (t' := s1.toks) hk, turn_enumT a _ _, ⟨⟨.none, he⟩, ⟨_, hit, rfl, rfl⟩, Nat.succ_ne_self _, Nat.ne_of_gt (Nat.lt_succ_of_lt la), Nat.ne_of_lt la⟩, fp (h' := h') fun b hb => I1.hok.fresh hb, q⟩
section
variable {K : Frag} {σ : L2.St} {H : Hp} {i j : Nat} {D : Ends} {ts : TS} {a : Addr} {tr : TA}
theorem x_iEnumQ {R : It → Hp → Prop} (h : tr σ H (rEnumQ K R)) : iEnumQ K tr σ H R := h
/-- for i, x in enumerate(a list or a tuple that stands) -/
theorem x_forEQ {α : Type} (as : List α) (f : α → V) (Pv : List α → L2.St → Hp → Prop) (h0 : Pv [] σ H) (hl : (∀ pre σ' H', pre.length ≤ as.length → Pv pre σ' H' → SqL K H' a (as.map f)) ∨ ∀ pre σ' H', pre.length ≤ as.length → Pv pre σ' H' → SqT K H' a (as.map f))
    (mono : ∀ pre σ' H' H'', Pv pre σ' H' → Ex H' H'' → Pv pre σ' H'')
    (hs : ∀ pre x post σ' H', as = pre ++ x :: post → Pv pre σ' H' → ts { D with nx := Pv (pre ++ [x]), ct := Pv (pre ++ [x]), bk := D.nx } ((σ'.set i (some (.int (pre.length : Nat)))).set j (some (f x))) H')
    (hd : ∀ σ' H', Pv as σ' H' → D.nx σ' H') : rEnumQ K (ForRun (gTup K 2 (gCons (gName i) (gCons (gName j) gNil))) ts D σ) [.ref a] H := by
  rcases hl with hl | hl
  · exact .inl (x_forE as f Pv h0 hl mono hs hd)
  · refine .inr ⟨a, _, rfl, hl [] σ H (Nat.zero_le _) h0, fun k m σ' H' => m = as.length - k ∧ k ≤ as.length ∧ Pv (as.take k) σ' H', ⟨_, rfl, Nat.zero_le _, by rw [List.take_zero]; exact h0⟩, ?_⟩
    rintro k m σ' H' ⟨rfl, hk, p⟩
    have hq := hl _ σ' H' (by rw [List.length_take]; omega) p
    by_cases hlt : k < as.length
    · have ex : as[k]? = some as[k] := List.getElem?_eq_getElem hlt
      have ev : (as.map f)[k]? = some (f as[k]) := by rw [List.getElem?_map, ex]; rfl
      refine .inr ⟨⟨_, _, hq, ev⟩, Pv (as.take k ++ [as[k]]), fun σ'' H'' p' => ⟨as.length - (k + 1), by omega, rfl, hlt, by rw [take_snoc ex]; exact p'⟩, fun x H2 y => ?_⟩
      obtain ⟨T, x', rfl, hT, rfl, f1⟩ := y
      have e1 := Option.some.inj (ev.symm.trans (f1 _ hq))
      subst e1
      refine ⟨T, _, rfl, .inl (.inl upd_same), rfl, _, _, rfl, _, _, rfl, rfl, ?_⟩
      have q := hs (as.take k) as[k] (as.drop (k + 1)) σ' _ (split_at ex) (mono _ _ _ _ p (Evl.Ex.new (o := .tup [.int (k : Nat), f as[k]]) hT))
      have el : (as.take k).length = k := by rw [List.length_take]; omega
      rw [el] at q
      exact q
    · have e : k = as.length := by omega
      subst e
      refine .inl ⟨⟨_, hq, by rw [List.length_map]⟩, hd σ' H' ?_⟩
      rw [List.take_length] at p
      exact p
end
end B

namespace B
open PySem PySem.Spec PyProof.Rows L2
open PySem.W (Frag)
open LamX (Tabs ExtN)
/-- p is none of the things that stood -/
def Apart (H : Hp) (p : Addr) : Prop := ∀ b o, H b = some o → (∀ ps, o ≠ .tbl ps) → b ≠ p
theorem Apart.back {H H' : Hp} {p : Addr} (e : ExtN H H') (h : Apart H' p) : Apart H p := fun b o hb n => h b o (e b o hb n) n
theorem Apart.of {H : Hp} {p : Addr} (h : H p = none) : Apart H p := fun b o hb _ => ne_of_none hb h
section
variable {K : Frag} {σ : L2.St} {H : Hp} {Q : VK} {i j : Nat} {te : TE} {tt : TT} {a : Addr} {T : List (Addr × Str)}
theorem x_sortLam (h : tCons te tNil σ H (SortAsk T j σ Q)) : tSortLam T j te σ H Q := h
theorem x_lcQ {vs : List Nat} {α : Type} (as : List α) (f : α → V) (p : α → Bool) (v : α → V) (hv : σ[i]? = some (some (.ref a))) (hq : Sq K H a (as.map f)) (h : LcSay K j vs tt te σ H Q α as f p v) : iSq K (tVar i) σ H (LcRun (gName j) tt te vs σ Q) :=
  hq.elim (fun hq => .inl ⟨.ref a, hv, x_lcL as f p v hq h⟩) fun hq => .inr ⟨.ref a, hv, x_lcT as f p v hq h⟩
end
end B
namespace B
open PySem PySem.Spec PyProof.Rows L2
open LamX (Tabs ExtN)
section
variable {σ : L2.St} {H : Hp} {Q : VK} {ta tb tc : TE} {r r' : R2}
theorem x_chain (h : ta σ H fun x H1 => tb σ H1 fun y H2 => r x y H2 fun z H3 => ∃ k, z = .bl k ∧ (if k = true then tc σ H3 fun w' H4 => r' y w' H4 Q else Q (.bl false) H3)) : tChain r r' ta tb tc σ H Q := h
end
theorem cut_part (ns : List Int) (a b : Nat) : ∃ ms : List Int, cutV (ns.map V.int) (some (a : Int)) (some (b : Int)) = ms.map V.int ∧ ms.length ≤ b - a := by
  unfold cutV
  rw [HT.sIx_nat, HT.sIx_nat, List.length_map]
  refine ⟨(ns.drop (min a ns.length)).take (min b ns.length - min a ns.length), by rw [List.map_take, List.map_drop], ?_⟩
  rw [List.length_take]
  omega
theorem bl_decide (c : Prop) [Decidable c] (b : Bool) (h : b = true ↔ c) : b = decide c := by
  by_cases e : c
  · rw [decide_eq_true e, h.mpr e]
  · rw [decide_eq_false e]
    cases b with
    | false => rfl
    | true => exact absurd (h.mp rfl) e
end B
namespace B
theorem x_ntrue {A C : Prop} (h : C) : if (!true) = true then A else C := by rw [if_neg (by decide)]; exact h
theorem x_nfalse {A C : Prop} (h : A) : if (!false) = true then A else C := by rw [if_pos (by decide)]; exact h
end B

namespace B
open PySem PySem.Spec PyProof.Rows L2
open PySem.W (Frag)
open LamX (Tabs TabS ExtN TabB)
/-! ### the end of a law with a table -/
/-- where a def's code object and its table stand -/
theorem tab_in {K : Frag} {x : Str} {f c Pt : Addr} {oc oc2 : Value} {od od2 : Option Addr} {fd : FuncData} {sl sl2 : Array (Option Value)} {vs : Array Value} (a : PySem.W.nsIn K mainGlobals x = some (some (.ref f))) (l : K.lookup f = some ⟨oc, od, .func fd, sl⟩) (e : fd.code = .ref c)
    (lc : K.lookup c = some ⟨oc2, od2, .fields vs, sl2⟩) (h : vs[11]? = some (.ref Pt)) : PySem.W.tabIn K x = some (c, Pt) := by
  unfold PySem.W.tabIn
  simp only [a, l, e, lc, h]
theorem no_tab {K : Frag} {h : Heap} {Pt : Addr} (X : K.In h) (nt : PySem.W.noTabs K = true) (e : h.get? Pt = some (PySem.W.tabObj #[])) : K.lookup Pt = none := by
  cases q : K.lookup Pt with
  | none => rfl
  | some o =>
    have e2 := X Pt o q
    rw [e] at e2
    cases e2
    have h2 := List.all_eq_true.mp nt (Pt, _) (PySem.W.mem_of_lookupK q)
    exact absurd (show false = true from h2) Bool.false_ne_true
theorem tabs_one {H : Hp} {Pt : Addr} {q : Str} (h : H Pt = some (.tbl #[])) : Tabs [(Pt, q)] H := fun p hp => by
  rw [List.mem_singleton.mp hp]
  exact TabS.nil h
theorem walk_tab {l : PySem.W.OpenLaw} {n k : Nat} {q : Program} {loose : List Str} {XP : (Str → Option Value) → Heap → Prop} {YP : World → Heap → Prop} {d : DefRec} {K : Params → Frag} {x y ql : Str} {sp : Frag → Addr → Sp}
    (hn : l.most = some n) (hn2 : n ≤ sizeLine) (hdf : d.params.defaults = []) (hr : Room k callerA) (hY : ∀ (w : World) (h : Heap), YP w h → (K w.params).In h) (hnt : ∀ w : World, PySem.W.noTabs (K w.params) = true) (hrec : ∃ e, (recsOf q).find? (fun e => e.name == y) = some e)
    (hsp : ∀ (K : Frag) (Pt : Addr) (H : Hp) (a : Addr) (ns : List Int), ns.length ≤ n → (∀ z ∈ ns, Builtin.Int.intBits z ≤ 1048576) → Tabs [(Pt, ql)] H → SqL K H a (ns.map V.int) → sp K Pt [.ref a] H (fun v _ => v = .bl true) fun _ _ _ => False)
    (F : ∀ (w : World) (mg : Str → Option Value) (fa : Addr) (h : Heap), (K w.params).In h → h.Ns mainGlobals mg → mg d.name = some (.ref fa) →
      ∃ (fd : FuncData) (c Pt : Addr), PySem.W.tabIn (K w.params) y = some (c, Pt) ∧ (∀ (s : Shared) (u : Value), BindsTo s fd ⟨[u], []⟩ [(x, u)]) ∧
        ∀ base : Heap, (K w.params).In base → base.Ns mainGlobals mg → TabB base mg c Pt → FnOk l.prog w (K w.params) mg base (L2.CX l.prog w) k fa fd [x] (sp (K w.params) Pt)) :
    PySem.W.WalkO q loose XP YP l.row.toRowW d [] (fun f vs => PySem.call f vs) := by
  refine Att.attach_callB hn hdf fun w s₀ s₁ mg mb fa o pm cd doc a vs ns G Y ho hd hcd hmg hobj hints hlen hbits hg => ?_
  have KX := hY w _ Y
  obtain ⟨e, he⟩ := hrec
  obtain ⟨fd, c, Pt, ht, hb, hF⟩ := F w mg fa _ KX G.T.g hmg
  obtain ⟨g1, g2⟩ := PySem.W.tab_of G.T KX he ht
  refine LamX.law_callTs (cs := [(c, Pt)]) KX G.T.g G.T.b G.T.builtins G.T.nolimit hg (fun p hp => ?_) (fun p hp => ?_) (fun p hp => ?_) G.T.bmain hobj hints (Nat.le_trans hlen hn2) hr (fun base hK hN hT => hF base hK hN (hT _ List.mem_cons_self)) hb
    (fun H hH hS => hsp _ Pt H a ns hlen hbits (tabs_one (hH _ List.mem_cons_self)) hS) fun H e s' z => ?_
  · rw [List.mem_singleton.mp hp]
    exact g2
  · rw [List.mem_singleton.mp hp]
    exact no_tab KX (hnt w) g2
  · rw [List.mem_singleton.mp hp]
    exact g1
  · obtain ⟨_, _, _, _, _, _, _, _, _, _, _, _, z⟩ := z
    exact z
end B

namespace B
open PySem PySem.Spec PyProof.Rows L2
open PySem.W (Frag)
/-! ### d.get(k, x), d.setdefault(k, x) -/
section
variable {σ : L2.St} {H : Hp} {Q : VK} {td ty tx : TE} {a b : Addr} {kvs : List (Key × V)} {kts : List (List Key × V)} {z : V} {n : Int} {k : List Key}
def rDg (a : Addr) (Q : VK) (y z : V) (H3 : Hp) : Prop := ∃ o, DGet H3 a y o ∧ Q (o.getD z) H3
def rDg2 (ty tx : TE) (σ : L2.St) (Q : VK) : V → Hp → Prop := fun x H1 => ∃ a, x = .ref a ∧ IsD H1 a ∧ ty σ H1 fun y H2 => tx σ H2 fun z H3 => rDg a Q y z H3
theorem x_dget2 (h : td σ H (rDg2 ty tx σ Q)) : tDGet2 td ty tx σ H Q := h
theorem x_dg2K (hd : H a = some (.dK kvs)) (h : ty σ H fun y H2 => tx σ H2 fun z H3 => rDg a Q y z H3) : rDg2 ty tx σ Q (.ref a) H := ⟨a, rfl, .inl ⟨kvs, .inl hd⟩, h⟩
theorem x_dg2T (hd : H a = some (.dT kts)) (h : ty σ H fun y H2 => tx σ H2 fun z H3 => rDg a Q y z H3) : rDg2 ty tx σ Q (.ref a) H := ⟨a, rfl, .inr ⟨kts, .inl hd⟩, h⟩
theorem x_dgI (hd : H a = some (.dK kvs)) (q : Q ((valV kvs (.inl n)).getD z) H) : rDg a Q (.int n) z H := ⟨_, DGet.k (k := .inl n) hd, q⟩
theorem x_dgT (hd : H a = some (.dT kts)) (hb : H b = some (.tup (k.map kV))) (q : Q ((valV kts k).getD z) H) : rDg a Q (.ref b) z H := ⟨_, DGet.t hd hb, q⟩
def rSd (a : Addr) (Q : VK) (y z : V) (H3 : Hp) : Prop := ∃ (kvs : List (Key × V)) (k : Key), H3 a = some (.dK kvs) ∧ y = kV k ∧ kvs.length < sizeLine ∧ (∀ v, valV kvs k = some v → Q v H3) ∧ (valV kvs k = none → Q z (upd H3 a (.dK (putK kvs k z))))
def rSd2 (ty tx : TE) (σ : L2.St) (Q : VK) : V → Hp → Prop := fun x H1 => ∃ a, x = .ref a ∧ IsD H1 a ∧ ty σ H1 fun y H2 => tx σ H2 fun z H3 => rSd a Q y z H3
theorem x_dsetd (h : td σ H (rSd2 ty tx σ Q)) : tDSetd td ty tx σ H Q := h
theorem x_sd2 (hd : H a = some (.dK kvs)) (h : ty σ H fun y H2 => tx σ H2 fun z H3 => rSd a Q y z H3) : rSd2 ty tx σ Q (.ref a) H := ⟨a, rfl, .inl ⟨kvs, .inl hd⟩, h⟩
theorem x_sdI (hd : H a = some (.dK kvs)) (hz : kvs.length ≤ 1000000) (q1 : ∀ v, valV kvs (.inl n) = some v → Q v H) (q0 : valV kvs (.inl n) = none → ∀ H', Upd H a (.dK (putK kvs (.inl n) z)) H' → Q z H') : rSd a Q (.int n) z H := ⟨kvs, .inl n, hd, rfl, szl hz, q1, fun e => q0 e _ .mk0⟩
/-- d[t] = v, of a dict with tuple keys -/
theorem x_putT {v : V} {nx : Hp → Prop} (hd : H a = some (.dT kts)) (hb : H b = some (.tup (k.map kV))) (hz : kts.length ≤ 1000000) (q : ∀ H', Upd H a (.dT (putK kts k v)) H' → nx H') : rDPut v (.ref a) (.ref b) nx H := ⟨a, _, rfl, DPut.t hd hb (szl hz), q _ .mk0⟩
theorem x_dnewT (h : ∀ p H', H p = none → Ex H H' → H' p = some (.dT []) → Q (.ref p) H') : tDNewT σ H Q := fun p hp => h p _ hp (Evl.Ex.new hp) upd_same
end
end B
namespace B
open PySem PySem.Spec PyProof.Rows L2
section
variable {K : PySem.W.Frag} {H : Hp} {Q : VK} {p : Addr} {xs : List V}
theorem x_isLL (h : SqL K H p xs) (q : Q (.bl true) H) : rIsi K [.ref p, .ty "list"] H Q := x_isi_list (.lst h) q
theorem x_isTT (h : SqT K H p xs) (q : Q (.bl true) H) : rIsi K [.ref p, .ty "tuple"] H Q := x_isi_tuple (.tup h) q
end
end B

namespace B
open PySem PySem.Spec PyProof.Rows L2
open PySem.W (Frag)
/-! ### classes and their methods, by their names -/
/-- the class named c -/
structure IsCls (K : Frag) (mg : Str → Option Value) (c : Str) : Prop where
  at_ : mg c = some (.ref (B.at_ mg c))
  cls : Cls K (B.at_ mg c)
  makes : PySem.W.makesIn K (B.at_ mg c) = true
  kp : PySem.W.keepIn K (.ref (B.at_ mg c)) = true
/-- the method m of the class named c keeps the promise -/
def HasM (P : Program) (w : World) (K : Frag) (mg : Str → Option Value) (base : Heap) (c m : Str) (k : Nat) (ps : List Str) (sp : Sp) : Prop :=
  ∃ (f : Addr) (fd : FuncData), FnOk P w K mg base (L2.CX P w) k f fd ps sp ∧ Meth K (B.at_ mg c) m f ∧ Binds K fd ps []
/-- the def st stands as method m of the class c0; the class c has it -/
def StandsM (K : Frag) (mg : Str → Option Value) (c m qual : Str) (st : Stmt) : Prop := ∃ (f : Addr) (fd : FuncData), Fun K m qual st f fd ∧ Meth K (B.at_ mg c) m f
section
variable {P : Program} {w : World} {K : Frag} {mg : Str → Option Value} {base : Heap}
theorem hasM_of {c m qual : Str} {st : Stmt} {N ps : List Str} {k : Nat} {sp : Sp} (S : StandsM K mg c m qual st) (C : FnScope N ps (defScope st))
    (hb : ∀ (kV doc pm : Value) (an : Option Addr) (cdv ct : Value) (us : List Value), us.length = ps.length → bindArgs (PySem.W.fnOf m qual (defArgs st) (defBody st) (defScope st) .none kV doc pm an cdv ct) ⟨us, []⟩ = pure (ps.zip us))
    (len : ∀ vs H Q E, sp vs H Q E → vs.length = ps.length)
    (hbody : ∀ (f : Addr) (cdv : Value) (A : Around) (outer : List Env) (s : Shared) (H : Hp) (vs : List V) (Q : VK) (E : XK), Room k (A.deeper (envOfC qual (defScope st) s.heap.objs.size f cdv)) → sp vs H Q E →
      ∃ t, PSs (cxOf (L2.CX P w) P w K mg base N qual (defScope st) f cdv A outer s H E) (defBody st) t ∧ t { nx := fun _ H' => Q .non H', rt := Q } (start N vs) H) :
    HasM P w K mg base c m (k + 1) ps sp := by
  obtain ⟨f, fd, F, M⟩ := S
  exact ⟨f, fd, F.okX C len fun cdv A outer s H vs Q E hr h => hbody f cdv A outer s H vs Q E hr h, M, F.binds hb⟩
theorem hasM_ofN {c m qual : Str} {st : Stmt} {N ps : List Str} {k : Nat} {sp : Sp} (S : StandsM K mg c m qual st) (C : FnScope N ps (defScope st))
    (hb : ∀ (kV doc pm : Value) (an : Option Addr) (cdv ct : Value) (us : List Value), us.length = ps.length → bindArgs (PySem.W.fnOf m qual (defArgs st) (defBody st) (defScope st) .none kV doc pm an cdv ct) ⟨us, []⟩ = pure (ps.zip us))
    (len : ∀ vs H Q E, sp vs H Q E → vs.length = ps.length)
    (hbody : ∀ (f : Addr) (cdv : Value) (A : Around) (outer : List Env) (s : Shared) (H : Hp) (vs : List V) (Q : VK) (E : XK), Room k (A.deeper (envOfC qual (defScope st) s.heap.objs.size f cdv)) → sp vs H Q E →
      ∃ t, PSs (cxOf (L2.CX P w) P w K mg base N qual (defScope st) f cdv A outer s H E).nox (defBody st) t ∧ t { nx := fun _ H' => Q .non H', rt := Q } (start N vs) H) :
    HasM P w K mg base c m (k + 1) ps sp := hasM_of S C hb len fun f cdv A outer s H vs Q E hr h => by
  obtain ⟨t, ht, q⟩ := hbody f cdv A outer s H vs Q E hr h
  exact ⟨t, ht.nox, q⟩
end
/-! a family of classes: which of them an object is of is told by the heap -/
/-- S c sp: the class named c, its method's promise -/
def FamM (P : Program) (w : World) (K : Frag) (mg : Str → Option Value) (base : Heap) (m : Str) (k : Nat) (ps : List Str) (S : Str → Sp → Prop) : Prop := ∀ c sp, S c sp → IsCls K mg c ∧ HasM P w K mg base c m k ps sp
def rMethF (mg : Str → Option Value) (m : Str) (S : Str → Sp → Prop) (E : L2.St → XK) (t : TA) (σ : L2.St) (Q : VK) : V → Hp → Prop := fun x H1 => ∃ c sp a dx fs, S c sp ∧ x = .ref a ∧ H1 a = some (.ins (B.at_ mg c) dx fs) ∧ fs.lookup m = none ∧ t σ H1 fun vs H2 => sp (x :: vs) H2 Q (E σ)
def tMethF (mg : Str → Option Value) (m : Str) (S : Str → Sp → Prop) (E : L2.St → XK) (ta : TE) (t : TA) : TE := fun σ H Q => ta σ H (rMethF mg m S E t σ Q)
section
variable {X : Cx} {k j : Nat} {m : Str} {ps : List Str} {S : Str → Sp → Prop} {E : L2.St → XK} {p pos apos : Pos} {e o : Expr} {es : List Expr} {ta : TE} {t : TA}
theorem pe_methF {mg0 : Str → Option Value} {pl : Sem Bool} (he : PE X o ta) (A : FamM X.prog X.w X.K X.mg X.base m j ps S) (hr : Room k X.A) (hx : ∀ σ, PassesAt (L2.CX X.prog X.w) X σ (E σ)) (ha : PA X (e :: es) t) (hj : j ≤ k := by decide) (em : X.mg = mg0 := by rfl)
    (hst : starEach (e :: es) X.env = (false, eval e X.env) :: starEach es X.env := by rfl) (hpl : (backTo pos (starEach es X.env)).any (·.1) = false := by rfl)
    (ht : eval (.Call (.Attribute o m apos) (e :: es) [] pos) X.env = (do
      let vv ← eval o X.env
      standAt apos.atName
      let (ff, fst) ← holding [vv] (getMethod vv m pl)
      callWith pos ff fst (backTo pos (starEach (e :: es) X.env)) (backToKw pos (keywordEach [] X.env))) := by rfl) :
    PE X (.Call (.Attribute o m apos) (e :: es) [] pos) (tMethF mg0 m S E ta t) := by
  subst em
  constructor
  intro pins s σ H Q I hh
  refine PySem.W.methodCall_KW (pl := pl) (thn (he.run pins s σ H _ I hh) fun u s1 z => ?_) ht
  obtain ⟨x, H1, I1, rx, c, sp, a, dx, fs, hS, rfl, ea, l, q⟩ := z
  obtain rfl : u = Value.ref a := rx
  obtain ⟨ic, f, fd, F, M, b⟩ := A c sp hS
  refine getmeth_ok I1 ea ic.cls M l ?_
  refine PySem.W.callWith_K (first := [.ref a]) (h₀ := X.base) I.ok.mod.kin M.kp (thn (ha.run pos pins s1 σ H1 _ I1 q) fun us s2 z2 => ?_) hst hpl
  obtain ⟨vs, H2, I2, r, q2⟩ := z2
  exact ⟨I2.kIn, run_fnS (us := .ref a :: us) (vs := .ref a :: vs) F (hr.mono hj) b (hx σ) I2 (.cons rfl r) q2⟩
theorem pe_methF0 {mg0 : Str → Option Value} {pl : Sem Bool} (he : PE X o ta) (A : FamM X.prog X.w X.K X.mg X.base m j ps S) (hr : Room k X.A) (hx : ∀ σ, PassesAt (L2.CX X.prog X.w) X σ (E σ)) (hj : j ≤ k := by decide) (em : X.mg = mg0 := by rfl)
    (ht : eval (.Call (.Attribute o m apos) [] [] pos) X.env = (do
      let vv ← eval o X.env
      standAt apos.atName
      let (ff, fst) ← holding [vv] (getMethod vv m pl)
      callWith pos ff fst (backTo pos (starEach [] X.env)) (backToKw pos (keywordEach [] X.env))) := by rfl) :
    PE X (.Call (.Attribute o m apos) [] [] pos) (tMethF mg0 m S E ta tNil) := by
  subst em
  constructor
  intro pins s σ H Q I hh
  refine PySem.W.methodCall_KW (pl := pl) (thn (he.run pins s σ H _ I hh) fun u s1 z => ?_) ht
  obtain ⟨x, H1, I1, rx, c, sp, a, dx, fs, hS, rfl, ea, l, q⟩ := z
  obtain rfl : u = Value.ref a := rx
  obtain ⟨ic, f, fd, F, M, b⟩ := A c sp hS
  refine getmeth_ok I1 ea ic.cls M l ?_
  exact PySem.W.callWith_K0 (first := [.ref a]) I1.kIn M.kp (run_fnS (us := [.ref a]) (vs := [.ref a]) F (hr.mono hj) b (hx σ) I1 (.cons rfl .nil) q)
end
/-! a new object -/
def rMakeS (mg : Str → Option Value) (c : Str) (sp : Sp) (E : L2.St → XK) (σ : L2.St) (Q : VK) : List V → Hp → Prop := fun vs H1 => ∀ x dx, H1 x = none → H1 dx = none → dx ≠ x → sp (.ref x :: vs) (upd (upd H1 dx (.own x)) x (.ins (B.at_ mg c) dx [])) (fun v H2 => v = .non ∧ Q (.ref x) H2) (E σ)
def tMakeS (mg : Str → Option Value) (c : Str) (sp : Sp) (E : L2.St → XK) (t : TA) : TE := fun σ H Q => t σ H (rMakeS mg c sp E σ Q)
section
variable {X : Cx} {k j : Nat} {c : Str} {ps : List Str} {sp : Sp} {E : L2.St → XK} {p pos : Pos} {e : Expr} {es : List Expr} {t : TA}
theorem pe_makeS {mg0 : Str → Option Value} (ic : IsCls X.K X.mg c) (h : HasM X.prog X.w X.K X.mg X.base c "__init__" j ps sp) (hr : Room k X.A) (hx : ∀ σ, PassesAt (L2.CX X.prog X.w) X σ (E σ)) (ha : PA X (e :: es) t) (hj : j + 1 ≤ k := by decide) (em : X.mg = mg0 := by rfl) (hg : Gl X c := by rfl)
    (hdb : (c == ("__debug__" : Str)) = false := by decide) (he : starEach (e :: es) X.env = (false, eval e X.env) :: starEach es X.env := by rfl) (hpl : (backTo pos (starEach es X.env)).any (·.1) = false := by rfl) :
    PE X (.Call (.Name c p) (e :: es) [] pos) (tMakeS mg0 c sp E t) := by
  subst em
  obtain ⟨f, fd, F, M, b⟩ := h
  constructor
  intro pins s σ H Q I hh
  refine wpAny_Call_Name_kw (ld_glob I hg ic.at_ ?_ hdb)
  refine PySem.W.callWith_K (h₀ := X.base) I.ok.mod.kin ic.kp (thn (ha.run pos pins s σ H _ I hh) fun us s1 z => ?_) he hpl
  obtain ⟨vs, H1, I1, r, q⟩ := z
  refine ⟨I1.kIn, ?_⟩
  have hq := q (s1.heap.objs.size + 1) s1.heap.objs.size (I1.hok.fresh (Nat.le_succ _)) (I1.hok.fresh (Nat.le_refl _)) (Nat.ne_of_lt (Nat.lt_succ_self _))
  have I2 := Inv.made (C := B.at_ X.mg c) I1
  have r2 : Vals (V.ref (s1.heap.objs.size + 1) :: vs) (Value.ref (s1.heap.objs.size + 1) :: us) := .cons rfl r
  have hl : (Value.ref (s1.heap.objs.size + 1) :: us).length = ps.length := by
    rw [← F.len _ _ _ _ hq]
    exact r2.length.symm
  have hb := b _ (Value.ref (s1.heap.objs.size + 1) :: us) I2.kIn (by rw [List.append_nil]; exact hl)
  rw [List.append_nil] at hb
  refine wpAny_call (make_map (f := f) I1.kIn ic.makes M.at_ (beq_iff_eq.mp M.fn) (codeAny_mono (F.run _ X.stack _ _ ⟨Value.ref (s1.heap.objs.size + 1) :: us, []⟩ _ _ _ (E σ) ((hr.mono hj).make (B.at_ X.mg c) us []) (I2.env0.make (B.at_ X.mg c) us []) hb r2 hq) fun res s' hq' => ?_))
  match res, hq' with
  | .error ev, hq' => exact hx σ pins _ _ ev s' I2 hq'
  | .ok (.ret u), hq' =>
    obtain ⟨v, H', I3, rv, ev, q3⟩ := I2.after hq'
    subst ev
    exact ⟨rv, ⟨V.ref (s1.heap.objs.size + 1), H', I3, rfl, q3⟩⟩
  | .ok .next, hq' => exact False.elim hq'
  | .ok .brk, hq' => exact False.elim hq'
  | .ok .cont, hq' => exact False.elim hq'
/-- outside a try: what is raised is handed on -/
theorem pass0At {X : Cx} (σ : L2.St) : PassesAt (L2.CX X.prog X.w) X σ E0 := fun pins H s e s' I c => passL pins σ H s e s' I c
theorem passUAt {X : Cx} {E : XK} (tk : Takes X (fun cls d _ H => E cls d H)) (σ : L2.St) : PassesAt (L2.CX X.prog X.w) X σ E := fun pins H s e s' I c => passU tk pins σ H s e s' I c
end
section
variable {σ : L2.St} {H : Hp} {Q : VK} {mg : Str → Option Value} {c m : Str} {sp : Sp} {E : L2.St → XK} {t : TA} {ta : TE} {S : Str → Sp → Prop} {a dx : Addr} {fs : List (Str × V)} {vs : List V}
theorem x_makeS (h : t σ H (rMakeS mg c sp E σ Q)) : tMakeS mg c sp E t σ H Q := h
/-- the new object's heap -/
structure Born (mg : Str → Option Value) (c : Str) (H : Hp) (x dx : Addr) (H' : Hp) : Prop where
  ex : Ex H H'
  x0 : H x = none
  d0 : H dx = none
  ne : dx ≠ x
  ins : H' x = some (.ins (B.at_ mg c) dx [])
  own : H' dx = some (.own x)
theorem x_make (h : ∀ x dx H', Born mg c H x dx H' → sp (.ref x :: vs) H' (fun v H2 => v = .non ∧ Q (.ref x) H2) (E σ)) : rMakeS mg c sp E σ Q vs H := fun x dx hx hd ne => h x dx _
  { ex := (Evl.Ex.new hd).trans (Evl.Ex.new (by rw [upd_ne (Ne.symm ne)]; exact hx))
    x0 := hx
    d0 := hd
    ne := ne
    ins := upd_same
    own := by rw [upd_ne ne, upd_same] }
theorem x_methF (h : ta σ H (rMethF mg m S E t σ Q)) : tMethF mg m S E ta t σ H Q := h
theorem x_onM (hS : S c sp) (ha : H a = some (.ins (B.at_ mg c) dx fs)) (hl : fs.lookup m = none) (h : t σ H fun vs H2 => sp (.ref a :: vs) H2 Q (E σ)) : rMethF mg m S E t σ Q (.ref a) H := ⟨c, sp, a, dx, fs, hS, rfl, ha, hl, h⟩
end
end B

namespace B
open PySem PySem.Spec PyProof.Rows L2
open PySem.W (Frag)
open LamX (Tabs ExtN CodeO)
/-- an item by an index in its bounds -/
theorem at_mem {xs : List V} {k : Int} (h0 : 0 ≤ k) (h : k < xs.length) : ∃ v, atI xs k = some v ∧ v ∈ xs := by
  obtain ⟨j, rfl⟩ : ∃ j : Nat, k = (j : Nat) := ⟨k.toNat, by omega⟩
  have hj : j < xs.length := by omega
  exact ⟨xs[j], atI_nat (List.getElem?_eq_getElem hj), List.getElem_mem hj⟩
/-- all are ints of a kind -/
theorem ints_of {p : Int → Prop} : ∀ {zs : List V}, (∀ v ∈ zs, ∃ n, v = .int n ∧ p n) → ∃ ns : List Int, zs = ns.map V.int ∧ ∀ n ∈ ns, p n
  | [], _ => ⟨[], rfl, fun n h => nomatch h⟩
  | z :: zs, h => by
    obtain ⟨n, rfl, hn⟩ := h z List.mem_cons_self
    obtain ⟨ns, rfl, hs⟩ := ints_of fun v hv => h v (List.mem_cons_of_mem _ hv)
    refine ⟨n :: ns, rfl, fun m hm => ?_⟩
    rcases List.mem_cons.mp hm with rfl | hm
    · exact hn
    · exact hs m hm
/-! ### a comprehension over a range, by what holds of the heap -/
section
variable {K : Frag} {σ : L2.St} {H : Hp} {Q : VK} {j : Nat} {te : TE} {vs : List Nat}
theorem x_lcRN {lo : Int} {m : Nat} (Iv : Hp → Prop) (Pe : Int → V → Prop) (hz : m ≤ 1000000) (hw : ∀ x, wipe ((wipe σ vs).set j (some x)) vs = wipe σ vs) (h0 : Iv H) (stab : ∀ H' D ys, H D = none → Iv H' → (H' D = none ∨ ∃ xs, H' D = some (.lst xs)) → Iv (upd H' D (.lst ys)))
    (he : ∀ i, lo ≤ i → i < lo + m → ∀ H' D zs, H D = none → H' D = some (.lst zs) → Iv H' → ∀ Q' : VK, (∀ v H2, Pe i v → Iv H2 → H2 D = some (.lst zs) → Q' v H2) → te ((wipe σ vs).set j (some (.int i))) H' Q')
    (q : ∀ D H2 (zs : List V), H D = none → Iv H2 → H2 D = some (.lst zs) → zs.length = m → (∀ (k : Nat) v, zs[k]? = some v → Pe (lo + (k : Nat)) v) → Q (.ref D) H2) :
    LcRun (gName j) tYes te vs σ Q (Itr lo m) H := by
  intro Dl hD
  refine lc_range (fun k H' => Iv H' ∧ ∃ zs : List V, H' Dl = some (.lst zs) ∧ zs.length = k ∧ ∀ (i : Nat) v, zs[i]? = some v → Pe (lo + (i : Nat)) v)
    ⟨stab H Dl [] hD h0 (.inl hD), [], by rw [upd_same], rfl, fun i v h => by simp at h⟩ (fun k H' hk pp => ?_) fun H' pp => ?_
  · obtain ⟨e1, zs, hzs, hlen, hall⟩ := pp
    refine ⟨hw _, ?_⟩
    refine x_true (B := True) ?_
    refine he (lo + (k : Nat)) (by omega) (by omega) H' Dl zs hD hzs e1 _ fun v H2 hv e2 g2 => ?_
    refine ⟨_, g2, by rw [hlen]; exact szl (by omega), stab H2 Dl _ hD e2 (.inr ⟨_, g2⟩), zs ++ [v], by rw [upd_same], by rw [List.length_append, hlen]; rfl, fun i y hi => ?_⟩
    by_cases h : i < zs.length
    · rw [List.getElem?_append_left h] at hi
      exact hall i y hi
    · have h2 := (List.getElem?_eq_some_iff.mp hi).1
      rw [List.length_append, List.length_singleton] at h2
      have h3 : i = zs.length := by omega
      subst h3
      rw [List.getElem?_append_right (Nat.le_refl _), Nat.sub_self] at hi
      cases hi
      rw [hlen]
      exact hv
  · obtain ⟨e1, zs, hzs, hlen, hall⟩ := pp
    exact q Dl H' zs hD e1 hzs hlen hall
end
theorem updOf {H : Hp} {l : Addr} {o : HO} : Upd H l o (upd H l o) := .mk0
/-- tables and what stood -/
def Grown (T : List (Addr × Str)) (H H' : Hp) : Prop := ExtN H H' ∧ Tabs T H'
theorem Grown.refl {T : List (Addr × Str)} {H : Hp} (t : Tabs T H) : Grown T H H := ⟨LamX.ExtN.refl _, t⟩
theorem Grown.trans {T : List (Addr × Str)} {H H' H2 : Hp} (a : Grown T H H') (b : Grown T H' H2) : Grown T H H2 := ⟨LamX.ExtN.trans a.1 b.1, b.2⟩
theorem Grown.ex {T : List (Addr × Str)} {H H' H2 : Hp} (a : Grown T H H') (b : Ex H' H2) : Grown T H H2 := ⟨LamX.ExtN.trans a.1 (ExtN.ex b), LamX.Tabs.ext a.2 b⟩
theorem Grown.updF {T : List (Addr × Str)} {H H' : Hp} {D : Addr} {ys : List V} (a : Grown T H H') (hD : ∃ Hk, ExtN H Hk ∧ Hk D = none) (h : H' D = none ∨ ∃ xs, H' D = some (.lst xs)) : Grown T H (L2.upd H' D (.lst ys)) := by
  refine ⟨B.ExtN.upd a.1 updOf hD, ?_⟩
  rcases h with h | ⟨xs, h⟩
  · exact LamX.Tabs.ext a.2 (Evl.Ex.new h)
  · exact B.Tabs.updL a.2 updOf h
theorem Grown.upd {T : List (Addr × Str)} {H H' : Hp} {D : Addr} {ys : List V} (a : Grown T H H') (hD : H D = none) (h : H' D = none ∨ ∃ xs, H' D = some (.lst xs)) : Grown T H (L2.upd H' D (.lst ys)) := a.updF ⟨H, LamX.ExtN.refl _, hD⟩ h
/-! ### lists of texts compared -/
theorem eqv_strs : ∀ (as bs : List Str), PyData.eqvAll (as.map PyData.str) (bs.map PyData.str) = decide (as = bs)
  | [], [] => by simp [PyData.eqvAll]
  | [], _ :: _ => by simp [PyData.eqvAll]
  | _ :: _, [] => by simp [PyData.eqvAll]
  | a :: as, b :: bs => by
    show (PyData.eqv (.str a) (.str b) && PyData.eqvAll (as.map PyData.str) (bs.map PyData.str)) = _
    rw [eqv_strs as bs]
    by_cases e1 : a = b <;> by_cases e2 : as = bs <;> simp [e1, e2, PyData.eqv]
theorem dp_strs {K : Frag} {H : Hp} : ∀ as : List Str, DpAll K H (as.map V.str) (as.map PyData.str)
  | [] => .nil
  | a :: as => .cons (.str a) (dp_strs as)
theorem can_strs : ∀ as : List Str, (∀ s ∈ as, PyData.strOk s = true) → PyData.canLayAll0 (as.map PyData.str) = true ∧ PyData.depthAll (as.map PyData.str) ≤ 1
  | [], _ => by decide
  | a :: as, ok => by
    obtain ⟨h1, h2⟩ := can_strs as fun s hs => ok s (List.mem_cons_of_mem _ hs)
    have h3 := ok a List.mem_cons_self
    simp_all [PyData.canLayAll0, PyData.canLay0, PyData.depthAll, PyData.depth]
theorem shaped_strs {as : List Str} (ok : ∀ s ∈ as, PyData.strOk s = true) : SeqAt.shaped (.list (as.map PyData.str)) = true := by
  obtain ⟨h1, h2⟩ := can_strs as ok
  simp only [SeqAt.shaped, PyData.canLay0, PyData.depth, h1, Bool.true_and, decide_eq_true_eq]
  exact decide_eq_true (by omega)
section
variable {K : Frag} {H : Hp} {Q : VK} {a b : Addr} {ss ts : List Str}
theorem x_eqS (h1 : SqL K H a (ss.map V.str)) (h2 : SqL K H b (ts.map V.str)) (o1 : ∀ s ∈ ss, PyData.strOk s = true) (o2 : ∀ s ∈ ts, PyData.strOk s = true) (q : Q (.bl (decide (ss = ts))) H) : rEqD K (.ref a) (.ref b) H Q :=
  ⟨_, _, .lst h1 (dp_strs ss), .lst h2 (dp_strs ts), shaped_strs o1, shaped_strs o2, by rw [show PyData.eqv (.list (ss.map PyData.str)) (.list (ts.map PyData.str)) = PyData.eqvAll (ss.map PyData.str) (ts.map PyData.str) from by simp only [PyData.eqv], eqv_strs]; exact q⟩
theorem x_neS (h1 : SqL K H a (ss.map V.str)) (h2 : SqL K H b (ts.map V.str)) (o1 : ∀ s ∈ ss, PyData.strOk s = true) (o2 : ∀ s ∈ ts, PyData.strOk s = true) (q : Q (.bl (!decide (ss = ts))) H) : rNeD K (.ref a) (.ref b) H Q :=
  ⟨_, _, .lst h1 (dp_strs ss), .lst h2 (dp_strs ts), shaped_strs o1, shaped_strs o2, by rw [show PyData.eqv (.list (ss.map PyData.str)) (.list (ts.map PyData.str)) = PyData.eqvAll (ss.map PyData.str) (ts.map PyData.str) from by simp only [PyData.eqv], eqv_strs]; exact q⟩
end
/-! ### sep.join(xs) -/
section
variable {K : Frag} {σ : L2.St} {H : Hp} {Q : VK} {to te : TE} {p : Addr} {a : Str} {ys : List Str}
def rJoin (K : Frag) : V → List V → Hp → VK → Prop := fun x xs H Q => ∃ a p, ∃ ys : List Str, x = .str a ∧ xs = [.ref p] ∧ (SqL K H p (ys.map V.str) ∨ SqT K H p (ys.map V.str)) ∧ (ys.map (·.length)).sum + ys.length * a.length ≤ 16777216 ∧ Q (.str (Txt.join a ys)) H
def rM1 (r : V → List V → Hp → VK → Prop) (te : TE) (σ : L2.St) (Q : VK) : V → Hp → Prop := fun x H1 => (∃ a, x = .str a) ∧ te σ H1 fun y H2 => r x [y] H2 Q
theorem pe_join {X : Cx} {o e : Expr} {apos pos : Pos} (ho : PE X o to) (he : PE X e te) (hs : starEach [e] X.env = [(false, eval e X.env)] := by rfl) (hb : attributeBase o "join" X.env (eval o X.env) = eval o X.env := by rfl) (hl : (apos.endLine == pos.line) = true := by rfl) : PE X (.Call (.Attribute o "join" apos) [e] [] pos) (tM1 (rJoin X.K) to te) := L2.pe_join ho he hs hb hl
theorem x_M1 {r : V → List V → Hp → VK → Prop} (h : to σ H (rM1 r te σ Q)) : tM1 r to te σ H Q := h
theorem x_onS {r : V → List V → Hp → VK → Prop} (h : te σ H fun y H2 => r (.str a) [y] H2 Q) : rM1 r te σ Q (.str a) H := ⟨⟨a, rfl⟩, h⟩
theorem x_joinL (h : SqL K H p (ys.map V.str)) (hz : (ys.map (·.length)).sum + ys.length * a.length ≤ 16777216) (q : Q (.str (Txt.join a ys)) H) : rJoin K (.str a) [.ref p] H Q := ⟨a, p, ys, rfl, rfl, .inl h, hz, q⟩
end
end B

namespace B
open PySem PySem.Spec PyProof.Rows L2
open LamX (Tabs ExtN)
/-! ### range(n) as a value -/
def rRng1 : List V → Hp → VK → Prop := fun vs H Q => ∃ j, vs = [V.int j] ∧ ∀ p, H p = none → Q (.ref p) (L2.upd H p (.rng 0 j))
theorem call_rng1 {X : Cx} : CallR X (.type "range") rRng1 := by
  intro pins s σ H vs us Q I r h
  obtain ⟨j, rfl, q⟩ := h
  obtain ⟨u1, rfl, ri⟩ := vals1 r
  obtain ⟨t, rfl⟩ := ri
  refine call_range_1 ⟨.ref s.heap.objs.size, L2.upd H s.heap.objs.size (.rng 0 j), I.laid (t' := s.toks + 1 + 1) (fun b o e => Heap.get?_push_of_some _ e) (Nat.le_refl _) ?_, rfl, q _ (I.hok.fresh (Nat.le_refl _))⟩
  exact ⟨s.toks, t, s.toks + 1, Heap.get?_push_size _ rfl⟩
theorem x_rng1V {H : Hp} {Q : VK} {j : Int} (q : ∀ p H', H p = none → Evl.Ex H H' → H' p = some (.rng 0 j) → Q (.ref p) H') : rRng1 [.int j] H Q := ⟨j, rfl, fun p hp => q p _ hp (Evl.Ex.new hp) upd_same⟩
/-! ### len(set(xs)) -/
theorem nodup_le' : ∀ {l m : List Int}, l.Nodup → (∀ x ∈ l, x ∈ m) → l.length ≤ m.length
  | [], m, _, _ => Nat.zero_le _
  | a :: l, m, h, s => by
    obtain ⟨h1, h2⟩ := List.nodup_cons.mp h
    have ha := s a List.mem_cons_self
    have := nodup_le' (m := m.erase a) h2 fun x hx => by
      have hne : x ≠ a := fun z => h1 (z ▸ hx)
      exact (List.mem_erase_of_ne hne).mpr (s x (List.mem_cons_of_mem _ hx))
    rw [List.length_erase_of_mem ha] at this
    have := List.length_pos_of_mem ha
    rw [List.length_cons]
    omega
theorem nodup_of_count : ∀ {ns L : List Int}, L.Nodup → (∀ x ∈ L, x ∈ ns) → ns.length ≤ L.length → ns.Nodup
  | [], _, _, _, _ => List.nodup_nil
  | a :: t, L, hL, hs, hl => by
    have key : ∀ {M : List Int}, M.Nodup → (∀ x ∈ M, x ∈ t) → M.length ≤ t.length := fun h s => nodup_le' h s
    rw [List.length_cons] at hl
    by_cases ha : a ∈ L
    · have hE : (L.erase a).Nodup := hL.erase a
      have hm : ∀ x ∈ L.erase a, x ∈ t := fun x hx => by
        have h2 := (List.Nodup.mem_erase_iff hL).mp hx
        rcases List.mem_cons.mp (hs x h2.2) with z | z
        · exact absurd z h2.1
        · exact z
      have hlen := List.length_erase_of_mem ha
      refine List.nodup_cons.mpr ⟨fun at_ => ?_, nodup_of_count hE hm (by omega)⟩
      have := key hL fun x hx => by
        rcases List.mem_cons.mp (hs x hx) with z | z
        · rw [z]; exact at_
        · exact z
      omega
    · have := key hL fun x hx => by
        rcases List.mem_cons.mp (hs x hx) with z | z
        · rw [z] at hx; exact absurd hx ha
        · exact z
      omega
theorem step_nodup {l : List Int} {v : Int} (h : l.Nodup) : (step_dedup l v).Nodup := by
  unfold step_dedup
  split
  · exact h
  · next c =>
    refine List.nodup_append.mpr ⟨h, List.nodup_cons.mpr ⟨nofun, List.nodup_nil⟩, fun a ha b hb => ?_⟩
    rw [List.mem_singleton.mp hb]
    intro z
    subst z
    exact c (List.any_eq_true.mpr ⟨a, ha, beq_self_eq_true a⟩)
theorem met_nodup (val : Nat → Int) : ∀ i, (firstMet val i).Nodup
  | 0 => List.nodup_nil
  | i + 1 => by
    rw [firstMet_succ]
    exact step_nodup (met_nodup val i)
theorem met_mem (ns : List Int) : ∀ i, i ≤ ns.length → ∀ x ∈ firstMet (fun i => ns.getD i 0) i, x ∈ ns
  | 0, _, x, h => by cases h
  | i + 1, hi, x, h => by
    rw [firstMet_succ] at h
    unfold step_dedup at h
    split at h
    · exact met_mem ns i (by omega) x h
    · rcases List.mem_append.mp h with h | h
      · exact met_mem ns i (by omega) x h
      · rw [List.mem_singleton.mp h, List.getD_eq_getElem?_getD, List.getElem?_eq_getElem (by omega : i < ns.length)]
        exact List.getElem_mem _
theorem met_count (ns : List Int) : (firstMet (fun i => ns.getD i 0) ns.length).length = ns.length ↔ ns.Nodup := by
  constructor
  · intro h
    exact nodup_of_count (met_nodup _ _) (met_mem ns _ (Nat.le_refl _)) (by omega)
  · intro h
    have le := firstMet_length_le (fun i => ns.getD i 0) ns.length
    have ge := nodup_le' (m := firstMet (fun i => ns.getD i 0) ns.length) h fun x hx => by
      have e := firstMet_any (fun i => ns.getD i 0) ns.length x
      have t : ((List.range ns.length).map fun i => ns.getD i 0).any (· == x) = true := by
        obtain ⟨i, hi, rfl⟩ := List.getElem_of_mem hx
        refine List.any_eq_true.mpr ⟨ns[i], List.mem_map.mpr ⟨i, List.mem_range.mpr hi, ?_⟩, beq_self_eq_true _⟩
        rw [List.getD_eq_getElem?_getD, List.getElem?_eq_getElem hi]
        rfl
      rw [t] at e
      obtain ⟨y, hy, ey⟩ := List.any_eq_true.mp e
      rw [← eq_of_beq ey]
      exact hy
    omega
def tLenSetQ (K : PySem.W.Frag) (ta : TE) : TE := fun σ H Q => ta σ H fun x H1 => ∃ (l : Addr) (ns : List Int), x = .ref l ∧ Sq K H1 l (ns.map V.int) ∧ ns.length ≤ 4000 ∧ ∀ m : Nat, (m = ns.length ↔ ns.Nodup) → m ≤ ns.length → Q (.int (m : Nat)) H1
theorem pe_lenSetQ {X : Cx} {a : Expr} {ta : TE} {p p2 q pos : Pos} (hc : X.calm = true) (hg : Gl X "len") (hm : X.mg "len" = none) (hg2 : Gl X "set") (hm2 : X.mg "set" = none) (ha : PE X a ta)
    (na : starEach [a] X.env = (false, eval a X.env) :: starEach [] X.env := by rfl) : PE X (.Call (.Name "len" p) [.Call (.Name "set" p2) [a] [] q] [] pos) (tLenSetQ X.K ta) := by
  refine ⟨fun pins s σ H Q I h => ?_⟩
  refine Call_ (ld_blt I hg hm PySem.boot_len ?_)
  refine PyProof.Rows.callWith_builtin1 (PyProof.Rows.args_cons ?_ rfl) rfl rfl
  refine Call_ (ld_blt I hg2 hm2 PyProof.Rows.boot_set ?_)
  refine PyProof.Rows.callWith_type1 (PyProof.Rows.args_cons (thn (ha.run pins s σ H _ I h) fun v s1 ⟨x, H1, I1, r1, q1⟩ => PyProof.Rows.args_nil ?_) na) na rfl
  obtain ⟨l, ns, rfl, hq, h1, q1⟩ := q1
  cases r1
  rcases hq with hq | hq
  · obtain ⟨its, r, pl, hz⟩ := I1.list hq
    have hl : its.toArray.size = ns.length := by rw [List.size_toArray, ← r.length, List.length_map]
    refine call_set_list (I1.ok.hd hc) pl.isList (ns := ns) (by simpa using r.ints) (by unfold scanBound; omega) fun h' tk hS hk => ?_
    rw [hl] at hS
    refine PyProof.Rows.args_nil ?_
    obtain ⟨o, es, ep, t, ho, hex, hd, _, _, _, hf, hn⟩ := hS
    have I2 : Inv X pins σ H1 { s1 with heap := h', toks := tk } := I1.kept fun b o e => hk b o (Heap.lt_size e) e
    have le := firstMet_length_le (fun i => ns.getD i 0) ns.length
    refine call_len_set ho hex hd hf (by rw [hn] <;> omega) ⟨.int es.size, H1, I2.tok _, ⟨_, rfl⟩, q1 _ (by rw [hn]; exact met_count ns) (by rw [hn]; exact le)⟩
  · obtain ⟨its, r, pt, hz⟩ := I1.tuple hq
    refine call_set_tupI ns (I1.ok.hd hc) (show s1.heap.IsTuple l its.toArray from pt) (by simpa using r.ints) (by unfold scanBound; omega) fun h' tk c R1 hcn k => ?_
    refine PyProof.Rows.args_nil ?_
    obtain ⟨o, es, ep, t, ho, hex, hd, g, nd, hm2, hb, hf, hn, hr, hl2⟩ := R1
    have I2 : Inv X pins σ H1 { s1 with heap := h', toks := tk } := I1.kept fun b o e => k b o e
    have mem : ∀ x, x ∈ es.toList.map keyOf ↔ x ∈ ns := fun x => (hm2 x).symm.trans (by simp)
    have len : (es.toList.map keyOf).length = c := by rw [List.length_map, Array.length_toList, hn]
    refine call_len_set ho hex hd hf (by rw [hn] <;> omega) ⟨.int es.size, H1, I2.tok _, ⟨_, rfl⟩, q1 _ ?_ (by omega)⟩
    rw [hn]
    constructor
    · intro e
      exact nodup_of_count nd (fun x hx => (mem x).mp hx) (by omega)
    · intro hnd
      have := nodup_le' hnd fun x hx => (mem x).mpr hx
      omega
theorem x_lenSetQ {K : PySem.W.Frag} {ta : TE} {σ : L2.St} {H : Hp} {Q : VK} (h : ta σ H fun x H1 => ∃ (l : Addr) (ns : List Int), x = .ref l ∧ Sq K H1 l (ns.map V.int) ∧ ns.length ≤ 4000 ∧ ∀ m : Nat, (m = ns.length ↔ ns.Nodup) → m ≤ ns.length → Q (.int (m : Nat)) H1) : tLenSetQ K ta σ H Q := h
end B

namespace B
open PySem PySem.Spec PyProof.Rows L2
open PySem.W (Frag)
/-! ### xs += ys, of a name -/
theorem ip_ext {X : Cx} : PIp X .Add L2.rExt2 := fun pins s σ H x y v u Q I r1 r2 h => iop_ext pins s σ H x y v u Q I r1 r2 h
theorem x_ext {H : Hp} {Q : VK} {l b : Addr} {xs zs : List V} (h1 : H l = some (.lst xs)) (h2 : H b = some (.lst zs)) (hz : xs.length + zs.length ≤ 1000000) (q : ∀ H', Upd H l (.lst (xs ++ zs)) H' → Q (.ref l) H') : rExt2 (.ref l) (.ref b) H Q :=
  ⟨l, b, xs, zs, rfl, rfl, h1, h2, sz hz, q _ .mk0⟩
/-! ### dict(zip(xs, range(a, b))) -/
section
variable {prog : Program} {w : World} {A : Around} {E : Value → Shared → Prop} {s : Shared}
/-- what a range draws -/
theorem rng_draws (hh : A.handled = none) (it : Addr) (a : Int) (n : Nat) : Draws prog w A it [it] n (fun i v => ∃ t, v = .int (a + (i : Nat)) t) (fun i h => IsRangeIter h it (a + (i : Nat)) ((n : Int) - (i : Nat)) 1) where
  live := fun i h st => ⟨_, st⟩
  frame := fun i h h' st hk => hk it (by simp) _ st
  item := fun i s Q E hi st hQ => by
    unfold Builtin.SmallTypes.nextOf
    refine wpAny_bind (CpRep.range_item st (by omega) fun h' hit hs => wpAny_pure ?_)
    refine hQ _ h' _ ⟨_, rfl⟩ ?_ hs
    have e1 : a + (i : Nat) + 1 = a + ((i + 1 : Nat) : Int) := by omega
    have e2 : (n : Int) - (i : Nat) - 1 = (n : Int) - ((i + 1 : Nat) : Int) := by omega
    rw [← e1, ← e2]
    exact hit
  done := fun s Q E st hE => by
    unfold Builtin.SmallTypes.nextOf
    refine wpAny_bind (CpRep.range_end hh st (by omega) fun e h' he hx => ?_)
    obtain ⟨a, o, fs, rfl, h1, h2, _⟩ := he
    exact hE h' a hx ⟨_, h1, h2⟩
/-- the next item of a zip whose last tuple is still out -/
theorem heldD_item {z TI TO T i1 i2 : Addr} {f : Bool} {oT : Obj} {fp1 fp2 : List Addr} {n1 n2 i : Nat} {P1 P2 : Nat → Value → Prop} {St1 St2 : Nat → Heap → Prop} {Q : Option Value → Shared → Prop} (S : ZipSep2 z TI TO i1 i2 fp1 fp2)
    (D1 : Draws prog w A.in1 i1 fp1 n1 P1 St1) (D2 : Draws prog w A.in1 i2 fp2 n2 P2 St2) (zs : IsZipHeld s.heap z TI TO T f) (tt : s.heap.get? T = some oT) (ti : IsPair s.heap TI (.ref i1) (.ref i2)) (s1 : St1 i s.heap) (s2 : St2 i s.heap) (l1 : i < n1) (l2 : i < n2)
    (hQ : ∀ x y h' tk, P1 i x → P2 i y → IsZipHeld h' z TI TO T true → St1 (i + 1) h' → St2 (i + 1) h' → IsPair h' s.heap.objs.size x y → (∀ c o, c ≠ z → c ≠ i1 → c ≠ i2 → s.heap.get? c = some o → h'.get? c = some o) → Q (some (.ref s.heap.objs.size)) { s with heap := h', toks := tk }) :
    wpAny (model prog w) A (pyNext (.ref z)) Q E s := by
  have ty : s.TypeIs (.ref z) "zip" := ⟨_, zs, rfl⟩
  unfold pyNext
  refine wpAny_bind (wpAny_attempt (wpAny_callSpecial?_slot (name := Str.ofString "__next__") ty F.slot_zip_next (wpAny_call_entry F.slot_zip_next ty F.entry_zip_next ?_ (F.args_zip_next_1 _))))
  obtain ⟨hp, g, d, tk0, os⟩ := s
  show wpAny _ _ (field (.ref z) 2 >>= _) _ _ _; refine wpAny_bind (wpAny_field zs rfl (x := .bool false) rfl ?_)
  show wpAny _ _ (field (.ref z) 3 >>= _) _ _ _; refine wpAny_bind (wpAny_field zs rfl (x := .ref TI) rfl ?_)
  refine wpAny_bind (wpAny_seqItems ti rfl ?_); show wpAny _ _ (Builtin.SmallTypes.ownedTupleIsFree (.ref z) >>= _) _ _ _
  refine wpAny_bind (wpAny_tupleHeld_zip zs tt fun ha za ka => ?_)
  replace ka : Heap.SameBut z hp ha := ka
  simp only [Bool.false_eq_true, if_false]; refine wpAny_bind ?_; rw [← Array.forIn_toList]
  simp only [List.forIn_cons, List.forIn_nil]; refine wpAny_bind (wpAny_bind (wpAny_holding ?_)); show wpAny _ _ (Builtin.SmallTypes.nextOf (.ref i1) >>= _) _ _ ⟨ha, g, d, tk0, os⟩
  refine wpAny_bind (D1.item i _ _ _ l1 (D1.over s1 ka S.zf1) fun x hb tk1 px sb kb => wpAny_pure (wpAny_pure ?_))
  replace kb : Heap.SameBut i1 ha hb := kb
  refine wpAny_bind (wpAny_bind (wpAny_holding ?_)); show wpAny _ _ (Builtin.SmallTypes.nextOf (.ref i2) >>= _) _ _ ⟨hb, g, d, tk1, os⟩
  refine wpAny_bind (D2.item i _ _ _ l2 (D2.over (D2.over s2 ka S.zf2) kb S.sep1_2) fun y hc tk2 py sc kc => wpAny_pure (wpAny_pure (wpAny_pure ?_)))
  replace kc : Heap.SameBut i2 hb hc := kc
  show wpAny _ _ (newTuple [x, y] >>= _) _ _ _; refine wpAny_bind (wpAny_newTuple ?_)
  have sz : hc.objs.size = hp.objs.size := by rw [kc.1, kb.1, ka.1]
  have zc : IsZipHeld hc z TI TO T true := kc.extBut _ _ S.zi2 (kb.extBut _ _ S.zi1 za)
  have up : ∀ c o, c ≠ z → c ≠ i1 → c ≠ i2 → hp.get? c = some o → hc.get? c = some o := fun c o c1 c2 c3 e => kc.extBut _ _ c3 (kb.extBut _ _ c2 (ka.extBut _ _ c1 e))
  refine wpAny_pure ⟨_, rfl, wpAny_pure ?_⟩
  have pr : IsPair (hc.push { cls := .type "tuple", data := .seq #[x, y] }) hc.objs.size x y := Heap.get?_push_size _ rfl
  rw [sz] at pr
  show Q (some (.ref hc.objs.size)) _
  rw [sz]
  exact hQ x y _ tk2 px py (Heap.get?_push_of_some _ zc) (D1.frame _ _ _ (D1.over sb kc S.sep2_1) fun b _ o e => Heap.get?_push_of_some _ e) (D2.frame _ _ _ sc fun b _ o e => Heap.get?_push_of_some _ e) pr fun c o c1 c2 c3 e => Heap.get?_push_of_some _ (up c o c1 c2 c3 e)
/-- its end -/
theorem heldD_end {z TI TO T i1 i2 : Addr} {f : Bool} {oT : Obj} {fp1 fp2 : List Addr} {n1 : Nat} {P1 : Nat → Value → Prop} {St1 : Nat → Heap → Prop} {Q : Option Value → Shared → Prop} (S : ZipSep2 z TI TO i1 i2 fp1 fp2)
    (D1 : Draws prog w A.in1 i1 fp1 n1 P1 St1) (zs : IsZipHeld s.heap z TI TO T f) (tt : s.heap.get? T = some oT) (ti : IsPair s.heap TI (.ref i1) (.ref i2)) (s1 : St1 n1 s.heap)
    (hQ : ∀ h', (∀ c o, c ≠ z → c ≠ i1 → c ≠ i2 → s.heap.get? c = some o → h'.get? c = some o) → Q none { s with heap := h' }) :
    wpAny (model prog w) A (pyNext (.ref z)) Q E s := by
  have ty : s.TypeIs (.ref z) "zip" := ⟨_, zs, rfl⟩
  unfold pyNext
  refine wpAny_bind (wpAny_attempt (wpAny_callSpecial?_slot (name := Str.ofString "__next__") ty F.slot_zip_next (wpAny_call_entry F.slot_zip_next ty F.entry_zip_next ?_ (F.args_zip_next_1 _))))
  obtain ⟨hp, g, d, tk0, os⟩ := s
  show wpAny _ _ (field (.ref z) 2 >>= _) _ _ _; refine wpAny_bind (wpAny_field zs rfl (x := .bool false) rfl ?_)
  show wpAny _ _ (field (.ref z) 3 >>= _) _ _ _; refine wpAny_bind (wpAny_field zs rfl (x := .ref TI) rfl ?_)
  refine wpAny_bind (wpAny_seqItems ti rfl ?_); show wpAny _ _ (Builtin.SmallTypes.ownedTupleIsFree (.ref z) >>= _) _ _ _
  refine wpAny_bind (wpAny_tupleHeld_zip zs tt fun ha za ka => ?_)
  replace ka : Heap.SameBut z hp ha := ka
  simp only [Bool.false_eq_true, if_false]; refine wpAny_bind ?_; rw [← Array.forIn_toList]
  simp only [List.forIn_cons, List.forIn_nil]; refine wpAny_bind (wpAny_bind (wpAny_holding ?_)); show wpAny _ _ (Builtin.SmallTypes.nextOf (.ref i1) >>= _) _ _ ⟨ha, g, d, tk0, os⟩
  refine wpAny_bind (D1.done ⟨ha, g, d, tk0, os⟩ _ _ (D1.over s1 ka S.zf1) fun q e hq he => ?_)
  obtain ⟨oe, hoe, hce⟩ := he
  refine wpAny_bind (wpAny_isInstance (T := "StopIteration") (b := true) ⟨oe, hoe, hce⟩ isSubtype_stop (wpAny_pure (hQ q fun c o c1 c2 _ e => ?_)))
  exact hq _ _ c2 (ka.extBut _ _ c1 e)
theorem sep_new (m l : Nat) (h : l < m) : ZipSep2 (m + 4 : Nat) (m + 2 : Nat) (m + 3 : Nat) m (m + 1 : Nat) [m, l] [(m + 1 : Nat)] where
  TIz := Nat.ne_of_lt (by omega)
  TOz := Nat.ne_of_lt (by omega)
  TITO := Nat.ne_of_lt (by omega)
  TIi1 := Nat.ne_of_gt (by omega)
  mem1 := List.mem_cons_self
  zf1 := fun x => by
    have x : (m + 4 : Nat) = m ∨ (m + 4 : Nat) = l := by simpa using x
    omega
  Tf1 := fun x => by
    have x : (m + 3 : Nat) = m ∨ (m + 3 : Nat) = l := by simpa using x
    omega
  TIi2 := Nat.ne_of_gt (by omega)
  mem2 := List.mem_cons_self
  zf2 := fun x => by
    have x : (m + 4 : Nat) = m + 1 := by simpa using x
    omega
  Tf2 := fun x => by
    have x : (m + 3 : Nat) = m + 1 := by simpa using x
    omega
  sep1_2 := fun x => by
    have x : (m : Nat) = m + 1 := by simpa using x
    omega
  sep2_1 := fun x => by
    have x : (m + 1 : Nat) = m ∨ (m + 1 : Nat) = l := by simpa using x
    omega
/-- zip over a list and a range, as dict()'s argument -/
theorem zipR_arg (z TI TO i1 i2 l : Addr) (S : ZipSep2 z TI TO i1 i2 [i1, l] [i2]) (hl : l ≠ i1) (xs : Array Value) (a : Int) :
    PairArg prog w "zip" z [z, TI, TO, i1, i2, l] [z, TO, i1, i2] xs.size (fun i k v => xs[i]? = some k ∧ ∃ t, v = .int (a + (i : Nat)) t)
      (fun h => IsZip h z TI TO .none ∧ IsPair h TI (.ref i1) (.ref i2) ∧ (∃ u v, IsPair h TO u v) ∧ (h.IsListIter i1 l 0 ∧ h.IsList l xs) ∧ IsRangeIter h i2 (a + ((0 : Nat) : Int)) ((xs.size : Int) - ((0 : Nat) : Int)) 1) where
  type := fun sh ok => ⟨_, ok.1, rfl⟩
  notDict := by decide
  keep := fun h h' ok hk => by
    obtain ⟨h1, h2, ⟨u, v, h3⟩, ⟨h4, h5⟩, h6⟩ := ok
    exact ⟨hk _ _ h1, hk _ _ h2, ⟨u, v, hk _ _ h3⟩, ⟨h4.at fun o e => hk _ o e, h5.at fun o e => hk _ o e⟩, hk _ _ h6⟩
  there := fun h ok b hb => by
    obtain ⟨h1, h2, ⟨u, v, h3⟩, ⟨⟨o4, h4, _⟩, ⟨o5, h5, _⟩⟩, h6⟩ := ok
    simp only [List.mem_cons, List.not_mem_nil, or_false] at hb
    rcases hb with rfl | rfl | rfl | rfl | rfl | rfl
    · exact ⟨_, h1⟩
    · exact ⟨_, h2⟩
    · exact ⟨_, h3⟩
    · exact ⟨_, h4⟩
    · exact ⟨_, h6⟩
    · exact ⟨_, h5⟩
  sub := fun b hb => by
    simp only [List.mem_cons, List.not_mem_nil, or_false] at hb ⊢
    rcases hb with rfl | rfl | rfl | rfl <;> simp
  noKeys := fun Ar sh Q E hn ok k => getAttrOr_miss_zip ok.1 rfl rfl rfl zip_no_keys (by decide +kernel) hn k
  iter := fun Ar sh d Q E hn ok hd hdf k => by
    obtain ⟨h1, h2, ⟨u, v, h3⟩, h4, h6⟩ := ok
    simp only [List.mem_cons, List.not_mem_nil, or_false, not_or] at hdf
    obtain ⟨dz, dTI, dTO, di1, di2, dl⟩ := hdf
    have D1 := Draws.list (prog := prog) (w := w) (A := Ar.in1) hn i1 l hl xs
    have D2 := rng_draws (prog := prog) (w := w) (A := Ar.in1) hn i2 a xs.size
    refine wpAny_pyIter_zip h1 (k z [z, TO, i1, i2] (fun i h => IsPair h TI (.ref i1) (.ref i2) ∧ (h.IsListIter i1 l i ∧ h.IsList l xs) ∧ IsRangeIter h i2 (a + (i : Nat)) ((xs.size : Int) - (i : Nat)) 1 ∧
      ((IsZip h z TI TO .none ∧ ∃ u v, IsPair h TO u v) ∨ ∃ T f oT, IsZipHeld h z TI TO T f ∧ h.get? T = some oT ∧ T ≠ z ∧ T ≠ i1 ∧ T ≠ i2 ∧ T ≠ d)) sh.heap sh.toks ?_
      ⟨h2, h4, h6, .inl ⟨h1, u, v, h3⟩⟩ (fun _ _ e => e) fun b hb => .inl hb)
    exact {
      off := fun hm => by
        simp only [List.mem_cons, List.not_mem_nil, or_false] at hm
        rcases hm with e | e | e | e
        · exact dz e
        · exact dTO e
        · exact di1 e
        · exact di2 e
      frame := fun i ha hb st hk => by
        obtain ⟨g2, ⟨g4, g5⟩, g6, gz⟩ := st
        refine ⟨hk _ _ (Ne.symm dTI) g2, ⟨g4.at fun o e => hk _ o (Ne.symm di1) e, g5.at fun o e => hk _ o (Ne.symm dl) e⟩, hk _ _ (Ne.symm di2) g6, ?_⟩
        rcases gz with ⟨gz, u, v, gO⟩ | ⟨T, f, oT, gz, gT, r1, r2, r3, r4⟩
        · exact .inl ⟨hk _ _ (Ne.symm dz) gz, u, v, hk _ _ (Ne.symm dTO) gO⟩
        · exact .inr ⟨T, f, oT, hk _ _ (Ne.symm dz) gz, hk _ _ r4 gT, r1, r2, r3, r4⟩
      item := fun i s1 Q1 E1 hi st hds hQ => by
        obtain ⟨g2, g45, g6, gz⟩ := st
        have lt : ∀ {c o}, s1.heap.get? c = some o → s1.heap.objs.size ≠ c := fun e => Nat.ne_of_gt (Heap.lt_size e)
        have n1 : s1.heap.objs.size ≠ i1 := let ⟨_, e, _⟩ := g45.1; lt e
        have n2 : s1.heap.objs.size ≠ i2 := lt g6
        rcases gz with ⟨gz, u, v, gO⟩ | ⟨T, f, oT, gz, gT, r1, r2, r3, r4⟩
        · refine wpAny_pyNext_zipD2_item S D1 D2 gz g2 gO g45 g6 hi hi fun x y h' tk px py b1 _ b3 b4 b5 _ hk => ?_
          exact hQ s1.heap.objs.size _ _ h' tk ⟨px, py⟩ (.inl ⟨_, b5, rfl, _, rfl⟩) ⟨hk _ _ S.TIz S.TITO S.TIi1 S.TIi2 g2, b3, b4, .inr ⟨s1.heap.objs.size, false, _, b1, b5, lt gz, n1, n2, Nat.ne_of_gt hds⟩⟩
            fun c o hc e => hk c o (fun x => hc (by simp [x])) (fun x => hc (by simp [x])) (fun x => hc (by simp [x])) (fun x => hc (by simp [x])) e
        · refine heldD_item S D1 D2 gz gT g2 g45 g6 hi hi fun x y h' tk px py b1 b3 b4 b5 hk => ?_
          exact hQ s1.heap.objs.size _ _ h' tk ⟨px, py⟩ (.inl ⟨_, b5, rfl, _, rfl⟩) ⟨hk _ _ S.TIz S.TIi1 S.TIi2 g2, b3, b4, .inr ⟨T, true, oT, b1, hk _ _ r1 r2 r3 gT, r1, r2, r3, r4⟩⟩
            fun c o hc e => hk c o (fun x => hc (by simp [x])) (fun x => hc (by simp [x])) (fun x => hc (by simp [x])) e
      done := fun s1 Q1 E1 st hQ => by
        obtain ⟨g2, g45, g6, gz⟩ := st
        rcases gz with ⟨gz, u, v, gO⟩ | ⟨T, f, oT, gz, gT, r1, r2, r3, r4⟩
        · refine wpAny_pyNext_zipD2_end S D1 D2 gz g2 gO g45 g6 (Nat.le_refl _) (Nat.le_refl _) (.inl rfl) fun h' tk hk => hQ h' tk fun c o hc e => ?_
          exact hk c o (fun x => hc (by simp [x])) (fun x => hc (by simp [x])) (fun x => hc (by simp [x])) (fun x => hc (by simp [x])) e
        · refine heldD_end S D1 gz gT g2 g45 fun h' hk => hQ h' s1.toks fun c o hc e => ?_
          exact hk c o (fun x => hc (by simp [x])) (fun x => hc (by simp [x])) (fun x => hc (by simp [x])) e }
/-- how a range begins -/
theorem begins_rng (r : Addr) {a b : Int} {t u v : Tok} (h : Builtin.Range.small a b 1 = true) : Begins (.ref r) { cls := .type "range_iterator", data := .fields #[rawInt a, rawInt (Builtin.Range.rangeSize a b 1), rawInt 1] } fun h => IsRange h r a b 1 t u v where
  iter := fun p w A E s Q hr k => wpAny_pyIter_range hr h k
  keeps := fun h h' x hk => hk _ _ x
  free := rfl
end
/-- ks with the numbers from a on -/
def numbered (a : Int) (ks : List Int) : List (Key × V) := ks.zipIdx.map fun p => (.inl p.1, .int (a + ((p.2 : Nat) : Int)))
theorem numbered_at (a : Int) (ks : List Int) (i : Nat) : (numbered a ks)[i]? = ks[i]?.map fun k => (Sum.inl k, V.int (a + (i : Nat))) := by
  unfold numbered
  rw [List.getElem?_map, List.getElem?_zipIdx]
  cases ks[i]? with
  | none => rfl
  | some k => simp
theorem mergeK_take (kvs : List (Key × V)) (i : Nat) (kv : Key × V) (h : kvs[i]? = some kv) : mergeK [] (kvs.take (i + 1)) = putK (mergeK [] (kvs.take i)) kv.1 kv.2 := by
  unfold mergeK
  rw [take_snoc h, List.foldl_append]
  rfl
def tDictZip (K : Frag) (te : TE) (tg : L2.St → Hp → (Int → Int → Hp → Prop) → Prop) : TE := fun σ H Q => te σ H fun x H1 => tg σ H1 fun a b H2 => ∃ (l : Addr) (ks : List Int), x = .ref l ∧ SqL K H2 l (ks.map V.int) ∧ RgOk a b ∧ (b - a).toNat = ks.length ∧ ks.length ≤ 1000000 ∧
  ∀ d, H2 d = none → Q (.ref d) (upd H2 d (.dK (mergeK [] (numbered a ks))))
theorem pe_dictZip {X : Cx} {e er : Expr} {te : TE} {tg : L2.St → Hp → (Int → Int → Hp → Prop) → Prop} {p p2 p3 pos : Pos} (hc : X.calm = true) (hg : Gl X "dict") (hm : X.mg "dict" = none) (hg2 : Gl X "zip") (hm2 : X.mg "zip" = none) (he : PE X e te) (hr : PRg X er tg)
    (na : starEach [e, er] X.env = (false, eval e X.env) :: starEach [er] X.env := by rfl) (nb : starEach [er] X.env = (false, eval er X.env) :: starEach [] X.env := by rfl) (hp : (backTo p3 (starEach [er] X.env)).any (·.1) = false := by rfl) :
    PE X (.Call (.Name "dict" p) [.Call (.Name "zip" p2) [e, er] [] p3] [] pos) (tDictZip X.K te tg) := by
  refine ⟨fun pins s σ H Q I h => ?_⟩
  refine Call_ (ld_blt I hg hm PyProof.Rows.boot_dict ?_)
  refine PyProof.Rows.callWith_type1 (PyProof.Rows.args_cons ?_ rfl) rfl rfl
  refine Call_ (ld_blt I hg2 hm2 PyProof.Rows.boot_zip ?_)
  refine PyProof.Rows.callWith_type1 (PyProof.Rows.args_cons (thn (he.run pins s σ H _ I h) fun v s1 ⟨x, H1, I1, r1, q1⟩ => PyProof.Rows.args_cons (thn (hr pins s1 σ H1 _ I1 q1) fun u s2 ⟨r, a, b, t, t', t'', H2, eu, hrng, I2, q2⟩ => PyProof.Rows.args_nil ?_) nb) na) na hp
  obtain ⟨l, ks, rfl, hl, ⟨b1, b2, b3, b4, b5⟩, hn, hz, q⟩ := q2
  cases r1
  subst eu
  obtain ⟨its, rv, pl, hsz⟩ := I2.list hl
  have len : its.toArray.size = ks.length := by rw [List.size_toArray, ← rv.length, List.length_map]
  have rs : Builtin.Range.rangeSize a b 1 = (its.toArray.size : Int) := by rw [rangeSize_nat a b, hn, len]
  refine zip_begins2 (begins_list l its.toArray) (begins_rng r (small_one b1 b2 b3 b4)) pl.isList hrng fun h' z1 z2 z3 z4 z5 z6 zk => ?_
  have I3 : Inv X pins σ H2 { s2 with heap := h' } := I2.kept fun b o e => zk b o e
  refine PyProof.Rows.args_nil ?_
  obtain ⟨ol, hol, clo, n0, dol⟩ := pl.isList
  have llt : l < s2.heap.objs.size := Heap.lt_size hol
  have S : ZipSep2 (s2.heap.objs.size + 4) (s2.heap.objs.size + 2) (s2.heap.objs.size + 3) s2.heap.objs.size (s2.heap.objs.size + 1) [s2.heap.objs.size, l] [s2.heap.objs.size + 1] := by
    exact sep_new _ _ llt
  have P := zipR_arg (prog := X.prog) (w := X.w) _ _ _ _ _ l S (Nat.ne_of_lt llt) its.toArray a
  have hnum : (numbered a ks).length = its.toArray.size := by unfold numbered; rw [List.length_map, List.length_zipIdx, len]
  refine call_dict_arg P ⟨z1, z2, ⟨_, _, z3⟩, ⟨⟨_, z4, rfl, rfl⟩, ⟨ol, zk _ _ hol, clo, n0, dol⟩⟩, by rw [rs] at z5; show h'.get? _ = _; rw [z5]; simp⟩ fun s3 e3 hdf ok3 => ?_
  subst e3
  have hh : X.A.handled = none := I.ok.hd hc
  refine updateFrom_arg (A := X.A.in1) (Tab := fun i g => ∃ rs : List (Key × Value), KV (mergeK [] ((numbered a ks).take i)) rs ∧ g.DictOf (mixKind X.prog X.w) h'.objs.size rs) P .none hh ok3 hdf ⟨[], .nil, Heap.DictOf.new h'⟩
    (fun i g ⟨rs, _, tb⟩ => tb.lt_size) (fun i g g' wr' hd _ ⟨rs, r, tb⟩ hk => ⟨rs, r, tb.at' fun o e => hk _ o hd e⟩) ?_ ?_
  · rintro i k v s' Q' E' hi ⟨hk, t2, hv⟩ ⟨rs, rel, tb⟩ _ hQ
    obtain ⟨n, hkn⟩ : ∃ n, ks[i]? = some n := ⟨_, List.getElem?_eq_getElem (by omega)⟩
    obtain ⟨u, hu, ru⟩ := rv.get (i := i) (x := .int n) (by rw [List.getElem?_map, hkn]; rfl)
    have eu : k = u := by
      have : its[i]? = some k := by simpa using hk
      rw [hu] at this
      exact (Option.some.inj this).symm
    subst eu
    have lm : (mergeK [] ((numbered a ks).take i)).length ≤ sizeLine := by
      have h1 := length_mergeK ((numbered a ks).take i) []
      rw [List.length_nil, List.length_take] at h1
      rw [sizeLine_eq]
      omega
    refine wpAny_dictSet_pairs (k := (Sum.inl n : Key)) (hsz := by rw [← rel.length]; exact lm) (kV_is (k := .inl n) ru) tb fun g hm2 hs => hQ g _ ⟨_, ?_, hm2⟩ hs
    rw [mergeK_take _ i (.inl n, .int (a + (i : Nat))) (by rw [numbered_at, hkn]; rfl)]
    exact rel.put (.inl n) ⟨t2, hv⟩
  · rintro g tk ⟨rs, rel, tb⟩ hk
    rw [List.take_of_length_le (by omega)] at rel
    have keep : ∀ b o, s2.heap.get? b = some o → g.get? b = some o := fun b o e => by
      have lt := Heap.lt_size e
      have key : ∀ k : Nat, b ≠ s2.heap.objs.size + k := fun k => Nat.ne_of_lt (Nat.lt_of_lt_of_le lt (Nat.le_add_right _ _))
      refine hk b o (fun x => key 5 (x.trans z6)) (fun x => ?_) (Heap.get?_push_of_some _ (zk b o e))
      simp only [List.mem_cons, List.not_mem_nil, or_false] at x
      rcases x with x | x | x | x
      · exact key 4 x
      · exact key 3 x
      · exact key 0 x
      · exact key 1 x
    have hn2 := I3.hok.fresh (Nat.le_refl h'.objs.size)
    have lm : (mergeK [] (numbered a ks)).length ≤ sizeLine := by
      have h1 := length_mergeK (numbered a ks) []
      rw [List.length_nil] at h1
      rw [sizeLine_eq]
      omega
    have new : ObjOk X.prog X.w (upd H2 h'.objs.size (.dK (mergeK [] (numbered a ks)))) g h'.objs.size (.dK (mergeK [] (numbered a ks))) := dk_new lm (beq_eq_false_iff_ne.mpr (Nat.ne_of_gt I3.big)) rel tb
    exact ⟨rfl, .ref h'.objs.size, upd H2 h'.objs.size (.dK (mergeK [] (numbered a ks))), I2.laid (t' := tk) keep (by rw [z6]; exact Nat.le_add_right _ _) new, rfl, q _ hn2⟩
def rDictZip (K : Frag) (Q : VK) (x : V) : Int → Int → Hp → Prop := fun a b H2 => ∃ (l : Addr) (ks : List Int), x = .ref l ∧ SqL K H2 l (ks.map V.int) ∧ RgOk a b ∧ (b - a).toNat = ks.length ∧ ks.length ≤ 1000000 ∧ ∀ d, H2 d = none → Q (.ref d) (upd H2 d (.dK (mergeK [] (numbered a ks))))
theorem x_dictZip {K : Frag} {σ : L2.St} {H : Hp} {Q : VK} {te : TE} {tg : L2.St → Hp → (Int → Int → Hp → Prop) → Prop} (h : te σ H fun x H1 => tg σ H1 (rDictZip K Q x)) : tDictZip K te tg σ H Q := h
theorem x_zipped {K : Frag} {H : Hp} {Q : VK} {l : Addr} {ks : List Int} {b : Int} (hl : SqL K H l (ks.map V.int)) (hb : b = ks.length + 1) (hz : ks.length ≤ 1000000) (q : ∀ d H3, H d = none → Ex H H3 → H3 d = some (.dK (mergeK [] (numbered 1 ks))) → Q (.ref d) H3) : rDictZip K Q (.ref l) 1 b H := by
  subst hb
  exact ⟨l, ks, rfl, hl, ⟨by omega, by omega, by omega, by omega, by omega⟩, by omega, hz, x_new q⟩
theorem numbered_get {a : Int} {ks : List Int} (hn : ks.Nodup) : ∀ (n : Nat), n ≤ ks.length → ∀ (i : Nat) (k : Int), ks[i]? = some k → valV (mergeK [] ((numbered a ks).take n)) (.inl k) = if i < n then some (.int (a + (i : Nat))) else none
  | 0, _, i, k, h => by
    rw [List.take_zero, if_neg (Nat.not_lt_zero i)]
    rfl
  | n + 1, hl, i, k, h => by
    obtain ⟨kn, hkn⟩ : ∃ kn, ks[n]? = some kn := ⟨_, List.getElem?_eq_getElem (by omega)⟩
    rw [mergeK_take _ n (.inl kn, .int (a + (n : Nat))) (by rw [numbered_at, hkn]; rfl), valV_put, numbered_get hn n (by omega) i k h]
    by_cases e : k = kn
    · subst e
      have : i = n := by
        obtain ⟨h1, e1⟩ := List.getElem?_eq_some_iff.mp h
        obtain ⟨h2, e2⟩ := List.getElem?_eq_some_iff.mp hkn
        have pw := List.pairwise_iff_getElem.mp hn
        rcases Nat.lt_trichotomy i n with c | c | c
        · exact absurd (e1.trans e2.symm) (pw _ _ h1 h2 c)
        · exact c
        · exact absurd (e2.trans e1.symm) (pw _ _ h2 h1 c)
      subst this
      rw [if_pos rfl, if_pos (Nat.lt_succ_self _)]
    · have ne : ¬ (Sum.inl k : Key) = .inl kn := fun z => e (Sum.inl.inj z)
      have : i ≠ n := fun z => by
        rw [z, hkn] at h
        exact e (Option.some.inj h).symm
      rw [if_neg ne]
      by_cases c : i < n
      · rw [if_pos c, if_pos (by omega)]
      · rw [if_neg c, if_neg (by omega)]
theorem numbered_all {a : Int} {ks : List Int} (hn : ks.Nodup) {i : Nat} {k : Int} (h : ks[i]? = some k) : valV (mergeK [] (numbered a ks)) (.inl k) = some (.int (a + (i : Nat))) := by
  have := numbered_get (a := a) hn ks.length (Nat.le_refl _) i k h
  rw [if_pos (List.getElem?_eq_some_iff.mp h).1, List.take_of_length_le (by unfold numbered; rw [List.length_map, List.length_zipIdx]; exact Nat.le_refl _)] at this
  exact this
/-- [[] for .. in range(m)] -/
theorem x_lcNew {σ : L2.St} {H : Hp} {Q : VK} {j : Nat} {vs : List Nat} {lo : Int} {m : Nat} (hz : m ≤ 1000000) (hw : ∀ x, wipe ((wipe σ vs).set j (some x)) vs = wipe σ vs)
    (q : ∀ D H2 (rs : List Addr), H D = none → Ex H H2 → H2 D = some (.lst (rs.map V.ref)) → rs.length = m → rs.Nodup → (∀ r ∈ rs, H r = none ∧ r ≠ D ∧ H2 r = some (.lst [])) → Q (.ref D) H2) :
    LcRun (gName j) tYes (tLst tNil) vs σ Q (Itr lo m) H := by
  intro Dl hD
  refine lc_range (fun k H' => Ex H H' ∧ ∃ rs : List Addr, H' Dl = some (.lst (rs.map V.ref)) ∧ rs.length = k ∧ rs.Nodup ∧ ∀ r ∈ rs, H r = none ∧ r ≠ Dl ∧ H' r = some (.lst []))
    ⟨Evl.Ex.new hD, [], by rw [upd_same]; rfl, rfl, List.nodup_nil, fun r h => nomatch h⟩ (fun k H' hk pp => ?_) fun H' pp => ?_
  · obtain ⟨e1, rs, hrs, hlen, nd, hall⟩ := pp
    refine ⟨hw _, ?_⟩
    refine x_true (B := True) ?_
    refine x_true ?_
    refine x_lst ?_
    refine x_nil ?_
    refine x_mkL (by simp) fun p H2 p0 e2 hp => ?_
    have pD : p ≠ Dl := Ne.symm (ne_of_none hrs p0)
    refine ⟨_, e2 _ _ hrs, by rw [List.length_map, hlen]; exact szl (by omega), Evl.Ex.mut (e1.trans e2) hD, rs ++ [p], by rw [upd_same, List.map_append]; rfl, by rw [List.length_append, hlen]; rfl, ?_, fun r hr => ?_⟩
    · rw [List.nodup_append]
      refine ⟨nd, by simp, fun x hx y hy z => ?_⟩
      rw [List.mem_singleton.mp hy] at z
      subst z
      exact absurd p0 (by rw [(hall _ hx).2.2]; nofun)
    · rcases List.mem_append.mp hr with hr | hr
      · obtain ⟨h1, h2, h3⟩ := hall r hr
        exact ⟨h1, h2, by rw [upd_ne h2]; exact e2 _ _ h3⟩
      · rw [List.mem_singleton.mp hr]
        exact ⟨exn e1 p0, pD, by rw [upd_ne pD]; exact hp⟩
  · obtain ⟨e1, rs, hrs, hlen, nd, hall⟩ := pp
    exact q Dl H' rs hD e1 hrs hlen nd hall
end B

namespace B
open PySem PySem.Spec PyProof.Rows L2
open PySem.W (Frag)
/-! ### a dict's values: x in d.values(), list(d.values()) -/
theorem look_vals_in : typeLookup (.type "dict_values") "__contains__" = pure none := am_miss_of_fast (by decide +kernel)
theorem plain_search : plainId "proto.contains_iter" = true := by decide +kernel
theorem entry_search : entryFor table "proto.contains_iter" = some Builtin.«proto.contains_iter» := entryFor_of_fast (by kernel_rfl)
section
variable {prog : Program} {w : World} {A : Around} {E : Value → Shared → Prop} {s : Shared}
/-- a search through what is walked, of ints -/
theorem search_ints {I : Addr} {fp wr : List Addr} {n : Nat} {Pi : Nat → Value → Prop} {St : Nat → Heap → Prop} (W : Walks prog w A.in1 I fp wr n Pi St) {ns : List Int} (hn : ns.length = n) (hP : ∀ i v, Pi i v → ∃ t, v = .int (ns.getD i 0) t) {x : Int} {u : Tok} {h0 : Heap} {R : Result → Shared → Prop}
    (hR : ∀ h' tk, (∀ b o, b ∉ wr → h0.get? b = some o → h'.get? b = some o) → R (.ok (.ret (.bool (decide (x ∈ ns))))) { s with heap := h', toks := tk }) :
    ∀ (k i : Nat) (h : Heap) (tk : Tok), n - i = k → i ≤ n → St i h → (∀ j, j < i → ns.getD j 0 ≠ x) → (∀ b o, b ∉ wr → h0.get? b = some o → h.get? b = some o) →
      codeAny (model prog w) A (.builtin "proto.contains_iter" ⟨[.ref I, .int x u], []⟩) R { s with heap := h, toks := tk } := by
  intro k
  induction k with
  | zero =>
    intro i h tk hk hi st no kp
    obtain rfl : i = n := by omega
    refine codeAny_builtin entry_search ?_; rw [Around.under_plainId plain_search _]
    show wpAny _ A.in1 (pyNext (.ref I) >>= _) _ _ _; refine wpAny_bind (W.done { s with heap := h, toks := tk } _ _ st fun h' tk' hk' => wpAny_bind (wpAny_rule (wpAny_pure ?_)))
    have e : decide (x ∈ ns) = false := by
      rw [decide_eq_false_iff_not]
      intro hm
      obtain ⟨j, hj⟩ := List.getElem?_of_mem hm
      have hl := (List.getElem?_eq_some_iff.mp hj).1
      refine no j (by omega) ?_
      rw [List.getD_eq_getElem?_getD, hj]
      rfl
    have := hR h' tk' fun b o h1 h2 => hk' b o h1 (kp b o h1 h2)
    rw [e] at this
    exact this
  | succ k ih =>
    intro i h tk hk hi st no kp
    refine codeAny_builtin entry_search ?_; rw [Around.under_plainId plain_search _]
    show wpAny _ A.in1 (pyNext (.ref I) >>= _) _ _ _; refine wpAny_bind (W.item i { s with heap := h, toks := tk } _ _ (by omega) st fun v h' tk' hp st' hk' => ?_)
    obtain ⟨t, rfl⟩ := hP i v hp
    have kp' : ∀ b o, b ∉ wr → h0.get? b = some o → h'.get? b = some o := fun b o h1 h2 => hk' b o h1 (kp b o h1 h2)
    refine wpAny_bind (wpAny_eqBool_int ?_)
    by_cases c : ns.getD i 0 = x
    · have e : decide (x ∈ ns) = true := by
        rw [decide_eq_true_iff, ← c, List.getD_eq_getElem?_getD, List.getElem?_eq_getElem (by omega : i < ns.length)]
        exact List.getElem_mem _
      have := hR h' tk' kp'
      rw [e] at this
      rw [if_pos (by rw [c]; exact beq_self_eq_true x)]
      exact wpAny_bind (wpAny_rule (wpAny_pure this))
    · rw [if_neg (by simpa using c)]
      refine wpAny_pure ⟨plainId_quiet plain_search _, ih (i + 1) h' tk' (by omega) (by omega) st' (fun j hj => ?_) kp'⟩
      by_cases e : j < i
      · exact no j e
      · rw [show j = i from by omega]
        exact c
end
/-- the values of a dict, as they stand -/
theorem vals_int {K : Type} [DecidableEq K] {kvs : List (K × V)} {vs : List (K × Value)} (rel : KV kvs vs) {ns : List Int} (hv : kvs.map (·.2) = ns.map V.int) (i : Nat) (v : Value) (h : ∃ k, vs[i]? = some (k, v)) : ∃ t, v = Value.int (ns.getD i 0) t := by
  obtain ⟨k, hk⟩ := h
  obtain ⟨x, h1, h2⟩ := KV.at' rel hk
  have e1 : (kvs.map (·.2))[i]? = some x := by rw [List.getElem?_map, h1]; rfl
  rw [hv, List.getElem?_map] at e1
  obtain ⟨j, hj, e2⟩ := Option.map_eq_some_iff.mp e1
  subst e2
  obtain ⟨t, e3⟩ := h2
  refine ⟨t, ?_⟩
  rw [e3, List.getD_eq_getElem?_getD, hj]
  rfl
def rNotInVals (n : V) (Q : VK) : V → Hp → Prop := fun x H2 => ∃ (a : Addr) (kvs : List (Key × V)) (ns : List Int) (i : Int), n = .int i ∧ x = .ref a ∧ H2 a = some (.dK kvs) ∧ kvs.map (·.2) = ns.map V.int ∧ Q (.bl (!decide (i ∈ ns))) H2
def tNotInVals (tx td : TE) : TE := fun σ H Q => tx σ H fun y H1 => td σ H1 (rNotInVals y Q)
theorem pc_notInVals {X : Cx} {i o : Expr} {tx td : TE} {apos mpos : Pos} (hc : X.calm = true) (hi : PE X i tx) (hd : PE X o td) (hbase : attributeBase o "values" X.env (eval o X.env) = eval o X.env := by rfl) (hline : (apos.endLine == mpos.line) = true := by rfl) :
    PC X .NotIn i (.Call (.Attribute o "values" apos) [] [] mpos) (tNotInVals tx td) := by
  refine ⟨fun pins s σ H Q I h => ?_⟩
  refine thn (hi.run pins s σ H _ I h) fun iv s1 ⟨y, H1, I1, ry, q1⟩ => ?_
  refine wpAny_Call_method0_late hbase hline (thn (hd.run pins s1 σ H1 _ I1 q1) fun u s2 ⟨x, H2, I2, rx, a, kvs, ns, n, ey, ex, ha, hv, q⟩ => ?_)
  subst ex ey
  obtain rfl : u = Value.ref a := rx
  obtain ⟨tn, rfl⟩ := ry
  obtain ⟨_, hsys, vs, rel, dof⟩ := dk_of I2.hok ha
  obtain ⟨ep, dat⟩ := dof.dictAt
  have dat' := dat
  obtain ⟨ob, es, ho, eo, hdat, hko, hpr, hnd⟩ := dat'
  refine ⟨"dict", "dict.values", F.plainAttrs_dict, F.slot_dict_values, F.type_dict_values, ⟨ob, ho, eo.1⟩, fun b z => by cases z; exact ⟨ob, ho, eo.2.1⟩, Calls.callWith_builtin rfl (PySem.evalArgs_none ?_)⟩
  refine call_meetsIn F.slot_dict_values ⟨ob, ho, eo.1⟩ F.entry_dict_values (F.args_dict_values_1 _) (meets_dict_values (mixKind X.prog X.w) a hsys) ⟨⟨vs, dof⟩, ?_⟩
  have kk : ∀ b z, s2.heap.get? b = some z → (s2.heap.push { cls := .type "dict_values", data := .fields #[.ref a] }).get? b = some z := fun b z e => Heap.get?_push_of_some _ e
  have dat2 : (s2.heap.push { cls := .type "dict_values", data := .fields #[.ref a] }).DictAt (mixKind X.prog X.w) a vs ep := dat.keep kk
  have hlv : ns.length = vs.length := by
    have e1 := congrArg List.length hv
    rw [List.length_map, List.length_map] at e1
    rw [← e1]
    exact KV.length rel
  have tyv : Shared.TypeIs { s2 with heap := s2.heap.push { cls := .type "dict_values", data := .fields #[.ref a] } } (.ref s2.heap.objs.size) "dict_values" := ⟨_, Heap.get?_push_size _ rfl, rfl⟩
  have hlt : a < s2.heap.objs.size := Heap.lt_size ho
  have hsz : (s2.heap.push { cls := .type "dict_values", data := .fields #[.ref a] }).objs.size = s2.heap.objs.size + 1 := Heap.size_push _ _
  refine wpAny_bind ?_
  unfold contains
  refine wpAny_holding ?_
  rw [stdlibNamesSay?_of_typeIs tyv]
  refine wpAny_bind (wpAny_specialOf tyv look_vals_in ?_)
  show wpAny _ _ (if ((none : Option Value) == some Value.none) = true then _ else _) _ _ _; rw [if_neg (by simp)]
  refine wpAny_bind ?_
  unfold callSpecialUnlessNone?
  refine wpAny_bind (wpAny_specialOf tyv look_vals_in (wpAny_pure ?_))
  refine wpAny_bind (wpAny_rule ?_)
  refine wpAny_bind (wpAny_tryCatch (wpAny_pyIter_values (v := s2.heap.objs.size) (d := a) ⟨_, Heap.get?_push_size _ rfl, rfl, rfl⟩ dat2 ?_))
  refine wpAny_bind (wpAny_runValue ?_)
  have W := Walks.dictValues (knd := mixKind X.prog X.w) (prog := X.prog) (w := X.w) (A := X.A.in1) (I.ok.hd hc) (s2.heap.push { cls := .type "dict_values", data := .fields #[.ref a] }).objs.size a (by rw [hsz]; exact Nat.ne_of_lt (Nat.lt_succ_of_lt hlt)) vs ep
  refine search_ints (s := s2) W hlv (vals_int rel hv) (h0 := s2.heap) (fun h' tk hk => ?_) vs.length 0 _ s2.toks (Nat.sub_zero _) (Nat.zero_le _) ⟨⟨_, Heap.get?_push_size _ rfl, rfl, rfl⟩, dat2.keep fun b z e => Heap.get?_push_of_some _ e⟩ (fun j hj => absurd hj (Nat.not_lt_zero j)) (fun b z _ e => Heap.get?_push_of_some _ (kk b z e))
  refine wpAny_pure (wpAny_pure ?_)
  refine ⟨.bl (!decide (n ∈ ns)), H2, I2.kept fun b z e => hk b z (fun hm => ?_) e, rfl, q⟩
  have := Heap.lt_size e
  have hm := List.mem_singleton.mp hm
  rw [hsz] at hm
  rw [hm] at this
  exact absurd this (by simp)
def rListVals (Q : VK) : V → Hp → Prop := fun x H1 => ∃ (a : Addr) (kvs : List (Key × V)), x = .ref a ∧ H1 a = some (.dK kvs) ∧ ∀ p, H1 p = none → Q (.ref p) (upd H1 p (.lst (kvs.map (·.2))))
def tListVals (td : TE) : TE := fun σ H Q => td σ H (rListVals Q)
theorem pe_listVals {X : Cx} {o : Expr} {td : TE} {p pos apos mpos : Pos} (hc : X.calm = true) (hg : Gl X "list") (hm : X.mg "list" = none) (hd : PE X o td) (hbase : attributeBase o "values" X.env (eval o X.env) = eval o X.env := by rfl) (hline : (apos.endLine == mpos.line) = true := by rfl) :
    PE X (.Call (.Name "list" p) [.Call (.Attribute o "values" apos) [] [] mpos] [] pos) (tListVals td) := by
  refine ⟨fun pins s σ H Q I h => ?_⟩
  refine Call_ (ld_blt I hg hm B.boot_list ?_)
  refine PyProof.Rows.callWith_type1 (PyProof.Rows.args_cons ?_ rfl) rfl rfl
  refine wpAny_Call_method0_late hbase hline (thn (hd.run pins s σ H _ I h) fun u s2 ⟨x, H2, I2, rx, a, kvs, ex, ha, q⟩ => ?_)
  subst ex
  obtain rfl : u = Value.ref a := rx
  obtain ⟨hz, hsys, vs, rel, dof⟩ := dk_of I2.hok ha
  obtain ⟨ep, dat⟩ := dof.dictAt
  have dat' := dat
  obtain ⟨ob, es, ho, eo, hdat, hko, hpr, hnd⟩ := dat'
  refine ⟨"dict", "dict.values", F.plainAttrs_dict, F.slot_dict_values, F.type_dict_values, ⟨ob, ho, eo.1⟩, fun b z => by cases z; exact ⟨ob, ho, eo.2.1⟩, Calls.callWith_builtin rfl (PySem.evalArgs_none ?_)⟩
  refine call_meetsIn F.slot_dict_values ⟨ob, ho, eo.1⟩ F.entry_dict_values (F.args_dict_values_1 _) (meets_dict_values (mixKind X.prog X.w) a hsys) ⟨⟨vs, dof⟩, ?_⟩
  have kk : ∀ b z, s2.heap.get? b = some z → (s2.heap.push { cls := .type "dict_values", data := .fields #[.ref a] }).get? b = some z := fun b z e => Heap.get?_push_of_some _ e
  have dat2 : (s2.heap.push { cls := .type "dict_values", data := .fields #[.ref a] }).DictAt (mixKind X.prog X.w) a vs ep := dat.keep kk
  have hlen : kvs.length = vs.length := KV.length rel
  refine PyProof.Rows.args_nil ?_
  refine PySem.W.kdl_call (PySem.W.kdl_values (knd := mixKind X.prog X.w) (d := a) (r := s2.heap.objs.size) (kvs := vs) (ep := ep)) (I.ok.hd hc) ⟨⟨_, Heap.get?_push_size _ rfl, rfl, rfl⟩, dat2⟩ (by rw [← hlen]; exact hz) fun h' tk acc c hk hl hacc => ?_
  have hsz : (s2.heap.push { cls := .type "dict_values", data := .fields #[.ref a] }).objs.size = s2.heap.objs.size + 1 := Heap.size_push _ _
  have hv : Vals (kvs.map (·.2)) acc.toList := by
    refine vals_of_at (by rw [List.length_map]; have h1 := hacc.1; have h2 : acc.toList.length = acc.size := Array.length_toList; omega) fun j x u hx hu => ?_
    obtain ⟨k, hk2⟩ := hacc.2 j u (by simpa using hu)
    obtain ⟨y, h1, h2⟩ := KV.at' rel hk2
    rw [List.getElem?_map, h1] at hx
    obtain rfl : y = x := Option.some.inj hx
    exact h2
  refine ⟨.ref (s2.heap.push { cls := .type "dict_values", data := .fields #[.ref a] }).objs.size, _, I2.laid (t' := tk) (fun b z e => hk b z (kk b z e)) (by rw [hsz]; exact Nat.le_succ _) (show ObjOk X.prog X.w _ _ _ (.lst (kvs.map (·.2))) from ⟨?_, acc.toList, c, hv, ?_⟩), rfl, q _ (I2.hok.fresh (by rw [hsz]; exact Nat.le_succ _))⟩
  · rw [List.length_map]; exact hz
  · rw [Array.toArray_toList]; exact hl
end B

namespace B
open PySem PySem.Spec PyProof.Rows L2
open PySem.W (Frag)
/-! ### readings of fields, of a dict's values -/
section
variable {K : Frag} {σ : L2.St} {H : Hp} {Q : VK} {ta tv tx td : TE} {D : Ends} {f : Str} {a C dx : Addr} {fs : List (Str × V)} {v y : V}
def rFld (K : Frag) (f : Str) (Q : VK) : V → Hp → Prop := fun x H1 => ∃ a C dx fs v, x = .ref a ∧ H1 a = some (.ins C dx fs) ∧ Cls K C ∧ NoAttr K C f ∧ fs.lookup f = some v ∧ Q v H1
theorem x_fld (h : ta σ H (rFld K f Q)) : tFld K ta f σ H Q := h
theorem x_onF (ha : H a = some (.ins C dx fs)) (c : Cls K C) (n : NoAttr K C f) (l : fs.lookup f = some v) (q : Q v H) : rFld K f Q (.ref a) H := ⟨a, C, dx, fs, v, rfl, ha, c, n, l, q⟩
def rSFld (K : Frag) (f : Str) (y : V) (D : Ends) (σ : L2.St) : V → Hp → Prop := fun x H2 => ∃ a C dx fs, x = .ref a ∧ H2 a = some (.ins C dx fs) ∧ Cls K C ∧ NoAttr K C f ∧ fs.length < 1000 ∧ D.nx σ (upd H2 a (.ins C dx (putF f y fs)))
theorem x_sfld (h : tv σ H fun y H1 => ta σ H1 (rSFld K f y D σ)) : sFld K ta tv f D σ H := h
theorem x_onSF (ha : H a = some (.ins C dx fs)) (c : Cls K C) (n : NoAttr K C f) (l : fs.length < 1000) (q : ∀ H', Upd H a (.ins C dx (putF f y fs)) H' → D.nx σ H') : rSFld K f y D σ (.ref a) H := ⟨a, C, dx, fs, rfl, ha, c, n, l, q _ .mk0⟩
theorem x_notInVals (h : tx σ H fun y H1 => td σ H1 (rNotInVals y Q)) : tNotInVals tx td σ H Q := h
theorem x_noVals {kvs : List (Key × V)} {ns : List Int} {i : Int} (ha : H a = some (.dK kvs)) (hv : kvs.map (·.2) = ns.map V.int) (q : Q (.bl (!decide (i ∈ ns))) H) : rNotInVals (.int i) Q (.ref a) H := ⟨a, kvs, ns, i, rfl, rfl, ha, hv, q⟩
theorem x_listVals (h : td σ H (rListVals Q)) : tListVals td σ H Q := h
theorem x_lVals {kvs : List (Key × V)} (ha : H a = some (.dK kvs)) (q : ∀ p H', H p = none → Ex H H' → H' p = some (.lst (kvs.map (·.2))) → Q (.ref p) H') : rListVals Q (.ref a) H := ⟨a, kvs, rfl, ha, x_new q⟩
theorem pe_fldK {X : Cx} {e : Expr} {f : Str} {pos : Pos} {ta : TE} (K0 : Frag) (he : PE X e ta) (hb : attributeBase e f X.env (eval e X.env) = eval e X.env) (ek : X.K = K0 := by rfl) : PE X (.Attribute e f pos) (tFld K0 ta f) := by
  subst ek
  exact pe_fld he hb
theorem ps_fldK {X : Cx} {o value : Expr} {f : Str} {pos pos' : Pos} {ta tv : TE} (K0 : Frag) (ha : PE X o ta) (hv : PE X value tv) (hs : swapsWith value (some (.Attribute o f pos')) pos.line X.env = pure false) (ek : X.K = K0 := by rfl) : PS X (.Assign [.Attribute o f pos'] value pos) (sFld K0 ta tv f) := by
  subst ek
  exact ps_fld ha hv hs
/-! ### targets of two and three names -/
theorem x_gT2 {x y : V} {Q : L2.St → Hp → Prop} {i j : Nat} (h : SqT K H a [x, y]) (q : Q ((σ.set i (some x)).set j (some y)) H) : gTup K 2 (gCons (gName i) (gCons (gName j) gNil)) (.ref a) σ H Q := ⟨a, [x, y], rfl, h, rfl, x, [y], rfl, y, [], rfl, rfl, q⟩
theorem x_gT3 {x y z : V} {Q : L2.St → Hp → Prop} {i j k : Nat} (h : SqT K H a [x, y, z]) (q : Q (((σ.set i (some x)).set j (some y)).set k (some z)) H) : gTup K 3 (gCons (gName i) (gCons (gName j) (gCons (gName k) gNil))) (.ref a) σ H Q :=
  ⟨a, [x, y, z], rfl, h, rfl, x, [y, z], rfl, y, [z], rfl, z, [], rfl, rfl, q⟩
end
/-! ### comprehensions over a list, any target -/
theorem x_lcG {K : Frag} {σ : L2.St} {H : Hp} {Q : VK} {g : TG} {te : TE} {a : Addr} {vs : List Nat} {α : Type} (as : List α) (f : α → V) (o : α → HO) (bind : α → L2.St) (hl : SqL K H a (as.map f)) (hz : as.length ≤ 1000000) (hw : ∀ x, wipe (bind x) vs = wipe σ vs)
    (hg : ∀ x ∈ as, ∀ H', Ex H H' → ∀ R : L2.St → Hp → Prop, R (bind x) H' → g (f x) (wipe σ vs) H' R)
    (he : ∀ x ∈ as, ∀ H', Ex H H' → ∀ Q' : VK, (∀ p H2, H' p = none → Ex H' H2 → H2 p = some (o x) → Q' (.ref p) H2) → te (bind x) H' Q')
    (q : ∀ D H2 (ps : List Addr), H D = none → Ex H H2 → H2 D = some (.lst (ps.map V.ref)) → ps.length = as.length → (∀ (i : Nat) (x : α) (p : Addr), as[i]? = some x → ps[i]? = some p → H2 p = some (o x)) → Q (.ref D) H2) :
    ∃ b, V.ref a = .ref b ∧ (∃ xs, SqL K H b xs) ∧ LcRun g tYes te vs σ Q (Itl K b) H := by
  refine ⟨a, rfl, ⟨_, hl⟩, fun Dl hD => lc_list (xs := as.map f) (fun k H' => Ex H H' ∧ ∃ ps : List Addr, H' Dl = some (.lst (ps.map V.ref)) ∧ ps.length = k ∧ ∀ (i : Nat) (x : α) (p : Addr), as[i]? = some x → ps[i]? = some p → p ≠ Dl ∧ H' p = some (o x))
    ⟨Evl.Ex.new hD, [], by rw [upd_same]; rfl, rfl, fun i x p _ h => by simp at h⟩ (fun k H' _ pp => Evl.ex_l pp.1 hl) (fun k x H' hx pp => ?_) fun H' pp => ?_⟩
  · rw [List.getElem?_map] at hx
    cases ex : as[k]? with
    | none => rw [ex] at hx; cases hx
    | some n =>
      rw [ex] at hx
      cases hx
      have hk : k < as.length := (List.getElem?_eq_some_iff.mp ex).1
      obtain ⟨e1, ps, hps, hlen, hall⟩ := pp
      refine hg n (List.mem_of_getElem? ex) H' e1 _ ⟨hw _, ?_⟩
      refine x_true (B := True) ?_
      refine he n (List.mem_of_getElem? ex) H' e1 _ fun p H2 p0 e2 hp => ?_
      have npD : p ≠ Dl := Ne.symm (ne_of_none hps p0)
      refine ⟨_, e2 _ _ hps, by rw [List.length_map, hlen]; exact szl (by omega), Evl.Ex.mut (e1.trans e2) hD, ps ++ [p], by rw [upd_same, List.map_append]; rfl, by rw [List.length_append, hlen]; rfl, fun i y r hi hr => ?_⟩
      by_cases h : i < ps.length
      · rw [List.getElem?_append_left h] at hr
        obtain ⟨h1, h2⟩ := hall i y r hi hr
        exact ⟨h1, by rw [upd_ne h1]; exact e2 _ _ h2⟩
      · have h2 := (List.getElem?_eq_some_iff.mp hr).1
        rw [List.length_append, List.length_singleton] at h2
        have h3 : i = ps.length := by omega
        subst h3
        rw [List.getElem?_append_right (Nat.le_refl _), Nat.sub_self] at hr
        cases hr
        rw [hlen, ex] at hi
        cases hi
        exact ⟨npD, by rw [upd_ne npD]; exact hp⟩
  · obtain ⟨e1, ps, hps, hlen, hall⟩ := pp
    rw [List.length_map] at hlen
    exact q Dl H' ps hD e1 hps hlen fun i x p hi hp => (hall i x p hi hp).2
/-- over a text, sign by sign -/
theorem x_iStr {σ : L2.St} {H : Hp} {te : TE} {R : It → Hp → Prop} (h : te σ H fun v H1 => ∃ x, v = .str x ∧ R (Its x) H1) : iStr te σ H R := h
theorem x_lcS {σ : L2.St} {H : Hp} {Q : VK} {j : Nat} {te : TE} {vs : List Nat} {s : Str} (v : Nat → V) (hz : s.cps.size ≤ 1000000) (hw : ∀ x, wipe ((wipe σ vs).set j (some x)) vs = wipe σ vs)
    (he : ∀ c ∈ s.cps.toList, ∀ H', Ex H H' → ∀ Q' : VK, (∀ H2, Ex H' H2 → Q' (v c) H2) → te ((wipe σ vs).set j (some (.str ⟨#[c]⟩))) H' Q')
    (q : ∀ D H2, H D = none → Ex H H2 → H2 D = some (.lst (s.cps.toList.map v)) → Q (.ref D) H2) : LcRun (gName j) tYes te vs σ Q (Its s) H := by
  intro Dl hD
  refine lc_it (walk_str (z := s)) (fun k H' => Ex H H' ∧ H' Dl = some (.lst ((s.cps.toList.take k).map v))) ⟨Evl.Ex.new hD, by rw [upd_same]; rfl⟩ (fun _ _ _ _ => True.intro) (fun i x H1 H' hi pp y => ?_) fun H' pp => q Dl H' hD pp.1 (by
    have r := pp.2
    rw [List.take_of_length_le (by rw [Array.length_toList]; exact Nat.le_refl _)] at r
    exact r)
  obtain ⟨rfl, c, hc, rfl⟩ := y
  obtain ⟨e1, hl⟩ := pp
  have hc' : s.cps.toList[i]? = some c := by simpa using hc
  refine ⟨hw _, ?_⟩
  refine x_true (B := True) ?_
  refine he c (List.mem_of_getElem? hc') H' e1 _ fun H2 e2 => ?_
  refine ⟨_, e2 _ _ hl, by rw [List.length_map, List.length_take]; exact szl (by omega), Evl.Ex.mut (e1.trans e2) hD, ?_⟩
  rw [upd_same, take_snoc hc', List.map_append]
  rfl
/-! ### len of a text, a sign in a text -/
def rLenS : List V → Hp → VK → Prop := fun xs H Q => ∃ z, xs = [.str z] ∧ z.length ≤ sizeLine ∧ Q (.int z.length) H
theorem call_lenS {X : Cx} : CallR X (.builtin "len") rLenS := call_len_str
theorem x_lenS {H : Hp} {Q : VK} {z : Str} (hz : z.length ≤ 1000000) (q : Q (.int z.length) H) : rLenS [.str z] H Q := ⟨z, rfl, sz hz, q⟩
def rInSg : R2 := fun x y H Q => ∃ (c : Nat) (z : Str), x = .str ⟨#[c]⟩ ∧ y = .str z ∧ Q (.bl (decide (c ∈ z.cps.toList))) H
theorem op_inSg {X : Cx} : OpR X (compareOp .In) rInSg := op_in_sign
theorem x_inSg {H : Hp} {Q : VK} {c : Nat} {z : Str} (q : Q (.bl (decide (c ∈ z.cps.toList))) H) : rInSg (.str ⟨#[c]⟩) (.str z) H Q := ⟨c, z, rfl, rfl, q⟩
/-! ### dict(pairs), keys ints and texts -/
def PairK (K : Frag) (H : Hp) (p : Addr) (kv : Key × V) : Prop := SqT K H p [kV kv.1, kv.2]
def rDictK (K : Frag) : List V → Hp → VK → Prop := fun vs H Q => ∃ (a : Addr) (ps : List Addr) (kvs : List (Key × V)), vs = [.ref a] ∧ SqL K H a (ps.map V.ref) ∧ Paired (PairK K H) ps kvs ∧ ∀ d, H d = none → Q (.ref d) (upd H d (.dK (mergeK [] kvs)))
section
variable {X : Cx}
theorem pairs_ofK {pins : List (Addr × Obj)} {σ : L2.St} {H : Hp} {s : Shared} (I : Inv X pins σ H s) : ∀ {ps : List Addr} {kvs : List (Key × V)}, Paired (PairK X.K H) ps kvs →
    ∃ rs : List (Key × Value × Value), KV kvs (rs.map fun q => (q.1, q.2.2)) ∧ rs.length = ps.length ∧ ∀ (j : Nat) (q : Key × Value × Value), rs[j]? = some q → (mixKind X.prog X.w).is q.1 q.2.1 = true ∧ ∃ p : Addr, ps[j]? = some p ∧ IsTup s.heap p #[q.2.1, q.2.2]
  | _, _, .nil => ⟨[], .nil, rfl, fun j q e => by simp at e⟩
  | _, _, .cons (a := p) (b := kv) h t => by
    obtain ⟨rs, r, hl, hp⟩ := pairs_ofK I t
    obtain ⟨its, rv, hT, _⟩ := I.tuple h
    obtain ⟨u, y, ei, ru, ry⟩ := vals2 rv
    subst ei
    refine ⟨(kv.1, u, y) :: rs, .cons ⟨rfl, ry⟩ r, by rw [List.length_cons, List.length_cons, hl], fun j q e => ?_⟩
    cases j with
    | zero => cases e; exact ⟨kV_is ru, p, rfl, hT⟩
    | succ j =>
      obtain ⟨h1, p', e1, e2⟩ := hp j q (by simpa using e)
      exact ⟨h1, p', by simpa using e1, e2⟩
theorem call_dictK (hc : X.calm = true) : CallR X (.type "dict") (rDictK X.K) := by
  intro pins s σ H vs us Q I r h
  obtain ⟨a, ps, kvs, rfl, hl, hp, q⟩ := h
  obtain ⟨its, rv, pl, hz⟩ := I.list hl
  rw [Vals.ref1 r]
  have ei := refs_at rv
  subst ei
  rw [List.length_map] at hz
  obtain ⟨rs, rel, hlen, hpr⟩ := pairs_ofK I hp
  obtain ⟨o, n, ho, hcl, hd, hdat⟩ := pl
  have P := PySem.PairArg.list (prog := X.prog) (w := X.w) a (ps.map Value.ref).toArray (fun j => ps.getD j 0) (rs.map (·.2))
  have szr : (rs.map (·.2)).length = ps.length := by rw [List.length_map, hlen]
  refine PySem.call_dict_pairs (knd := mixKind X.prog X.w) (kvs := rs.map fun q => (q.1, q.2.2)) P (I.ok.hd hc) ⟨⟨o, n, ho, hcl, hd, hdat⟩, by simp [hlen], fun j k v e => ?_⟩ ⟨by rw [List.length_map, szr, hlen], fun i key v e => ?_⟩ (by rw [szr]; exact hz) fun h' tk hd' hk => ?_
  · rw [List.getElem?_map] at e
    cases er : rs[j]? with
    | none => rw [er] at e; cases e
    | some q =>
      rw [er] at e
      obtain ⟨k0, u0, v0⟩ := q
      cases e
      obtain ⟨_, p, ep, hT⟩ := hpr j _ er
      exact ⟨by simp [ep], .inl (by show s.heap.IsTuple (ps.getD j 0) _; rw [List.getD_eq_getElem?_getD, ep]; exact hT)⟩
  · have e : (rs.map (·.2))[i]? = some (key, v) := e
    rw [List.getElem?_map] at e
    cases er : rs[i]? with
    | none => rw [er] at e; cases e
    | some q =>
      rw [er] at e
      obtain ⟨k0, u0, v0⟩ := q
      cases e
      exact ⟨k0, by rw [List.getElem?_map, er]; rfl, (hpr i _ er).1⟩
  · have hm : (s.heap.objs.size == sysModules) = false := beq_eq_false_iff_ne.mpr (Nat.ne_of_gt I.big)
    have keep : ∀ b o, s.heap.get? b = some o → h'.get? b = some o := fun b o e => hk b o (by simp) e
    have lenK : (mergeK [] kvs).length ≤ sizeLine := by
      have := length_mergeK kvs []
      have e1 := KV.length rel
      rw [List.length_map, hlen] at e1
      rw [List.length_nil] at this
      omega
    exact ⟨.ref s.heap.objs.size, upd H s.heap.objs.size (.dK (mergeK [] kvs)), I.laid (t' := tk) keep (Nat.le_refl _) (dk_new lenK hm (rel.merge .nil) hd'), rfl, q _ (I.hok.fresh (Nat.le_refl _))⟩
end
theorem x_dictK {K : Frag} {H : Hp} {Q : VK} {a : Addr} {ps : List Addr} {kvs : List (Key × V)} (hl : SqL K H a (ps.map V.ref)) (hp : Paired (PairK K H) ps kvs) (q : ∀ d H', H d = none → Ex H H' → H' d = some (.dK (mergeK [] kvs)) → Q (.ref d) H') : rDictK K [.ref a] H Q := ⟨a, ps, kvs, rfl, hl, hp, x_new q⟩
end B

namespace B
open PySem PySem.Spec PyProof.Rows L2
open PySem.W (Frag)
/-! ### lists of tuples of texts and numbers, compared -/
def sd : V → PyData
  | .int i => .int i
  | .str s => .str s
  | _ => .none
def scOk : V → Bool
  | .int _ => true
  | .str s => PyData.strOk s
  | .non => true
  | _ => false
theorem eqv_sd {x y : V} (hx : scOk x = true) (hy : scOk y = true) : PyData.eqv (sd x) (sd y) = decide (x = y) := by
  cases x <;> simp [scOk] at hx <;> cases y <;> simp [scOk] at hy <;> simp [sd, PyData.eqv]
  · rename_i i j
    by_cases e : i = j <;> simp [e]
  · rename_i s t
    by_cases e : s = t <;> simp [e]
theorem eqv_sdAll : ∀ {xs ys : List V}, xs.all scOk = true → ys.all scOk = true → PyData.eqvAll (xs.map sd) (ys.map sd) = decide (xs = ys)
  | [], [], _, _ => by simp [PyData.eqvAll]
  | [], _ :: _, _, _ => by simp [PyData.eqvAll]
  | _ :: _, [], _, _ => by simp [PyData.eqvAll]
  | x :: xs, y :: ys, hx, hy => by
    simp only [List.all_cons, Bool.and_eq_true] at hx hy
    show (PyData.eqv (sd x) (sd y) && PyData.eqvAll (xs.map sd) (ys.map sd)) = _
    rw [eqv_sd hx.1 hy.1, eqv_sdAll hx.2 hy.2]
    by_cases e1 : x = y <;> by_cases e2 : xs = ys <;> simp [e1, e2]
theorem dp_sd {K : Frag} {H : Hp} : ∀ {xs : List V}, xs.all scOk = true → DpAll K H xs (xs.map sd)
  | [], _ => .nil
  | x :: xs, h => by
    simp only [List.all_cons, Bool.and_eq_true] at h
    refine .cons ?_ (dp_sd h.2)
    cases x <;> simp [scOk] at h
    · exact .non
    · exact .int _
    · exact .str _
theorem can_sd : ∀ xs : List V, xs.all scOk = true → PyData.canLayAll0 (xs.map sd) = true ∧ PyData.depthAll (xs.map sd) ≤ 1
  | [], _ => by decide
  | x :: xs, h => by
    simp only [List.all_cons, Bool.and_eq_true] at h
    obtain ⟨h1, h2⟩ := can_sd xs h.2
    cases x <;> simp [scOk] at h <;> simp_all [sd, PyData.canLayAll0, PyData.canLay0, PyData.depthAll, PyData.depth]
def rowD (r : List V) : PyData := .tuple (r.map sd)
def rowsOk (R : List (List V)) : Prop := ∀ r ∈ R, r.all scOk = true
theorem eqv_rows : ∀ {R S : List (List V)}, rowsOk R → rowsOk S → PyData.eqvAll (R.map rowD) (S.map rowD) = decide (R = S)
  | [], [], _, _ => by simp [PyData.eqvAll]
  | [], _ :: _, _, _ => by simp [PyData.eqvAll]
  | _ :: _, [], _, _ => by simp [PyData.eqvAll]
  | r :: R, s :: S, hr, hs => by
    show (PyData.eqv (.tuple (r.map sd)) (.tuple (s.map sd)) && PyData.eqvAll (R.map rowD) (S.map rowD)) = _
    rw [eqv_rows (fun x hx => hr x (List.mem_cons_of_mem _ hx)) (fun x hx => hs x (List.mem_cons_of_mem _ hx)), show PyData.eqv (.tuple (r.map sd)) (.tuple (s.map sd)) = PyData.eqvAll (r.map sd) (s.map sd) from by simp only [PyData.eqv], eqv_sdAll (hr r List.mem_cons_self) (hs s List.mem_cons_self)]
    by_cases e1 : r = s <;> by_cases e2 : R = S <;> simp [e1, e2]
/-- the rows of a list, as they stand -/
def RowsAt (H : Hp) (l : Addr) (R : List (List V)) : Prop := ∃ ps : List Addr, H l = some (.lst (ps.map V.ref)) ∧ ps.length = R.length ∧ ∀ (i : Nat) p r, ps[i]? = some p → R[i]? = some r → H p = some (.tup r)
theorem dp_rows {K : Frag} {H : Hp} : ∀ {ps : List Addr} {R : List (List V)}, rowsOk R → ps.length = R.length → (∀ (i : Nat) p r, ps[i]? = some p → R[i]? = some r → H p = some (.tup r)) → DpAll K H (ps.map V.ref) (R.map rowD)
  | [], [], _, _, _ => .nil
  | [], _ :: _, _, h, _ => by simp at h
  | _ :: _, [], _, h, _ => by simp at h
  | p :: ps, r :: R, ok, hl, h => .cons (.tup (Evl.st_of (h 0 p r rfl rfl)) (dp_sd (ok r List.mem_cons_self))) (dp_rows (fun x hx => ok x (List.mem_cons_of_mem _ hx)) (by simpa using hl) fun i q s h1 h2 => h (i + 1) q s (by simpa using h1) (by simpa using h2))
theorem can_rows : ∀ {R : List (List V)}, rowsOk R → PyData.canLayAll0 (R.map rowD) = true ∧ PyData.depthAll (R.map rowD) ≤ 2
  | [], _ => by decide
  | r :: R, ok => by
    obtain ⟨h1, h2⟩ := can_rows (R := R) fun x hx => ok x (List.mem_cons_of_mem _ hx)
    obtain ⟨h3, h4⟩ := can_sd r (ok r List.mem_cons_self)
    simp only [List.map_cons, PyData.canLayAll0, PyData.depthAll, rowD, PyData.canLay0, PyData.depth, h1, h3, Bool.and_true, true_and]
    omega
theorem shaped_rows {R : List (List V)} (ok : rowsOk R) : SeqAt.shaped (.list (R.map rowD)) = true := by
  obtain ⟨h1, h2⟩ := can_rows ok
  simp only [SeqAt.shaped, PyData.canLay0, PyData.depth, h1, Bool.true_and, decide_eq_true_eq]
  exact decide_eq_true (by omega)
section
variable {K : Frag} {H : Hp} {Q : VK} {a b : Addr} {R S : List (List V)}
theorem x_eqRows (h1 : RowsAt H a R) (h2 : RowsAt H b S) (o1 : rowsOk R) (o2 : rowsOk S) (q : Q (.bl (decide (R = S))) H) : rEqD K (.ref a) (.ref b) H Q := by
  obtain ⟨ps, g1, g2, g3⟩ := h1
  obtain ⟨qs, f1, f2, f3⟩ := h2
  exact ⟨_, _, .lst (Evl.sq_of g1) (dp_rows o1 g2 g3), .lst (Evl.sq_of f1) (dp_rows o2 f2 f3), shaped_rows o1, shaped_rows o2, by rw [show PyData.eqv (.list (R.map rowD)) (.list (S.map rowD)) = PyData.eqvAll (R.map rowD) (S.map rowD) from by simp only [PyData.eqv], eqv_rows o1 o2]; exact q⟩
theorem x_neRows (h1 : RowsAt H a R) (h2 : RowsAt H b S) (o1 : rowsOk R) (o2 : rowsOk S) (q : Q (.bl (!decide (R = S))) H) : rNeD K (.ref a) (.ref b) H Q := by
  obtain ⟨ps, g1, g2, g3⟩ := h1
  obtain ⟨qs, f1, f2, f3⟩ := h2
  exact ⟨_, _, .lst (Evl.sq_of g1) (dp_rows o1 g2 g3), .lst (Evl.sq_of f1) (dp_rows o2 f2 f3), shaped_rows o1, shaped_rows o2, by rw [show PyData.eqv (.list (R.map rowD)) (.list (S.map rowD)) = PyData.eqvAll (R.map rowD) (S.map rowD) from by simp only [PyData.eqv], eqv_rows o1 o2]; exact q⟩
theorem rows_nil (h : H a = some (.lst [])) : RowsAt H a [] := ⟨[], h, rfl, fun i p r h1 _ => by simp at h1⟩
/-- two scalars compared as data -/
theorem x_neSc {x y : V} (hx : scOk x = true) (hy : scOk y = true) (q : Q (.bl (!decide (x = y))) H) : rNeD K x y H Q := by
  have dp : ∀ {z : V}, scOk z = true → Dp K H z (sd z) := fun {z} h => by cases z <;> simp [scOk] at h <;> constructor
  have sh : ∀ {z : V}, scOk z = true → SeqAt.shaped (sd z) = true := fun {z} h => by cases z <;> simp [scOk] at h <;> simp_all [sd, SeqAt.shaped, PyData.canLay0, PyData.depth]
  exact ⟨_, _, dp hx, dp hy, sh hx, sh hy, by rw [eqv_sd hx hy]; exact q⟩
end
end B

namespace B
open PySem PySem.Spec PyProof.Rows L2
open PySem.W (Frag)
/-! ### a comprehension whose element's call raises -/
/-- the block, with what is to be made of what is raised in it -/
abbrev blkX (X : Cx) (s : Shared) (H : Hp) (scope : Scope) (cenv : Env) (fp : List Addr) (xe : Value → Shared → Prop) : Cx := { X.blk s H scope cenv fp with xe := xe }
section
variable {X : Cx} {pins : List (Addr × Obj)} {σ : L2.St} {H3 : Hp} {s3 : Shared} {E : XK}
theorem fails_blk (I3 : Inv X pins σ H3 s3) (hs : X.stack = X.env :: X.outer) (hf : X.env.frame = some X.env.locals) (tk : L2.Takes X (fun c d _ H => E c d H)) {scope : Scope} {ce : Env} {fp : List Addr} (hfp : ∀ b ∈ fp, FpOk X pins H3 b)
    (cL : s3.heap.objs.size ≤ ce.locals) (hcf : ce.frame = X.env.frame) :
    Passes (L2.CX X.prog X.w) (blkX X s3 H3 scope ce fp (notedBy (model X.prog X.w) X.A ce (CompFails (model X.prog X.w) X.A X.xe ce))) E := by
  intro pinsB σB HB s u s' IB c
  obtain ⟨a, B, H', cls, d, rfl, fl, hok, ub, na, os, ag, hE⟩ := c
  have I7 : Inv X pins σ HB s := I3.call' (ch := fp) IB.os IB.base IB.hok IB.bare fun b hb => ⟨(hfp b hb).2.2.2.1, (hfp b hb).2.1, (hfp b hb).2.2.2.2.1, (hfp b hb).2.2.2.2.2⟩
  have nC : HB ce.locals = none := IB.free
  obtain ⟨m, hn, _⟩ := IB.loc
  have hn : s.heap.Ns ce.locals m := hn
  obtain ⟨oC, es, ep, hoC, hdC, hrC⟩ := hn
  have fp3 : FpOk X pins HB ce.locals := I3.fpOk cL nC
  have nfr : ce.locals ∉ frs X.stack := fun hm => by
    rw [hs] at hm
    obtain ⟨e, he, q⟩ := List.mem_filterMap.mp hm
    rcases List.mem_cons.mp he with rfl | he
    · rw [hf] at q
      exact fp3.2.1 (Option.some.inj q).symm
    · exact fp3.2.2.1 (List.mem_filterMap.mpr ⟨e, he, q⟩)
  have hC' : s'.heap.get? ce.locals = some oC := fl.1 _ _ (ub.keep _ _ hoC nC nfr)
  have hn' : s'.heap.Ns ce.locals m := ⟨oC, es, ep, hC', hdC, hrC⟩
  have x : XE X (fun c d _ H1 => E c d H1 ∧ H1 ce.locals = none) (.ref a) s' :=
    XE.of_call (E := fun c d H1 => E c d H1 ∧ H1 ce.locals = none) I7 (fun _ _ _ h => h) ⟨a, B, H', cls, d, rfl, fl, hok, ub, na, os, ag, hE, ub.free _ _ hoC nC⟩
  obtain ⟨a2, B2, sI, pins2, σ2, H2, cls2, d2, e2, I2, nb, up, sky, na2, os2, ag2, w, wC⟩ := x
  obtain rfl : a = a2 := by injection e2
  have hfr : X.A.frames = some (X.env :: X.outer) := by rw [I3.ok.frames, hs]
  show wpAny (model X.prog X.w) X.A (noteFrame (.ref a) ce) _ _ s'
  rw [noteFrame_env _ hcf]
  have fin : ∀ h', HandSPX.HeldZ B2 (X.env :: X.outer) a (Zc cls2 d2) X.env.locals h' → s'.heap.UpToSlots h' → CompFails (model X.prog X.w) X.A X.xe ce (.ref a) { s' with heap := h' } := by
    intro h1 hh up1
    refine ⟨m, up1.ns hn', fun h2 m2 hn2 sb => ?_⟩
    obtain ⟨k1, k2, k3, oe, vs, T, oT, ts, he, hz, hd, hv1, hnT, hTe, hT, hdT, h3⟩ := hh
    obtain ⟨oC1, es1, ep1, hoC1, hdC1, _⟩ := up1.ns hn'
    have aC : a ≠ ce.locals := fun z => by
      rw [z, hoC1] at he
      cases he
      rw [hdC1] at hd
      cases hd
    have TC : T ≠ ce.locals := fun z => by
      rw [z, hoC1] at hT
      cases hT
      rw [hdC1] at hdT
      cases hdT
    obtain ⟨B3, b3, b3C⟩ := restrict B2 fun b => decide (b ≠ ce.locals)
    obtain ⟨G, g, gC⟩ := restrict sI.heap fun b => decide (b ≠ ce.locals)
    have b3C := b3C ce.locals (by simp)
    have gC := gC ce.locals (by simp)
    have b3 : ∀ b, b ≠ ce.locals → B3.get? b = B2.get? b := fun b hb => b3 b (by simp [hb])
    have g : ∀ b, b ≠ ce.locals → G.get? b = sI.heap.get? b := fun b hb => g b (by simp [hb])
    have bne : ∀ {b o}, B3.get? b = some o → b ≠ ce.locals := fun {b o} e z => by rw [z, b3C] at e; cases e
    have gne : ∀ {b o}, G.get? b = some o → b ≠ ce.locals := fun {b o} e z => by rw [z, gC] at e; cases e
    have st3 : B3.StaysIn h2 := fun b o e => (sb.2 b (bne e)).trans (k1 b o ((b3 b (bne e)).symm.trans e))
    have bnone : ∀ b, B2.get? b = none → B3.get? b = none := fun b e => by
      by_cases hb : b = ce.locals
      · rw [hb]; exact b3C
      · rw [b3 b hb]; exact e
    have ff : h2.FunFrames B3 (X.env :: X.outer) := funFrames_none (Heap.FunFrames.sameBut sb hn2 k3) fun L hL => bnone L (k3.mem hL).1
    have he2 : h2.get? a = some oe := (sb.2 a aC).trans he
    have held : HandSPX.HeldZ B3 (X.env :: X.outer) a (Zc cls2 d2) X.env.locals h2 := ⟨st3, bnone a k2, ff, oe, vs, T, oT, ts, he2, hz, hd, hv1, bnone T hnT, hTe, (sb.2 T TC).trans hT, hdT, h3⟩
    unfold PySem.passOn
    refine wpAny_bind (wpAny_field he2 hd hv1 ?_)
    rw [if_neg (show ¬ ((Value.ref T == Value.none) = true) from by simp)]
    have goOn : wpAny (model X.prog X.w) X.A (setFlight (.ref a) ce.frame) (fun _ s4 => wpAny (model X.prog X.w) X.A (throw (.ref a) : Sem Value) (fun _ _ => False) X.xe s4) X.xe { s' with heap := h2 } := by
      rw [hcf, hf]
      refine HandSPX.setFlight_onZ (s := { s' with heap := h2 }) held fun h4 hh4 up4 => wpAny_throw (tk _ _ ?_)
      refine ⟨a, B3, { sI with heap := G }, [], σ2, H2, cls2, d2, rfl, ?_, fun b o e hb => ?_, fun b o e hnf => ?_, .inr (.inr (by rw [hs]; exact hh4)), na2, os2, ag2, w⟩
      · have I2' : Inv X [] σ2 H2 sI := Inv.unpinned (pins := []) (pl := pins2) I2
        refine I2'.turned (t' := sI.toks) (it := ce.locals) (fun b o hb e => (g b hb).trans e) wC (Ne.symm (Ne.symm fp3.2.1)) fp3.2.2.2.1 fp3.2.2.2.2.1 fun p hp => fp3.2.2.2.2.2 p ?_
        rw [List.append_nil] at hp
        exact List.mem_append_left _ hp
      · rw [b3 b (gne e)]
        exact nb b o ((g b (gne e)).symm.trans e) hb
      · obtain ⟨sl, q⟩ := (up.trans up1) b o ((g b (gne e)).symm.trans e) hnf
        have q2 : h2.get? b = some { o with slots := sl } := (sb.2 b (gne e)).trans q
        obtain ⟨sl2, q3⟩ := up4 b _ q2 hnf
        exact ⟨sl2, q3⟩
    first
      | exact wpAny_bind (wpAny_pure (wpAny_bind goOn))
      | exact wpAny_bind goOn
  rw [hs] at sky
  rcases sky with ⟨hB, hna, hl, oe, vs, he0, hz, hd, hv1⟩ | fl | hh
  · exact HandSPX.look_newZ Zc.steady hfr hl hf he0 hB hna hd hv1 hz fin
  · exact HandSPX.looks_onZ Zc.steady hfr hf fl fin
  · exact HandSPX.againZ hf hh.2.2.2 (fin s'.heap hh (Heap.UpToSlots.refl _))
/-- name = [..], where a call of the element may raise -/
theorem ps_setLcX {i : Nat} {y : Str} {py : Pos} {elt tg iter : Expr} {ifs : List Expr} {scope : Scope} {own : List (Str × Nat)} {pos spos : Pos} {wi : TI} {g : TG} {tt : TT} {te : TE} (hst : X.stack = X.env :: X.outer) (hfr : X.env.frame = some X.env.locals) (tk : L2.Takes X (fun c d _ H => E c d H))
    (hc : X.calm = true) (hN : X.N.Nodup) (hy : X.N[i]? = some y) (hyl : X.env.scope.names.lookup y = some .local) (hsw : swapsWith (.ListComp elt [⟨tg, iter, ifs, 0⟩] scope pos) (some (.Name y py)) spos.line X.env = pure true) (hi : PI X tg iter wi) (ok : BlkOk X.N X.env.scope scope own)
    (hg : ∀ (s : Shared) (H : Hp) (C : Addr) (cl : List (Str × Addr)) (fp : List Addr), PG (X.blk s H scope (compEnvC scope cl C X.env) fp) tg g) (ht : ∀ (s : Shared) (H : Hp) (C : Addr) (cl : List (Str × Addr)) (fp : List Addr), PTs (X.blk s H scope (compEnvC scope cl C X.env) fp) ifs tt)
    (he : ∀ (s : Shared) (H : Hp) (C : Addr) (cl : List (Str × Addr)) (fp : List Addr) (xe : Value → Shared → Prop), Passes (L2.CX X.prog X.w) (blkX X s H scope (compEnvC scope cl C X.env) fp xe) E → PE (blkX X s H scope (compEnvC scope cl C X.env) fp xe) elt te)
    (hs : ∀ x, foldedSetIterable iter X.env x = pure x := by intro _; rfl) :
    PS X (.Assign [.Name y py] (.ListComp elt [⟨tg, iter, ifs, 0⟩] scope pos) spos) (tAsg (tLc wi g tt te (own.map (·.2))) (gName i)) := by
  refine ⟨fun pins s σ H D I h => ?_⟩
  have h : tLc wi g tt te (own.map (·.2)) σ H (fun x H1 => gName i x σ H1 D.nx) := h
  have cells : ∀ z ∈ scope.names, z.2 = .free → ∃ c, X.env.cells.lookup z.1 = some c := fun z hz e => I.ok.has _ (ok.free z hz e)
  rw [exec_Assign_Name_used _ _ _ _ hsw]
  refine wpAny_bind (wpAny_standAt (wpAny_bind ?_))
  refine wpAny_bind (thn (Q := fun _ s' => SP X pins D .next s') ?_ fun _ s' hq => wpAny_pure (wpAny_pure hq))
  refine comprehension_at (use := some (assign (.Name y py) X.env)) (Q := fun _ s' => SP X pins D .next s') rfl hs (closure_ok cells) ok.kind (fun z hz e => by rw [ok.uniq z hz, e]) (thn (hi.run pins s σ H _ I h) fun xv s1 hx => thn hx fun itv s2 h2 => ?_)
  obtain ⟨it, fp, tn, J, H2, rfl, I2, T, st2, f2, q⟩ := h2
  refine wpAny_newObj_type (newEnv_comp ?_) (by show 0 ≤ sizeLine; decide)
  obtain ⟨L, hL⟩ : ∃ L, L = s2.heap.objs.size := ⟨_, rfl⟩
  rw [← hL]
  obtain ⟨W, ⟨m0, w0⟩, turn⟩ := q L (I2.hok.fresh (Nat.le_of_eq hL.symm))
  obtain ⟨s3, hs3⟩ : ∃ s3 : Shared, s3 = { s2 with heap := s2.heap.push { cls := .type "list", data := .seq ([] : List Value).toArray } } := ⟨_, rfl⟩
  have kp3 : ∀ b o, s2.heap.get? b = some o → s3.heap.get? b = some o := fun b o e => by rw [hs3]; exact Heap.get?_push_of_some _ e
  obtain ⟨H3, hH3⟩ : ∃ H3, H3 = upd H2 L (.lst []) := ⟨_, rfl⟩
  have I3 : Inv X pins σ H3 s3 := by
    rw [hs3, hH3]
    refine I2.laid (t' := s2.toks) (fun b o e => Heap.get?_push_of_some _ e) (Nat.le_of_eq hL.symm) ⟨Nat.zero_le _, [], 0, .nil, ?_⟩
    rw [hL]
    exact Heap.get?_push_size _ rfl
  have lt2 : ∀ b ∈ fp, b < s2.heap.objs.size := fun b hb => by
    obtain ⟨o, e, _⟩ := T.obj _ _ st2 b hb
    exact Heap.lt_size e
  have f3 : ∀ b ∈ fp, FpOk X pins H3 b ∧ b < s3.heap.objs.size := fun b hb => by
    have hlt := lt2 b hb
    refine ⟨⟨?_, (f2 b hb).2⟩, by rw [hs3]; show b < (s2.heap.push _).objs.size; rw [Heap.size_push]; exact Nat.lt_succ_of_lt hlt⟩
    rw [hH3, upd_ne (by rw [hL]; exact Nat.ne_of_lt hlt)]
    exact (f2 b hb).1
  have I4 := block_start I3 ok hN f3
  rw [← hH3] at w0
  obtain ⟨ce, hce⟩ : ∃ ce, ce = compEnvC scope (cellsFrom (s3.heap.objs.size + 1) scope.names (cloFrom X.env.cells scope.names [])) s3.heap.objs.size X.env := ⟨_, rfl⟩
  have cL : ce.locals = s3.heap.objs.size := by subst hce; rfl
  have cF : ce.frame = X.env.frame := by subst hce; rfl
  obtain ⟨xe, hxe⟩ : ∃ xe, xe = notedBy (model X.prog X.w) X.A ce (CompFails (model X.prog X.w) X.A X.xe ce) := ⟨_, rfl⟩
  have pg := hg s3 H3 s3.heap.objs.size (cellsFrom (s3.heap.objs.size + 1) scope.names (cloFrom X.env.cells scope.names [])) fp
  have pt := ht s3 H3 s3.heap.objs.size (cellsFrom (s3.heap.objs.size + 1) scope.names (cloFrom X.env.cells scope.names [])) fp
  have pe := he s3 H3 s3.heap.objs.size (cellsFrom (s3.heap.objs.size + 1) scope.names (cloFrom X.env.cells scope.names [])) fp xe
  rw [← hce] at I4 pg pt pe
  have pe := pe (by rw [hxe]; exact fails_blk I3 hst hfr tk (fun b hb => (f3 b hb).1) (Nat.le_of_eq cL.symm) cF)
  obtain ⟨R, hR⟩ : ∃ R : Result → Shared → Prop, R = compEnds (model X.prog X.w) X.A X.xe (some (assign (.Name y py) X.env)) (fun _ s' => SP X pins D .next s') (.ref L) ce := ⟨_, rfl⟩
  have Rerr : ∀ e s', CompFails (model X.prog X.w) X.A X.xe ce e s' → R (.error e) s' := fun e s' z => by rw [hR]; exact z
  have xeR : ∀ e s', xe e s' → notedBy (model X.prog X.w) X.A ce (fun e s' => R (.error e) s') e s' := fun e s' z => by
    rw [hxe] at z
    exact wpAny_mono z (fun _ s'' z => Rerr e s'' z) fun e' s'' z => Rerr e' s'' z
  obtain ⟨s4, hs4⟩ : ∃ s4 : Shared, s4 = { s3 with heap := pushCells (s3.heap.push { cls := .type "dict", data := .dict #[] }) scope.names } := ⟨_, rfl⟩
  rw [← hs4] at I4
  have st4 : tn 0 s4.heap := T.keep _ _ _ st2 fun b _ o e => by rw [hs4]; exact pushCells_keeps _ _ _ _ (Heap.get?_push_of_some _ (kp3 b o e))
  have stat : ∀ {σ' : L2.St} {H' : Hp} {s' : Shared}, Inv (X.blk s3 H3 scope ce fp) [] σ' H' s' → (∀ b ∈ fp, H' b = none) → ∀ b ∈ fp, FpOk (X.blk s3 H3 scope ce fp) [] H' b := fun {σ' H' s'} I' hn b hb =>
    ⟨hn b hb, (I'.ok.exf b hb).1, I'.ok.exfs b hb, .inl hb, fun x c e => (I'.ok.exf b hb).2 x c e, fun p hp => absurd (show p ∈ ([] : List (Addr × Obj)) ++ [] from hp) (by simp)⟩
  have loop : codeAny (model X.prog X.w) X.A (.compLoop (.ListComp elt [⟨tg, iter, ifs, 0⟩] scope pos) 0 (.ref it) (.ref L) ce) R s4 := by
    refine compLoop_any (fun n s' => ∃ i H', Inv (X.blk s3 H3 scope ce fp) [] (wipe σ (own.map (·.2))) H' s' ∧ tn i s'.heap ∧ (∀ b ∈ fp, H' b = none) ∧ W i n H') ?_ m0 ⟨0, H3, I4, st4, fun b hb => (f3 b hb).1.1, w0⟩
    rintro n s5 ⟨k, H5, I5, st5, n5, w5⟩
    rcases turn k n H5 w5 with ⟨stop, qq⟩ | ⟨go, Nx, hNx, step⟩
    · refine thnF (T.done (X.blk s3 H3 scope ce fp) rfl rfl rfl hc k [] s5 _ H5 (fun _ _ => False) I5 (stat I5 n5) st5 stop) fun r s6 ⟨hr, I6⟩ => ?_
      subst hr
      have I7 : Inv X pins σ H5 s6 := I3.call' (ch := fp) I6.os I6.base I6.hok I6.bare fun b hb => ⟨(f3 b hb).1.2.2.2.1, (f3 b hb).1.2.1, (f3 b hb).1.2.2.2.2.1, (f3 b hb).1.2.2.2.2.2⟩
      have nC : H5 ce.locals = none := I6.free
      obtain ⟨m, hn, _⟩ := I6.loc
      have hn : s6.heap.Ns ce.locals m := hn
      have fC : FpOk X pins H5 ce.locals := I3.fpOk (Nat.le_of_eq cL.symm) nC
      show R (.ok .next) s6
      rw [hR]
      show wpAny _ _ (assign (.Name y py) X.env (.ref L)) _ _ _
      refine wpAny_assign_Name (store_ok2 (v := V.ref L) I7 hN hy (.inl hyl) rfl (fun s8 I8 ⟨a, sb, ha⟩ => ?_) (.inr hyl))
      obtain ⟨g0, g1, g2, g3, g4, g5⟩ := fC
      have neq : ce.locals ≠ a := by
        rcases ha with z | z
        · rw [z]; exact g1
        · exact fun e => g4 y a z e.symm
      exact ⟨m, hn.sameBut sb neq, fun h9 sb9 => ⟨_, H5, I8.turned (t' := s8.toks) (fun b o hb e => (sb9.2 b hb).trans e) g0 g1 g3 g4 g5, qq⟩⟩
    · refine thnF (T.item (X.blk s3 H3 scope ce fp) rfl rfl rfl hc k [] s5 _ H5 (fun _ _ => False) I5 (stat I5 n5) st5 go) fun r s6 ⟨u, hr, h6⟩ => ?_
      subst hr
      refine thnF h6 fun _ s7 ⟨x, H7, I7, r7, y7, st7, n7⟩ => ?_
      have I7' := I7.pinned (stat I7 n7) (T.obj _ _ st7)
      refine thnF (pg.run _ s7 _ H7 x u _ I7' r7 (step x H7 y7)) fun _ s8 ⟨σ8, H8, I8, hw8, q8⟩ => ?_
      refine thnF (pt.run _ s8 σ8 H8 _ I8 q8) fun b s9 ⟨H9, I9, q9⟩ => ?_
      have fin : ∀ {s' : Shared} {H' : Hp}, Inv (X.blk s3 H3 scope ce fp) ([] ++ pinsAt fp s7.heap) σ8 H' s' → Nx H' → ∃ m, m < n ∧ ∃ i H', Inv (X.blk s3 H3 scope ce fp) [] (wipe σ (own.map (·.2))) H' s' ∧ tn i s'.heap ∧ (∀ b ∈ fp, H' b = none) ∧ W i m H' := fun {s' H'} I' nx => by
        obtain ⟨m', hm, w'⟩ := hNx H' nx
        have pin' : ∀ b ∈ fp, ∀ o, s7.heap.get? b = some o → s'.heap.get? b = some o ∧ H' b = none := fun b hb o e =>
          let z := I'.pin (b, o) (List.mem_append_right _ (List.mem_append_right _ (mem_pinsAt hb e)))
          ⟨z.1, z.2.1⟩
        refine ⟨m', hm, k + 1, H', (I'.unpinned (pins := [])).weak (by rw [← hw8, wipe_length]) (fun j v e => ?_), T.keep _ _ _ st7 fun b hb o e => (pin' b hb o e).1, fun b hb => ?_, w'⟩
        · rw [← hw8] at e
          exact (wipe_some e).1
        · obtain ⟨o, e, _⟩ := T.obj _ _ st7 b hb
          exact (pin' b hb o e).2
      cases b with
      | false => exact fin I9 q9
      | true =>
        have I9' : Inv (blkX X s3 H3 scope ce fp xe) ([] ++ pinsAt fp s7.heap) σ8 H9 s9 := I9.wish xe
        refine wpAny_mono (pe.run _ s9 σ8 H9 _ I9' q9) (fun z s10 ⟨yv, H10, I10, r10, acc, hD10, hz10, nx⟩ => ?_) xeR
        exact app_ok (X := X.blk s3 H3 scope ce fp) (I10.wish fun _ _ => False) hD10 hz10 r10 fun s11 I11 => fin I11 nx
  have start := codeAny_compStart_list loop (T.self X.A 0 _ _ _ st4 loop)
  rw [hR, hs4, hs3, hce] at start
  rw [hs3] at start
  exact start
end
end B

namespace B
open PySem PySem.Spec PyProof.Rows L2
open PySem.W (Frag)
/-! ### defs whose exceptions come without a context; an except suite that raises -/
def HasC (P : Program) (w : World) (K : Frag) (mg : Str → Option Value) (base : Heap) (x : Str) (k : Nat) (ps : List Str) (sp : Sp) : Prop :=
  ∃ (f : Addr) (fd : FuncData), FnOk P w K mg base (L2N.CX P w) k f fd ps sp ∧ mg x = some (.ref f) ∧ PySem.W.keepIn K (.ref f) = true ∧ Binds K fd ps []
section
variable {P : Program} {w : World} {K : Frag} {mg : Str → Option Value} {base : Heap}
theorem hasC_of {x : Str} {st : Stmt} {N ps : List Str} {k : Nat} {sp : Sp} (S : Stands K mg x st) (C : FnScope N ps (defScope st))
    (hb : ∀ (kV doc pm : Value) (an : Option Addr) (cdv ct : Value) (us : List Value), us.length = ps.length → bindArgs (PySem.W.fnOf x x (defArgs st) (defBody st) (defScope st) .none kV doc pm an cdv ct) ⟨us, []⟩ = pure (ps.zip us))
    (len : ∀ vs H Q E, sp vs H Q E → vs.length = ps.length)
    (hbody : ∀ (f : Addr) (cdv : Value) (A : Around) (outer : List Env) (s : Shared) (H : Hp) (vs : List V) (Q : VK) (E : XK), Room k (A.deeper (envOfC x (defScope st) s.heap.objs.size f cdv)) → sp vs H Q E →
      ∃ t, PSs (cxOf (L2N.CX P w) P w K mg base N x (defScope st) f cdv A outer s H E) (defBody st) t ∧ t { nx := fun _ H' => Q .non H', rt := Q } (start N vs) H) :
    HasC P w K mg base x (k + 1) ps sp := by
  obtain ⟨f, fd, F, m⟩ := S
  refine ⟨f, fd, ?_, m, F.kp, F.binds hb⟩
  obtain ⟨oc, od, kV, doc, pm, an, cdv, ct, osl, rfl, lk, hcd⟩ := F.ex
  exact fn_of lk hcd C len fun A outer s H vs Q E hr h => hbody f cdv A outer s H vs Q E hr h
end
section
variable {X : Cx} {k j : Nat} {x : Str} {ps : List Str} {sp : Sp} {E : L2.St → XK} {p pos : Pos} {e : Expr} {es : List Expr} {t : TA}
theorem pe_hasCS (h : HasC X.prog X.w X.K X.mg X.base x j ps sp) (hr : Room k X.A) (hx : ∀ σ, PassesAt (L2N.CX X.prog X.w) X σ (E σ)) (ha : PA X (e :: es) t) (hj : j ≤ k := by decide) (hg : Gl X x := by rfl)
    (hdb : (x == ("__debug__" : Str)) = false := by decide) (he : starEach (e :: es) X.env = (false, eval e X.env) :: starEach es X.env := by rfl) (hpl : (backTo pos (starEach es X.env)).any (·.1) = false := by rfl) :
    PE X (.Call (.Name x p) (e :: es) [] pos) (tCallS sp E t) := by
  obtain ⟨f, fd, F, m, kp, b⟩ := h
  exact pe_callS F (hr.mono hj) hg m kp b hx ha hdb he hpl
end
theorem pmkC {X : Cx} {mg0 : Str → Option Value} {x m : Str} {j : Nat} {p p2 pos : Pos} (E : Err X.K mg0 x) (hm : X.mg = mg0 := by rfl) (hg : Gl X x := by rfl) (hdb : (x == ("__debug__" : Str)) = false := by decide) :
    L2N.PMk X (.Call (.Name x p) [.Constant (.str m) j p2] [] pos) (fun _ H Q => ∀ C, mg0 x = some (.ref C) → Q (.ref C) none H) := by
  subst hm
  obtain ⟨C, g, e, k, b, t⟩ := E
  intro pins s σ H Q I h
  exact L2N.pmk_own PySem.F.excBase_ValueError e g k (raises_own b t) hg hdb pins s σ H Q I (h C g)
section
variable {K : Frag} {c cls : Value} {d : Option Addr} {ts : Addr → Value → Option Addr → TS} {Wout : WX} {D : Ends} {σ : L2.St} {H : Hp}
/-- an exception of the class: the suite runs -/
theorem x_only (e : PySem.W.exmOne K cls c = some true) (h : ∀ a, H a = none → ts a cls d D σ H) : WE (wOnly K c ts Wout D) σ cls d H := ⟨true, e, fun _ => h, fun z => nomatch z⟩
end
/-! ### texts -/
def rStarts : V → List V → Hp → VK → Prop := fun x xs H Q => ∃ a b, x = .str a ∧ xs = [.str b] ∧ Q (.bl (Txt.startswith a b)) H
def rEnds : V → List V → Hp → VK → Prop := fun x xs H Q => ∃ a b, x = .str a ∧ xs = [.str b] ∧ Q (.bl (Txt.endswith a b)) H
def rSplit : V → List V → Hp → VK → Prop := fun x xs H Q => ∃ a b, x = .str a ∧ xs = [.str b] ∧ (b.length == 0) = false ∧ a.length + 2 ≤ sizeLine ∧ rNewStrs (Txt.split a b) H Q
def rIntS : List V → Hp → VK → Prop := fun xs H Q => ∃ a n, xs = [.str a] ∧ PySem.intText? a = some n ∧ a.length ≤ 640 ∧ Q (.int n) H
section
variable {X : Cx} {o e : Expr} {to te : TE} {apos pos : Pos}
theorem pe_starts (ho : PE X o to) (he : PE X e te) (hs : starEach [e] X.env = [(false, eval e X.env)] := by rfl) (hbase : attributeBase o "startswith" X.env (eval o X.env) = eval o X.env := by rfl) (hline : (apos.endLine == pos.line) = true := by rfl) :
    PE X (.Call (.Attribute o "startswith" apos) [e] [] pos) (tM1 rStarts to te) := pe_m1 F.slot_str_startswith F.type_str_startswith mt_startswith ho he hs hbase hline
theorem pe_ends (ho : PE X o to) (he : PE X e te) (hs : starEach [e] X.env = [(false, eval e X.env)] := by rfl) (hbase : attributeBase o "endswith" X.env (eval o X.env) = eval o X.env := by rfl) (hline : (apos.endLine == pos.line) = true := by rfl) :
    PE X (.Call (.Attribute o "endswith" apos) [e] [] pos) (tM1 rEnds to te) := pe_m1 F.slot_str_endswith F.type_str_endswith mt_endswith ho he hs hbase hline
theorem pe_splitT (ho : PE X o to) (he : PE X e te) (hs : starEach [e] X.env = [(false, eval e X.env)] := by rfl) (hbase : attributeBase o "split" X.env (eval o X.env) = eval o X.env := by rfl) (hline : (apos.endLine == pos.line) = true := by rfl) :
    PE X (.Call (.Attribute o "split" apos) [e] [] pos) (tM1 rSplit to te) := L2.pe_split ho he hs hbase hline
theorem call_intS : CallR X (.type "int") rIntS := call_int_str
end
section
variable {K : Frag} {σ : L2.St} {H : Hp} {Q : VK} {a b : Str} {l : Addr}
theorem x_starts (q : Q (.bl (Txt.startswith a b)) H) : rStarts (.str a) [.str b] H Q := ⟨a, b, rfl, rfl, q⟩
theorem x_ends (q : Q (.bl (Txt.endswith a b)) H) : rEnds (.str a) [.str b] H Q := ⟨a, b, rfl, rfl, q⟩
theorem x_split (hb : (b.length == 0) = false) (hz : a.length ≤ 100000) (q : ∀ p H', H p = none → Ex H H' → H' p = some (.lst ((Txt.split a b).map V.str)) → Q (.ref p) H') : rSplit (.str a) [.str b] H Q := ⟨a, b, rfl, rfl, hb, sz (by omega), x_new q⟩
theorem x_intS {n : Int} (h : PySem.intText? a = some n) (hl : a.length ≤ 640) (q : Q (.int n) H) : rIntS [.str a] H Q := ⟨a, n, rfl, h, hl, q⟩
theorem x_slS {lo hi : Option Int} (hz : a.length ≤ 1000000) (q : Q (.str (cutS a lo hi)) H) : rSlS (.str a) lo hi H Q := ⟨a, rfl, sz hz, q⟩
def rAddS : R2 := fun x y H Q => ∃ i j, x = .str i ∧ y = .str j ∧ i.length + j.length ≤ sizeLine ∧ Q (.str (i ++ j)) H
theorem op_addS {X : Cx} : OpR X (binaryOp .Add) rAddS := op_add_str
theorem x_addS (hz : a.length + b.length ≤ 1000000) (q : Q (.str (a ++ b)) H) : rAddS (.str a) (.str b) H Q := ⟨a, b, rfl, rfl, sz hz, q⟩
def rStrI : List V → Hp → VK → Prop := fun xs H Q => ∃ i, xs = [.int i] ∧ i.natAbs.log2 < 1920 ∧ Q (.str (toString i)) H
theorem call_strI {X : Cx} : CallR X (.type "str") rStrI := call_str_int
theorem x_strI {i : Int} (h : i.natAbs.log2 < 1920) (q : Q (.str (toString i)) H) : rStrI [.int i] H Q := ⟨i, rfl, h, q⟩
/-- a, b = a list of two -/
theorem x_gL2 {x y : V} {Q : L2.St → Hp → Prop} {i j : Nat} (h : SqL K H l [x, y]) (q : Q ((σ.set i (some x)).set j (some y)) H) : gLst K 2 (gCons (gName i) (gCons (gName j) gNil)) (.ref l) σ H Q := ⟨l, [x, y], rfl, h, rfl, x, [y], rfl, y, [], rfl, rfl, q⟩
end
end B

namespace B
open PySem PySem.Spec PyProof.Rows L2
open PySem.W (Frag)
/-! ### comprehensions whose items may raise: what is reached, all its items were good -/
theorem x_lcGX {K : Frag} {σ : L2.St} {H : Hp} {Q : VK} {g : TG} {te : TE} {a : Addr} {vs : List Nat} {α : Type} (as : List α) (f : α → V) (o : α → HO) (bind : α → L2.St) (good : α → Prop) (hl : SqL K H a (as.map f)) (hz : as.length ≤ 1000000) (hw : ∀ x, wipe (bind x) vs = wipe σ vs)
    (hg : ∀ x ∈ as, ∀ H', Ex H H' → ∀ R : L2.St → Hp → Prop, R (bind x) H' → g (f x) (wipe σ vs) H' R)
    (he : ∀ x ∈ as, ∀ H', Ex H H' → ∀ Q' : VK, (∀ p H2, good x → H' p = none → Ex H' H2 → H2 p = some (o x) → Q' (.ref p) H2) → te (bind x) H' Q')
    (q : ∀ D H2 (ps : List Addr), (∀ x ∈ as, good x) → H D = none → Ex H H2 → H2 D = some (.lst (ps.map V.ref)) → ps.length = as.length → (∀ (i : Nat) (x : α) (p : Addr), as[i]? = some x → ps[i]? = some p → H2 p = some (o x)) → Q (.ref D) H2) :
    ∃ b, V.ref a = .ref b ∧ (∃ xs, SqL K H b xs) ∧ LcRun g tYes te vs σ Q (Itl K b) H := by
  refine ⟨a, rfl, ⟨_, hl⟩, fun Dl hD => lc_list (xs := as.map f) (fun k H' => Ex H H' ∧ (∀ x ∈ as.take k, good x) ∧ ∃ ps : List Addr, H' Dl = some (.lst (ps.map V.ref)) ∧ ps.length = k ∧ ∀ (i : Nat) (x : α) (p : Addr), as[i]? = some x → ps[i]? = some p → p ≠ Dl ∧ H' p = some (o x))
    ⟨Evl.Ex.new hD, fun x hx => by simp at hx, [], by rw [upd_same]; rfl, rfl, fun i x p _ h => by simp at h⟩ (fun k H' _ pp => Evl.ex_l pp.1 hl) (fun k x H' hx pp => ?_) fun H' pp => ?_⟩
  · rw [List.getElem?_map] at hx
    cases ex : as[k]? with
    | none => rw [ex] at hx; cases hx
    | some n =>
      rw [ex] at hx
      cases hx
      have hk : k < as.length := (List.getElem?_eq_some_iff.mp ex).1
      obtain ⟨e1, gd, ps, hps, hlen, hall⟩ := pp
      refine hg n (List.mem_of_getElem? ex) H' e1 _ ⟨hw _, ?_⟩
      refine x_true (B := True) ?_
      refine he n (List.mem_of_getElem? ex) H' e1 _ fun p H2 gx p0 e2 hp => ?_
      have npD : p ≠ Dl := Ne.symm (ne_of_none hps p0)
      refine ⟨_, e2 _ _ hps, by rw [List.length_map, hlen]; exact szl (by omega), Evl.Ex.mut (e1.trans e2) hD, fun y hy => ?_, ps ++ [p], by rw [upd_same, List.map_append]; rfl, by rw [List.length_append, hlen]; rfl, fun i y r hi hr => ?_⟩
      rotate_left
      · by_cases h : i < ps.length
        · rw [List.getElem?_append_left h] at hr
          obtain ⟨h1, h2⟩ := hall i y r hi hr
          exact ⟨h1, by rw [upd_ne h1]; exact e2 _ _ h2⟩
        · have h2 := (List.getElem?_eq_some_iff.mp hr).1
          rw [List.length_append, List.length_singleton] at h2
          have h3 : i = ps.length := by omega
          subst h3
          rw [List.getElem?_append_right (Nat.le_refl _), Nat.sub_self] at hr
          cases hr
          rw [hlen, ex] at hi
          cases hi
          exact ⟨npD, by rw [upd_ne npD]; exact hp⟩
      · rw [take_snoc ex] at hy
        rcases List.mem_append.mp hy with hy | hy
        · exact gd y hy
        · rw [List.mem_singleton.mp hy]
          exact gx
  · obtain ⟨e1, gd, ps, hps, hlen, hall⟩ := pp
    rw [List.length_map] at hlen
    rw [List.length_map, List.take_length] at gd
    exact q Dl H' ps gd hD e1 hps hlen fun i x p hi hp => (hall i x p hi hp).2
/-- over a list, any target, a test, plain items -/
theorem x_lcGV {K : Frag} {σ : L2.St} {H : Hp} {Q : VK} {g : TG} {tt : TT} {te : TE} {a : Addr} {vs : List Nat} {α : Type} (as : List α) (f : α → V) (t : α → Bool) (v : α → V) (bind : α → L2.St) (hl : SqL K H a (as.map f)) (hz : as.length ≤ 1000000) (hw : ∀ x, wipe (bind x) vs = wipe σ vs)
    (hg : ∀ x ∈ as, ∀ H', Ex H H' → ∀ R : L2.St → Hp → Prop, R (bind x) H' → g (f x) (wipe σ vs) H' R)
    (ht : ∀ x ∈ as, ∀ H', Ex H H' → ∀ QT : Bool → Hp → Prop, (∀ H2, Ex H' H2 → QT (t x) H2) → tt (bind x) H' QT)
    (he : ∀ x ∈ as, t x = true → ∀ H', Ex H H' → ∀ Q' : VK, (∀ H2, Ex H' H2 → Q' (v x) H2) → te (bind x) H' Q')
    (q : ∀ D H2, H D = none → Ex H H2 → H2 D = some (.lst ((as.filter t).map v)) → Q (.ref D) H2) :
    ∃ b, V.ref a = .ref b ∧ (∃ xs, SqL K H b xs) ∧ LcRun g tt te vs σ Q (Itl K b) H := by
  refine ⟨a, rfl, ⟨_, hl⟩, fun Dl hD => lc_list (xs := as.map f) (fun k H' => Ex H H' ∧ H' Dl = some (.lst (((as.take k).filter t).map v))) ⟨Evl.Ex.new hD, by rw [upd_same]; rfl⟩ (fun k H' _ pp => Evl.ex_l pp.1 hl) (fun k x H' hx pp => ?_) fun H' pp => ?_⟩
  · rw [List.getElem?_map] at hx
    cases ex : as[k]? with
    | none => rw [ex] at hx; cases hx
    | some n =>
      rw [ex] at hx
      cases hx
      have hk : k < as.length := (List.getElem?_eq_some_iff.mp ex).1
      have hm := List.mem_of_getElem? ex
      obtain ⟨e1, hps⟩ := pp
      refine hg n hm H' e1 _ ⟨hw _, ?_⟩
      refine ht n hm H' e1 _ fun H2 e2 => ?_
      cases b : t n with
      | false =>
        refine x_false (A := True) ?_
        refine ⟨e1.trans e2, ?_⟩
        rw [e2 _ _ hps, take_snoc ex, List.filter_append, List.filter_cons, b]
        simp
      | true =>
        refine x_true (B := True) ?_
        refine he n hm b H2 (e1.trans e2) _ fun H3 e3 => ?_
        refine ⟨_, e3 _ _ (e2 _ _ hps), ?_, Evl.Ex.mut (e1.trans (e2.trans e3)) hD, ?_⟩
        · rw [List.length_map]
          have := List.length_filter_le t (as.take k)
          rw [List.length_take] at this
          exact szl (by omega)
        · rw [upd_same, take_snoc ex, List.filter_append, List.filter_cons, b, List.map_append]
          rfl
  · obtain ⟨e1, hps⟩ := pp
    rw [List.length_map, List.take_length] at hps
    exact q Dl H' hD e1 hps
/-! ### isinstance of an own object -/
def ObjC (K : Frag) (C : Addr) : Prop := PySem.W.findIn K (.ref C) "__class__" = some (some (.builtin "object.__class__")) ∧ PySem.W.specialIn K (.builtin "object.__class__") "__get__" = some (some (.builtin "getset_descriptor.__get__")) ∧
  PySem.W.takesIn K (.builtin "object.__class__") = some true ∧ PySem.W.mroIn K C (.type "object") = some true
theorem x_isiO {K : Frag} {H : Hp} {Q : VK} {a C D dx : Addr} {fs : List (Str × V)} {b : Bool} (e : H a = some (.ins C dx fs)) (cl : Cls K C) (o : ObjC K C) (k : PySem.W.kitOne K (.ref C) (.ref D) = some b) (q : Q (.bl b) H) : rIsi K [.ref a, .ref D] H Q :=
  ⟨.ref a, .ref D, .ref C, .ref D, b, rfl, .own D, .base (.ins e cl o.1 o.2.1 o.2.2.1 o.2.2.2), k, q⟩
end B

namespace My
open PySem PySem.Spec PyProof.Rows L2 B
/-! ### the steps' rows -/
local macro_rules | `(tactic| walk_at "hx") => `(tactic| first
  | assumption
  | exact Evl.Ex.refl _
  | exact Upd.same (by assumption)
  | ((with_reducible refine' exg (by assumption) ?k1); (case k1 => walk_at "hx"))
  | ((with_reducible refine' Upd.get (by assumption) (by walk_at "ne") ?k1); (case k1 => walk_at "hx"))
  | ((with_reducible refine' Evl.Ex.trans ?k1 (by assumption)); (case k1 => walk_at "hx"))
  | ((with_reducible refine' Upd.ex (by assumption) ?k1 (by first | assumption | exact exn (by assumption) (by assumption))); (case k1 => walk_at "hx"))
  | ((with_reducible refine' Sq.l ?k1); (case k1 => walk_at "hx"))
  | ((with_reducible refine' Sq.t ?k1); (case k1 => walk_at "hx"))
  | ((with_reducible refine' Or.inl ?k1); (case k1 => walk_at "hx"))
  | ((with_reducible refine' Or.inr ?k1); (case k1 => walk_at "hx"))
  | ((with_reducible refine' Evl.sq_of ?k1); (case k1 => walk_at "hx"))
  | ((with_reducible refine' Evl.st_of ?k1); (case k1 => walk_at "hx"))
  | ((with_reducible refine' Evl.ex_l (by assumption) ?k1); (case k1 => walk_at "hx"))
  | ((with_reducible refine' Evl.ex_t (by assumption) ?k1); (case k1 => walk_at "hx"))
  | ((with_reducible refine' Sq.ex (by assumption) ?k1); (case k1 => walk_at "hx"))
  | ((with_reducible refine' Wishes.ex (by assumption) ?k1); (case k1 => walk_at "hx")))
local macro_rules | `(tactic| walk_at "ne") => `(tactic| first
  | assumption
  | exact Ne.symm (by assumption)
  | exact ne_of_none (by assumption) (by assumption)
  | exact Ne.symm (ne_of_none (by assumption) (by assumption)))
local macro_rules | `(tactic| walk_at "goa") => `(tactic| first
  | with_reducible refine x_nx ?_
  | with_reducible refine x_seq ?_
  | with_reducible refine x_next ?_
  | with_reducible refine x_rt ?_
  | with_reducible refine x_asg ?_
  | with_reducible refine x_ret ?_
  | with_reducible refine x_gName ?_
  | with_reducible refine x_ifS ?_
  | with_reducible refine B.x_wt ?_
  | with_reducible refine x_drop ?_
  | ((with_reducible refine' x_var ?k1 ?_); (case k1 => exact rfl))
  | with_reducible refine x_c ?_
  | with_reducible refine x_op ?_
  | with_reducible refine x_tup ?_
  | with_reducible refine x_lst ?_
  | with_reducible refine x_for ?_
  | with_reducible refine x_lc ?_
  | with_reducible refine x_iList ?_
  | with_reducible refine x_iTup ?_
  | with_reducible refine x_iZip ?_
  | with_reducible refine x_iRng3 ?_
  | with_reducible refine x_iEnum ?_
  | with_reducible refine x_augS ?_
  | with_reducible refine x_isB ?_
  | with_reducible refine x_revL ?_
  | with_reducible refine x_iRng1 ?_
  | with_reducible refine x_iRng2 ?_
  | with_reducible refine x_un ?_
  | with_reducible refine x_rI0 ?_
  | ((with_reducible refine x_rEq ?k1 ?_); (case k1 => exact rfl))
  | ((with_reducible refine x_rNe ?k1 ?_); (case k1 => exact rfl))
  | with_reducible refine x_rU ?_
  | with_reducible refine x_nil ?_
  | with_reducible refine x_cons ?_
  | with_reducible refine x_CB ?_
  | with_reducible refine x_call ?_
  | with_reducible refine x_test ?_
  | with_reducible refine x_B ?_
  | with_reducible refine x_bl ?_
  | with_reducible refine x_and ?_
  | with_reducible refine x_or ?_
  | with_reducible refine x_not ?_
  | with_reducible refine x_andV ?_
  | with_reducible refine x_orV ?_
  | with_reducible refine x_notV ?_
  | with_reducible refine x_blV ?_
  | with_reducible refine x_if ?_
  | with_reducible refine x_isN ?_
  | with_reducible refine x_notN ?_
  | with_reducible refine x_BM ?_
  | with_reducible refine x_BM0 ?_
  | with_reducible refine x_asgG ?_
  | with_reducible refine x_gSub ?_
  | with_reducible refine x_dIn ?_
  | with_reducible refine x_dNotIn ?_
  | with_reducible refine x_dGet ?_
  | with_reducible refine x_dPut ?_
  | with_reducible refine x_lstRg ?_
  | with_reducible refine x_rg1 ?_
  | with_reducible refine x_rg2 ?_
  | with_reducible refine x_CKw ?_
  | with_reducible refine x_sl ?_
  | with_reducible refine x_noPart ?_
  | with_reducible refine x_part ?_
  | with_reducible refine x_partI ?_
  | ((with_reducible refine' x_aug ?k1 ?_); (case k1 => exact rfl))
  | with_reducible refine x_ipI ?_
  | ((with_reducible refine' x_onL ?k1 ?_); (case k1 => walk_at "hx"))
  | ((with_reducible refine' x_onL0 ?k1 ?_); (case k1 => walk_at "hx"))
  | ((with_reducible refine' x_len ?k1 ?_); (case k1 => walk_at "hx"))
  | ((with_reducible refine' x_inI ?k1 ?_); (case k1 => walk_at "hx"))
  | ((with_reducible refine' x_inS ?k1 ?_); (case k1 => walk_at "hx"))
  | ((with_reducible refine' x_notInI ?k1 ?_); (case k1 => walk_at "hx"))
  | ((with_reducible refine' x_notInS ?k1 ?_); (case k1 => walk_at "hx"))
  | with_reducible refine x_brk ?_
  | with_reducible refine x_cont ?_
  | with_reducible refine x_true ?_
  | with_reducible refine x_false ?_)
local macro_rules | `(tactic| walk_at "go") => `(tactic| repeat walk_at "goa")


local macro_rules | `(tactic| walk_at "hx") => `(tactic| first
  | ((with_reducible refine' B.exgN (by assumption) ?k1 ?k2); (case k1 => walk_at "hx"); (case k2 => exact fun ps z => by cases z))
  | ((with_reducible refine' B.SqL.exN (by assumption) ?k1); (case k1 => walk_at "hx"))
  | ((with_reducible refine' B.SqT.exN (by assumption) ?k1); (case k1 => walk_at "hx"))
  | ((with_reducible refine' B.Sq.exN (by assumption) ?k1); (case k1 => walk_at "hx"))
  | ((with_reducible refine' LamX.ExtN.trans ?k1 (by assumption)); (case k1 => walk_at "hx"))
  | ((with_reducible refine' LamX.ExtN.trans ?k1 (B.ExtN.ex (by assumption))); (case k1 => walk_at "hx"))
  | exact LamX.ExtN.refl _)
local macro_rules | `(tactic| walk_at "tb") => `(tactic| first
  | assumption
  | ((with_reducible refine' B.Tabs.ex ?k1 (by assumption)); (case k1 => walk_at "tb"))
  | ((with_reducible refine' B.Tabs.updL ?k1 (by assumption) ?k2); (case k1 => walk_at "tb"); (case k2 => walk_at "hx")))
local macro_rules | `(tactic| walk_at "goa") => `(tactic| with_reducible refine B.x_iEnumQ ?_)
local macro_rules | `(tactic| walk_at "goa") => `(tactic| with_reducible refine B.x_sortLam ?_)
local macro_rules | `(tactic| walk_at "goa") => `(tactic| with_reducible refine B.x_chain ?_)
local macro_rules | `(tactic| walk_at "goa") => `(tactic| with_reducible refine B.x_ntrue ?_)
local macro_rules | `(tactic| walk_at "goa") => `(tactic| with_reducible refine B.x_nfalse ?_)

local macro_rules | `(tactic| walk_at "goa") => `(tactic| with_reducible refine B.x_dget2 ?_)
local macro_rules | `(tactic| walk_at "goa") => `(tactic| with_reducible refine B.x_dsetd ?_)
local macro_rules | `(tactic| walk_at "goa") => `(tactic| ((with_reducible refine' B.x_dg2K ?k1 ?_); (case k1 => walk_at "hx")))
local macro_rules | `(tactic| walk_at "goa") => `(tactic| ((with_reducible refine' B.x_dg2T ?k1 ?_); (case k1 => walk_at "hx")))
local macro_rules | `(tactic| walk_at "goa") => `(tactic| ((with_reducible refine' B.x_sd2 ?k1 ?_); (case k1 => walk_at "hx")))

local macro_rules | `(tactic| walk_at "goa") => `(tactic| with_reducible refine B.x_makeS ?_)
local macro_rules | `(tactic| walk_at "goa") => `(tactic| with_reducible refine B.x_methF ?_)
local macro_rules | `(tactic| walk_at "goa") => `(tactic| with_reducible refine B.x_M1 ?_)
local macro_rules | `(tactic| walk_at "goa") => `(tactic| with_reducible refine B.x_onS ?_)
local macro_rules | `(tactic| walk_at "goa") => `(tactic| with_reducible refine B.x_callS ?_)

local macro_rules | `(tactic| walk_at "goa") => `(tactic| with_reducible refine B.x_fld ?_)
local macro_rules | `(tactic| walk_at "goa") => `(tactic| ((with_reducible refine' B.x_onF ?k1 ?k2 ?k3 ?k4 ?_); (case k1 => walk_at "hx"); (case k2 => assumption); (case k3 => assumption); (case k4 => rfl)))
local macro_rules | `(tactic| walk_at "goa") => `(tactic| with_reducible refine B.x_sfld ?_)
local macro_rules | `(tactic| walk_at "goa") => `(tactic| with_reducible refine B.x_listVals ?_)
local macro_rules | `(tactic| walk_at "goa") => `(tactic| with_reducible refine B.x_notInVals ?_)
local macro_rules | `(tactic| walk_at "goa") => `(tactic| with_reducible refine B.x_iStr ?_)
local macro_rules | `(tactic| walk_at "goa") => `(tactic| with_reducible refine B.x_inSg ?_)

local macro_rules | `(tactic| walk_at "goa") => `(tactic| with_reducible refine B.x_starts ?_)
local macro_rules | `(tactic| walk_at "goa") => `(tactic| with_reducible refine B.x_ends ?_)

def top (i : Nat) : Stmt := PySem.Challenge.pw_berthrow_k13_books.main.body.getD i (.Pass ⟨0, 0, 0, 0⟩)
abbrev s_Quay___init__ : Stmt := inClass (top 22) 0
abbrev n_Quay___init__ : List Str := ["self", "berths"]
theorem sc_Quay___init__ : FnScope n_Quay___init__ ["self", "berths"] (defScope s_Quay___init__) := ⟨rfl, rfl, rfl, by decide +kernel, rfl, by decide +kernel, by decide +kernel⟩
abbrev s_Quay_kind : Stmt := inClass (top 22) 1
abbrev n_Quay_kind : List Str := ["self"]
theorem sc_Quay_kind : FnScope n_Quay_kind ["self"] (defScope s_Quay_kind) := ⟨rfl, rfl, rfl, by decide +kernel, rfl, by decide +kernel, by decide +kernel⟩
abbrev s_Quay_size : Stmt := inClass (top 22) 2
abbrev n_Quay_size : List Str := ["self"]
theorem sc_Quay_size : FnScope n_Quay_size ["self"] (defScope s_Quay_size) := ⟨rfl, rfl, rfl, by decide +kernel, rfl, by decide +kernel, by decide +kernel⟩
abbrev s_Quay_way : Stmt := inClass (top 22) 3
abbrev n_Quay_way : List Str := ["self", "wish"]
theorem sc_Quay_way : FnScope n_Quay_way ["self", "wish"] (defScope s_Quay_way) := ⟨rfl, rfl, rfl, by decide +kernel, rfl, by decide +kernel, by decide +kernel⟩
abbrev s_Quay_berth_for : Stmt := inClass (top 22) 4
abbrev n_Quay_berth_for : List Str := ["self", "wish", "held", "berth"]
theorem sc_Quay_berth_for : FnScope n_Quay_berth_for ["self", "wish"] (defScope s_Quay_berth_for) := ⟨rfl, rfl, rfl, by decide +kernel, rfl, by decide +kernel, by decide +kernel⟩
abbrev s_Quay_come : Stmt := inClass (top 22) 5
abbrev n_Quay_come : List Str := ["self", "name", "wish", "berth"]
theorem sc_Quay_come : FnScope n_Quay_come ["self", "name", "wish"] (defScope s_Quay_come) := ⟨rfl, rfl, rfl, by decide +kernel, rfl, by decide +kernel, by decide +kernel⟩
abbrev s_Quay_where : Stmt := inClass (top 22) 6
abbrev n_Quay_where : List Str := ["self", "name"]
theorem sc_Quay_where : FnScope n_Quay_where ["self", "name"] (defScope s_Quay_where) := ⟨rfl, rfl, rfl, by decide +kernel, rfl, by decide +kernel, by decide +kernel⟩
abbrev s_Quay_leave : Stmt := inClass (top 22) 7
abbrev n_Quay_leave : List Str := ["self", "name", "ahead", "others", "pair", "moves", "other", "wish", "berth"]
theorem sc_Quay_leave : FnScope n_Quay_leave ["self", "name"] (defScope s_Quay_leave) := ⟨rfl, rfl, rfl, by decide +kernel, rfl, by decide +kernel, by decide +kernel⟩
abbrev s_Quay_all_ships : Stmt := inClass (top 22) 8
abbrev n_Quay_all_ships : List Str := ["self", "name", "wish"]
theorem sc_Quay_all_ships : FnScope n_Quay_all_ships ["self"] (defScope s_Quay_all_ships) := ⟨rfl, rfl, rfl, by decide +kernel, rfl, by decide +kernel, by decide +kernel⟩
abbrev s_Quay_free_ones : Stmt := inClass (top 22) 9
abbrev n_Quay_free_ones : List Str := ["self", "held", "berth"]
theorem sc_Quay_free_ones : FnScope n_Quay_free_ones ["self"] (defScope s_Quay_free_ones) := ⟨rfl, rfl, rfl, by decide +kernel, rfl, by decide +kernel, by decide +kernel⟩
abbrev s_Round_kind : Stmt := inClass (top 23) 0
abbrev n_Round_kind : List Str := ["self"]
theorem sc_Round_kind : FnScope n_Round_kind ["self"] (defScope s_Round_kind) := ⟨rfl, rfl, rfl, by decide +kernel, rfl, by decide +kernel, by decide +kernel⟩
abbrev s_Round_way : Stmt := inClass (top 23) 1
abbrev n_Round_way : List Str := ["self", "wish"]
theorem sc_Round_way : FnScope n_Round_way ["self", "wish"] (defScope s_Round_way) := ⟨rfl, rfl, rfl, by decide +kernel, rfl, by decide +kernel, by decide +kernel⟩
abbrev s_is_number : Stmt := top 16
abbrev n_is_number : List Str := ["thing", "least", "most"]
theorem sc_is_number : FnScope n_is_number ["thing", "least", "most"] (defScope s_is_number) := ⟨rfl, rfl, rfl, by decide +kernel, rfl, by decide +kernel, by decide +kernel⟩
abbrev s_need_quay : Stmt := top 17
abbrev n_need_quay : List Str := ["berths"]
theorem sc_need_quay : FnScope n_need_quay ["berths"] (defScope s_need_quay) := ⟨rfl, rfl, rfl, by decide +kernel, rfl, by decide +kernel, by decide +kernel⟩
abbrev s_need_name : Stmt := top 21
abbrev n_need_name : List Str := ["name", "sign"]
theorem sc_need_name : FnScope n_need_name ["name"] (defScope s_need_name) := ⟨rfl, rfl, rfl, by decide +kernel, rfl, by decide +kernel, by decide +kernel⟩
abbrev s_written : Stmt := top 26
abbrev n_written : List Str := ["quay", "rows", "name", "wish", "berth", "row"]
theorem sc_written : FnScope n_written ["quay"] (defScope s_written) := ⟨rfl, rfl, rfl, by decide +kernel, rfl, by decide +kernel, by decide +kernel⟩
abbrev s_number_of : Stmt := top 27
abbrev n_number_of : List Str := ["word", "sign"]
theorem sc_number_of : FnScope n_number_of ["word"] (defScope s_number_of) := ⟨rfl, rfl, rfl, by decide +kernel, rfl, by decide +kernel, by decide +kernel⟩
abbrev s_name_of : Stmt := top 28
abbrev n_name_of : List Str := ["word"]
theorem sc_name_of : FnScope n_name_of ["word"] (defScope s_name_of) := ⟨rfl, rfl, rfl, by decide +kernel, rfl, by decide +kernel, by decide +kernel⟩
abbrev s_pair_of : Stmt := top 29
abbrev n_pair_of : List Str := ["row", "words"]
theorem sc_pair_of : FnScope n_pair_of ["row"] (defScope s_pair_of) := ⟨rfl, rfl, rfl, by decide +kernel, rfl, by decide +kernel, by decide +kernel⟩
abbrev s_read : Stmt := top 30
abbrev n_read : List Str := ["text", "rows", "row", "word", "many", "berths", "told", "name", "wish", "quay"]
theorem sc_read : FnScope n_read ["text"] (defScope s_read) := ⟨rfl, rfl, rfl, by decide +kernel, rfl, by decide +kernel, by decide +kernel⟩
abbrev s__law_cell_at : Stmt := top 32
abbrev n__law_cell_at : List Str := ["_law_script", "_law_k"]
theorem sc__law_cell_at : FnScope n__law_cell_at ["_law_script", "_law_k"] (defScope s__law_cell_at) := ⟨rfl, rfl, rfl, by decide +kernel, rfl, by decide +kernel, by decide +kernel⟩
abbrev s__law_mix : Stmt := top 33
abbrev n__law_mix : List Str := ["_law_state", "_law_cell"]
theorem sc__law_mix : FnScope n__law_mix ["_law_state", "_law_cell"] (defScope s__law_mix) := ⟨rfl, rfl, rfl, by decide +kernel, rfl, by decide +kernel, by decide +kernel⟩
abbrev s__law_words : Stmt := top 34
abbrev n__law_words : List Str := ["_law_e", "_law_some"]
theorem sc__law_words : FnScope n__law_words ["_law_e"] (defScope s__law_words) := ⟨rfl, rfl, rfl, by decide +kernel, rfl, by decide +kernel, by decide +kernel⟩
abbrev s__law_read : Stmt := top 35
abbrev n__law_read : List Str := ["_law_text_here", "_law_found", "_law_caught", "_law_e"]
theorem sc__law_read : FnScope n__law_read ["_law_text_here"] (defScope s__law_read) := ⟨rfl, rfl, rfl, by decide +kernel, rfl, by decide +kernel, by decide +kernel⟩
abbrev s__law_text : Stmt := top 36
abbrev n__law_text : List Str := ["_law_quay", "_law_rows", "_law_name", "_law_wish", "_law_berth", "_law_row"]
theorem sc__law_text : FnScope n__law_text ["_law_quay"] (defScope s__law_text) := ⟨rfl, rfl, rfl, by decide +kernel, rfl, by decide +kernel, by decide +kernel⟩
abbrev s__law_drawn : Stmt := top 37
abbrev n__law_drawn : List Str := ["_law_script", "_law_state", "_law_first", "_law_berths", "_law_quay", "_law_cell", "_law_mix_here", "_law_name", "_law_there", "_law_one", "_law_wish", "_law_berth", "_law_free", "_law_able"]
theorem sc__law_drawn : FnScope n__law_drawn ["_law_script"] (defScope s__law_drawn) := ⟨rfl, rfl, rfl, by decide +kernel, rfl, by decide +kernel, by decide +kernel⟩
abbrev s__law_odd_text : Stmt := top 38
abbrev n__law_odd_text : List Str := ["_law_text_here", "_law_quay", "_law_cell", "_law_rows", "_law_at", "_law_many", "_law_some", "_law_more"]
theorem sc__law_odd_text : FnScope n__law_odd_text ["_law_text_here", "_law_quay", "_law_cell"] (defScope s__law_odd_text) := ⟨rfl, rfl, rfl, by decide +kernel, rfl, by decide +kernel, by decide +kernel⟩
abbrev s_law : Stmt := top 39
abbrev n_law : List Str := ["_law_script", "_law_quay", "_law_text_here", "_law_again", "_law_kinds", "_law_cell", "_law_thing", "_law_line", "_law_due", "_law_more"]
theorem sc_law : FnScope n_law ["_law_script"] (defScope s_law) := ⟨rfl, rfl, rfl, by decide +kernel, rfl, by decide +kernel, by decide +kernel⟩
structure Nms (K : PySem.W.Frag) (mg : Str → Option Value) : Prop where
  n_len : mg "len" = none
  n_isinstance : mg "isinstance" = none
  n_range : mg "range" = none
  n_all : mg "all" = none
  n_int : mg "int" = none
  n_bool : mg "bool" = none
  n_str : mg "str" = none
  n_list : mg "list" = none
  n_ValueError : mg "ValueError" = none
  c_MOST : B.Const mg "MOST" (.int 400)
  c_LETTERS : B.Const mg "LETTERS" (.str "abcdefghijklmnopqrstuvwxyz")
  c_LONGEST : B.Const mg "LONGEST" (.int 8)
  c_FIGURES : B.Const mg "FIGURES" (.str "0123456789")
  x_NoQuay : B.Err K mg "NoQuay"
  x_NoName : B.Err K mg "NoName"
  x_NoText : B.Err K mg "NoText"
  x_Taken : B.Err K mg "Taken"
  x_NoWish : B.Err K mg "NoWish"
  x_NoRoom : B.Err K mg "NoRoom"
  x_NoShip : B.Err K mg "NoShip"
  m_Quay : mg "Quay" = some (.ref (B.at_ mg "Quay"))
  m_Round : mg "Round" = some (.ref (B.at_ mg "Round"))
  m_BerthError : mg "BerthError" = some (.ref (B.at_ mg "BerthError"))
  m_NoCount : mg "NoCount" = some (.ref (B.at_ mg "NoCount"))
  m_NoOrder : mg "NoOrder" = some (.ref (B.at_ mg "NoOrder"))
  m_NoQuay : mg "NoQuay" = some (.ref (B.at_ mg "NoQuay"))
  m_NoName : mg "NoName" = some (.ref (B.at_ mg "NoName"))
  m_NoTree : mg "NoTree" = some (.ref (B.at_ mg "NoTree"))
  m_NoWishes : mg "NoWishes" = some (.ref (B.at_ mg "NoWishes"))
  m_TooMany : mg "TooMany" = some (.ref (B.at_ mg "TooMany"))
  m_NoShip : mg "NoShip" = some (.ref (B.at_ mg "NoShip"))
  m_NoText : mg "NoText" = some (.ref (B.at_ mg "NoText"))
  m_Taken : mg "Taken" = some (.ref (B.at_ mg "Taken"))
  m_NoWish : mg "NoWish" = some (.ref (B.at_ mg "NoWish"))
  m_NoRoom : mg "NoRoom" = some (.ref (B.at_ mg "NoRoom"))
  cl_Quay : B.IsCls K mg "Quay"
  na_Quay_many : NoAttr K (B.at_ mg "Quay") "many"
  na_Quay_line : NoAttr K (B.at_ mg "Quay") "line"
  na_Quay_lying : NoAttr K (B.at_ mg "Quay") "lying"
  cl_Round : B.IsCls K mg "Round"
  na_Round_many : NoAttr K (B.at_ mg "Round") "many"
  na_Round_line : NoAttr K (B.at_ mg "Round") "line"
  na_Round_lying : NoAttr K (B.at_ mg "Round") "lying"
  k_NoText : ExcC K (B.at_ mg "NoText")
  e_NoText : PySem.W.exmOne K (.ref (B.at_ mg "NoText")) (.ref (B.at_ mg "BerthError")) = some true
  k_Taken : ExcC K (B.at_ mg "Taken")
  e_Taken : PySem.W.exmOne K (.ref (B.at_ mg "Taken")) (.ref (B.at_ mg "BerthError")) = some true
  k_NoWish : ExcC K (B.at_ mg "NoWish")
  e_NoWish : PySem.W.exmOne K (.ref (B.at_ mg "NoWish")) (.ref (B.at_ mg "BerthError")) = some true
  k_NoRoom : ExcC K (B.at_ mg "NoRoom")
  e_NoRoom : PySem.W.exmOne K (.ref (B.at_ mg "NoRoom")) (.ref (B.at_ mg "BerthError")) = some true
  ob_Quay : B.ObjC K (B.at_ mg "Quay")
  ob_Round : B.ObjC K (B.at_ mg "Round")
  ik_Quay_Quay : PySem.W.kitOne K (.ref (B.at_ mg "Quay")) (.ref (B.at_ mg "Quay")) = some true
  ik_Quay_Round : PySem.W.kitOne K (.ref (B.at_ mg "Quay")) (.ref (B.at_ mg "Round")) = some false
  ik_Round_Round : PySem.W.kitOne K (.ref (B.at_ mg "Round")) (.ref (B.at_ mg "Round")) = some true
  ik_Round_Quay : PySem.W.kitOne K (.ref (B.at_ mg "Round")) (.ref (B.at_ mg "Quay")) = some true
  es_NoName : PySem.W.exmOne K (.ref (B.at_ mg "NoName")) (.ref (B.at_ mg "NoName")) = some true
  i_NoText_NoCount : PySem.W.kitOne K (.ref (B.at_ mg "NoText")) (.ref (B.at_ mg "NoCount")) = some false
  i_NoText_NoOrder : PySem.W.kitOne K (.ref (B.at_ mg "NoText")) (.ref (B.at_ mg "NoOrder")) = some false
  i_NoText_NoQuay : PySem.W.kitOne K (.ref (B.at_ mg "NoText")) (.ref (B.at_ mg "NoQuay")) = some false
  i_NoText_NoName : PySem.W.kitOne K (.ref (B.at_ mg "NoText")) (.ref (B.at_ mg "NoName")) = some false
  i_NoText_NoTree : PySem.W.kitOne K (.ref (B.at_ mg "NoText")) (.ref (B.at_ mg "NoTree")) = some false
  i_NoText_NoWishes : PySem.W.kitOne K (.ref (B.at_ mg "NoText")) (.ref (B.at_ mg "NoWishes")) = some false
  i_NoText_TooMany : PySem.W.kitOne K (.ref (B.at_ mg "NoText")) (.ref (B.at_ mg "TooMany")) = some false
  i_NoText_NoShip : PySem.W.kitOne K (.ref (B.at_ mg "NoText")) (.ref (B.at_ mg "NoShip")) = some false
  i_NoText_NoText : PySem.W.kitOne K (.ref (B.at_ mg "NoText")) (.ref (B.at_ mg "NoText")) = some true
  i_NoText_Taken : PySem.W.kitOne K (.ref (B.at_ mg "NoText")) (.ref (B.at_ mg "Taken")) = some false
  i_NoText_NoWish : PySem.W.kitOne K (.ref (B.at_ mg "NoText")) (.ref (B.at_ mg "NoWish")) = some false
  i_NoText_NoRoom : PySem.W.kitOne K (.ref (B.at_ mg "NoText")) (.ref (B.at_ mg "NoRoom")) = some false
  i_Taken_NoCount : PySem.W.kitOne K (.ref (B.at_ mg "Taken")) (.ref (B.at_ mg "NoCount")) = some false
  i_Taken_NoOrder : PySem.W.kitOne K (.ref (B.at_ mg "Taken")) (.ref (B.at_ mg "NoOrder")) = some false
  i_Taken_NoQuay : PySem.W.kitOne K (.ref (B.at_ mg "Taken")) (.ref (B.at_ mg "NoQuay")) = some false
  i_Taken_NoName : PySem.W.kitOne K (.ref (B.at_ mg "Taken")) (.ref (B.at_ mg "NoName")) = some false
  i_Taken_NoTree : PySem.W.kitOne K (.ref (B.at_ mg "Taken")) (.ref (B.at_ mg "NoTree")) = some false
  i_Taken_NoWishes : PySem.W.kitOne K (.ref (B.at_ mg "Taken")) (.ref (B.at_ mg "NoWishes")) = some false
  i_Taken_TooMany : PySem.W.kitOne K (.ref (B.at_ mg "Taken")) (.ref (B.at_ mg "TooMany")) = some false
  i_Taken_NoShip : PySem.W.kitOne K (.ref (B.at_ mg "Taken")) (.ref (B.at_ mg "NoShip")) = some false
  i_Taken_NoText : PySem.W.kitOne K (.ref (B.at_ mg "Taken")) (.ref (B.at_ mg "NoText")) = some false
  i_Taken_Taken : PySem.W.kitOne K (.ref (B.at_ mg "Taken")) (.ref (B.at_ mg "Taken")) = some true
  i_Taken_NoWish : PySem.W.kitOne K (.ref (B.at_ mg "Taken")) (.ref (B.at_ mg "NoWish")) = some false
  i_Taken_NoRoom : PySem.W.kitOne K (.ref (B.at_ mg "Taken")) (.ref (B.at_ mg "NoRoom")) = some false
  i_NoWish_NoCount : PySem.W.kitOne K (.ref (B.at_ mg "NoWish")) (.ref (B.at_ mg "NoCount")) = some false
  i_NoWish_NoOrder : PySem.W.kitOne K (.ref (B.at_ mg "NoWish")) (.ref (B.at_ mg "NoOrder")) = some false
  i_NoWish_NoQuay : PySem.W.kitOne K (.ref (B.at_ mg "NoWish")) (.ref (B.at_ mg "NoQuay")) = some false
  i_NoWish_NoName : PySem.W.kitOne K (.ref (B.at_ mg "NoWish")) (.ref (B.at_ mg "NoName")) = some false
  i_NoWish_NoTree : PySem.W.kitOne K (.ref (B.at_ mg "NoWish")) (.ref (B.at_ mg "NoTree")) = some false
  i_NoWish_NoWishes : PySem.W.kitOne K (.ref (B.at_ mg "NoWish")) (.ref (B.at_ mg "NoWishes")) = some false
  i_NoWish_TooMany : PySem.W.kitOne K (.ref (B.at_ mg "NoWish")) (.ref (B.at_ mg "TooMany")) = some false
  i_NoWish_NoShip : PySem.W.kitOne K (.ref (B.at_ mg "NoWish")) (.ref (B.at_ mg "NoShip")) = some false
  i_NoWish_NoText : PySem.W.kitOne K (.ref (B.at_ mg "NoWish")) (.ref (B.at_ mg "NoText")) = some false
  i_NoWish_Taken : PySem.W.kitOne K (.ref (B.at_ mg "NoWish")) (.ref (B.at_ mg "Taken")) = some false
  i_NoWish_NoWish : PySem.W.kitOne K (.ref (B.at_ mg "NoWish")) (.ref (B.at_ mg "NoWish")) = some true
  i_NoWish_NoRoom : PySem.W.kitOne K (.ref (B.at_ mg "NoWish")) (.ref (B.at_ mg "NoRoom")) = some false
  i_NoRoom_NoCount : PySem.W.kitOne K (.ref (B.at_ mg "NoRoom")) (.ref (B.at_ mg "NoCount")) = some false
  i_NoRoom_NoOrder : PySem.W.kitOne K (.ref (B.at_ mg "NoRoom")) (.ref (B.at_ mg "NoOrder")) = some false
  i_NoRoom_NoQuay : PySem.W.kitOne K (.ref (B.at_ mg "NoRoom")) (.ref (B.at_ mg "NoQuay")) = some false
  i_NoRoom_NoName : PySem.W.kitOne K (.ref (B.at_ mg "NoRoom")) (.ref (B.at_ mg "NoName")) = some false
  i_NoRoom_NoTree : PySem.W.kitOne K (.ref (B.at_ mg "NoRoom")) (.ref (B.at_ mg "NoTree")) = some false
  i_NoRoom_NoWishes : PySem.W.kitOne K (.ref (B.at_ mg "NoRoom")) (.ref (B.at_ mg "NoWishes")) = some false
  i_NoRoom_TooMany : PySem.W.kitOne K (.ref (B.at_ mg "NoRoom")) (.ref (B.at_ mg "TooMany")) = some false
  i_NoRoom_NoShip : PySem.W.kitOne K (.ref (B.at_ mg "NoRoom")) (.ref (B.at_ mg "NoShip")) = some false
  i_NoRoom_NoText : PySem.W.kitOne K (.ref (B.at_ mg "NoRoom")) (.ref (B.at_ mg "NoText")) = some false
  i_NoRoom_Taken : PySem.W.kitOne K (.ref (B.at_ mg "NoRoom")) (.ref (B.at_ mg "Taken")) = some false
  i_NoRoom_NoWish : PySem.W.kitOne K (.ref (B.at_ mg "NoRoom")) (.ref (B.at_ mg "NoWish")) = some false
  i_NoRoom_NoRoom : PySem.W.kitOne K (.ref (B.at_ mg "NoRoom")) (.ref (B.at_ mg "NoRoom")) = some true
  i_none_NoCount : PySem.W.kitOne K (.type "NoneType") (.ref (B.at_ mg "NoCount")) = some false
  i_none_NoOrder : PySem.W.kitOne K (.type "NoneType") (.ref (B.at_ mg "NoOrder")) = some false
  i_none_NoQuay : PySem.W.kitOne K (.type "NoneType") (.ref (B.at_ mg "NoQuay")) = some false
  i_none_NoName : PySem.W.kitOne K (.type "NoneType") (.ref (B.at_ mg "NoName")) = some false
  i_none_NoTree : PySem.W.kitOne K (.type "NoneType") (.ref (B.at_ mg "NoTree")) = some false
  i_none_NoWishes : PySem.W.kitOne K (.type "NoneType") (.ref (B.at_ mg "NoWishes")) = some false
  i_none_TooMany : PySem.W.kitOne K (.type "NoneType") (.ref (B.at_ mg "TooMany")) = some false
  i_none_NoShip : PySem.W.kitOne K (.type "NoneType") (.ref (B.at_ mg "NoShip")) = some false
  i_none_NoText : PySem.W.kitOne K (.type "NoneType") (.ref (B.at_ mg "NoText")) = some false
  i_none_Taken : PySem.W.kitOne K (.type "NoneType") (.ref (B.at_ mg "Taken")) = some false
  i_none_NoWish : PySem.W.kitOne K (.type "NoneType") (.ref (B.at_ mg "NoWish")) = some false
  i_none_NoRoom : PySem.W.kitOne K (.type "NoneType") (.ref (B.at_ mg "NoRoom")) = some false
/-! ### promises of the program: numbers, quays, wishes -/
open PySem PySem.Spec PyProof.Rows L2 B
/-- an exception of the class x leaves -/
def Bad (mg : Str → Option Value) (x : Str) (H : Hp) (E : XK) : Prop := ∀ (C : Addr) (H' : Hp), mg x = some (.ref C) → Ex H H' → E (.ref C) none H'
theorem Bad.ex {mg : Str → Option Value} {x : Str} {H H' : Hp} {E : XK} (e : Ex H H') (b : Bad mg x H E) : Bad mg x H' E := fun C H2 m e2 => b C H2 m (e.trans e2)
def sp_is_number (K : PySem.W.Frag) : Sp := fun vs H Q _ => ∃ x s lo hi, vs = [x, .int lo, .int hi] ∧ Kind K H x s ∧ Q (.bl (inB x lo hi)) H
def sp_need_quay (K : PySem.W.Frag) (mg : Str → Option Value) : Sp := fun vs H Q E => ∃ b s, vs = [b] ∧ Kind K H b s ∧ (inB b 1 400 = true → Q .non H) ∧ (inB b 1 400 = false → Bad mg "NoQuay" H E)
theorem has_is_number {P : Program} {w : World} {K : PySem.W.Frag} {mg : Str → Option Value} {base : Heap}  (S : B.Stands K mg "is_number" s_is_number) (N : Nms K mg)  : B.Has P w K mg base "is_number" 1 ["thing", "least", "most"] (sp_is_number K) := by
  refine B.has_ofN S sc_is_number (fun _ _ _ _ _ _ us hl => match us, hl with | [_, _, _], _ => rfl) (fun vs H Q E h => ?_)
    (fun f cdv A outer s H vs Q E hr h => ⟨_, (pss_one (ps_ret (pe_and (pe_callB (r := rIsi K) call_isi (by rfl) N.n_isinstance B.boot_isinstance (pa_cons (pv 0) (pa_cons (pe_bltn (v := .ty "int") (by rfl) N.n_int B.boot_int rfl) pa_nil))) (pe_and (pe_not (pe_callB (r := rIsi K) call_isi (by rfl) N.n_isinstance B.boot_isinstance (pa_cons (pv 0) (pa_cons (pe_bltn (v := .ty "bool") (by rfl) N.n_bool B.boot_bool rfl) pa_nil)))) (pe_and (pe_cmpR op_le (pv 1) (pv 0) (nomark _)) (pe_one (pe_cmpR op_le (pv 0) (pv 2) (nomark _)))))))), ?_⟩)
  · obtain ⟨x, s, lo, hi, rfl, _⟩ := h
    rfl
  · obtain ⟨x, s, lo, hi, rfl, k, q⟩ := h
    walk_at "go"
    have no : s.isA "int" = false → inB x lo hi = false := by intro e; cases k <;> first | rfl | (exact absurd e (by decide))
    have bo : s.isA "bool" = true → inB x lo hi = false := by intro e; cases k <;> first | rfl | (exact absurd e (by decide))
    have yes : s.isA "int" = true → s.isA "bool" = false → ∃ i, x = .int i := by
      intro e e2
      cases k <;> first | exact ⟨_, rfl⟩ | (exact absurd e (by decide)) | (exact absurd e2 (by decide))
    refine x_isi_int k ?_
    walk_at "go"
    refine x_b (fun e => ?_) (fun e => ?_)
    · walk_at "go"
      refine x_isi_bool k ?_
      walk_at "go"
      refine x_bN (fun e2 => ?_) (fun e2 => ?_)
      · obtain ⟨i, rfl⟩ := yes e e2
        walk_at "go"
        refine x_dec (fun c => ?_) (fun c => ?_)
        · walk_at "go"
          rw [show inB (.int i) lo hi = decide (i ≤ hi) from by simp [inB, c]] at q
          exact q
        · walk_at "go"
          rw [show inB (.int i) lo hi = false from by simp [inB, c]] at q
          exact q
      · rw [bo e2] at q
        exact q
    · rw [no e] at q
      exact q

theorem has_need_quay {P : Program} {w : World} {K : PySem.W.Frag} {mg : Str → Option Value} {base : Heap}  (S : B.Stands K mg "need_quay" s_need_quay) (N : Nms K mg) (h_is_number : B.Has P w K mg base "is_number" 1 ["thing", "least", "most"] (sp_is_number K)) : B.Has P w K mg base "need_quay" 2 ["berths"] (sp_need_quay K mg) := by
  refine B.has_of S sc_need_quay (fun _ _ _ _ _ _ us hl => match us, hl with | [_], _ => rfl) (fun vs H Q E h => ?_)
    (fun f cdv A outer s H vs Q E hr h => ⟨_, (pss_one (ps_if (pt_not (pt_val (B.pe_has h_is_number hr B.passL (pa_cons (pv 0) (pa_cons pe_int (pa_cons (B.pe_const N.c_MOST) pa_nil)))))) (pss_one (ps_raise rfl (takes_of rfl rfl rfl rfl) (B.pmk N.x_NoQuay))) pss_nil)), ?_⟩)
  · obtain ⟨b, s, rfl, _⟩ := h
    rfl
  · obtain ⟨b, s, rfl, k, q1, q2⟩ := h
    walk_at "go"
    refine ⟨b, s, 1, 400, rfl, k, ?_⟩
    walk_at "go"
    refine x_bN (fun e => ?_) (fun e => ?_)
    · walk_at "go"
      exact fun C m => q2 e C H m (Evl.Ex.refl H)
    · walk_at "go"
      exact q1 e


theorem nodup_le12 : ∀ {l m : List Int}, l.Nodup → (∀ x ∈ l, x ∈ m) → l.length ≤ m.length := B.nodup_le'
/-! ### quays that are kept: the plain law -/
/-- the berths that a ship looks at, in turn -/
def wayOf (n : Int) (r : Bool) (w : Int) : List Int := irange w (n + 1) ++ if r then irange 1 w else []
def freeOf (n : Int) (r : Bool) (bs : List Int) (w : Int) : Option Int := (wayOf n r w).find? fun b => !decide (b ∈ bs)
def layStep (n : Int) (r : Bool) (o : Option (List Int)) (w : Int) : Option (List Int) := o.bind fun bs => (freeOf n r bs w).map fun b => bs ++ [b]
/-- the berths of ships that come one by one, if all find one -/
def lay (n : Int) (r : Bool) (ws : List Int) : Option (List Int) := ws.foldl (layStep n r) (some [])
theorem lay_snoc (n : Int) (r : Bool) (ws : List Int) (w : Int) : lay n r (ws ++ [w]) = layStep n r (lay n r ws) w := by
  unfold lay
  rw [List.foldl_append]
  rfl
theorem lay_none (n : Int) (r : Bool) (ws : List Int) (h : lay n r ws = none) : ∀ vs : List Int, lay n r (ws ++ vs) = none := by
  intro vs
  unfold lay at h ⊢
  rw [List.foldl_append, h]
  clear h
  induction vs with
  | nil => rfl
  | cons v vs ih => exact ih
theorem lay_split {n : Int} {r : Bool} {ws : List Int} {w : Int} {bs : List Int} (h : lay n r (ws ++ [w]) = some bs) : ∃ cs b, lay n r ws = some cs ∧ freeOf n r cs w = some b ∧ bs = cs ++ [b] := by
  rw [lay_snoc] at h
  unfold layStep at h
  cases e : lay n r ws with
  | none => rw [e] at h; cases h
  | some cs =>
    rw [e] at h
    cases e2 : freeOf n r cs w with
    | none =>
      have h : (freeOf n r cs w).map (fun b => cs ++ [b]) = some bs := h
      rw [e2] at h
      cases h
    | some b =>
      have h : (freeOf n r cs w).map (fun b => cs ++ [b]) = some bs := h
      rw [e2] at h
      exact ⟨cs, b, rfl, e2, (Option.some.inj h).symm⟩
theorem lay_join {n : Int} {r : Bool} {ws : List Int} {w b : Int} {cs : List Int} (h : lay n r ws = some cs) (hf : freeOf n r cs w = some b) : lay n r (ws ++ [w]) = some (cs ++ [b]) := by
  rw [lay_snoc, h]
  show (freeOf n r cs w).map (fun b => cs ++ [b]) = _
  rw [hf]
  rfl
theorem lay_stop {n : Int} {r : Bool} {ws : List Int} {w : Int} {cs : List Int} (h : lay n r ws = some cs) (hf : freeOf n r cs w = none) : lay n r (ws ++ [w]) = none := by
  rw [lay_snoc, h]
  show (freeOf n r cs w).map (fun b => cs ++ [b]) = _
  rw [hf]
  rfl
theorem snoc_ind12 {α : Type} {P : List α → Prop} (h0 : P []) (h1 : ∀ l a, P l → P (l ++ [a])) : ∀ l, P l := fun l => by
  have h : ∀ m : List α, P m.reverse := by
    intro m
    induction m with
    | nil => exact h0
    | cons a m ih =>
      rw [List.reverse_cons]
      exact h1 _ _ ih
  have := h l.reverse
  rw [List.reverse_reverse] at this
  exact this
theorem lay_len {n : Int} {r : Bool} : ∀ (ws bs : List Int), lay n r ws = some bs → bs.length = ws.length := by
  refine snoc_ind12 (P := fun ws => ∀ bs, lay n r ws = some bs → bs.length = ws.length) (fun bs h => ?_) (fun ws w ih bs h => ?_)
  · obtain rfl := Option.some.inj h
    rfl
  · obtain ⟨cs, b, h1, _, rfl⟩ := lay_split h
    rw [List.length_append, List.length_append, ih cs h1]
    rfl
/-- where a berth stands on the way -/
theorem way_pos {n : Int} {r : Bool} {w x : Int} {i : Nat} (w1 : 1 ≤ w) (w2 : w ≤ n) (h : (wayOf n r w)[i]? = some x) : (x - w) % n = i ∧ (i : Int) < n ∧ 1 ≤ x ∧ x ≤ n ∧ (r = false → w ≤ x) := by
  unfold wayOf at h
  by_cases c : i < (irange w (n + 1)).length
  · rw [List.getElem?_append_left c] at h
    rw [irange_len] at c
    have e := irange_at (lo := w) (hi := n + 1) c
    rw [h] at e
    obtain rfl := Option.some.inj e
    refine ⟨?_, by omega, by omega, by omega, fun _ => by omega⟩
    rw [show w + (i : Int) - w = i from by omega]
    exact Int.emod_eq_of_lt (by omega) (by omega)
  · rw [List.getElem?_append_right (by omega)] at h
    cases r with
    | false => simp at h
    | true =>
      rw [if_pos rfl] at h
      rw [irange_len] at c h
      have hl := (List.getElem?_eq_some_iff.mp h).1
      rw [irange_len] at hl
      have e := irange_at (lo := 1) (hi := w) (k := i - (n + 1 - w).toNat) (by omega)
      rw [h] at e
      obtain rfl := Option.some.inj e
      refine ⟨?_, by omega, by omega, by omega, fun z => by cases z⟩
      rw [show (1 : Int) + ((i - (n + 1 - w).toNat : Nat) : Int) - w = (i : Int) + n * (-1) from by omega, Int.add_mul_emod_self_left]
      exact Int.emod_eq_of_lt (by omega) (by omega)
theorem free_some {n : Int} {r : Bool} {bs : List Int} {w b : Int} (w1 : 1 ≤ w) (w2 : w ≤ n) (h : freeOf n r bs w = some b) : b ∉ bs ∧ 1 ≤ b ∧ b ≤ n := by
  have h1 := List.find?_some h
  have h2 := List.mem_of_find?_eq_some h
  obtain ⟨i, hi⟩ := List.getElem?_of_mem h2
  have := way_pos w1 w2 hi
  simp only [Bool.not_eq_true', decide_eq_false_iff_not] at h1
  exact ⟨h1, this.2.2.1, this.2.2.2.1⟩
/-- nearer to the wish, on the way from it -/
def Near (n : Int) (r : Bool) (w b' b : Int) : Prop := (b' - w) % n < (b - w) % n ∧ (r = false → w ≤ b')
theorem free_sub {n : Int} {r : Bool} {O O' : List Int} {w b : Int} (w1 : 1 ≤ w) (w2 : w ≤ n) (hs : ∀ x ∈ O', x ∈ O) (h : freeOf n r O w = some b) : ∃ b', freeOf n r O' w = some b' ∧ (b' = b ∨ (b' ∈ O ∧ Near n r w b' b)) := by
  obtain ⟨hb, A, B, hw, hA⟩ := List.find?_eq_some_iff_append.mp h
  simp only [Bool.not_eq_true', decide_eq_false_iff_not] at hb
  have hb' : b ∉ O' := fun z => hb (hs b z)
  cases e : A.find? fun x => !decide (x ∈ O') with
  | none =>
    refine ⟨b, ?_, .inl rfl⟩
    unfold freeOf
    rw [hw, List.find?_append, e, List.find?_cons]
    simp [hb']
  | some b' =>
    have hm := List.mem_of_find?_eq_some e
    refine ⟨b', ?_, .inr ⟨?_, ?_⟩⟩
    · unfold freeOf
      rw [hw, List.find?_append, e]
      rfl
    · have := hA b' hm
      simpa using this
    · obtain ⟨i, hi⟩ := List.getElem?_of_mem hm
      have il := (List.getElem?_eq_some_iff.mp hi).1
      have p1 := way_pos (r := r) w1 w2 (show (wayOf n r w)[i]? = some b' by rw [hw, List.getElem?_append_left il]; exact hi)
      have p2 := way_pos (r := r) w1 w2 (show (wayOf n r w)[A.length]? = some b by rw [hw, List.getElem?_append_right (Nat.le_refl _), Nat.sub_self]; rfl)
      exact ⟨by rw [p1.1, p2.1]; omega, p1.2.2.2.2⟩
/-- without a ship all others find berths, none further from its wish -/
theorem lay_without {α : Type} [DecidableEq α] {n : Int} {r : Bool} (nm : α) : ∀ L : List (α × Int), (∀ p ∈ L, 1 ≤ p.2 ∧ p.2 ≤ n) → ∀ bs, lay n r (L.map (·.2)) = some bs →
    ∃ bs', lay n r ((L.filter fun p => decide (p.1 ≠ nm)).map (·.2)) = some bs' ∧ (∀ x ∈ bs', x ∈ bs) ∧
      ∀ (i : Nat) p b', (L.filter fun p => decide (p.1 ≠ nm))[i]? = some p → bs'[i]? = some b' → ∃ (j : Nat) (b : Int), L[j]? = some p ∧ bs[j]? = some b ∧ (b' = b ∨ Near n r p.2 b' b) := by
  refine snoc_ind12 (P := fun L : List (α × Int) => (∀ p ∈ L, 1 ≤ p.2 ∧ p.2 ≤ n) → ∀ bs, lay n r (L.map (·.2)) = some bs →
    ∃ bs', lay n r ((L.filter fun p => decide (p.1 ≠ nm)).map (·.2)) = some bs' ∧ (∀ x ∈ bs', x ∈ bs) ∧
      ∀ (i : Nat) p b', (L.filter fun p => decide (p.1 ≠ nm))[i]? = some p → bs'[i]? = some b' → ∃ (j : Nat) (b : Int), L[j]? = some p ∧ bs[j]? = some b ∧ (b' = b ∨ Near n r p.2 b' b)) (fun _ bs h => ?_) (fun L q ih hL bs h => ?_)
  · exact ⟨[], rfl, fun x hx => (nomatch hx), fun i p b' h1 _ => by simp at h1⟩
  · rw [List.map_append] at h
    obtain ⟨cs, b, h1, h2, rfl⟩ := lay_split h
    have hq := hL q (by simp)
    have hlen := lay_len _ _ h1
    rw [List.length_map] at hlen
    obtain ⟨cs', g1, g2, g3⟩ := ih (fun p hp => hL p (by simp [hp])) cs h1
    have up : ∀ (i : Nat) p b', (L.filter fun p => decide (p.1 ≠ nm))[i]? = some p → cs'[i]? = some b' → ∃ (j : Nat) (b0 : Int), (L ++ [q])[j]? = some p ∧ (cs ++ [b])[j]? = some b0 ∧ (b' = b0 ∨ Near n r p.2 b' b0) := fun i p b' a1 a2 => by
      obtain ⟨j, b0, c1, c2, c3⟩ := g3 i p b' a1 a2
      have jl := (List.getElem?_eq_some_iff.mp c1).1
      exact ⟨j, b0, by rw [List.getElem?_append_left jl]; exact c1, by rw [List.getElem?_append_left (by omega)]; exact c2, c3⟩
    by_cases e : q.1 = nm
    · refine ⟨cs', ?_, fun x hx => List.mem_append_left _ (g2 x hx), fun i p b' a1 a2 => ?_⟩
      · rw [List.filter_append, List.filter_cons]
        simp only [e, ne_eq, not_true_eq_false, decide_false, Bool.false_eq_true, if_false, List.filter_nil, List.append_nil]
        simpa using g1
      · rw [List.filter_append, List.filter_cons] at a1
        simp only [e, ne_eq, not_true_eq_false, decide_false, Bool.false_eq_true, if_false, List.filter_nil, List.append_nil] at a1
        exact up i p b' (by simpa using a1) a2
    · obtain ⟨b', f1, f2⟩ := free_sub (O := cs) (O' := cs') (r := r) hq.1 hq.2 g2 h2
      have ef : ((L ++ [q]).filter fun p => decide (p.1 ≠ nm)) = (L.filter fun p => decide (p.1 ≠ nm)) ++ [q] := by
        rw [List.filter_append, List.filter_cons, if_pos (by simp [e])]
        rfl
      have fl := lay_len _ _ g1
      rw [List.length_map] at fl
      refine ⟨cs' ++ [b'], ?_, fun x hx => ?_, fun i p b2 a1 a2 => ?_⟩
      · rw [ef, List.map_append]
        exact lay_join g1 f1
      · rcases List.mem_append.mp hx with hx | hx
        · exact List.mem_append_left _ (g2 x hx)
        · rw [List.mem_singleton.mp hx]
          rcases f2 with rfl | ⟨f2, _⟩
          · exact List.mem_append_right _ (List.mem_singleton.mpr rfl)
          · exact List.mem_append_left _ f2
      · rw [ef] at a1
        by_cases c : i < (L.filter fun p => decide (p.1 ≠ nm)).length
        · rw [List.getElem?_append_left c] at a1
          rw [List.getElem?_append_left (by omega)] at a2
          exact up i p b2 a1 a2
        · have hi := (List.getElem?_eq_some_iff.mp a1).1
          rw [List.length_append, List.length_singleton] at hi
          obtain rfl : i = (L.filter fun p => decide (p.1 ≠ nm)).length := by omega
          rw [List.getElem?_append_right (Nat.le_refl _), Nat.sub_self] at a1
          rw [← fl, List.getElem?_append_right (Nat.le_refl _), Nat.sub_self] at a2
          obtain rfl := Option.some.inj a1
          obtain rfl := Option.some.inj a2
          refine ⟨L.length, b, by rw [List.getElem?_append_right (Nat.le_refl _), Nat.sub_self]; rfl, by rw [← hlen, List.getElem?_append_right (Nat.le_refl _), Nat.sub_self]; rfl, ?_⟩
          rcases f2 with f2 | ⟨_, f2⟩
          · exact .inl f2
          · exact .inr f2

/-! ### names -/
def okSigns : List Nat := (Str.ofString "abcdefghijklmnopqrstuvwxyz").cps.toList
def nameOk (s : Str) : Bool := decide (1 ≤ (s.length : Int)) && (decide ((s.length : Int) ≤ 8) && (s.cps.toList.map fun c => decide (c ∈ okSigns)).all id)
/-- something that is no name -/
def NoNm (K : PySem.W.Frag) (H : Hp) (x : V) : Prop := (∃ s, Kind K H x s ∧ s ≠ .str) ∨ ∃ s, x = .str s ∧ nameOk s = false ∧ s.length ≤ 1000
theorem NoNm.ex {K : PySem.W.Frag} {H H' : Hp} {x : V} (e : Ex H H') (h : NoNm K H x) : NoNm K H' x := h.elim (fun ⟨s, h1, h2⟩ => .inl ⟨s, h1.ex e, h2⟩) .inr
theorem nameOk_len {s : Str} (h : nameOk s = true) : s.length ≤ 8 := by
  unfold nameOk at h
  simp only [Bool.and_eq_true, decide_eq_true_eq] at h
  omega
def sp_need_name (K : PySem.W.Frag) (mg : Str → Option Value) : Sp := fun vs H Q E => ∃ x, vs = [x] ∧ ((NoNm K H x ∧ Bad mg "NoName" H E) ∨ ∃ s, x = .str s ∧ nameOk s = true ∧ ∀ H', Ex H H' → Q .non H')
theorem has_need_name {P : Program} {w : World} {K : PySem.W.Frag} {mg : Str → Option Value} {base : Heap}  (S : B.Stands K mg "need_name" s_need_name) (N : Nms K mg)  : B.Has P w K mg base "need_name" 1 ["name"] (sp_need_name K mg) := by
  refine B.has_of S sc_need_name (fun _ _ _ _ _ _ us hl => match us, hl with | [_], _ => rfl) (fun vs H Q E h => ?_)
    (fun f cdv A outer s H vs Q E hr h => ⟨_, (pss_one (ps_if (PW.pt (pw_or (pt_not (pt_val (pe_callB (r := rIsi K) call_isi (by rfl) N.n_isinstance B.boot_isinstance (pa_cons (pv 0) (pa_cons (pe_bltn (v := .ty "str") (by rfl) N.n_str B.boot_str rfl) pa_nil))))) (pw_or (pt_not (pt_chain op_le op_le pe_int (pe_callB B.call_lenS (by rfl) N.n_len PySem.boot_len (pa_cons (pv 0) pa_nil)) (B.pe_const N.c_LONGEST))) (pw_or1 (pt_not (pt_val (pe_callB (r := rAll K) (cr_all rfl) (by rfl) N.n_all B.boot_all (pa_cons (pe_lc (own := [("sign", 1)]) (g := (gName 1)) rfl sc_need_name.nd (pi_str (pv 0)) (blkOk_by (own := [("sign", 1)]) (N := n_need_name) (sc := defScope s_need_name) (by decide +kernel)) (fun _ _ _ _ _ => (pg_name (i := 1) sc_need_name.nd rfl (by first | exact Or.inl rfl | exact Or.inr rfl))) (fun _ _ _ _ _ => pts_nil) (fun _ _ _ _ _ => (pe_cmpR B.op_inSg (pv 1) (B.pe_const N.c_LETTERS) rfl))) pa_nil)))))))) (pss_one (ps_raise rfl (takes_of rfl rfl rfl rfl) (B.pmk N.x_NoName))) pss_nil)), ?_⟩)
  · obtain ⟨x, rfl, _⟩ := h
    rfl
  · obtain ⟨x, rfl, h⟩ := h
    walk_at "go"
    have main : ∃ k, Kind K H x k ∧ ((k ≠ .str ∧ Bad mg "NoName" H E) ∨ (k = .str ∧ ∃ s, x = .str s ∧ s.length ≤ 1000 ∧ ((nameOk s = false ∧ Bad mg "NoName" H E) ∨ (nameOk s = true ∧ ∀ H', Ex H H' → Q .non H')))) := by
      rcases h with ⟨⟨k, h1, h2⟩ | ⟨s, rfl, h1, h2⟩, bad⟩ | ⟨s, rfl, h1, q⟩
      · exact ⟨k, h1, .inl ⟨h2, bad⟩⟩
      · exact ⟨_, .str s, .inr ⟨rfl, s, rfl, h2, .inl ⟨h1, bad⟩⟩⟩
      · exact ⟨_, .str s, .inr ⟨rfl, s, rfl, by have := nameOk_len h1; omega, .inr ⟨h1, q⟩⟩⟩
    obtain ⟨k, hk, h⟩ := main
    refine x_isi_str hk ?_
    walk_at "go"
    rcases h with ⟨h2, bad⟩ | ⟨rfl, s, rfl, hl, h⟩
    · rw [show k.isA "str" = false from by cases k <;> first | rfl | exact absurd rfl h2]
      walk_at "go"
      exact fun C m => bad C H m (.refl _)
    rw [show KS.isA KS.str "str" = true from rfl]
    have both : (nameOk s = false → ∀ C H', mg "NoName" = some (.ref C) → Ex H H' → E (.ref C) none H') ∧ (nameOk s = true → ∀ H', Ex H H' → Q .non H') := by
      rcases h with ⟨h1, bad⟩ | ⟨h1, q⟩
      · exact ⟨fun _ => bad, (fun z => by rw [h1] at z; cases z)⟩
      · exact ⟨(fun z => by rw [h1] at z; cases z), fun _ => q⟩
    clear h
    walk_at "go"
    refine x_lenS (by omega) ?_
    walk_at "go"
    refine x_dec (fun c1 => ?_) (fun c1 => ?_)
    · walk_at "go"
      refine x_decN (fun c2 => ?_) (fun c2 => ?_)
      · walk_at "go"
        exact fun C m => both.1 (by unfold nameOk; rw [decide_eq_false c2]; simp) C H m (.refl _)
      walk_at "go"
      refine ⟨s, rfl, ?_⟩
      refine x_lcS (fun c => .bl (decide (c ∈ okSigns))) (by have : s.cps.size = s.length := rfl; omega) (fun _ => rfl) (fun c _ H' e' Q' kk => ?_) (fun l H1 _ e1 h1 => ?_)
      · walk_at "go"
        exact kk H' (.refl _)
      walk_at "go"
      refine ⟨l, s.cps.toList.map fun c => decide (c ∈ okSigns), rfl, by rw [List.map_map]; exact Evl.sq_of h1, ?_⟩
      walk_at "go"
      refine x_bN (fun e => ?_) (fun e => ?_)
      · walk_at "go"
        exact fun C m => both.1 (by unfold nameOk; rw [e]; simp) C H1 m e1
      · walk_at "go"
        exact both.2 (by unfold nameOk; rw [e, decide_eq_true c1, decide_eq_true c2]; rfl) H1 e1
    · walk_at "go"
      exact fun C m => both.1 (by unfold nameOk; rw [decide_eq_false c1]; simp) C H m (.refl _)
/-! ### the quay, as it stands -/
def IsQ (cn : Str) : Prop := cn = "Quay" ∨ cn = "Round"
def clsR (cn : Str) : Bool := decide (cn = Str.ofString "Round")
theorem quay_facts {K : PySem.W.Frag} {mg : Str → Option Value} (N : Nms K mg) {cn : Str} (h : IsQ cn) : B.IsCls K mg cn ∧ NoAttr K (B.at_ mg cn) "many" ∧ NoAttr K (B.at_ mg cn) "line" ∧ NoAttr K (B.at_ mg cn) "lying" := by
  rcases h with rfl | rfl
  · exact ⟨N.cl_Quay, N.na_Quay_many, N.na_Quay_line, N.na_Quay_lying⟩
  · exact ⟨N.cl_Round, N.na_Round_many, N.na_Round_line, N.na_Round_lying⟩
def flds (n : Int) (l d : Addr) : List (Str × V) := [("many", .int n), ("line", .ref l), ("lying", .ref d)]
/-- what is kept under the names -/
def heldK (L : List (Str × Int)) (bs : List Int) : List (Key × V) := (L.zip bs).map fun z => (.inr z.1.1, .int z.2)
theorem heldK_vals {L : List (Str × Int)} {bs : List Int} (h : bs.length = L.length) : (heldK L bs).map (·.2) = bs.map V.int := by
  unfold heldK
  rw [List.map_map]
  have : bs = (L.zip bs).map (·.2) := by rw [List.map_snd_zip (by omega)]
  conv => rhs; rw [this, List.map_map]
  rfl
theorem heldK_len {L : List (Str × Int)} {bs : List Int} : (heldK L bs).length ≤ bs.length := by
  unfold heldK
  rw [List.length_map, List.length_zip]
  omega
theorem heldK_none {L : List (Str × Int)} {bs : List Int} {nm : Str} (h : nm ∉ L.map (·.1)) : valV (heldK L bs) (.inr nm) = none := by
  cases e : valV (heldK L bs) (.inr nm) with
  | none => rfl
  | some v =>
    exfalso
    have h2 := valV_any (.inr nm : Key) (heldK L bs)
    rw [e] at h2
    obtain ⟨kv, h3, h4⟩ := List.any_eq_true.mp h2
    unfold heldK at h3
    obtain ⟨z, hz, rfl⟩ := List.mem_map.mp h3
    have e5 : z.1.1 = nm := Sum.inr.inj (of_decide_eq_true h4)
    exact h (List.mem_map.mpr ⟨z.1, (List.of_mem_zip hz).1, e5⟩)
theorem heldK_put {L : List (Str × Int)} {bs : List Int} {nm : Str} {w b : Int} (hl : bs.length = L.length) (h : nm ∉ L.map (·.1)) : putK (heldK L bs) (.inr nm) (.int b) = heldK (L ++ [(nm, w)]) (bs ++ [b]) := by
  have e : ((heldK L bs).any fun kv => decide (kv.1 = (Sum.inr nm : Key))) = false := by
    rw [valV_any, heldK_none h]
    rfl
  unfold putK
  rw [e, if_neg Bool.false_ne_true]
  unfold heldK
  rw [List.zip_append (by omega), List.map_append]
  rfl
theorem heldK_get : ∀ {L : List (Str × Int)} {bs : List Int} {i : Nat} {p : Str × Int} {b : Int}, (L.map (·.1)).Nodup → L[i]? = some p → bs[i]? = some b → valV (heldK L bs) (.inr p.1) = some (.int b)
  | [], _, _, _, _, _, h, _ => by simp at h
  | _ :: _, [], _, _, _, _, _, h => by simp at h
  | q :: L, c :: bs, 0, p, b, _, h1, h2 => by
    obtain rfl : q = p := by simpa using h1
    obtain rfl : c = b := by simpa using h2
    exact valV_pos (p := ((Sum.inr q.1 : Key), V.int c)) rfl
  | q :: L, c :: bs, i + 1, p, b, nd, h1, h2 => by
    have h1 : L[i]? = some p := by simpa using h1
    have h2 : bs[i]? = some b := by simpa using h2
    rw [List.map_cons, List.nodup_cons] at nd
    have ne : ¬ q.1 = p.1 := fun z => nd.1 (by rw [z]; exact List.mem_map.mpr ⟨p, List.mem_of_getElem? h1, rfl⟩)
    have := heldK_get nd.2 h1 h2
    exact (valV_neg (p := ((Sum.inr q.1 : Key), V.int c)) (fun z => ne (Sum.inr.inj z))).trans this
structure Quay (mg : Str → Option Value) (cn : Str) (n : Int) (H : Hp) (q l d : Addr) (LL : List (Addr × Str × Int)) (bs : List Int) : Prop where
  ins : ∃ dx, H q = some (.ins (B.at_ mg cn) dx (flds n l d))
  line : H l = some (.lst (LL.map fun x => V.ref x.1))
  pairs : ∀ x ∈ LL, H x.1 = some (.tup [.str x.2.1, .int x.2.2])
  lying : H d = some (.dK (heldK (LL.map (·.2)) bs))
structure Line (cn : Str) (n : Int) (L : List (Str × Int)) (bs : List Int) : Prop where
  n1 : 1 ≤ n
  n2 : n ≤ 400
  nd : (L.map (·.1)).Nodup
  ok : ∀ p ∈ L, nameOk p.1 = true ∧ 1 ≤ p.2 ∧ p.2 ≤ n
  lays : lay n (clsR cn) (L.map (·.2)) = some bs
theorem lay_ok {n : Int} {r : Bool} : ∀ (ws bs : List Int), (∀ w ∈ ws, 1 ≤ w ∧ w ≤ n) → lay n r ws = some bs → bs.Nodup ∧ ∀ b ∈ bs, 1 ≤ b ∧ b ≤ n := by
  refine snoc_ind12 (P := fun ws => ∀ bs, (∀ w ∈ ws, 1 ≤ w ∧ w ≤ n) → lay n r ws = some bs → bs.Nodup ∧ ∀ b ∈ bs, 1 ≤ b ∧ b ≤ n) (fun bs _ h => ?_) (fun ws w ih bs hw h => ?_)
  · obtain rfl := Option.some.inj h
    exact ⟨List.nodup_nil, fun b hb => nomatch hb⟩
  · obtain ⟨cs, b, h1, h2, rfl⟩ := lay_split h
    obtain ⟨g1, g2⟩ := ih cs (fun w' h' => hw w' (by simp [h'])) h1
    have hw' := hw w (by simp)
    obtain ⟨f1, f2, f3⟩ := free_some hw'.1 hw'.2 h2
    refine ⟨?_, fun x hx => ?_⟩
    · rw [List.nodup_append]
      refine ⟨g1, by simp, fun x hx y hy z => ?_⟩
      rw [List.mem_singleton.mp hy] at z
      exact f1 (z ▸ hx)
    · rcases List.mem_append.mp hx with hx | hx
      · exact g2 x hx
      · rw [List.mem_singleton.mp hx]
        exact ⟨f2, f3⟩
theorem Line.len {cn : Str} {n : Int} {L : List (Str × Int)} {bs : List Int} (h : Line cn n L bs) : bs.length = L.length ∧ (L.length : Int) ≤ n := by
  have e := lay_len _ _ h.lays
  rw [List.length_map] at e
  obtain ⟨g1, g2⟩ := lay_ok _ _ (fun w hw => by obtain ⟨p, hp, rfl⟩ := List.mem_map.mp hw; exact (h.ok p hp).2) h.lays
  have := nodup_le12 (m := irange 1 (n + 1)) g1 fun x hx => mem_irange.mpr (by have := g2 x hx; omega)
  rw [irange_len] at this
  have := h.n1
  exact ⟨e, by omega⟩
/-- what stood still stands, but for some -/
def KeptL (as : List Addr) (H H' : Hp) : Prop := ∀ z o, H z = some o → z ∉ as → H' z = some o
theorem KeptL.of {as : List Addr} {H H' : Hp} (e : Ex H H') : KeptL as H H' := fun z o h _ => e z o h
theorem KeptL.trans {as : List Addr} {H H' H2 : Hp} (a : KeptL as H H') (b : KeptL as H' H2) : KeptL as H H2 := fun z o h n => b z o (a z o h n) n
theorem KeptL.ex {as : List Addr} {H H' H2 : Hp} (a : KeptL as H H') (e : Ex H' H2) : KeptL as H H2 := fun z o h n => e z o (a z o h n)
theorem KeptL.upd {as : List Addr} {H H' H2 : Hp} {l : Addr} {o : HO} (a : KeptL as H H') (u : Upd H' l o H2) (hl : l ∈ as ∨ H l = none) : KeptL as H H2 := fun z x h n => u.get (fun e => hl.elim (fun m => n (e ▸ m)) fun m => by rw [← e, h] at m; cases m) (a z x h n)
/-! ### its methods -/
theorem putF_len (f : Str) (v : V) : ∀ fs : List (Str × V), (putF f v fs).length ≤ fs.length + 1
  | [] => Nat.le_refl _
  | (g, x) :: r => by
    unfold putF
    split
    · simp
    · have := putF_len f v r
      rw [List.length_cons, List.length_cons]
      omega
def sp_Quay___init__ (K : PySem.W.Frag) (mg : Str → Option Value) (cn : Str) : Sp := fun vs H Q E => ∃ (q : Addr) (n : Int) (dx : Addr), vs = [.ref q, .int n] ∧ IsQ cn ∧ 1 ≤ n ∧ n ≤ 400 ∧ H q = some (.ins (B.at_ mg cn) dx []) ∧
  ∀ (l d : Addr) (H' : Hp), Quay mg cn n H' q l d [] [] → H l = none → H d = none → l ≠ d → KeptL [q] H H' → Q .non H'
theorem has_Quay___init__ {P : Program} {w : World} {K : PySem.W.Frag} {mg : Str → Option Value} {base : Heap}  {cn : Str} (S : B.StandsM K mg cn "__init__" "Quay.__init__" s_Quay___init__) (N : Nms K mg) (h_need_quay : B.Has P w K mg base "need_quay" 2 ["berths"] (sp_need_quay K mg)) : B.HasM P w K mg base cn "__init__" 3 ["self", "berths"] (sp_Quay___init__ K mg cn) := by
  refine B.hasM_of S sc_Quay___init__ (fun _ _ _ _ _ _ us hl => match us, hl with | [_, _], _ => rfl) (fun vs H Q E h => ?_)
    (fun f cdv A outer s H vs Q E hr h => ⟨_, (pss_cons (ps_expr (B.pe_has h_need_quay hr (B.passU (takes_of rfl rfl rfl rfl)) (pa_cons (pv 1) pa_nil)))
    (pss_cons (ps_fld (pv 0) (pv 1) rfl)
    (pss_cons (ps_fld (pv 0) (pe_lst pa_nil) rfl)
    (pss_one (ps_fld (pv 0) pe_dnewK rfl))))), ?_⟩)
  · obtain ⟨q, n, dx, rfl, _⟩ := h
    rfl
  · obtain ⟨q, n, dx, rfl, iq, n1, n2, hq, post⟩ := h
    obtain ⟨hc, f1, f2, f3⟩ := quay_facts N iq
    have hc := hc.cls
    walk_at "go"
    refine ⟨.int n, .int, rfl, .int n, fun _ => ?_, fun e => absurd e (by simp [inB, n1, n2])⟩
    walk_at "go"
    refine x_onSF hq hc f1 (by simp) fun H1 u1 => ?_
    walk_at "go"
    refine x_mkL (by simp) fun l H2 l0 e2 hl => ?_
    have ql : q ≠ l := ne_of_none u1.same l0
    walk_at "go"
    refine x_onSF (e2 _ _ u1.same) hc f2 (by have h1 := putF_len "many" (.int n) []; simp at h1; omega) fun H3 u3 => ?_
    walk_at "go"
    refine x_dnew fun d H4 d0 e4 hd => ?_
    have hl3 := u3.get (Ne.symm ql) hl
    have ld : l ≠ d := ne_of_none hl3 d0
    have qd : q ≠ d := ne_of_none u3.same d0
    walk_at "go"
    refine x_onSF (e4 _ _ u3.same) hc f3 (by have h1 := putF_len "many" (.int n) []; have h2 := putF_len "line" (.ref l) (putF "many" (.int n) []); simp at h1; omega) fun H5 u5 => ?_
    walk_at "go"
    have lH : H l = none := by
      cases e : H l with
      | none => rfl
      | some o => rw [u1.get (Ne.symm ql) e] at l0; cases l0
    have dH : H d = none := by
      cases e : H d with
      | none => rfl
      | some o => rw [u3.get (Ne.symm qd) (e2 _ _ (u1.get (Ne.symm qd) e))] at d0; cases d0
    refine post l d H5 ⟨⟨dx, u5.same⟩, u5.get (Ne.symm ql) (e4 _ _ hl3), fun x hx => (nomatch hx), u5.get (Ne.symm qd) hd⟩ lH dH ld ?_
    exact ((((KeptL.of (.refl H)).upd u1 (.inl (by simp))).ex e2).upd u3 (.inl (by simp))).ex e4 |>.upd u5 (.inl (by simp))
def sp_Quay_kind (K : PySem.W.Frag) (mg : Str → Option Value) (cn : Str) : Sp := fun vs H Q _ => ∃ x : V, vs = [x] ∧ cn = "Quay" ∧ Q (.str "quay") H
theorem has_Quay_kind {P : Program} {w : World} {K : PySem.W.Frag} {mg : Str → Option Value} {base : Heap}  {cn : Str} (S : B.StandsM K mg cn "kind" "Quay.kind" s_Quay_kind) (N : Nms K mg)  : B.HasM P w K mg base cn "kind" 1 ["self"] (sp_Quay_kind K mg cn) := by
  refine B.hasM_ofN S sc_Quay_kind (fun _ _ _ _ _ _ us hl => match us, hl with | [_], _ => rfl) (fun vs H Q E h => ?_)
    (fun f cdv A outer s H vs Q E hr h => ⟨_, (pss_one (ps_ret pe_str)), ?_⟩)
  · obtain ⟨x, rfl, _⟩ := h
    rfl
  · obtain ⟨x, rfl, _, q⟩ := h
    walk_at "go"
    exact q
def sp_Round_kind (K : PySem.W.Frag) (mg : Str → Option Value) (cn : Str) : Sp := fun vs H Q _ => ∃ x : V, vs = [x] ∧ cn = "Round" ∧ Q (.str "round") H
theorem has_Round_kind {P : Program} {w : World} {K : PySem.W.Frag} {mg : Str → Option Value} {base : Heap}  {cn : Str} (S : B.StandsM K mg cn "kind" "Round.kind" s_Round_kind) (N : Nms K mg)  : B.HasM P w K mg base cn "kind" 1 ["self"] (sp_Round_kind K mg cn) := by
  refine B.hasM_ofN S sc_Round_kind (fun _ _ _ _ _ _ us hl => match us, hl with | [_], _ => rfl) (fun vs H Q E h => ?_)
    (fun f cdv A outer s H vs Q E hr h => ⟨_, (pss_one (ps_ret pe_str)), ?_⟩)
  · obtain ⟨x, rfl, _⟩ := h
    rfl
  · obtain ⟨x, rfl, _, q⟩ := h
    walk_at "go"
    exact q
def sp_Quay_size (K : PySem.W.Frag) (mg : Str → Option Value) (cn : Str) : Sp := fun vs H Q _ => ∃ (q l d dx : Addr) (n : Int), vs = [.ref q] ∧ IsQ cn ∧ H q = some (.ins (B.at_ mg cn) dx (flds n l d)) ∧ Q (.int n) H
theorem has_Quay_size {P : Program} {w : World} {K : PySem.W.Frag} {mg : Str → Option Value} {base : Heap}  {cn : Str} (S : B.StandsM K mg cn "size" "Quay.size" s_Quay_size) (N : Nms K mg)  : B.HasM P w K mg base cn "size" 1 ["self"] (sp_Quay_size K mg cn) := by
  refine B.hasM_ofN S sc_Quay_size (fun _ _ _ _ _ _ us hl => match us, hl with | [_], _ => rfl) (fun vs H Q E h => ?_)
    (fun f cdv A outer s H vs Q E hr h => ⟨_, (pss_one (ps_ret (B.pe_fldK K (pv 0) (by rfl)))), ?_⟩)
  · obtain ⟨q, l, d, dx, n, rfl, _⟩ := h
    rfl
  · obtain ⟨q, l, d, dx, n, rfl, iq, hq, post⟩ := h
    obtain ⟨hc, f1, f2, f3⟩ := quay_facts N iq
    have hc := hc.cls
    walk_at "go"
    exact post
def sp_way (K : PySem.W.Frag) (mg : Str → Option Value) (cn : Str) (r : Bool) : Sp := fun vs H Q _ => ∃ (q l d dx : Addr) (n w : Int), vs = [.ref q, .int w] ∧ cn = (if r then Str.ofString "Round" else Str.ofString "Quay") ∧ H q = some (.ins (B.at_ mg cn) dx (flds n l d)) ∧ 1 ≤ w ∧ w ≤ n ∧ n ≤ 400 ∧
  ∀ p H', H p = none → Ex H H' → H' p = some (.lst ((wayOf n r w).map V.int)) → Q (.ref p) H'
theorem has_Quay_way {P : Program} {w : World} {K : PySem.W.Frag} {mg : Str → Option Value} {base : Heap}  {cn : Str} (S : B.StandsM K mg cn "way" "Quay.way" s_Quay_way) (N : Nms K mg)  : B.HasM P w K mg base cn "way" 1 ["self", "wish"] (sp_way K mg cn false) := by
  refine B.hasM_ofN S sc_Quay_way (fun _ _ _ _ _ _ us hl => match us, hl with | [_, _], _ => rfl) (fun vs H Q E h => ?_)
    (fun f cdv A outer s H vs Q E hr h => ⟨_, (pss_one (ps_ret (pe_listRg rfl (by rfl) N.n_list (prg_2 (by rfl) N.n_range (pv 1) (pe_op op_add (B.pe_fldK K (pv 0) (by rfl)) pe_int))))), ?_⟩)
  · obtain ⟨q, l, d, dx, n, w, rfl, _⟩ := h
    rfl
  · obtain ⟨q, l, d, dx, n, w, rfl, ec, hq, w1, w2, n2, post⟩ := h
    obtain ⟨hc, f1, f2, f3⟩ := quay_facts N (cn := cn) (.inl ec)
    have hc := hc.cls
    walk_at "go"
    refine x_mkRg2 (by omega) (by omega) fun p H1 p0 e1 hp => ?_
    refine post p H1 p0 e1 ?_
    unfold wayOf
    rw [if_neg Bool.false_ne_true, List.append_nil]
    exact hp
theorem has_Round_way {P : Program} {w : World} {K : PySem.W.Frag} {mg : Str → Option Value} {base : Heap}  {cn : Str} (S : B.StandsM K mg cn "way" "Round.way" s_Round_way) (N : Nms K mg)  : B.HasM P w K mg base cn "way" 1 ["self", "wish"] (sp_way K mg cn true) := by
  refine B.hasM_ofN S sc_Round_way (fun _ _ _ _ _ _ us hl => match us, hl with | [_, _], _ => rfl) (fun vs H Q E h => ?_)
    (fun f cdv A outer s H vs Q E hr h => ⟨_, (pss_one (ps_ret (pe_op op_cat (pe_listRg rfl (by rfl) N.n_list (prg_2 (by rfl) N.n_range (pv 1) (pe_op op_add (B.pe_fldK K (pv 0) (by rfl)) pe_int))) (pe_listRg rfl (by rfl) N.n_list (prg_2 (by rfl) N.n_range pe_int (pv 1)))))), ?_⟩)
  · obtain ⟨q, l, d, dx, n, w, rfl, _⟩ := h
    rfl
  · obtain ⟨q, l, d, dx, n, w, rfl, ec, hq, w1, w2, n2, post⟩ := h
    obtain ⟨hc, f1, f2, f3⟩ := quay_facts N (cn := cn) (.inr ec)
    have hc := hc.cls
    walk_at "go"
    refine x_mkRg2 (by omega) (by omega) fun p1 H1 p10 e1 h1 => ?_
    walk_at "go"
    refine x_mkRg2 (by omega) (by omega) fun p2 H2 p20 e2 h2 => ?_
    refine x_cat (e2 _ _ h1) h2 (by rw [List.length_map, List.length_map, irange_len, irange_len]; omega) fun p H3 p0 e3 hp => ?_
    refine post p H3 (exn (e1.trans e2) p0) (e1.trans (e2.trans e3)) ?_
    unfold wayOf
    rw [if_pos rfl, List.map_append]
    exact hp
def oInt : Option Int → V
  | some b => .int b
  | none => .non
def sp_Quay_berth_for (K : PySem.W.Frag) (mg : Str → Option Value) (cn : Str) : Sp := fun vs H Q _ => ∃ (q l d dx : Addr) (n w : Int) (kvs : List (Key × V)) (bs : List Int), vs = [.ref q, .int w] ∧ IsQ cn ∧ H q = some (.ins (B.at_ mg cn) dx (flds n l d)) ∧ 1 ≤ w ∧ w ≤ n ∧ n ≤ 400 ∧ H d = some (.dK kvs) ∧ kvs.map (·.2) = bs.map V.int ∧
  ∀ H', Ex H H' → Q (oInt (freeOf n (clsR cn) bs w)) H'
def WayS (K : PySem.W.Frag) (mg : Str → Option Value) : Str → Sp → Prop := fun c sp => (c = "Quay" ∧ sp = sp_way K mg c false) ∨ (c = "Round" ∧ sp = sp_way K mg c true)
theorem wayS_of {K : PySem.W.Frag} {mg : Str → Option Value} {cn : Str} (h : IsQ cn) : WayS K mg cn (sp_way K mg cn (clsR cn)) ∧ cn = (if clsR cn then Str.ofString "Round" else Str.ofString "Quay") := by
  rcases h with rfl | rfl
  · have e : clsR "Quay" = false := by decide +kernel
    rw [e]
    exact ⟨.inl ⟨rfl, rfl⟩, by rw [if_neg Bool.false_ne_true]⟩
  · have e : clsR "Round" = true := by decide +kernel
    rw [e]
    exact ⟨.inr ⟨rfl, rfl⟩, by rw [if_pos rfl]⟩
theorem has_Quay_berth_for {P : Program} {w : World} {K : PySem.W.Frag} {mg : Str → Option Value} {base : Heap}  {cn : Str} (S : B.StandsM K mg cn "berth_for" "Quay.berth_for" s_Quay_berth_for) (N : Nms K mg) (hf_way : B.FamM P w K mg base "way" 1 ["self", "wish"] (WayS K mg)) : B.HasM P w K mg base cn "berth_for" 2 ["self", "wish"] (sp_Quay_berth_for K mg cn) := by
  refine B.hasM_ofN S sc_Quay_berth_for (fun _ _ _ _ _ _ us hl => match us, hl with | [_, _], _ => rfl) (fun vs H Q E h => ?_)
    (fun f cdv A outer s H vs Q E hr h => ⟨_, (pss_cons (ps_set (i := 2) sc_Quay_berth_for.nd rfl (by first | exact Or.inl rfl | exact Or.inr rfl) (B.pe_listVals rfl (by rfl) N.n_list (B.pe_fldK K (pv 0) (by rfl))))
    (pss_cons (ps_for PassesOwn.never rfl (pi_list (B.pe_methF (mg0 := mg) (E := fun _ => E0) (pv 0) hf_way hr B.pass0At (pa_cons (pv 1) pa_nil))) (pg_name (i := 3) sc_Quay_berth_for.nd rfl (by first | exact Or.inl rfl | exact Or.inr rfl)) (pss_one (ps_if (pt_cmpR (r := rIn K true) op_notIn_seq (pv 3) (pv 2) (by rfl)) (pss_one (ps_ret (pv 3))) pss_nil)))
    (pss_one (ps_ret pe_non)))), ?_⟩)
  · obtain ⟨q, l, d, dx, n, w, kvs, bs, rfl, _⟩ := h
    rfl
  · obtain ⟨q, l, d, dx, n, w, kvs, bs, rfl, iq, hq, w1, w2, n2, hd, hv, post⟩ := h
    obtain ⟨hc, f1, f2, f3⟩ := quay_facts N iq
    have hc := hc.cls
    obtain ⟨ws1, ws2⟩ := wayS_of (K := K) (mg := mg) iq
    walk_at "go"
    refine x_lVals hd fun hp H1 _ e1 hh => ?_
    rw [hv] at hh
    walk_at "go"
    refine x_onM ws1 (e1 _ _ hq) rfl ?_
    walk_at "go"
    refine ⟨q, l, d, dx, n, w, rfl, ws2, e1 _ _ hq, w1, w2, n2, fun wp H2 _ e2 hw => ?_⟩
    refine x_forL (wayOf n (clsR cn) w) V.int (fun pre σ' H' => (∃ v, σ' = [some (.ref q), some (.int w), some (.ref hp), v]) ∧ Ex H2 H' ∧ ∀ b ∈ pre, b ∈ bs) ⟨⟨_, rfl⟩, .refl _, fun b hb => nomatch hb⟩ (fun pre σ' H' _ p => Evl.sq_of (p.2.1 _ _ hw)) (fun pre b post2 σ' H' ea pp => ?_) (fun σ' H' pp => ?_)
    · obtain ⟨⟨v, rfl⟩, ex, hpre⟩ := pp
      have hh' := ex _ _ (e2 _ _ hh)
      walk_at "go"
      refine x_notIn (Evl.sq_of hh') ?_
      walk_at "go"
      refine x_decN (fun c => ?_) (fun c => ?_)
      · walk_at "go"
        have ef : freeOf n (clsR cn) bs w = some b := by
          unfold freeOf
          rw [ea]
          refine List.find?_eq_some_iff_append.mpr ⟨by simp [c], pre, post2, rfl, fun x hx => by simp [hpre x hx]⟩
        rw [ef] at post
        exact post H' (e1.trans (e2.trans ex))
      · walk_at "go"
        refine ⟨⟨_, rfl⟩, ex, fun x hx => ?_⟩
        rcases List.mem_append.mp hx with hx | hx
        · exact hpre x hx
        · rw [List.mem_singleton.mp hx]
          exact c
    · obtain ⟨⟨v, rfl⟩, ex, hpre⟩ := pp
      walk_at "go"
      have ef : freeOf n (clsR cn) bs w = none := by
        unfold freeOf
        rw [List.find?_eq_none]
        intro x hx
        simp [hpre x hx]
      rw [ef] at post
      exact post H' (e1.trans (e2.trans ex))

def KindS (K : PySem.W.Frag) (mg : Str → Option Value) : Str → Sp → Prop := fun c sp => (c = "Quay" ∧ sp = sp_Quay_kind K mg c) ∨ (c = "Round" ∧ sp = sp_Round_kind K mg c)
theorem Line.snoc {cn : Str} {n : Int} {L : List (Str × Int)} {bs : List Int} {nm : Str} {w b : Int} (h : Line cn n L bs) (hn : nameOk nm = true) (hm : nm ∉ L.map (·.1)) (w1 : 1 ≤ w) (w2 : w ≤ n) (hf : freeOf n (clsR cn) bs w = some b) : Line cn n (L ++ [(nm, w)]) (bs ++ [b]) where
  n1 := h.n1
  n2 := h.n2
  nd := by
    rw [List.map_append, List.nodup_append]
    refine ⟨h.nd, by simp, fun x hx y hy z => ?_⟩
    have hy : y = nm := by simpa using hy
    exact hm (by rw [← hy, ← z]; exact hx)
  ok := fun p hp => by
    rcases List.mem_append.mp hp with hp | hp
    · exact h.ok p hp
    · rw [List.mem_singleton.mp hp]
      exact ⟨hn, w1, w2⟩
  lays := by
    rw [List.map_append]
    exact lay_join h.lays hf
theorem has_key {L : List (Str × Int)} {bs : List Int} {nm : Str} (nd : (L.map (·.1)).Nodup) (hl : bs.length = L.length) (h : nm ∈ L.map (·.1)) : ∃ (i : Nat) (w b : Int), L[i]? = some (nm, w) ∧ bs[i]? = some b ∧ valV (heldK L bs) (.inr nm) = some (.int b) := by
  obtain ⟨p, hp, rfl⟩ := List.mem_map.mp h
  obtain ⟨i, hi⟩ := List.getElem?_of_mem hp
  have il := (List.getElem?_eq_some_iff.mp hi).1
  exact ⟨i, p.2, bs[i], hi, List.getElem?_eq_getElem (by omega), heldK_get nd hi (List.getElem?_eq_getElem (by omega))⟩
theorem Quay.ex {mg : Str → Option Value} {cn : Str} {n : Int} {H H' : Hp} {q l d : Addr} {LL : List (Addr × Str × Int)} {bs : List Int} (h : Quay mg cn n H q l d LL bs) (e : Ex H H') : Quay mg cn n H' q l d LL bs where
  ins := by obtain ⟨dx, h1⟩ := h.ins; exact ⟨dx, e _ _ h1⟩
  line := e _ _ h.line
  pairs := fun x hx => e _ _ (h.pairs x hx)
  lying := e _ _ h.lying
def sp_Quay_come (K : PySem.W.Frag) (mg : Str → Option Value) (cn : Str) : Sp := fun vs H Q E => ∃ (q l d : Addr) (n : Int) (LL : List (Addr × Str × Int)) (bs : List Int) (x y : V), vs = [.ref q, x, y] ∧ IsQ cn ∧ Quay mg cn n H q l d LL bs ∧ Line cn n (LL.map (·.2)) bs ∧
  ((NoNm K H x ∧ Bad mg "NoName" H E) ∨ ∃ nm, x = .str nm ∧ nameOk nm = true ∧
    ((nm ∈ (LL.map (·.2)).map (·.1) ∧ Bad mg "Taken" H E) ∨ (nm ∉ (LL.map (·.2)).map (·.1) ∧ ∃ k, Kind K H y k ∧
      ((inB y 1 n = false ∧ Bad mg "NoWish" H E) ∨ ∃ w, y = .int w ∧ 1 ≤ w ∧ w ≤ n ∧
        ((freeOf n (clsR cn) bs w = none ∧ Bad mg "NoRoom" H E) ∨ ∃ b, freeOf n (clsR cn) bs w = some b ∧ ∀ p H', Quay mg cn n H' q l d (LL ++ [(p, nm, w)]) (bs ++ [b]) → KeptL [l, d] H H' → Q (.int b) H')))))
theorem has_Quay_come {P : Program} {w : World} {K : PySem.W.Frag} {mg : Str → Option Value} {base : Heap}  {cn : Str} (S : B.StandsM K mg cn "come" "Quay.come" s_Quay_come) (N : Nms K mg) (h_need_name : B.Has P w K mg base "need_name" 1 ["name"] (sp_need_name K mg)) (h_is_number : B.Has P w K mg base "is_number" 1 ["thing", "least", "most"] (sp_is_number K)) (hf_berth_for : B.FamM P w K mg base "berth_for" 2 ["self", "wish"] (fun c sp => IsQ c ∧ sp = sp_Quay_berth_for K mg c)) : B.HasM P w K mg base cn "come" 3 ["self", "name", "wish"] (sp_Quay_come K mg cn) := by
  refine B.hasM_of S sc_Quay_come (fun _ _ _ _ _ _ us hl => match us, hl with | [_, _, _], _ => rfl) (fun vs H Q E h => ?_)
    (fun f cdv A outer s H vs Q E hr h => ⟨_, (pss_cons (ps_expr (B.pe_has h_need_name hr (B.passU (takes_of rfl rfl rfl rfl)) (pa_cons (pv 1) pa_nil)))
    (pss_cons (ps_if (pt_cmp (pc_din (hu_of hr) (pv 1) (B.pe_fldK K (pv 0) (by rfl)))) (pss_one (ps_raise rfl (takes_of rfl rfl rfl rfl) (B.pmk N.x_Taken))) pss_nil)
    (pss_cons (ps_if (pt_not (pt_val (B.pe_has h_is_number hr B.passL (pa_cons (pv 2) (pa_cons pe_int (pa_cons (B.pe_fldK K (pv 0) (by rfl)) pa_nil)))))) (pss_one (ps_raise rfl (takes_of rfl rfl rfl rfl) (B.pmk N.x_NoWish))) pss_nil)
    (pss_cons (ps_set (i := 3) sc_Quay_come.nd rfl (by first | exact Or.inl rfl | exact Or.inr rfl) (B.pe_methF (mg0 := mg) (E := fun _ => E) (pv 0) hf_berth_for hr (B.passUAt (takes_of rfl rfl rfl rfl)) (pa_cons (pv 2) pa_nil)))
    (pss_cons (ps_if (pt_cmp (pc_isN (pv 3))) (pss_one (ps_raise rfl (takes_of rfl rfl rfl rfl) (B.pmk N.x_NoRoom))) pss_nil)
    (pss_cons (ps_expr (pe_bm PySem.F.plainAttrs_list PySem.F.slot_list_append PySem.F.type_list_append mt_append (B.pe_fldK K (pv 0) (by rfl)) (pa_cons (pe_tup (pa_cons (pv 1) (pa_cons (pv 2) pa_nil))) pa_nil)))
    (pss_cons (ps_dput (hu_of hr) (B.pe_fldK K (pv 0) (by rfl)) (pv 1) (pv 3) rfl)
    (pss_one (ps_ret (pv 3)))))))))), ?_⟩)
  · obtain ⟨q, l, d, n, LL, bs, x, y, rfl, _⟩ := h
    rfl
  · obtain ⟨q, l, d, n, LL, bs, x, y, rfl, iq, Qy, Ln, h⟩ := h
    obtain ⟨hc, f1, f2, f3⟩ := quay_facts N iq
    have hc := hc.cls
    obtain ⟨dx, hq⟩ := Qy.ins
    obtain ⟨len1, len2⟩ := Ln.len
    have n2 := Ln.n2
    have LLl : (LL.map (·.2)).length = LL.length := List.length_map _
    have ql : q ≠ l := fun z => by have := Qy.line; rw [← z, hq] at this; cases this
    have qd : q ≠ d := fun z => by have := Qy.lying; rw [← z, hq] at this; cases this
    have ld : l ≠ d := fun z => by have := Qy.lying; rw [← z, Qy.line] at this; cases this
    walk_at "go"
    refine ⟨x, rfl, ?_⟩
    rcases h with h | ⟨nm, rfl, ok, h⟩
    · exact .inl h
    refine .inr ⟨nm, rfl, ok, fun H1 e1 => ?_⟩
    have hd1 := e1 _ _ Qy.lying
    walk_at "go"
    rcases h with ⟨hm, bad⟩ | ⟨hm, k, ky, h⟩
    · obtain ⟨i, w, b, _, _, hv⟩ := has_key Ln.nd (by omega) hm
      rw [hv, Option.isSome_some]
      walk_at "go"
      exact fun C m => bad C H1 m e1
    rw [heldK_none hm, Option.isSome_none]
    walk_at "go"
    refine ⟨y, k, 1, n, rfl, ky.ex e1, ?_⟩
    walk_at "go"
    rcases h with ⟨hb, bad⟩ | ⟨w, rfl, w1, w2, h⟩
    · rw [hb]
      walk_at "go"
      exact fun C m => bad C H1 m e1
    rw [show inB (.int w) 1 n = true from by simp [inB, w1, w2]]
    walk_at "go"
    refine x_onM (c := cn) ⟨iq, rfl⟩ (e1 _ _ hq) rfl ?_
    walk_at "go"
    refine ⟨q, l, d, dx, n, w, _, bs, rfl, iq, e1 _ _ hq, w1, w2, n2, hd1, heldK_vals len1, fun H2 e2 => ?_⟩
    walk_at "go"
    rcases h with ⟨hf, bad⟩ | ⟨b, hf, post⟩
    · rw [hf, show decide (oInt none = V.non) = true from by decide +kernel]
      walk_at "go"
      exact fun C m => bad C H2 m (e1.trans e2)
    rw [hf, show decide (oInt (some b) = V.non) = false from by simp [oInt]]
    have ex2 := e1.trans e2
    have hl2 := ex2 _ _ Qy.line
    walk_at "go"
    refine x_mkT (by simp) fun p H3 p0 e3 hp => ?_
    have hl3 := e3 _ _ hl2
    have pl : p ≠ l := Ne.symm (ne_of_none hl2 p0)
    have hd2 := e2 _ _ hd1
    have pd : p ≠ d := Ne.symm (ne_of_none hd2 p0)
    walk_at "go"
    refine x_append hl3 (by rw [List.length_map]; omega) fun H4 u4 => ?_
    have hq4 := u4.get ql (e3 _ _ (ex2 _ _ hq))
    have hd4 := u4.get (Ne.symm ld) (e3 _ _ hd2)
    walk_at "go"
    have hkl := heldK_len (L := LL.map (·.2)) (bs := bs)
    refine x_putS hd4 (by omega) fun H5 u5 => ?_
    walk_at "go"
    rw [show oInt (some b) = V.int b from rfl, heldK_put (w := w) len1 hm] at u5
    refine post p H5 ⟨⟨dx, u5.get qd hq4⟩, ?_, fun x hx => ?_, ?_⟩ ?_
    · rw [List.map_append]
      exact u5.get ld u4.same
    · rcases List.mem_append.mp hx with hx | hx
      · have hx2 := e3 _ _ (ex2 _ _ (Qy.pairs x hx))
        have n1 : x.1 ≠ l := fun z => by rw [z, hl3] at hx2; cases hx2
        have n2 : x.1 ≠ d := fun z => by rw [z, e3 _ _ hd2] at hx2; cases hx2
        exact u5.get n2 (u4.get n1 hx2)
      · rw [List.mem_singleton.mp hx]
        exact u5.get pd (u4.get pl hp)
    · rw [List.map_append]
      exact u5.same
    · exact (((KeptL.of (ex2.trans e3)).upd u4 (.inl (by simp))).upd u5 (.inl (by simp)))
def sp_Quay_where (K : PySem.W.Frag) (mg : Str → Option Value) (cn : Str) : Sp := fun vs H Q E => ∃ (q l d : Addr) (n : Int) (LL : List (Addr × Str × Int)) (bs : List Int) (x : V), vs = [.ref q, x] ∧ IsQ cn ∧ Quay mg cn n H q l d LL bs ∧ Line cn n (LL.map (·.2)) bs ∧
  ((NoNm K H x ∧ Bad mg "NoName" H E) ∨ ∃ nm, x = .str nm ∧ nameOk nm = true ∧
    ((nm ∉ (LL.map (·.2)).map (·.1) ∧ Bad mg "NoShip" H E) ∨ ∃ b, valV (heldK (LL.map (·.2)) bs) (.inr nm) = some (.int b) ∧ ∀ H', Ex H H' → Q (.int b) H'))
theorem has_Quay_where {P : Program} {w : World} {K : PySem.W.Frag} {mg : Str → Option Value} {base : Heap}  {cn : Str} (S : B.StandsM K mg cn "where" "Quay.where" s_Quay_where) (N : Nms K mg) (h_need_name : B.Has P w K mg base "need_name" 1 ["name"] (sp_need_name K mg)) : B.HasM P w K mg base cn "where" 2 ["self", "name"] (sp_Quay_where K mg cn) := by
  refine B.hasM_of S sc_Quay_where (fun _ _ _ _ _ _ us hl => match us, hl with | [_, _], _ => rfl) (fun vs H Q E h => ?_)
    (fun f cdv A outer s H vs Q E hr h => ⟨_, (pss_cons (ps_expr (B.pe_has h_need_name hr (B.passU (takes_of rfl rfl rfl rfl)) (pa_cons (pv 1) pa_nil)))
    (pss_cons (ps_if (pt_cmp (pc_dnotin (hu_of hr) (pv 1) (B.pe_fldK K (pv 0) (by rfl)))) (pss_one (ps_raise rfl (takes_of rfl rfl rfl rfl) (B.pmk N.x_NoShip))) pss_nil)
    (pss_one (ps_ret (pe_dget (hu_of hr) (B.pe_fldK K (pv 0) (by rfl)) (pv 1) (fun _ _ => rfl)))))), ?_⟩)
  · obtain ⟨q, l, d, n, LL, bs, x, rfl, _⟩ := h
    rfl
  · obtain ⟨q, l, d, n, LL, bs, x, rfl, iq, Qy, Ln, h⟩ := h
    obtain ⟨hc, f1, f2, f3⟩ := quay_facts N iq
    have hc := hc.cls
    obtain ⟨dx, hq⟩ := Qy.ins
    walk_at "go"
    refine ⟨x, rfl, ?_⟩
    rcases h with h | ⟨nm, rfl, ok, h⟩
    · exact .inl h
    refine .inr ⟨nm, rfl, ok, fun H1 e1 => ?_⟩
    have hd1 := e1 _ _ Qy.lying
    walk_at "go"
    rcases h with ⟨hm, bad⟩ | ⟨b, hv, post⟩
    · rw [heldK_none hm, Option.isSome_none]
      walk_at "go"
      exact fun C m => bad C H1 m e1
    · rw [hv, Option.isSome_some]
      walk_at "go"
      refine x_getS hd1 hv ?_
      exact post H1 e1
theorem lay_prefix {n : Int} {r : Bool} {ws vs bs : List Int} (h : lay n r (ws ++ vs) = some bs) : ∃ cs, lay n r ws = some cs := by
  cases e : lay n r ws with
  | none => rw [lay_none n r ws e vs] at h; cases h
  | some cs => exact ⟨cs, rfl⟩
/-- the berth of a ship by its name -/
def lookB (L : List (Str × Int)) (bs : List Int) (nm : Str) : Int := match valV (heldK L bs) (.inr nm) with
  | some (.int b) => b
  | _ => 0
/-- the moves when ships L, with berths bs, are laid anew as L', bs' -/
def movesOf (L : List (Str × Int)) (bs : List Int) (L' : List (Str × Int)) (bs' : List Int) : List (Str × Int × Int) :=
  ((L'.zip bs').filter fun z => decide (z.2 ≠ lookB L bs z.1.1)).map fun z => (z.1.1, lookB L bs z.1.1, z.2)
theorem moves_snoc (L : List (Str × Int)) (bs : List Int) (L' : List (Str × Int)) (bs' : List Int) (p : Str × Int) (b : Int) (h : bs'.length = L'.length) :
    movesOf L bs (L' ++ [p]) (bs' ++ [b]) = movesOf L bs L' bs' ++ if b ≠ lookB L bs p.1 then [(p.1, lookB L bs p.1, b)] else [] := by
  unfold movesOf
  rw [List.zip_append (by omega), List.filter_append, List.map_append]
  congr 1
  by_cases e : b ≠ lookB L bs p.1
  · rw [if_pos e]
    simp [e]
  · rw [if_neg e]
    simp only [ne_eq, Decidable.not_not] at e
    simp [e]
/-- a list of moves, as it stands -/
def Moves (H : Hp) (mv : Addr) (ms : List (Str × Int × Int)) : Prop := ∃ MM : List (Addr × Str × Int × Int), H mv = some (.lst (MM.map fun x => V.ref x.1)) ∧ (∀ x ∈ MM, H x.1 = some (.tup [.str x.2.1, .int x.2.2.1, .int x.2.2.2])) ∧ MM.map (·.2) = ms
def sp_Quay_leave (K : PySem.W.Frag) (mg : Str → Option Value) (cn : Str) : Sp := fun vs H Q E => ∃ (q l d : Addr) (n : Int) (LL : List (Addr × Str × Int)) (bs : List Int) (x : V), vs = [.ref q, x] ∧ IsQ cn ∧ Quay mg cn n H q l d LL bs ∧ Line cn n (LL.map (·.2)) bs ∧
  ((NoNm K H x ∧ Bad mg "NoName" H E) ∨ ∃ nm, x = .str nm ∧ nameOk nm = true ∧
    ((nm ∉ (LL.map (·.2)).map (·.1) ∧ Bad mg "NoShip" H E) ∨ (nm ∈ (LL.map (·.2)).map (·.1) ∧ ∀ (l' d' mv : Addr) (H' : Hp) (LL' : List (Addr × Str × Int)) (bs' : List Int),
      LL'.map (·.2) = (LL.map (·.2)).filter (fun p => decide (p.1 ≠ nm)) → Quay mg cn n H' q l' d' LL' bs' → Line cn n (LL'.map (·.2)) bs' → H l' = none → H d' = none → H mv = none → mv ≠ l' → Moves H' mv (movesOf (LL.map (·.2)) bs (LL'.map (·.2)) bs') → KeptL [q] H H' → Q (.ref mv) H')))
theorem has_Quay_leave {P : Program} {w : World} {K : PySem.W.Frag} {mg : Str → Option Value} {base : Heap}  {cn : Str} (S : B.StandsM K mg cn "leave" "Quay.leave" s_Quay_leave) (N : Nms K mg) (hf_come : B.FamM P w K mg base "come" 3 ["self", "name", "wish"] (fun c sp => IsQ c ∧ sp = sp_Quay_come K mg c)) (hf_where : B.FamM P w K mg base "where" 2 ["self", "name"] (fun c sp => IsQ c ∧ sp = sp_Quay_where K mg c)) : B.HasM P w K mg base cn "leave" 4 ["self", "name"] (sp_Quay_leave K mg cn) := by
  refine B.hasM_of S sc_Quay_leave (fun _ _ _ _ _ _ us hl => match us, hl with | [_, _], _ => rfl) (fun vs H Q E h => ?_)
    (fun f cdv A outer s H vs Q E hr h => ⟨_, (pss_cons (ps_expr (B.pe_methF (mg0 := mg) (E := fun _ => E) (pv 0) hf_where hr (B.passUAt (takes_of rfl rfl rfl rfl)) (pa_cons (pv 1) pa_nil)))
    (pss_cons (ps_set (i := 2) sc_Quay_leave.nd rfl (by first | exact Or.inl rfl | exact Or.inr rfl) (B.pe_fldK K (pv 0) (by rfl)))
    (pss_cons (ps_setLc (i := 3) (own := [("pair", 4)]) (g := (gName 4)) rfl sc_Quay_leave.nd rfl rfl (sw_true rfl rfl rfl (by decide +kernel)) (pi_list (B.pe_fldK K (pv 0) (by rfl))) (blkOk_by (own := [("pair", 4)]) (N := n_Quay_leave) (sc := defScope s_Quay_leave) (by decide +kernel)) (fun _ _ _ _ _ => (pg_name (i := 4) sc_Quay_leave.nd rfl (by first | exact Or.inl rfl | exact Or.inr rfl))) (fun _ _ _ _ _ => (pts_one (pt_cmpR op_ne (pe_ix (r := rIxT K) ix_tup (pv 4) pe_int (fun _ _ => rfl)) (pv 1) (nomark _)))) (fun _ _ _ _ _ => (pv 4)))
    (pss_cons (ps_fld (pv 0) (pe_lst pa_nil) rfl)
    (pss_cons (ps_fld (pv 0) pe_dnewK rfl)
    (pss_cons (ps_set (i := 5) sc_Quay_leave.nd rfl (by first | exact Or.inl rfl | exact Or.inr rfl) (pe_lst pa_nil))
    (pss_cons (ps_for (passes_of rfl) rfl (pi_list (pv 3)) (pg_tup rfl (pgs_cons (pg_name (i := 6) sc_Quay_leave.nd rfl (by first | exact Or.inl rfl | exact Or.inr rfl)) (pgs_cons (pg_name (i := 7) sc_Quay_leave.nd rfl (by first | exact Or.inl rfl | exact Or.inr rfl)) pgs_nil))) (pss_cons (ps_set (i := 8) sc_Quay_leave.nd rfl (by first | exact Or.inl rfl | exact Or.inr rfl) (B.pe_methF (mg0 := mg) (E := fun _ => E) (pv 0) hf_come hr (B.passUAt (takes_of rfl rfl rfl rfl)) (pa_cons (pv 6) (pa_cons (pv 7) pa_nil))))
    (pss_one (ps_if (pt_cmpR op_ne (pv 8) (pe_dget (hu_of hr) (pv 2) (pv 6) (fun _ _ => rfl)) (nomark _)) (pss_one (ps_expr (pe_bm PySem.F.plainAttrs_list PySem.F.slot_list_append PySem.F.type_list_append mt_append (pv 5) (pa_cons (pe_tup (pa_cons (pv 6) (pa_cons (pe_dget (hu_of hr) (pv 2) (pv 6) (fun _ _ => rfl)) (pa_cons (pv 8) pa_nil)))) pa_nil)))) pss_nil))))
    (pss_one (ps_ret (pv 5)))))))))), ?_⟩)
  · obtain ⟨q, l, d, n, LL, bs, x, rfl, _⟩ := h
    rfl
  · obtain ⟨q, l, d, n, LL, bs, x, rfl, iq, Qy, Ln, h⟩ := h
    obtain ⟨hc, f1, f2, f3⟩ := quay_facts N iq
    have hc := hc.cls
    obtain ⟨dx, hq⟩ := Qy.ins
    obtain ⟨len1, len2⟩ := Ln.len
    have n2 := Ln.n2
    have LLl : (LL.map (·.2)).length = LL.length := List.length_map _
    walk_at "go"
    refine x_onM (c := cn) ⟨iq, rfl⟩ hq rfl ?_
    walk_at "go"
    refine ⟨q, l, d, n, LL, bs, x, rfl, iq, Qy, Ln, ?_⟩
    rcases h with h | ⟨nm, rfl, ok, h⟩
    · exact .inl h
    refine .inr ⟨nm, rfl, ok, ?_⟩
    rcases h with h | ⟨hm, post⟩
    · exact .inl h
    obtain ⟨i0, w0, b0, _, _, hv0⟩ := has_key Ln.nd (by omega) hm
    refine .inr ⟨b0, hv0, fun H1 e1 => ?_⟩
    have hq1 := e1 _ _ hq
    walk_at "go"
    refine x_lcL (K := K) LL (fun x => V.ref x.1) (fun x => decide (x.2.1 ≠ nm)) (fun x => V.ref x.1) (Evl.sq_of (e1 _ _ Qy.line)) ⟨by omega, fun _ => rfl, fun x hx H' e' QT k => ?_, fun x _ _ H' e' Q' k => ?_, fun ot H2 ot0 e2 hot => ?_⟩
    · walk_at "go"
      refine x_ixT (v := .str x.2.1) (Evl.st_of (e' _ _ (e1 _ _ (Qy.pairs x hx)))) rfl ?_
      walk_at "go"
      have e3 : (!decide (V.str x.2.1 = V.str nm)) = decide (x.2.1 ≠ nm) := by simp
      rw [e3]
      exact k H' (.refl _)
    · walk_at "go"
      exact k H' (.refl _)
    obtain ⟨LF, hLF⟩ : ∃ LF, LF = LL.filter fun x => decide (x.2.1 ≠ nm) := ⟨_, rfl⟩
    rw [← hLF] at hot
    have memF : ∀ x ∈ LF, x ∈ LL := fun x hx => by rw [hLF] at hx; exact (List.mem_filter.mp hx).1
    have eF : LF.map (·.2) = (LL.map (·.2)).filter (fun p => decide (p.1 ≠ nm)) := by
      rw [hLF, List.filter_map]
      rfl
    clear hLF
    walk_at "go"
    refine x_mkL (by simp) fun l' H3 l0 e3 hl3 => ?_
    walk_at "go"
    have ex13 : Ex H1 H3 := e2.trans e3
    have ex3 : Ex H H3 := e1.trans ex13
    refine x_onSF (e3 _ _ (e2 _ _ hq1)) hc f2 (by simp [flds]) fun H4 u4 => ?_
    walk_at "go"
    refine x_dnew fun d' H5 d0 e5 hd5 => ?_
    walk_at "go"
    refine x_onSF (e5 _ _ u4.same) hc f3 (by have := putF_len "line" (.ref l') (flds n l d); simp [flds] at this ⊢; omega) fun H6 u6 => ?_
    walk_at "go"
    refine x_mkL (by simp) fun mv H7 mv0 e7 hmv => ?_
    have ql : q ≠ l' := ne_of_none (e2 _ _ hq1) l0
    have qd : q ≠ d' := ne_of_none u4.same d0
    have ins6 : H6 q = some (.ins (B.at_ mg cn) dx (flds n l' d')) := u6.same
    have qm : q ≠ mv := ne_of_none ins6 mv0
    have l4 := u4.get (Ne.symm ql) hl3
    have l6 := u6.get (Ne.symm ql) (e5 _ _ l4)
    have d6 := u6.get (Ne.symm qd) hd5
    have lm : l' ≠ mv := ne_of_none l6 mv0
    have dm : d' ≠ mv := ne_of_none d6 mv0
    have ld : l' ≠ d' := ne_of_none l4 d0
    have kp7 : KeptL [q] H H7 := ((((KeptL.of ex3).upd u4 (.inl (by simp))).ex e5).upd u6 (.inl (by simp))).ex e7
    have lH : H l' = none := exn (e1.trans e2) l0
    have back : ∀ {z : Addr}, H6 z = none → H z = none := fun {z} h => by
      cases e : H z with
      | none => rfl
      | some o =>
        by_cases zq : z = q
        · rw [zq, ins6] at h; cases h
        · rw [u6.get zq (e5 _ _ (u4.get zq (ex3 _ _ e)))] at h; cases h
    have dH : H d' = none := by
      cases e : H d' with
      | none => rfl
      | some o => rw [u4.get (Ne.symm qd) (ex3 _ _ e)] at d0; cases d0
    have mH : H mv = none := back mv0
    have otq : ot ≠ q := fun z => by rw [z, e2 _ _ hq1] at hot; cases hot
    have hot7 : H7 ot = some (.lst (LF.map fun x => V.ref x.1)) := e7 _ _ (u6.get otq (e5 _ _ (u4.get otq (e3 _ _ hot))))
    have otl : ot ≠ l' := ne_of_none hot l0
    have otd : ot ≠ d' := ne_of_none (u4.get otq (e3 _ _ hot)) d0
    have otm : ot ≠ mv := ne_of_none (u6.get otq (e5 _ _ (u4.get otq (e3 _ _ hot)))) mv0
    obtain ⟨bs', lay', _, _⟩ := lay_without nm (LL.map (·.2)) (fun p hp => (Ln.ok p hp).2) bs Ln.lays
    rw [← eF] at lay'
    have okF : ∀ x ∈ LF, nameOk x.2.1 = true ∧ 1 ≤ x.2.2 ∧ x.2.2 ≤ n := fun x hx => Ln.ok x.2 (List.mem_map.mpr ⟨x, memF x hx, rfl⟩)
    have ndF : ((LF.map (·.2)).map (·.1)).Nodup := by
      rw [eF]
      exact Ln.nd.sublist ((List.filter_sublist).map _)
    walk_at "go"
    refine x_forL LF (fun x => V.ref x.1) (fun pre σ' H' => (∃ v5 v6 v7, σ' = [some (.ref q), some (.str nm), some (.ref d), some (.ref ot), none, some (.ref mv), v5, v6, v7]) ∧ KeptL [q] H H' ∧ H' ot = some (.lst (LF.map fun x => V.ref x.1)) ∧
        ∃ (LL' : List (Addr × Str × Int)) (cs : List Int), LL'.map (·.2) = pre.map (·.2) ∧ Quay mg cn n H' q l' d' LL' cs ∧ Line cn n (LL'.map (·.2)) cs ∧ Moves H' mv (movesOf (LL.map (·.2)) bs (LL'.map (·.2)) cs))
      ⟨⟨_, _, _, rfl⟩, kp7, hot7, [], [], rfl, ⟨⟨dx, e7 _ _ ins6⟩, e7 _ _ l6, fun x hx => (nomatch hx), e7 _ _ d6⟩, ⟨Ln.n1, Ln.n2, List.nodup_nil, fun p hp => (nomatch hp), rfl⟩, [], hmv, fun x hx => (nomatch hx), rfl⟩
      (fun pre σ' H' _ p => Evl.sq_of p.2.2.1) (fun pre x post2 σ' H' ea pp => ?_) (fun σ' H' pp => ?_)
    · obtain ⟨⟨v5, v6, v7, rfl⟩, kp, hot', LL', cs, eL, Qy', Ln', MM, hMM, hMp, eM⟩ := pp
      have xF : x ∈ LF := by rw [ea]; simp
      have hx := okF x xF
      have hxp := Qy.pairs x (memF x xF)
      have xq : x.1 ∉ [q] := fun z => by
        have z := List.mem_singleton.mp z
        rw [z, hq] at hxp
        cases hxp
      have hxp' := kp _ _ hxp xq
      obtain ⟨len1', len2'⟩ := Ln'.len
      have LLl' : (LL'.map (·.2)).length = LL'.length := List.length_map _
      obtain ⟨dx', hq'⟩ := Qy'.ins
      have nin : x.2.1 ∉ (LL'.map (·.2)).map (·.1) := fun z => by
        rw [eL] at z
        rw [ea, List.map_append, List.map_append, List.nodup_append] at ndF
        exact ndF.2.2 _ z x.2.1 (by simp) rfl
      have free : ∃ b, freeOf n (clsR cn) cs x.2.2 = some b := by
        have h1 : lay n (clsR cn) ((pre.map (·.2)).map (·.2) ++ [x.2.2]) = none → False := fun z => by
          have := lay_none n (clsR cn) _ z ((post2.map (·.2)).map (·.2))
          rw [ea] at lay'
          simp only [List.map_append, List.map_cons, List.append_assoc, List.cons_append, List.nil_append] at this lay'
          rw [lay'] at this
          cases this
        cases e : freeOf n (clsR cn) cs x.2.2 with
        | some b => exact ⟨b, rfl⟩
        | none =>
          exfalso
          refine h1 ?_
          rw [← eL]
          exact lay_stop Ln'.lays e
      obtain ⟨b, hb⟩ := free
      refine x_gT2 (Evl.st_of hxp') ?_
      walk_at "go"
      refine x_onM (c := cn) ⟨iq, rfl⟩ hq' rfl ?_
      walk_at "go"
      refine ⟨q, l', d', n, LL', cs, .str x.2.1, .int x.2.2, rfl, iq, Qy', Ln', .inr ⟨x.2.1, rfl, hx.1, .inr ⟨nin, .int, .int _, .inr ⟨x.2.2, rfl, hx.2.1, hx.2.2, .inr ⟨b, hb, fun p H8 Qy8 kp8 => ?_⟩⟩⟩⟩⟩
      have Ln8 := Ln'.snoc hx.1 nin hx.2.1 hx.2.2 hb
      have e8 : (LL' ++ [(p, x.2.1, x.2.2)]).map (·.2) = LL'.map (·.2) ++ [(x.2.1, x.2.2)] := by rw [List.map_append]; rfl
      have kpo : ∀ {z : Addr} {o : HO}, H' z = some o → z ≠ l' → z ≠ d' → H8 z = some o := fun h a c => kp8 _ _ h (by simp [a, c])
      have hd8 : H8 d = some (.dK (heldK (LL.map (·.2)) bs)) := by
        have dq : d ∉ [q] := fun z => by
          have z := List.mem_singleton.mp z
          have := Qy.lying
          rw [z, hq] at this
          cases this
        have h1 := kp _ _ Qy.lying dq
        exact kpo h1 (fun z => by rw [z, Qy'.line] at h1; cases h1) (fun z => by rw [z] at dq; have := Qy.lying; rw [z, dH] at this; cases this)
      have hmv8 := kpo hMM (Ne.symm lm) (Ne.symm dm)
      have hot8 := kpo hot' otl otd
      have kp8' : KeptL [q] H H8 := fun z o h nq => by
        have h1 := kp _ _ h nq
        exact kpo h1 (fun e => by rw [e, lH] at h; cases h) (fun e => by rw [e, dH] at h; cases h)
      have hMp8 : ∀ y ∈ MM, H8 y.1 = some (.tup [.str y.2.1, .int y.2.2.1, .int y.2.2.2]) := fun y hy => by
        have h1 := hMp y hy
        exact kpo h1 (fun e => by rw [e, Qy'.line] at h1; cases h1) (fun e => by rw [e, Qy'.lying] at h1; cases h1)
      have xin : x.2.1 ∈ (LL.map (·.2)).map (·.1) := List.mem_map.mpr ⟨x.2, List.mem_map.mpr ⟨x, memF x xF, rfl⟩, rfl⟩
      obtain ⟨i1, w1, bo, _, _, hv⟩ := has_key Ln.nd (by omega) xin
      have elook : lookB (LL.map (·.2)) bs x.2.1 = bo := by
        unfold lookB
        rw [hv]
      have ems := moves_snoc (LL.map (·.2)) bs (LL'.map (·.2)) cs (x.2.1, x.2.2) b (by omega)
      rw [show ((x.2.1, x.2.2) : Str × Int).1 = x.2.1 from rfl, elook] at ems
      walk_at "go"
      refine x_getS hd8 hv ?_
      walk_at "go"
      refine x_decN (fun c => ?_) (fun c => ?_)
      · have bne : b ≠ bo := fun z => c (by rw [z])
        rw [if_pos bne] at ems
        walk_at "go"
        refine x_getS hd8 hv ?_
        walk_at "go"
        refine x_mkT (by simp) fun t H9 t0 e9 ht => ?_
        have ml : MM.length ≤ LL'.length := by
          have h1 := congrArg List.length eM
          rw [List.length_map] at h1
          rw [h1]
          unfold movesOf
          rw [List.length_map]
          refine Nat.le_trans (List.length_filter_le _ _) ?_
          rw [List.length_zip]
          omega
        walk_at "go"
        refine x_append (e9 _ _ hmv8) (by rw [List.length_map]; omega) fun H10 u10 => ?_
        walk_at "go"
        have mne : ∀ {z : Addr} {o : HO}, H8 z = some o → z ≠ mv → H10 z = some o := fun h n => u10.get n (e9 _ _ h)
        refine ⟨⟨_, _, _, rfl⟩, (kp8'.ex e9).upd u10 (.inr mH), mne hot8 otm, LL' ++ [(p, x.2.1, x.2.2)], cs ++ [b], by rw [e8, eL, List.map_append]; rfl, ?_, by rw [e8]; exact Ln8, ?_⟩
        · obtain ⟨dx8, hq8⟩ := Qy8.ins
          refine ⟨⟨dx8, mne hq8 qm⟩, mne Qy8.line lm, fun y hy => ?_, mne Qy8.lying dm⟩
          have h1 := Qy8.pairs y hy
          exact mne h1 fun e => by rw [e, hmv8] at h1; cases h1
        · refine ⟨MM ++ [(t, x.2.1, bo, b)], ?_, fun y hy => ?_, ?_⟩
          · rw [List.map_append]
            exact u10.same
          · rcases List.mem_append.mp hy with hy | hy
            · have h1 := hMp8 y hy
              exact mne h1 fun e => by rw [e, hmv8] at h1; cases h1
            · rw [List.mem_singleton.mp hy]
              exact u10.get (Ne.symm (ne_of_none hmv8 t0)) ht
          · rw [e8, ems, List.map_append, eM]
            rfl
      · have beq : b = bo := V.int.inj c
        rw [if_neg (fun z => z beq), List.append_nil] at ems
        walk_at "go"
        refine ⟨⟨_, _, _, rfl⟩, kp8', hot8, LL' ++ [(p, x.2.1, x.2.2)], cs ++ [b], by rw [e8, eL, List.map_append]; rfl, Qy8, by rw [e8]; exact Ln8, MM, hmv8, hMp8, by rw [e8, ems, eM]⟩
    · obtain ⟨⟨v5, v6, v7, rfl⟩, kp, hot', LL', cs, eL, Qy', Ln', hM⟩ := pp
      walk_at "go"
      exact post l' d' mv H' LL' cs (by rw [eL, eF]) Qy' Ln' lH dH mH (Ne.symm lm) hM kp
def sp_Quay_all_ships (K : PySem.W.Frag) (mg : Str → Option Value) (cn : Str) : Sp := fun vs H Q _ => ∃ (q l d : Addr) (n : Int) (LL : List (Addr × Str × Int)) (bs : List Int), vs = [.ref q] ∧ IsQ cn ∧ Quay mg cn n H q l d LL bs ∧ Line cn n (LL.map (·.2)) bs ∧
  ∀ (p : Addr) (H' : Hp), H p = none → Ex H H' → Moves H' p ((LL.map (·.2)).map fun x => (x.1, x.2, lookB (LL.map (·.2)) bs x.1)) → Q (.ref p) H'
theorem has_Quay_all_ships {P : Program} {w : World} {K : PySem.W.Frag} {mg : Str → Option Value} {base : Heap}  {cn : Str} (S : B.StandsM K mg cn "all_ships" "Quay.all_ships" s_Quay_all_ships) (N : Nms K mg)  : B.HasM P w K mg base cn "all_ships" 1 ["self"] (sp_Quay_all_ships K mg cn) := by
  refine B.hasM_ofN S sc_Quay_all_ships (fun _ _ _ _ _ _ us hl => match us, hl with | [_], _ => rfl) (fun vs H Q E h => ?_)
    (fun f cdv A outer s H vs Q E hr h => ⟨_, (pss_one (ps_ret (pe_lc (own := [("name", 1), ("wish", 2)]) (g := (gTup K 2 (gCons (gName 1) (gCons (gName 2) gNil)))) rfl sc_Quay_all_ships.nd (pi_list (B.pe_fldK K (pv 0) (by rfl))) (blkOk_by (own := [("name", 1), ("wish", 2)]) (N := n_Quay_all_ships) (sc := defScope s_Quay_all_ships) (by decide +kernel)) (fun _ _ _ _ _ => (pg_tup rfl (pgs_cons (pg_name (i := 1) sc_Quay_all_ships.nd rfl (by first | exact Or.inl rfl | exact Or.inr rfl)) (pgs_cons (pg_name (i := 2) sc_Quay_all_ships.nd rfl (by first | exact Or.inl rfl | exact Or.inr rfl)) pgs_nil)))) (fun _ _ _ _ _ => pts_nil) (fun _ _ _ _ _ => (pe_tup (pa_cons (pv 1) (pa_cons (pv 2) (pa_cons (pe_dget (hu_of hr) (B.pe_fldK K (pv 0) (by rfl)) (pv 1) (fun _ _ => rfl)) pa_nil)))))))), ?_⟩)
  · obtain ⟨q, l, d, n, LL, bs, rfl, _⟩ := h
    rfl
  · obtain ⟨q, l, d, n, LL, bs, rfl, iq, Qy, Ln, post⟩ := h
    obtain ⟨hc, f1, f2, f3⟩ := quay_facts N iq
    have hc := hc.cls
    obtain ⟨dx, hq⟩ := Qy.ins
    obtain ⟨len1, len2⟩ := Ln.len
    have n2 := Ln.n2
    have LLl : (LL.map (·.2)).length = LL.length := List.length_map _
    walk_at "go"
    refine x_lcG (K := K) LL (fun x => V.ref x.1) (fun x => HO.tup [.str x.2.1, .int x.2.2, .int (lookB (LL.map (·.2)) bs x.2.1)]) (fun x => [some (.ref q), some (.str x.2.1), some (.int x.2.2)]) (Evl.sq_of Qy.line) (by omega) (fun _ => rfl) (fun x hx H' e' R r => ?_) (fun x hx H' e' Q' k => ?_) (fun p H2 ps p0 e2 hp pl hps => ?_)
    · exact x_gT2 (Evl.st_of (e' _ _ (Qy.pairs x hx))) r
    · have hd' := e' _ _ Qy.lying
      have xin : x.2.1 ∈ (LL.map (·.2)).map (·.1) := List.mem_map.mpr ⟨x.2, List.mem_map.mpr ⟨x, hx, rfl⟩, rfl⟩
      obtain ⟨i1, w1, bo, _, _, hv⟩ := has_key Ln.nd (by omega) xin
      have elook : lookB (LL.map (·.2)) bs x.2.1 = bo := by
        unfold lookB
        rw [hv]
      have hq' := e' _ _ hq
      walk_at "go"
      refine x_getS hd' hv ?_
      refine x_mkT (by simp) fun t H3 t0 e3 ht => ?_
      rw [← elook] at ht
      exact k t H3 t0 e3 ht
    · refine post p H2 p0 e2 ⟨ps.zip (LL.map fun x => (x.2.1, x.2.2, lookB (LL.map (·.2)) bs x.2.1)), ?_, fun y hy => ?_, ?_⟩
      · rw [hp]
        refine congrArg (fun z => some (HO.lst z)) ?_
        conv => lhs; rw [show ps = (ps.zip (LL.map fun x => (x.2.1, x.2.2, lookB (LL.map (·.2)) bs x.2.1))).map (·.1) from by rw [List.map_fst_zip (by rw [List.length_map]; omega)], List.map_map]
        rfl
      · obtain ⟨i, hi⟩ := List.getElem?_of_mem hy
        rw [List.getElem?_zip_eq_some] at hi
        obtain ⟨h1, h2⟩ := hi
        rw [List.getElem?_map] at h2
        cases e : LL[i]? with
        | none => rw [e] at h2; cases h2
        | some x =>
          rw [e] at h2
          have h2 := Option.some.inj h2
          rw [hps i x y.1 e h1, ← h2]
      · rw [List.map_snd_zip (by rw [List.length_map]; omega), List.map_map]
        rfl
def sp_Quay_free_ones (K : PySem.W.Frag) (mg : Str → Option Value) (cn : Str) : Sp := fun vs H Q _ => ∃ (q l d : Addr) (n : Int) (LL : List (Addr × Str × Int)) (bs : List Int), vs = [.ref q] ∧ IsQ cn ∧ Quay mg cn n H q l d LL bs ∧ Line cn n (LL.map (·.2)) bs ∧
  ∀ (p : Addr) (H' : Hp), H p = none → Ex H H' → H' p = some (.lst (((irange 1 (n + 1)).filter fun b => !decide (b ∈ bs)).map V.int)) → Q (.ref p) H'
theorem has_Quay_free_ones {P : Program} {w : World} {K : PySem.W.Frag} {mg : Str → Option Value} {base : Heap}  {cn : Str} (S : B.StandsM K mg cn "free_ones" "Quay.free_ones" s_Quay_free_ones) (N : Nms K mg)  : B.HasM P w K mg base cn "free_ones" 1 ["self"] (sp_Quay_free_ones K mg cn) := by
  refine B.hasM_ofN S sc_Quay_free_ones (fun _ _ _ _ _ _ us hl => match us, hl with | [_], _ => rfl) (fun vs H Q E h => ?_)
    (fun f cdv A outer s H vs Q E hr h => ⟨_, (pss_cons (ps_set (i := 1) sc_Quay_free_ones.nd rfl (by first | exact Or.inl rfl | exact Or.inr rfl) (B.pe_listVals rfl (by rfl) N.n_list (B.pe_fldK K (pv 0) (by rfl))))
    (pss_one (ps_ret (pe_lc (own := [("berth", 2)]) (g := (gName 2)) rfl sc_Quay_free_ones.nd (pi_range2 rfl N.n_range (pa_cons pe_int (pa_cons (pe_op op_add (B.pe_fldK K (pv 0) (by rfl)) pe_int) pa_nil))) (blkOk_by (own := [("berth", 2)]) (N := n_Quay_free_ones) (sc := defScope s_Quay_free_ones) (by decide +kernel)) (fun _ _ _ _ _ => (pg_name (i := 2) sc_Quay_free_ones.nd rfl (by first | exact Or.inl rfl | exact Or.inr rfl))) (fun _ _ _ _ _ => (pts_one (pt_cmpR (r := rIn K true) op_notIn_seq (pv 2) (pv 1) (by rfl)))) (fun _ _ _ _ _ => (pv 2)))))), ?_⟩)
  · obtain ⟨q, l, d, n, LL, bs, rfl, _⟩ := h
    rfl
  · obtain ⟨q, l, d, n, LL, bs, rfl, iq, Qy, Ln, post⟩ := h
    obtain ⟨hc, f1, f2, f3⟩ := quay_facts N iq
    have hc := hc.cls
    obtain ⟨dx, hq⟩ := Qy.ins
    obtain ⟨len1, len2⟩ := Ln.len
    have n2 := Ln.n2
    walk_at "go"
    refine x_lVals Qy.lying fun hp H1 _ e1 hh => ?_
    rw [heldK_vals len1] at hh
    walk_at "go"
    refine x_rng2 (by omega) (by omega) ?_
    refine x_lcR (K := K) (fun b => !decide (b ∈ bs)) V.int ⟨by rw [irange_len]; omega, fun _ => rfl, fun b _ H' e' QT kk => ?_, fun b _ _ H' e' Q' kk => ?_, fun l5 H5 l50 e5 h5 => ?_⟩
    · walk_at "go"
      refine x_notIn (Evl.sq_of (e' _ _ hh)) ?_
      walk_at "go"
      exact kk H' (.refl _)
    · walk_at "go"
      exact kk H' (.refl _)
    · exact post l5 H5 (exn e1 l50) (e1.trans e5) h5

/-! ### texts: the plain law -/
open TL
def numT (n : Int) : Str := Str.ofString (toString n)
def kindT (r : Bool) : Str := if r then "round" else "quay"
def headT (r : Bool) (n : Int) : Str := kindT r ++ " " ++ numT n
def rowT (p : Str × Int) : Str := p.1 ++ " " ++ numT p.2
def rowsT (r : Bool) (n : Int) (L : List (Str × Int)) : List Str := headT r n :: L.map rowT
def textT (r : Bool) (n : Int) (L : List (Str × Int)) : Str := Txt.join "" ((rowsT r n L).map fun x => x ++ "\n")
theorem tl_numT {n : Int} (h : 0 ≤ n) : tl (numT n) = numL n.toNat := by
  unfold numT
  rw [show n = ((n.toNat : Nat) : Int) from by omega]
  exact tl_num n.toNat
theorem numT_len {n : Int} (h : 0 ≤ n) (h2 : n ≤ 400) : (numT n).length ≤ 3 := by
  rw [len_tl, tl_numT h]
  exact numL_len (by decide) (by omega)
theorem numT_inj {m n : Int} (hm : 0 ≤ m) (hn : 0 ≤ n) (h : numT m = numT n) : m = n := by
  have h := congrArg tl h
  rw [tl_numT hm, tl_numT hn] at h
  have := numL_inj h
  omega
theorem kindT_len (r : Bool) : (kindT r).length ≤ 5 := by cases r <;> decide +kernel
theorem app_len (a b : Str) : (a ++ b).length = a.length + b.length := by rw [len_tl, len_tl, len_tl, tl_append, List.length_append]
theorem headT_len {r : Bool} {n : Int} (h : 0 ≤ n) (h2 : n ≤ 400) : (headT r n).length ≤ 9 := by
  unfold headT
  rw [app_len, app_len]
  have h3 := kindT_len r
  have h4 := numT_len h h2
  have h5 : (Str.ofString " ").length = 1 := by decide +kernel
  omega
theorem rowT_len {p : Str × Int} (h1 : nameOk p.1 = true) (h : 0 ≤ p.2) (h2 : p.2 ≤ 400) : (rowT p).length ≤ 12 := by
  unfold rowT
  rw [app_len, app_len]
  have h3 := nameOk_len h1
  have h4 := numT_len h h2
  have h5 : (Str.ofString " ").length = 1 := by decide +kernel
  omega
/-- a whole number of 1 to 400, as it is read -/
def numOf (w : Str) : Option Int := ((List.range 400).find? fun (i : Nat) => decide (numT ((i : Int) + 1) = w)).map fun i => (i : Int) + 1
theorem numOf_some {w : Str} {n : Int} (h : numOf w = some n) : 1 ≤ n ∧ n ≤ 400 ∧ w = numT n := by
  unfold numOf at h
  cases e : (List.range 400).find? fun (i : Nat) => decide (numT ((i : Int) + 1) = w) with
  | none => rw [e] at h; cases h
  | some i =>
    rw [e] at h
    obtain rfl : (i : Int) + 1 = n := Option.some.inj h
    have h1 := List.find?_some e
    have h2 := List.mem_range.mp (List.mem_of_find?_eq_some e)
    exact ⟨by omega, by omega, (of_decide_eq_true h1).symm⟩
theorem numOf_of {n : Int} (h1 : 1 ≤ n) (h2 : n ≤ 400) : numOf (numT n) = some n := by
  unfold numOf
  cases e : (List.range 400).find? fun (i : Nat) => decide (numT ((i : Int) + 1) = numT n) with
  | none =>
    have := List.find?_eq_none.mp e (n.toNat - 1) (List.mem_range.mpr (by omega))
    rw [show (((n.toNat - 1 : Nat) : Int) + 1) = n from by omega] at this
    simp at this
  | some i =>
    have h4 := List.find?_some e
    have h3 := of_decide_eq_true h4
    have := numT_inj (by omega) (by omega) h3
    exact congrArg some this
/-! ### what a text tells -/
def allOf {α β : Type} (f : α → Option β) : List α → Option (List β)
  | [] => some []
  | a :: l => match f a, allOf f l with
    | some b, some bs => some (b :: bs)
    | _, _ => none
theorem allOf_none {α β : Type} {f : α → Option β} : ∀ {l : List α}, (∃ x ∈ l, f x = none) → allOf f l = none
  | [], h => by obtain ⟨_, h, _⟩ := h; cases h
  | a :: l, h => by
    obtain ⟨x, hx, e⟩ := h
    unfold allOf
    rcases List.mem_cons.mp hx with rfl | hx
    · rw [e]
    · rw [allOf_none ⟨x, hx, e⟩]
      cases f a <;> rfl
theorem allOf_some {α β : Type} {f : α → Option β} {g : α → β} : ∀ {l : List α}, (∀ x ∈ l, f x = some (g x)) → allOf f l = some (l.map g)
  | [], _ => rfl
  | a :: l, h => by
    unfold allOf
    rw [h a List.mem_cons_self, allOf_some fun x hx => h x (List.mem_cons_of_mem _ hx)]
    rfl
def wordsOf (row : Str) : Option (Str × Str) := match Txt.split row " " with
  | [a, b] => some (a, b)
  | _ => none
def toldOf (p : Str × Str) : Option (Str × Int) := if nameOk p.1 = true then (numOf p.2).map fun n => (p.1, n) else none
def rowsOf (t : Str) : List Str := Txt.split (cutS t none (some (-1))) "\n"
def parseT (t : Str) : Option (Bool × Int × List (Str × Int)) :=
  if Txt.endswith t "\n" = true then
    match allOf wordsOf (rowsOf t) with
    | some ((w, m) :: rest) => if w = "quay" ∨ w = "round" then (match numOf m, allOf toldOf rest with
      | some n, some L => some (decide (w = "round"), n, L)
      | _, _ => none) else none
    | _ => none
  else none
/-- ships that come, one by one, till one is refused -/
def comeAll (n : Int) (r : Bool) : List (Str × Int) → List Int → List (Str × Int) → Str ⊕ List Int
  | _, bs, [] => .inr bs
  | done, bs, p :: rest => if p.1 ∈ done.map (·.1) then .inl "Taken" else if 1 ≤ p.2 ∧ p.2 ≤ n then (match freeOf n r bs p.2 with
    | none => .inl "NoRoom"
    | some b => comeAll n r (done ++ [p]) (bs ++ [b]) rest) else .inl "NoWish"
/-! ### the signs of a number -/
theorem startsZ {w : Str} {c : Nat} {r : List Nat} (h : tl w = c :: r) : Txt.startswith w (Str.ofString "0") = decide (c = 48) := by
  have y : (Str.ofString "0").cps.toList = [48] := by decide +kernel
  have yl : (Str.ofString "0").length = 1 := by decide +kernel
  unfold Txt.startswith
  rw [StrLaws.subAt_eq, yl, y, List.drop_zero, show w.cps.toList = c :: r from h, show w.length = r.length + 1 from by rw [len_tl, h]; rfl]
  rw [decide_eq_true (show 0 + 1 ≤ r.length + 1 by omega), Bool.true_and]
  show ([c] == [48]) = _
  by_cases e : c = 48 <;> simp [e]
theorem digits_num {l : List Nat} (hl : l ≠ []) (h3 : l.length ≤ 3) (hd : ∀ c ∈ l, 48 ≤ c ∧ c ≤ 57) (h0 : l.head? ≠ some 48) : ∃ n : Nat, 1 ≤ n ∧ n < 1000 ∧ l = numL n := by
  match l, hl, h3, hd, h0 with
  | [], hl, _, _, _ => exact absurd rfl hl
  | [a], _, _, hd, h0 =>
    have ha := hd a (by simp)
    have h0 : a ≠ 48 := fun z => h0 (by rw [z]; rfl)
    refine ⟨a - 48, by omega, by omega, ?_⟩
    rw [numL_lt (by omega), show 48 + (a - 48) = a from by omega]
  | [a, b], _, _, hd, h0 =>
    have ha := hd a (by simp)
    have hb := hd b (by simp)
    have h0 : a ≠ 48 := fun z => h0 (by rw [z]; rfl)
    refine ⟨(a - 48) * 10 + (b - 48), by omega, by omega, ?_⟩
    rw [numL_step (by omega), show ((a - 48) * 10 + (b - 48)) / 10 = a - 48 from by omega, show ((a - 48) * 10 + (b - 48)) % 10 = b - 48 from by omega, numL_lt (by omega), show 48 + (a - 48) = a from by omega, show 48 + (b - 48) = b from by omega]
    rfl
  | [a, b, c], _, _, hd, h0 =>
    have ha := hd a (by simp)
    have hb := hd b (by simp)
    have hc := hd c (by simp)
    have h0 : a ≠ 48 := fun z => h0 (by rw [z]; rfl)
    refine ⟨(a - 48) * 100 + (b - 48) * 10 + (c - 48), by omega, by omega, ?_⟩
    rw [numL_step (by omega), show ((a - 48) * 100 + (b - 48) * 10 + (c - 48)) / 10 = (a - 48) * 10 + (b - 48) from by omega, show ((a - 48) * 100 + (b - 48) * 10 + (c - 48)) % 10 = c - 48 from by omega,
      numL_step (by omega), show ((a - 48) * 10 + (b - 48)) / 10 = a - 48 from by omega, show ((a - 48) * 10 + (b - 48)) % 10 = b - 48 from by omega, numL_lt (by omega), show 48 + (a - 48) = a from by omega, show 48 + (b - 48) = b from by omega, show 48 + (c - 48) = c from by omega]
    rfl
  | _ :: _ :: _ :: _ :: _, _, h3, _, _ => simp at h3
def figs : List Nat := (Str.ofString "0123456789").cps.toList
theorem figs_mem : ∀ c, c ∈ figs ↔ 48 ≤ c ∧ c ≤ 57 := fun c => by
  have h1 : ∀ c ∈ figs, 48 ≤ c ∧ c ≤ 57 := by decide +kernel
  have h2 : ∀ c, c < 58 → 48 ≤ c → c ∈ figs := by decide +kernel
  exact ⟨h1 c, fun h => h2 c (by omega) h.1⟩
theorem numL_head : ∀ i, i < 400 → (numL (i + 1)).head? ≠ some 48 := by decide +kernel
/-- what a number's text is like -/
theorem numT_like {n : Int} (h1 : 1 ≤ n) (h2 : n ≤ 400) : tl (numT n) ≠ [] ∧ (numT n).length ≤ 3 ∧ (∀ c ∈ tl (numT n), c ∈ figs) ∧ Txt.startswith (numT n) (Str.ofString "0") = false := by
  have e := tl_numT (n := n) (by omega)
  refine ⟨by rw [e]; exact numL_ne _, numT_len (by omega) h2, fun c hc => ?_, ?_⟩
  · rw [e] at hc
    have := numL_digits _ c hc
    exact (figs_mem c).mpr (by omega)
  · have h3 := numL_head (n.toNat - 1) (by omega)
    rw [show n.toNat - 1 + 1 = n.toNat from by omega, ← e] at h3
    cases e2 : tl (numT n) with
    | nil => rw [e] at e2; exact absurd e2 (numL_ne _)
    | cons c r =>
      rw [startsZ e2]
      rw [e2] at h3
      exact decide_eq_false fun z => h3 (by rw [z]; rfl)
theorem like_numT {w : Str} (h1 : tl w ≠ []) (h2 : w.length ≤ 3) (h3 : ∀ c ∈ tl w, c ∈ figs) (h4 : Txt.startswith w (Str.ofString "0") = false) : ∃ n : Int, 1 ≤ n ∧ n < 1000 ∧ w = numT n ∧ PySem.intText? w = some n := by
  obtain ⟨n, n1, n2, e⟩ := digits_num h1 (by rw [← len_tl]; exact h2) (fun c hc => (figs_mem c).mp (h3 c hc)) (fun z => by
    cases e2 : tl w with
    | nil => exact h1 e2
    | cons c r =>
      rw [e2] at z
      rw [startsZ e2, show c = 48 from Option.some.inj z] at h4
      cases h4)
  have ew : w = numT (n : Int) := ext_tl (by rw [e, tl_numT (by omega)]; rfl)
  refine ⟨n, by omega, by omega, ew, ?_⟩
  rw [ew]
  exact int_num (by rw [← e, ← len_tl]; omega)
theorem numOf_none {w : Str} (h : ∀ n : Int, 1 ≤ n → n ≤ 400 → w ≠ numT n) : numOf w = none := by
  cases e : numOf w with
  | none => rfl
  | some n =>
    obtain ⟨h1, h2, h3⟩ := numOf_some e
    exact absurd h3 (h n h1 h2)

/-! ### written, and what is read -/
theorem sum_le {k : Nat} : ∀ {ys : List Str}, (∀ y ∈ ys, y.length ≤ k) → (ys.map (·.length)).sum ≤ k * ys.length
  | [], _ => Nat.le_refl _
  | y :: ys, h => by
    have h1 := h y List.mem_cons_self
    have h2 := sum_le fun z hz => h z (List.mem_cons_of_mem _ hz)
    rw [List.map_cons, List.sum_cons, List.length_cons, Nat.mul_succ]
    omega
theorem small_log {n : Int} (h : 0 ≤ n) (h2 : n ≤ 400) : n.natAbs.log2 < 1920 := by
  have h3 : n.natAbs < 2 ^ 9 := by omega
  by_cases e : n.natAbs = 0
  · rw [e]; decide
  · have := (Nat.log2_lt e).mpr h3
    omega
theorem rowsT_len {cn : Str} {n : Int} {L : List (Str × Int)} {bs : List Int} (h : Line cn n L bs) {r : Bool} : ∀ x ∈ rowsT r n L, x.length ≤ 12 := fun x hx => by
  have n1 := h.n1
  have n2 := h.n2
  unfold rowsT at hx
  rcases List.mem_cons.mp hx with rfl | hx
  · have := headT_len (r := r) (n := n) (by omega) n2
    omega
  · obtain ⟨p, hp, rfl⟩ := List.mem_map.mp hx
    obtain ⟨o1, o2, o3⟩ := h.ok p hp
    exact rowT_len o1 (by omega) (by omega)
theorem kindS_of {K : PySem.W.Frag} {mg : Str → Option Value} {cn : Str} (h : IsQ cn) : ∃ sp, KindS K mg cn sp ∧ ∀ (q : Addr) (H : Hp) (Q : VK) (E : XK), Q (.str (if clsR cn then "round" else "quay")) H → sp [.ref q] H Q E := by
  rcases h with rfl | rfl
  · refine ⟨_, .inl ⟨rfl, rfl⟩, fun q H Q E h => ⟨_, rfl, rfl, ?_⟩⟩
    rw [show clsR "Quay" = false from by decide +kernel, if_neg Bool.false_ne_true] at h
    exact h
  · refine ⟨_, .inr ⟨rfl, rfl⟩, fun q H Q E h => ⟨_, rfl, rfl, ?_⟩⟩
    rw [show clsR "Round" = true from by decide +kernel, if_pos rfl] at h
    exact h
def sp_written (K : PySem.W.Frag) (mg : Str → Option Value) : Sp := fun vs H Q _ => ∃ (cn : Str) (q l d : Addr) (n : Int) (LL : List (Addr × Str × Int)) (bs : List Int), vs = [.ref q] ∧ IsQ cn ∧ Quay mg cn n H q l d LL bs ∧ Line cn n (LL.map (·.2)) bs ∧
  ∀ H', Ex H H' → Q (.str (textT (clsR cn) n (LL.map (·.2)))) H'
theorem has_written {P : Program} {w : World} {K : PySem.W.Frag} {mg : Str → Option Value} {base : Heap}  (S : B.Stands K mg "written" s_written) (N : Nms K mg) (hf_all_ships : B.FamM P w K mg base "all_ships" 1 ["self"] (fun c sp => IsQ c ∧ sp = sp_Quay_all_ships K mg c)) (hf_come : B.FamM P w K mg base "come" 3 ["self", "name", "wish"] (fun c sp => IsQ c ∧ sp = sp_Quay_come K mg c)) (hf_free_ones : B.FamM P w K mg base "free_ones" 1 ["self"] (fun c sp => IsQ c ∧ sp = sp_Quay_free_ones K mg c)) (hf_kind : B.FamM P w K mg base "kind" 1 ["self"] (KindS K mg)) (hf_leave : B.FamM P w K mg base "leave" 4 ["self", "name"] (fun c sp => IsQ c ∧ sp = sp_Quay_leave K mg c)) (hf_size : B.FamM P w K mg base "size" 1 ["self"] (fun c sp => IsQ c ∧ sp = sp_Quay_size K mg c)) (hf_where : B.FamM P w K mg base "where" 2 ["self", "name"] (fun c sp => IsQ c ∧ sp = sp_Quay_where K mg c)) : B.Has P w K mg base "written" 5 ["quay"] (sp_written K mg) := by
  refine B.has_ofN S sc_written (fun _ _ _ _ _ _ us hl => match us, hl with | [_], _ => rfl) (fun vs H Q E h => ?_)
    (fun f cdv A outer s H vs Q E hr h => ⟨_, (pss_cons (ps_set (i := 1) sc_written.nd rfl (by first | exact Or.inl rfl | exact Or.inr rfl) (pe_lst (pa_cons (pe_op B.op_addS (pe_op B.op_addS (B.pe_methF0 (mg0 := mg) (E := fun _ => E0) (pv 0) hf_kind hr B.pass0At) pe_str) (pe_callTy (r := B.rStrI) B.call_strI (by rfl) N.n_str B.boot_str (pa_cons (B.pe_methF0 (mg0 := mg) (E := fun _ => E0) (pv 0) hf_size hr B.pass0At) pa_nil))) pa_nil)))
    (pss_cons (ps_for PassesOwn.never rfl (pi_list (B.pe_methF0 (mg0 := mg) (E := fun _ => E0) (pv 0) hf_all_ships hr B.pass0At)) (pg_tup rfl (pgs_cons (pg_name (i := 2) sc_written.nd rfl (by first | exact Or.inl rfl | exact Or.inr rfl)) (pgs_cons (pg_name (i := 3) sc_written.nd rfl (by first | exact Or.inl rfl | exact Or.inr rfl)) (pgs_cons (pg_name (i := 4) sc_written.nd rfl (by first | exact Or.inl rfl | exact Or.inr rfl)) pgs_nil)))) (pss_one (ps_expr (pe_bm PySem.F.plainAttrs_list PySem.F.slot_list_append PySem.F.type_list_append mt_append (pv 1) (pa_cons (pe_op B.op_addS (pe_op B.op_addS (pv 2) pe_str) (pe_callTy (r := B.rStrI) B.call_strI (by rfl) N.n_str B.boot_str (pa_cons (pv 3) pa_nil))) pa_nil)))))
    (pss_one (ps_ret (B.pe_join pe_str (pe_lc (own := [("row", 5)]) (g := (gName 5)) rfl sc_written.nd (pi_list (pv 1)) (blkOk_by (own := [("row", 5)]) (N := n_written) (sc := defScope s_written) (by decide +kernel)) (fun _ _ _ _ _ => (pg_name (i := 5) sc_written.nd rfl (by first | exact Or.inl rfl | exact Or.inr rfl))) (fun _ _ _ _ _ => pts_nil) (fun _ _ _ _ _ => (pe_op B.op_addS (pv 5) pe_str)))))))), ?_⟩)
  · obtain ⟨cn, q, l, d, n, LL, bs, rfl, _⟩ := h
    rfl
  · obtain ⟨cn, q, l, d, n, LL, bs, rfl, iq, Qy, Ln, post⟩ := h
    obtain ⟨len1, len2⟩ := Ln.len
    have n1 := Ln.n1
    have n2 := Ln.n2
    have LLl : (LL.map (·.2)).length = LL.length := List.length_map _
    have RL := rowsT_len Ln (r := clsR cn)
    obtain ⟨dx, hq⟩ := Qy.ins
    obtain ⟨ksp, ks1, ks2⟩ := kindS_of (K := K) (mg := mg) iq
    walk_at "go"
    refine x_onM (c := cn) ks1 hq rfl ?_
    refine ks2 q H _ _ ?_
    walk_at "go"
    have kl := kindT_len (clsR cn)
    have h1 : (Str.ofString " ").length = 1 := by decide +kernel
    refine x_addS (a := kindT (clsR cn)) (by omega) ?_
    walk_at "go"
    refine x_onM (c := cn) ⟨iq, rfl⟩ hq rfl ?_
    refine ⟨q, l, d, dx, n, rfl, iq, hq, ?_⟩
    walk_at "go"
    refine x_strI (small_log (by omega) n2) ?_
    walk_at "go"
    have hl := numT_len (n := n) (by omega) n2
    refine x_addS (b := numT n) (by rw [app_len]; omega) ?_
    walk_at "go"
    refine x_mkL (by simp) fun rl H1 rl0 e1 hrl => ?_
    walk_at "go"
    refine x_onM (c := cn) ⟨iq, rfl⟩ (e1 _ _ hq) rfl ?_
    refine ⟨q, l, d, n, LL, bs, rfl, iq, Qy.ex e1, Ln, fun as H2 as0 e2 hM => ?_⟩
    obtain ⟨MM, hMM, hMp, eM⟩ := hM
    have mok : ∀ x ∈ MM, nameOk x.2.1 = true ∧ 1 ≤ x.2.2.1 ∧ x.2.2.1 ≤ n := fun x hx => by
      have h2 : x.2 ∈ MM.map (·.2) := List.mem_map.mpr ⟨x, hx, rfl⟩
      rw [eM] at h2
      obtain ⟨p, hp, e⟩ := List.mem_map.mp h2
      have := Ln.ok p hp
      rw [← e]
      exact this
    have mlen : MM.length = LL.length := by
      have := congrArg List.length eM
      rw [List.length_map, List.length_map, List.length_map] at this
      exact this
    have rows : MM.map (fun x => rowT (x.2.1, x.2.2.1)) = (LL.map (·.2)).map rowT := by
      have := congrArg (List.map fun (m : Str × Int × Int) => rowT (m.1, m.2.1)) eM
      rw [List.map_map, List.map_map] at this
      exact this
    have nas : as ≠ rl := fun z => by rw [z, hrl] at as0; cases as0
    have nx : ∀ x ∈ MM, x.1 ≠ rl := fun x hx z => by
      have h1 := hMp x hx
      rw [z, e2 _ _ hrl] at h1
      cases h1
    refine x_forL MM (fun x => V.ref x.1) (fun pre σ' H' => (∃ v2 v3 v4, σ' = [some (.ref q), some (.ref rl), v2, v3, v4, none]) ∧ Ex H H' ∧ H' as = some (.lst (MM.map fun x => V.ref x.1)) ∧ (∀ x ∈ MM, H' x.1 = some (.tup [.str x.2.1, .int x.2.2.1, .int x.2.2.2])) ∧
        H' rl = some (.lst ((headT (clsR cn) n :: pre.map (fun x => rowT (x.2.1, x.2.2.1))).map V.str))) ⟨⟨_, _, _, rfl⟩, e1.trans e2, hMM, hMp, e2 _ _ hrl⟩ (fun pre σ' H' _ p => Evl.sq_of p.2.2.1) (fun pre x post2 σ' H' ea pp => ?_) (fun σ' H' pp => ?_)
    · obtain ⟨⟨v2, v3, v4, rfl⟩, ex, has, hx, hrl'⟩ := pp
      have xm : x ∈ MM := by rw [ea]; simp
      obtain ⟨o1, o2, o3⟩ := mok x xm
      have pl : pre.length < MM.length := by rw [ea]; simp
      refine x_gT3 (Evl.st_of (hx x xm)) ?_
      walk_at "go"
      have w1 := nameOk_len o1
      refine x_addS (a := x.2.1) (by omega) ?_
      walk_at "go"
      refine x_strI (small_log (by omega) (by omega)) ?_
      have w2 := numT_len (n := x.2.2.1) (by omega) (by omega)
      refine x_addS (b := numT x.2.2.1) (by rw [app_len]; omega) ?_
      walk_at "go"
      refine x_append hrl' (by rw [List.length_map, List.length_cons, List.length_map]; omega) fun H3 u3 => ?_
      walk_at "go"
      refine ⟨⟨_, _, _, rfl⟩, u3.ex ex rl0, u3.get nas has, fun y hy => u3.get (nx y hy) (hx y hy), ?_⟩
      rw [u3.same, List.map_append, ← List.cons_append, List.map_append]
      rfl
    · obtain ⟨⟨v2, v3, v4, rfl⟩, ex, has, hx, hrl'⟩ := pp
      rw [rows] at hrl'
      walk_at "go"
      have hl2 : (rowsT (clsR cn) n (LL.map (·.2))).length = LL.length + 1 := by
        unfold rowsT
        rw [List.length_cons, List.length_map, LLl]
      refine x_lcL (K := K) (rowsT (clsR cn) n (LL.map (·.2))) V.str (fun _ => true) (fun x => .str (x ++ "\n")) (Evl.sq_of hrl') ⟨by omega, fun _ => rfl, fun x hx H' e' QT kk => ?_, fun x hx _ H' e' Q' kk => ?_, fun jl H3 _ e3 hjl => ?_⟩
      · exact kk H' (.refl _)
      · walk_at "go"
        have := RL x hx
        have h2 : (Str.ofString "\n").length = 1 := by decide +kernel
        refine x_addS (by omega) ?_
        exact kk H' (.refl _)
      have hjl : H3 jl = some (.lst (((rowsT (clsR cn) n (LL.map (·.2))).map fun x => x ++ Str.ofString "\n").map V.str)) := by
        rw [hjl, List.map_map, List.filter_eq_self.mpr fun _ _ => rfl]
        rfl
      walk_at "go"
      have hsum := sum_le (k := 13) (ys := (rowsT (clsR cn) n (LL.map (·.2))).map fun x => x ++ Str.ofString "\n") fun y hy => by
        obtain ⟨x, hx, rfl⟩ := List.mem_map.mp hy
        have := RL x hx
        have h2 : (Str.ofString "\n").length = 1 := by decide +kernel
        rw [app_len]
        omega
      rw [List.length_map, hl2] at hsum
      refine x_joinL (Evl.sq_of hjl) (by rw [List.length_map, hl2, show (Str.ofString "").length = 0 from by decide +kernel]; omega) ?_
      exact post H3 (ex.trans e3)
def sp_number_of (K : PySem.W.Frag) (mg : Str → Option Value) : Sp := fun vs H Q E => ∃ w : Str, vs = [.str w] ∧ w.length ≤ 100000 ∧ (numOf w = none → Bad mg "NoText" H E) ∧ ∀ n, numOf w = some n → ∀ H', Ex H H' → Q (.int n) H'
theorem has_number_of {P : Program} {w : World} {K : PySem.W.Frag} {mg : Str → Option Value} {base : Heap}  (S : B.Stands K mg "number_of" s_number_of) (N : Nms K mg) (h_is_number : B.Has P w K mg base "is_number" 1 ["thing", "least", "most"] (sp_is_number K)) : B.Has P w K mg base "number_of" 2 ["word"] (sp_number_of K mg) := by
  refine B.has_of S sc_number_of (fun _ _ _ _ _ _ us hl => match us, hl with | [_], _ => rfl) (fun vs H Q E h => ?_)
    (fun f cdv A outer s H vs Q E hr h => ⟨_, (pss_cons (ps_if (PW.pt (pw_or (pt_cmpR op_eq (pv 0) pe_str (nomark _)) (pw_or (pt_cmpR op_gt (pe_callB B.call_lenS (by rfl) N.n_len PySem.boot_len (pa_cons (pv 0) pa_nil)) pe_int (nomark _)) (pw_or (pt_not (pt_val (pe_callB (r := rAll K) (cr_all rfl) (by rfl) N.n_all B.boot_all (pa_cons (pe_lc (own := [("sign", 1)]) (g := (gName 1)) rfl sc_number_of.nd (pi_str (pv 0)) (blkOk_by (own := [("sign", 1)]) (N := n_number_of) (sc := defScope s_number_of) (by decide +kernel)) (fun _ _ _ _ _ => (pg_name (i := 1) sc_number_of.nd rfl (by first | exact Or.inl rfl | exact Or.inr rfl))) (fun _ _ _ _ _ => pts_nil) (fun _ _ _ _ _ => (pe_cmpR B.op_inSg (pv 1) (B.pe_const N.c_FIGURES) rfl))) pa_nil)))) (pw_or1 (pt_val (B.pe_starts (pv 0) pe_str))))))) (pss_one (ps_raise rfl (takes_of rfl rfl rfl rfl) (B.pmk N.x_NoText))) pss_nil)
    (pss_cons (ps_if (pt_not (pt_val (B.pe_has h_is_number hr B.passL (pa_cons (pe_callTy (r := B.rIntS) B.call_intS (by rfl) N.n_int B.boot_int (pa_cons (pv 0) pa_nil)) (pa_cons pe_int (pa_cons (B.pe_const N.c_MOST) pa_nil)))))) (pss_one (ps_raise rfl (takes_of rfl rfl rfl rfl) (B.pmk N.x_NoText))) pss_nil)
    (pss_one (ps_ret (pe_callTy (r := B.rIntS) B.call_intS (by rfl) N.n_int B.boot_int (pa_cons (pv 0) pa_nil)))))), ?_⟩)
  · obtain ⟨w, rfl, _⟩ := h
    rfl
  · obtain ⟨w, rfl, hl, bad, good⟩ := h
    have like : ∀ n, numOf w = some n → tl w ≠ [] ∧ w.length ≤ 3 ∧ (∀ c ∈ tl w, c ∈ figs) ∧ Txt.startswith w (Str.ofString "0") = false := fun n h => by
      obtain ⟨h1, h2, rfl⟩ := numOf_some h
      exact numT_like h1 h2
    have no : ¬ (tl w ≠ [] ∧ w.length ≤ 3 ∧ (∀ c ∈ tl w, c ∈ figs) ∧ Txt.startswith w (Str.ofString "0") = false) → Bad mg "NoText" H E := fun h => bad (by
      cases e : numOf w with
      | none => rfl
      | some n => exact absurd (like n e) h)
    walk_at "go"
    refine x_dec (fun c1 => ?_) (fun c1 => ?_)
    · walk_at "go"
      exact fun C m => no (fun z => z.1 (by rw [V.str.inj c1]; decide +kernel)) C H m (.refl _)
    have hne : tl w ≠ [] := fun z => c1 (by rw [show w = Str.ofString "" from ext_tl (by rw [z]; decide +kernel)])
    walk_at "go"
    refine x_lenS (by omega) ?_
    walk_at "go"
    refine x_dec (fun c2 => ?_) (fun c2 => ?_)
    · walk_at "go"
      exact fun C m => no (fun z => by have := z.2.1; omega) C H m (.refl _)
    have h3 : w.length ≤ 3 := by omega
    walk_at "go"
    refine ⟨w, rfl, ?_⟩
    refine x_lcS (fun c => .bl (decide (c ∈ figs))) (by have : w.cps.size = w.length := rfl; omega) (fun _ => rfl) (fun c _ H' e' Q' kk => ?_) (fun l H1 _ e1 h1 => ?_)
    · walk_at "go"
      exact kk H' (.refl _)
    walk_at "go"
    refine ⟨l, w.cps.toList.map fun c => decide (c ∈ figs), rfl, by rw [List.map_map]; exact Evl.sq_of h1, ?_⟩
    walk_at "go"
    refine x_bN (fun e => ?_) (fun e => ?_)
    · walk_at "go"
      refine fun C m => no (fun z => ?_) C H1 m e1
      rw [show (w.cps.toList.map fun c => decide (c ∈ figs)).all id = true from by
        rw [List.all_map, List.all_eq_true]
        exact fun c hc => decide_eq_true (z.2.2.1 c hc)] at e
      cases e
    have hf : ∀ c ∈ tl w, c ∈ figs := fun c hc => by
      rw [List.all_map, List.all_eq_true] at e
      exact of_decide_eq_true (e c hc)
    walk_at "go"
    refine x_b (fun e2 => ?_) (fun e2 => ?_)
    · walk_at "go"
      exact fun C m => no (fun z => by rw [z.2.2.2] at e2; cases e2) C H1 m e1
    obtain ⟨n, n1, n2, ew, ei⟩ := like_numT hne h3 hf e2
    walk_at "go"
    refine x_intS ei (by omega) ?_
    refine ⟨.int n, .int, 1, 400, rfl, .int n, ?_⟩
    walk_at "go"
    by_cases c4 : n ≤ 400
    · rw [show inB (.int n) 1 400 = true from by simp [inB, n1, c4]]
      walk_at "go"
      refine x_intS ei (by omega) ?_
      exact good n (by rw [ew]; exact numOf_of n1 c4) H1 e1
    · rw [show inB (.int n) 1 400 = false from by simp [inB, c4]]
      walk_at "go"
      refine fun C m => bad (numOf_none fun k k1 k2 z => ?_) C H1 m e1
      have := numT_inj (by omega) (by omega) (ew.symm.trans z)
      omega
theorem hasC_need_name {P : Program} {w : World} {K : PySem.W.Frag} {mg : Str → Option Value} {base : Heap} (S : B.Stands K mg "need_name" s_need_name) (N : Nms K mg)  : B.HasC P w K mg base "need_name" 1 ["name"] (sp_need_name K mg) := by
  refine B.hasC_of S sc_need_name (fun _ _ _ _ _ _ us hl => match us, hl with | [_], _ => rfl) (fun vs H Q E h => ?_)
    (fun f cdv A outer s H vs Q E hr h => ⟨_, (pss_one (ps_if (PW.pt (pw_or (pt_not (pt_val (pe_callB (r := rIsi K) call_isi (by rfl) N.n_isinstance B.boot_isinstance (pa_cons (pv 0) (pa_cons (pe_bltn (v := .ty "str") (by rfl) N.n_str B.boot_str rfl) pa_nil))))) (pw_or (pt_not (pt_chain op_le op_le pe_int (pe_callB B.call_lenS (by rfl) N.n_len PySem.boot_len (pa_cons (pv 0) pa_nil)) (B.pe_const N.c_LONGEST))) (pw_or1 (pt_not (pt_val (pe_callB (r := rAll K) (cr_all rfl) (by rfl) N.n_all B.boot_all (pa_cons (pe_lc (own := [("sign", 1)]) (g := (gName 1)) rfl sc_need_name.nd (pi_str (pv 0)) (blkOk_by (own := [("sign", 1)]) (N := n_need_name) (sc := defScope s_need_name) (by decide +kernel)) (fun _ _ _ _ _ => (pg_name (i := 1) sc_need_name.nd rfl (by first | exact Or.inl rfl | exact Or.inr rfl))) (fun _ _ _ _ _ => pts_nil) (fun _ _ _ _ _ => (pe_cmpR B.op_inSg (pv 1) (B.pe_const N.c_LETTERS) rfl))) pa_nil)))))))) (pss_one (L2N.ps_raise rfl (L2N.takes_of rfl rfl rfl rfl) (B.pmkC N.x_NoName))) pss_nil)), ?_⟩)
  · obtain ⟨x, rfl, _⟩ := h
    rfl
  · obtain ⟨x, rfl, h⟩ := h
    walk_at "go"
    have main : ∃ k, Kind K H x k ∧ ((k ≠ .str ∧ Bad mg "NoName" H E) ∨ (k = .str ∧ ∃ s, x = .str s ∧ s.length ≤ 1000 ∧ ((nameOk s = false ∧ Bad mg "NoName" H E) ∨ (nameOk s = true ∧ ∀ H', Ex H H' → Q .non H')))) := by
      rcases h with ⟨⟨k, h1, h2⟩ | ⟨s, rfl, h1, h2⟩, bad⟩ | ⟨s, rfl, h1, q⟩
      · exact ⟨k, h1, .inl ⟨h2, bad⟩⟩
      · exact ⟨_, .str s, .inr ⟨rfl, s, rfl, h2, .inl ⟨h1, bad⟩⟩⟩
      · exact ⟨_, .str s, .inr ⟨rfl, s, rfl, by have := nameOk_len h1; omega, .inr ⟨h1, q⟩⟩⟩
    obtain ⟨k, hk, h⟩ := main
    refine x_isi_str hk ?_
    walk_at "go"
    rcases h with ⟨h2, bad⟩ | ⟨rfl, s, rfl, hl, h⟩
    · rw [show k.isA "str" = false from by cases k <;> first | rfl | exact absurd rfl h2]
      walk_at "go"
      exact fun C m => bad C H m (.refl _)
    rw [show KS.isA KS.str "str" = true from rfl]
    have both : (nameOk s = false → ∀ C H', mg "NoName" = some (.ref C) → Ex H H' → E (.ref C) none H') ∧ (nameOk s = true → ∀ H', Ex H H' → Q .non H') := by
      rcases h with ⟨h1, bad⟩ | ⟨h1, q⟩
      · exact ⟨fun _ => bad, (fun z => by rw [h1] at z; cases z)⟩
      · exact ⟨(fun z => by rw [h1] at z; cases z), fun _ => q⟩
    clear h
    walk_at "go"
    refine x_lenS (by omega) ?_
    walk_at "go"
    refine x_dec (fun c1 => ?_) (fun c1 => ?_)
    · walk_at "go"
      refine x_decN (fun c2 => ?_) (fun c2 => ?_)
      · walk_at "go"
        exact fun C m => both.1 (by unfold nameOk; rw [decide_eq_false c2]; simp) C H m (.refl _)
      walk_at "go"
      refine ⟨s, rfl, ?_⟩
      refine x_lcS (fun c => .bl (decide (c ∈ okSigns))) (by have : s.cps.size = s.length := rfl; omega) (fun _ => rfl) (fun c _ H' e' Q' kk => ?_) (fun l H1 _ e1 h1 => ?_)
      · walk_at "go"
        exact kk H' (.refl _)
      walk_at "go"
      refine ⟨l, s.cps.toList.map fun c => decide (c ∈ okSigns), rfl, by rw [List.map_map]; exact Evl.sq_of h1, ?_⟩
      walk_at "go"
      refine x_bN (fun e => ?_) (fun e => ?_)
      · walk_at "go"
        exact fun C m => both.1 (by unfold nameOk; rw [e]; simp) C H1 m e1
      · walk_at "go"
        exact both.2 (by unfold nameOk; rw [e, decide_eq_true c1, decide_eq_true c2]; rfl) H1 e1
    · walk_at "go"
      exact fun C m => both.1 (by unfold nameOk; rw [decide_eq_false c1]; simp) C H m (.refl _)
def sp_name_of (K : PySem.W.Frag) (mg : Str → Option Value) : Sp := fun vs H Q E => ∃ w : Str, vs = [.str w] ∧ w.length ≤ 1000 ∧ (nameOk w = false → Bad mg "NoText" H E) ∧ (nameOk w = true → ∀ H', Ex H H' → Q (.str w) H')
theorem has_name_of {P : Program} {w : World} {K : PySem.W.Frag} {mg : Str → Option Value} {base : Heap}  (S : B.Stands K mg "name_of" s_name_of) (N : Nms K mg) (h_need_name : B.HasC P w K mg base "need_name" 1 ["name"] (sp_need_name K mg)) : B.Has P w K mg base "name_of" 2 ["word"] (sp_name_of K mg) := by
  refine B.has_of S sc_name_of (fun _ _ _ _ _ _ us hl => match us, hl with | [_], _ => rfl) (fun vs H Q E h => ?_)
    (fun f cdv A outer s H vs Q E hr h => ⟨_, (pss_cons (L2H.ps_try_onlyX rfl rfl ⟨rfl, by decide, .inl N.m_NoName⟩ (L2H.passesAt_of rfl) (takes_of rfl rfl rfl rfl) (fun W pn xe tkN tk _ => (pss_one (ps_expr (B.pe_hasCS (E := WE W) h_need_name hr (fun σ => L2N.passAt tkN σ) (pa_cons (pv 0) pa_nil))))) (fun a oe cls d pn _ _ tk hot => pss_one (L2H.ps_raiseH hot tk (B.pmkC N.x_NoText))))
    (pss_one (ps_ret (pv 0)))), ?_⟩)
  · obtain ⟨w, rfl, _⟩ := h
    rfl
  · obtain ⟨w, rfl, hl, bad, good⟩ := h
    walk_at "go"
    cases ok : nameOk w with
    | false =>
      refine ⟨_, rfl, .inl ⟨.inr ⟨w, rfl, ok, hl⟩, fun C H1 hC e1 => ?_⟩⟩
      obtain rfl : B.at_ mg "NoName" = C := at_of hC
      refine x_only N.es_NoName fun a a0 => ?_
      exact fun C m => bad ok C H1 m e1
    | true =>
      refine ⟨_, rfl, .inr ⟨w, rfl, ok, fun H1 e1 => ?_⟩⟩
      walk_at "go"
      exact good ok H1 e1
def sp_pair_of (K : PySem.W.Frag) (mg : Str → Option Value) : Sp := fun vs H Q E => ∃ w : Str, vs = [.str w] ∧ w.length ≤ 100000 ∧ (wordsOf w = none → Bad mg "NoText" H E) ∧ ∀ a b, wordsOf w = some (a, b) → ∀ p H', H p = none → Ex H H' → H' p = some (.lst [.str a, .str b]) → Q (.ref p) H'
theorem wordsOf_two {w a b : Str} (h : Txt.split w " " = [a, b]) : wordsOf w = some (a, b) := by
  unfold wordsOf
  rw [h]
theorem wordsOf_not {w : Str} (h : (Txt.split w " ").length ≠ 2) : wordsOf w = none := by
  unfold wordsOf
  match e : Txt.split w " " with
  | [] => rfl
  | [_] => rfl
  | [_, _] => rw [e] at h; exact absurd rfl h
  | _ :: _ :: _ :: _ => rfl
theorem split_len {w s : Str} : (Txt.split w s).length ≤ w.length + 2 := PyProof.Rows.split_le w s |> fun h => by omega
theorem has_pair_of {P : Program} {w : World} {K : PySem.W.Frag} {mg : Str → Option Value} {base : Heap}  (S : B.Stands K mg "pair_of" s_pair_of) (N : Nms K mg)  : B.Has P w K mg base "pair_of" 1 ["row"] (sp_pair_of K mg) := by
  refine B.has_of S sc_pair_of (fun _ _ _ _ _ _ us hl => match us, hl with | [_], _ => rfl) (fun vs H Q E h => ?_)
    (fun f cdv A outer s H vs Q E hr h => ⟨_, (pss_cons (ps_set (i := 1) sc_pair_of.nd rfl (by first | exact Or.inl rfl | exact Or.inr rfl) (B.pe_splitT (pv 0) pe_str))
    (pss_cons (ps_if (pt_cmpR op_ne (pe_callB (r := B.rLen K) B.call_len (by rfl) N.n_len PySem.boot_len (pa_cons (pv 1) pa_nil)) pe_int (nomark _)) (pss_one (ps_raise rfl (takes_of rfl rfl rfl rfl) (B.pmk N.x_NoText))) pss_nil)
    (pss_one (ps_ret (pv 1))))), ?_⟩)
  · obtain ⟨w, rfl, _⟩ := h
    rfl
  · obtain ⟨w, rfl, hl, bad, good⟩ := h
    walk_at "go"
    refine x_split (by decide +kernel) hl fun p H1 p0 e1 hp => ?_
    walk_at "go"
    have sl := split_len (w := w) (s := Str.ofString " ")
    rw [List.length_map]
    refine x_decN (fun c => ?_) (fun c => ?_)
    · walk_at "go"
      exact fun C m => bad (wordsOf_not fun z => c (by rw [show (Txt.split w (Str.ofString " ")).length = 2 from z]; rfl)) C H1 m e1
    · walk_at "go"
      have c : (Txt.split w (Str.ofString " ")).length = 2 := by
        have := V.int.inj c
        omega
      match e : Txt.split w (Str.ofString " "), c with
      | [a, b], _ =>
        rw [e] at hp
        exact good a b (wordsOf_two e) p H1 p0 e1 hp
/-- a list of ships with their wishes, as it stands -/
structure LineAt (H : Hp) (ln : Addr) (LW : List (Addr × Str × Int)) : Prop where
  line : H ln = some (.lst (LW.map fun x => V.ref x.1))
  pairs : ∀ x ∈ LW, H x.1 = some (.tup [.str x.2.1, .int x.2.2])
theorem LineAt.ex {H H' : Hp} {ln : Addr} {LW : List (Addr × Str × Int)} (h : LineAt H ln LW) (e : Ex H H') : LineAt H' ln LW := ⟨e _ _ h.line, fun x hx => e _ _ (h.pairs x hx)⟩
theorem LineAt.kept {mg : Str → Option Value} {cn : Str} {n : Int} {H H' : Hp} {q l d ln : Addr} {LL LW : List (Addr × Str × Int)} {bs : List Int} (h : LineAt H ln LW) (k : KeptL [q, l, d] H H') (Qy : Quay mg cn n H q l d LL bs) (ne : ln ≠ l) : LineAt H' ln LW := by
  obtain ⟨dx, hq⟩ := Qy.ins
  refine ⟨k _ _ h.line fun z => ?_, fun x hx => k _ _ (h.pairs x hx) fun z => ?_⟩
  · have h1 := h.line
    simp only [List.mem_cons, List.not_mem_nil, or_false] at z
    rcases z with z | z | z
    · rw [z, hq] at h1; cases h1
    · exact ne z
    · rw [z, Qy.lying] at h1; cases h1
  · have h1 := h.pairs x hx
    simp only [List.mem_cons, List.not_mem_nil, or_false] at z
    rcases z with z | z | z
    · rw [z, hq] at h1; cases h1
    · rw [z, Qy.line] at h1; cases h1
    · rw [z, Qy.lying] at h1; cases h1
def clsN (r : Bool) : Str := if r then "Round" else "Quay"
theorem clsN_ok (r : Bool) : IsQ (clsN r) ∧ clsR (clsN r) = r := by
  cases r
  · exact ⟨.inl rfl, by decide +kernel⟩
  · exact ⟨.inr rfl, by decide +kernel⟩
theorem ex_kept {as : List Addr} {H H1 H2 : Hp} (e : Ex H H1) (k : KeptL as H1 H2) (h : ∀ a ∈ as, H a = none) : Ex H H2 := fun z o hz => k z o (e z o hz) fun m => by rw [h z m] at hz; cases hz
theorem x_ninT {K : PySem.W.Frag} {H : Hp} {Q : VK} {x : V} {l : Addr} {xs : List V} (h : SqT K H l xs) (hx : flatV x = true) {b : Bool} (hs : xs.all flatV = true) (e : inV x xs = b) (q : Q (.bl (!b)) H) : rIn K true x (.ref l) H Q := ⟨l, xs, rfl, .inr h, hx, hs, by rw [← e] at q; exact q⟩
theorem split_short {x y z : Str} (hy : 1 ≤ y.length) (h : z ∈ Txt.split x y) : z.length ≤ x.length := by
  have h1 := PyProof.Rows.split_weight x y hy
  have h2 : ∀ (l : List Str), z ∈ l → z.length + 1 ≤ (l.map (·.length)).sum + l.length := by
    intro l
    induction l with
    | nil => intro h; cases h
    | cons a l ih =>
      intro h
      rw [List.map_cons, List.sum_cons, List.length_cons]
      rcases List.mem_cons.mp h with rfl | h
      · omega
      · have := ih h
        omega
  have := h2 _ h
  omega
theorem wordsOf_split {w a b : Str} (h : wordsOf w = some (a, b)) : Txt.split w " " = [a, b] := by
  unfold wordsOf at h
  match e : Txt.split w " " with
  | [] => rw [e] at h; cases h
  | [_] => rw [e] at h; cases h
  | [_, _] => rw [e] at h; cases h; rfl
  | _ :: _ :: _ :: _ => rw [e] at h; cases h
theorem words_short {w a b : Str} (h : wordsOf w = some (a, b)) : a.length ≤ w.length ∧ b.length ≤ w.length := by
  have := wordsOf_split h
  exact ⟨split_short (y := Str.ofString " ") (by decide +kernel) (by rw [this]; simp), split_short (y := Str.ofString " ") (by decide +kernel) (by rw [this]; simp)⟩
theorem cutS_len (z : Str) (lo hi : Option Int) : (cutS z lo hi).length ≤ z.length := cutS_length z lo hi
def sp_read (K : PySem.W.Frag) (mg : Str → Option Value) : Sp := fun vs H Q E => ∃ x, vs = [x] ∧ ((∃ k, Kind K H x k ∧ k ≠ .str ∧ Bad mg "NoText" H E) ∨ ∃ t : Str, x = .str t ∧ t.length ≤ 900 ∧ (parseT t = none → Bad mg "NoText" H E) ∧
  ∀ r n L, parseT t = some (r, n, L) → (∀ c, comeAll n r [] [] L = .inl c → Bad mg c H E) ∧ ∀ bs, comeAll n r [] [] L = .inr bs → ∀ (q l d : Addr) (LL : List (Addr × Str × Int)) (H' : Hp), LL.map (·.2) = L → Quay mg (clsN r) n H' q l d LL bs → Line (clsN r) n L bs → Ex H H' → H q = none → H l = none → H d = none → Q (.ref q) H')
theorem has_read {P : Program} {w : World} {K : PySem.W.Frag} {mg : Str → Option Value} {base : Heap}  (S : B.Stands K mg "read" s_read) (N : Nms K mg) (h_number_of : B.Has P w K mg base "number_of" 2 ["word"] (sp_number_of K mg)) (h_pair_of : B.Has P w K mg base "pair_of" 1 ["row"] (sp_pair_of K mg)) (h_name_of : B.Has P w K mg base "name_of" 2 ["word"] (sp_name_of K mg)) (hm_Quay : B.HasM P w K mg base "Quay" "__init__" 3 ["self", "berths"] (sp_Quay___init__ K mg "Quay")) (hm_Round : B.HasM P w K mg base "Round" "__init__" 3 ["self", "berths"] (sp_Quay___init__ K mg "Round")) (hf_come : B.FamM P w K mg base "come" 3 ["self", "name", "wish"] (fun c sp => IsQ c ∧ sp = sp_Quay_come K mg c)) : B.Has P w K mg base "read" 5 ["text"] (sp_read K mg) := by
  refine B.has_of S sc_read (fun _ _ _ _ _ _ us hl => match us, hl with | [_], _ => rfl) (fun vs H Q E h => ?_)
    (fun f cdv A outer s H vs Q E hr h => ⟨_, (pss_cons (ps_if (PW.pt (pw_or (pt_not (pt_val (pe_callB (r := rIsi K) call_isi (by rfl) N.n_isinstance B.boot_isinstance (pa_cons (pv 0) (pa_cons (pe_bltn (v := .ty "str") (by rfl) N.n_str B.boot_str rfl) pa_nil))))) (pw_or1 (pt_not (pt_val (B.pe_ends (pv 0) pe_str)))))) (pss_one (ps_raise rfl (takes_of rfl rfl rfl rfl) (B.pmk N.x_NoText))) pss_nil)
    (pss_cons (B.ps_setLcX (E := E) (i := 1) (own := [("row", 2)]) (g := (gName 2)) rfl rfl (takes_of rfl rfl rfl rfl) rfl sc_read.nd rfl rfl (sw_true rfl rfl rfl (by decide +kernel)) (pi_list (B.pe_splitT (pe_slice sl_str (pv 0) po_none (po_some (pe_un un_neg pe_int))) pe_str)) (blkOk_by (own := [("row", 2)]) (N := n_read) (sc := defScope s_read) (by decide +kernel)) (fun _ _ _ _ _ => (pg_name (i := 2) sc_read.nd rfl (by first | exact Or.inl rfl | exact Or.inr rfl))) (fun _ _ _ _ _ => pts_nil) (fun _ _ _ _ _ _ ps => (B.pe_has h_pair_of hr ps (pa_cons (pv 2) pa_nil))))
    (pss_cons (ps_asg (pe_ix (r := rIxL K) ix_list (pv 1) pe_int (fun _ _ => rfl)) (pg_lst rfl (pgs_cons (pg_name (i := 3) sc_read.nd rfl (by first | exact Or.inl rfl | exact Or.inr rfl)) (pgs_cons (pg_name (i := 4) sc_read.nd rfl (by first | exact Or.inl rfl | exact Or.inr rfl)) pgs_nil))))
    (pss_cons (ps_if (pt_cmpR (r := rIn K true) op_notIn_seq (pv 3) (pe_tup (pa_cons pe_str (pa_cons pe_str pa_nil))) (by rfl)) (pss_one (ps_raise rfl (takes_of rfl rfl rfl rfl) (B.pmk N.x_NoText))) pss_nil)
    (pss_cons (ps_set (i := 5) sc_read.nd rfl (by first | exact Or.inl rfl | exact Or.inr rfl) (B.pe_has h_number_of hr (B.passU (takes_of rfl rfl rfl rfl)) (pa_cons (pv 4) pa_nil)))
    (pss_cons (B.ps_setLcX (E := E) (i := 6) (own := [("name", 7), ("wish", 8)]) (g := (gLst K 2 (gCons (gName 7) (gCons (gName 8) gNil)))) rfl rfl (takes_of rfl rfl rfl rfl) rfl sc_read.nd rfl rfl (sw_true rfl rfl rfl (by decide +kernel)) (pi_list (pe_slice (r := rSlL K) sl_list (pv 1) (po_some pe_int) po_none)) (blkOk_by (own := [("name", 7), ("wish", 8)]) (N := n_read) (sc := defScope s_read) (by decide +kernel)) (fun _ _ _ _ _ => (pg_lst rfl (pgs_cons (pg_name (i := 7) sc_read.nd rfl (by first | exact Or.inl rfl | exact Or.inr rfl)) (pgs_cons (pg_name (i := 8) sc_read.nd rfl (by first | exact Or.inl rfl | exact Or.inr rfl)) pgs_nil)))) (fun _ _ _ _ _ => pts_nil) (fun _ _ _ _ _ _ ps => (pe_tup (pa_cons (B.pe_has h_name_of hr ps (pa_cons (pv 7) pa_nil)) (pa_cons (B.pe_has h_number_of hr ps (pa_cons (pv 8) pa_nil)) pa_nil)))))
    (pss_cons (ps_set (i := 9) sc_read.nd rfl (by first | exact Or.inl rfl | exact Or.inr rfl) (B.pe_makeS (mg0 := mg) (E := fun _ => E) N.cl_Quay hm_Quay hr (B.passUAt (takes_of rfl rfl rfl rfl)) (pa_cons (pv 5) pa_nil)))
    (pss_cons (B.ps_stop (ps_if (pt_cmpR op_eq (pv 3) pe_str (nomark _)) (pss_one (ps_set (i := 9) sc_read.nd rfl (by first | exact Or.inl rfl | exact Or.inr rfl) (B.pe_makeS (mg0 := mg) (E := fun _ => E) N.cl_Round hm_Round hr (B.passUAt (takes_of rfl rfl rfl rfl)) (pa_cons (pv 5) pa_nil)))) pss_nil))
    (pss_cons (ps_for (passes_of rfl) rfl (pi_list (pv 6)) (pg_tup rfl (pgs_cons (pg_name (i := 7) sc_read.nd rfl (by first | exact Or.inl rfl | exact Or.inr rfl)) (pgs_cons (pg_name (i := 8) sc_read.nd rfl (by first | exact Or.inl rfl | exact Or.inr rfl)) pgs_nil))) (pss_one (ps_expr (B.pe_methF (mg0 := mg) (E := fun _ => E) (pv 9) hf_come hr (B.passUAt (takes_of rfl rfl rfl rfl)) (pa_cons (pv 7) (pa_cons (pv 8) pa_nil))))))
    (pss_one (ps_ret (pv 9)))))))))))), ?_⟩)
  · obtain ⟨x, rfl, _⟩ := h
    rfl
  · obtain ⟨x, rfl, h⟩ := h
    walk_at "go"
    rcases h with ⟨k, hk, k1, bad⟩ | ⟨t, rfl, tl0, bad, good⟩
    · refine x_isi_str hk ?_
      rw [show k.isA "str" = false from by cases k <;> first | rfl | exact absurd rfl k1]
      walk_at "go"
      exact fun C m => bad C H m (.refl _)
    refine x_isi_str (.str t) ?_
    rw [show KS.isA KS.str "str" = true from rfl]
    walk_at "go"
    refine x_bN (fun e => ?_) (fun e => ?_)
    · walk_at "go"
      exact fun C m => bad (by unfold parseT; rw [if_neg (by rw [e]; exact Bool.false_ne_true)]) C H m (.refl _)
    have p0 : parseT t = match allOf wordsOf (rowsOf t) with
      | some ((w, m) :: rest) => if w = "quay" ∨ w = "round" then (match numOf m, allOf toldOf rest with
        | some n, some L => some (decide (w = "round"), n, L)
        | _, _ => none) else none
      | _ => none := by
      unfold parseT
      rw [if_pos e]
    have bad1 : (∃ x ∈ rowsOf t, wordsOf x = none) → Bad mg "NoText" H E := fun h => bad (by rw [p0, allOf_none h])
    walk_at "go"
    refine x_slS (by omega) ?_
    walk_at "go"
    have cl := cutS_len t none (some (-1))
    refine x_split (by decide +kernel) (by omega) fun rp H1 rp0 e1 hrp => ?_
    have hrp : H1 rp = some (.lst ((rowsOf t).map V.str)) := hrp
    have rl : (rowsOf t).length ≤ 1000 := by
      have := split_len (w := cutS t none (some (-1))) (s := Str.ofString "\n")
      unfold rowsOf
      omega
    have rs : ∀ x ∈ rowsOf t, x.length ≤ 900 := fun x hx => by
      have := split_short (by decide +kernel) hx
      omega
    have rpos : 1 ≤ (rowsOf t).length := PyProof.Rows.split_pos _ _
    walk_at "go"
    refine x_lcGX (K := K) (rowsOf t) V.str (fun x => HO.lst [.str ((wordsOf x).getD ("", "")).1, .str ((wordsOf x).getD ("", "")).2]) (fun x => [some (.str t), none, some (.str x), none, none, none, none, none, none, none]) (fun x => wordsOf x ≠ none) (Evl.sq_of hrp) (by omega) (fun _ => rfl) (fun x hx H' e' R r => r) (fun x hx H' e' Q' k => ?_) (fun rows H2 ps gd rows0 e2 hrows pl hps => ?_)
    · walk_at "go"
      refine ⟨x, rfl, by have := rs x hx; omega, fun hw C H3 hC e3 => ?_, fun a b hab p H3 p0 e3 hp => ?_⟩
      · exact bad1 ⟨x, hx, hw⟩ C H3 hC (e1.trans (e'.trans e3))
      · exact k p H3 (by rw [hab]; exact nofun) p0 e3 (by rw [hab]; exact hp)
    -- the words of all rows
    obtain ⟨W, hW⟩ : ∃ W, W = (rowsOf t).map fun x => (wordsOf x).getD ("", "") := ⟨_, rfl⟩
    have all1 : allOf wordsOf (rowsOf t) = some W := by
      rw [hW]
      refine allOf_some fun x hx => ?_
      cases e3 : wordsOf x with
      | none => exact absurd e3 (gd x hx)
      | some z => rfl
    have Wps : ∀ (i : Nat) z p, W[i]? = some z → ps[i]? = some p → H2 p = some (.lst [.str z.1, .str z.2]) := fun i z p h1 h2 => by
      rw [hW, List.getElem?_map] at h1
      cases e3 : (rowsOf t)[i]? with
      | none => rw [e3] at h1; cases h1
      | some x =>
        rw [e3] at h1
        obtain rfl := Option.some.inj h1
        exact hps i x p e3 h2
    have Wsh : ∀ z ∈ W, z.1.length ≤ 900 ∧ z.2.length ≤ 900 := fun z hz => by
      rw [hW] at hz
      obtain ⟨x, hx, rfl⟩ := List.mem_map.mp hz
      cases e3 : wordsOf x with
      | none => exact absurd e3 (gd x hx)
      | some z =>
        have := words_short (a := z.1) (b := z.2) e3
        have := rs x hx
        exact ⟨by show z.1.length ≤ 900; omega, by show z.2.length ≤ 900; omega⟩
    have Wl : W.length = ps.length := by rw [hW, List.length_map, pl]
    rw [all1] at p0
    clear hW gd hps rs bad1 all1
    have Wlen : W.length ≤ 1000 := by omega
    match W, ps, (show 1 ≤ W.length by omega), Wl, Wps, Wsh, hrows, p0, Wlen with
    | (w0, m0) :: rest, pp0 :: pps, _, Wl, Wps, Wsh, hrows, p0, Wlen =>
    have p0 : parseT t = if w0 = "quay" ∨ w0 = "round" then (match numOf m0, allOf toldOf rest with
      | some n, some L => some (decide (w0 = "round"), n, L)
      | _, _ => none) else none := p0
    have ex2 := e1.trans e2
    walk_at "go"
    refine x_ixL (v := .ref pp0) (Evl.sq_of hrows) at_head ?_
    refine x_gL2 (Evl.sq_of (Wps 0 (w0, m0) pp0 rfl rfl)) ?_
    walk_at "go"
    refine x_mkT (by simp) fun kp H3 _ e3 hkp => ?_
    have ex3 := ex2.trans e3
    by_cases c : w0 = "quay" ∨ w0 = "round"
    · refine x_ninT (b := true) (Evl.st_of hkp) rfl rfl (by show inV (V.str w0) _ = true; rcases c with h | h <;> (rw [h]; decide +kernel)) ?_
      walk_at "go"
      rw [if_pos c] at p0
      have m0l : m0.length ≤ 900 := (Wsh _ List.mem_cons_self).2
      refine ⟨m0, rfl, by omega, fun hno C H4 hC e4 => bad (by rw [p0, hno]) C H4 hC (ex3.trans e4), fun n hn H4 e4 => ?_⟩
      rw [hn] at p0
      obtain ⟨n1, n2, _⟩ := numOf_some hn
      have ex4 := ex3.trans e4
      walk_at "go"
      refine x_slL (lo := some ((1 : Nat) : Int)) (Evl.sq_of (e4 _ _ (e3 _ _ hrows))) fun tp H5 _ e5 htp => ?_
      rw [cut_from] at htp
      have htp : H5 tp = some (.lst (pps.map V.ref)) := htp
      have ex5 := ex4.trans e5
      have W5 : ∀ (i : Nat) z p, rest[i]? = some z → pps[i]? = some p → H5 p = some (.lst [.str z.1, .str z.2]) := fun i z p h1 h2 => e5 _ _ (e4 _ _ (e3 _ _ (Wps (i + 1) z p (by simpa using h1) (by simpa using h2))))
      have rl2 : rest.length = pps.length := by simpa using Wl
      have rsh : ∀ z ∈ rest, z.1.length ≤ 900 ∧ z.2.length ≤ 900 := fun z hz => Wsh z (List.mem_cons_of_mem _ hz)
      have zf : (pps.zip rest).map (fun x => V.ref x.1) = pps.map V.ref := by
        have := List.map_fst_zip (l₁ := pps) (l₂ := rest) (by omega)
        conv => rhs; rw [← this, List.map_map]
        rfl
      have zs : (pps.zip rest).map (·.2) = rest := List.map_snd_zip (l₁ := pps) (l₂ := rest) (by omega)
      have zl : (pps.zip rest).length ≤ 1000 := by
        rw [List.length_zip]
        have : rest.length + 1 ≤ 1000 := by simpa using Wlen
        omega
      have zat : ∀ x ∈ pps.zip rest, H5 x.1 = some (.lst [.str x.2.1, .str x.2.2]) := fun x hx => by
        obtain ⟨i, hi⟩ := List.getElem?_of_mem hx
        rw [List.getElem?_zip_eq_some] at hi
        exact W5 i x.2 x.1 hi.2 hi.1
      have zrest : ∀ x ∈ pps.zip rest, x.2 ∈ rest := fun x hx => (List.of_mem_zip hx).2
      clear W5 Wps Wsh hrows Wlen Wl
      have badz : (∃ z ∈ rest, toldOf z = none) → Bad mg "NoText" H E := fun h => bad (by rw [p0, allOf_none h])
      rw [← zf] at htp
      generalize pps.zip rest = Z at htp zs zl zat zrest
      walk_at "go"
      refine x_lcGX (K := K) Z (fun x => V.ref x.1) (fun x => HO.tup [.str x.2.1, .int ((numOf x.2.2).getD 0)]) (fun x => [some (.str t), some (.ref rows), none, some (.str w0), some (.str m0), some (.int n), none, some (.str x.2.1), some (.str x.2.2), none])
        (fun x => nameOk x.2.1 = true ∧ numOf x.2.2 ≠ none) (Evl.sq_of htp) (by omega) (fun _ => rfl) (fun x hx H' e' R r => x_gL2 (Evl.sq_of (e' _ _ (zat x hx))) r) (fun x hx H' e' Q' k => ?_) (fun told H6 ps2 gd told0 e6 htold pl2 hps2 => ?_)
      · have xr := zrest x hx
        have xs := rsh _ xr
        walk_at "go"
        refine ⟨x.2.1, rfl, by omega, fun hno C H7 hC e7 => badz ⟨_, xr, by unfold toldOf; rw [hno]; rfl⟩ C H7 hC (ex5.trans (e'.trans e7)), fun ok H7 e7 => ?_⟩
        walk_at "go"
        refine ⟨x.2.2, rfl, by omega, fun hno C H8 hC e8 => badz ⟨_, xr, by unfold toldOf; rw [if_pos ok, hno]; rfl⟩ C H8 hC (ex5.trans (e'.trans (e7.trans e8))), fun m hm H8 e8 => ?_⟩
        walk_at "go"
        refine x_mkT (by simp) fun p H9 p0' e9 hp => ?_
        exact k p H9 ⟨ok, by rw [hm]; exact nofun⟩ (exn (e7.trans e8) p0') (e7.trans (e8.trans e9)) (by rw [hm]; exact hp)
      obtain ⟨Ls, hLs⟩ : ∃ Ls, Ls = Z.map fun x => (x.2.1, (numOf x.2.2).getD 0) := ⟨_, rfl⟩
      have all2 : allOf toldOf rest = some Ls := by
        have e7 : rest.map (fun z => (z.1, (numOf z.2).getD 0)) = Ls := by
          rw [hLs, ← zs, List.map_map]
          rfl
        rw [← e7]
        refine allOf_some fun z hz => ?_
        rw [← zs] at hz
        obtain ⟨x, hx, rfl⟩ := List.mem_map.mp hz
        obtain ⟨g1, g2⟩ := gd x hx
        unfold toldOf
        rw [if_pos g1]
        cases e8 : numOf x.2.2 with
        | none => exact absurd e8 g2
        | some m => rfl
      have Lok : ∀ p ∈ Ls, nameOk p.1 = true := fun p hp => by
        rw [hLs] at hp
        obtain ⟨x, hx, rfl⟩ := List.mem_map.mp hp
        exact (gd x hx).1
      have Ll : Ls.length = ps2.length := by rw [hLs, List.length_map, pl2]
      have LA : LineAt H6 told (ps2.zip Ls) := by
        refine ⟨?_, fun x hx => ?_⟩
        · have := List.map_fst_zip (l₁ := ps2) (l₂ := Ls) (by omega)
          rw [htold]
          conv => lhs; rw [← this, List.map_map]
          rfl
        · obtain ⟨i, hi⟩ := List.getElem?_of_mem hx
          rw [List.getElem?_zip_eq_some, hLs, List.getElem?_map] at hi
          cases e8 : Z[i]? with
          | none => rw [e8] at hi; cases hi.2
          | some z =>
            rw [e8] at hi
            rw [hps2 i z x.1 e8 hi.1, ← Option.some.inj hi.2]
      have tsnd : (ps2.zip Ls).map (·.2) = Ls := List.map_snd_zip (l₁ := ps2) (l₂ := Ls) (by omega)
      rw [all2] at p0
      obtain ⟨bad', good'⟩ := good _ _ _ p0
      have ex6 := ex5.trans e6
      generalize ps2.zip Ls = TT at LA tsnd
      clear all2 hLs gd Ll hps2 htold pl2 badz zrest zat zs zl rsh htp p0 bad good zf
      obtain ⟨r, hr⟩ : ∃ r, r = decide (w0 = (Str.ofString "round")) := ⟨_, rfl⟩
      rw [show decide (w0 = ("round" : Str)) = r from hr.symm] at bad' good'
      obtain ⟨iq, er⟩ := clsN_ok r
      walk_at "go"
      refine x_make fun x dx H7 bo => ⟨x, n, dx, rfl, .inl rfl, n1, n2, bo.ins, fun l d H8 Qy l0 d0 ld kp => ⟨rfl, ?_⟩⟩
      have ex8 : Ex H6 H8 := ex_kept bo.ex kp fun z hz => by rw [List.mem_singleton.mp hz]; exact bo.x0
      walk_at "go"
      refine x_join (fun σ' H9 => ∃ q l d, σ' = [some (.str t), some (.ref rows), none, some (.str w0), some (.str m0), some (.int n), some (.ref told), none, none, some (.ref q)] ∧ Ex H6 H9 ∧ H6 q = none ∧ H6 l = none ∧ H6 d = none ∧ Quay mg (clsN r) n H9 q l d [] []) (fun σ' H9 p => ?_) (fun next => ?_)
      rotate_left
      · walk_at "go"
        refine x_dec (fun c2 => ?_) (fun c2 => ?_)
        · have c2 : w0 = Str.ofString "round" := V.str.inj c2
          rw [decide_eq_true c2] at hr
          subst hr
          walk_at "go"
          refine x_make fun x2 dx2 H9 bo2 => ⟨x2, n, dx2, rfl, .inr rfl, n1, n2, bo2.ins, fun l2 d2 H10 Qy2 l20 d20 ld2 kp2 => ⟨rfl, ?_⟩⟩
          have ex10 : Ex H8 H10 := ex_kept bo2.ex kp2 fun z hz => by rw [List.mem_singleton.mp hz]; exact bo2.x0
          exact next _ _ ⟨x2, l2, d2, rfl, ex8.trans ex10, exn ex8 bo2.x0, exn ex8 (exn bo2.ex l20), exn ex8 (exn bo2.ex d20), Qy2⟩
        · rw [decide_eq_false fun z => c2 (by rw [z])] at hr
          subst hr
          exact next _ _ ⟨x, l, d, rfl, ex8, bo.x0, exn bo.ex l0, exn bo.ex d0, Qy⟩
      clear Qy kp ld l0 d0 ex8
      obtain ⟨q, l, d, rfl, ex9, q0, l0, d0, Qy⟩ := p
      have tdl : told ≠ l := fun z => by rw [← z, LA.line] at l0; cases l0
      walk_at "go"
      refine x_forL TT (fun x => V.ref x.1) (fun pre σ' H' => (∃ v7 v8, σ' = [some (.str t), some (.ref rows), none, some (.str w0), some (.str m0), some (.int n), some (.ref told), v7, v8, some (.ref q)]) ∧ Ex H6 H' ∧ LineAt H' told TT ∧
        ∃ LL bs post, LL.map (·.2) = pre.map (·.2) ∧ Quay mg (clsN r) n H' q l d LL bs ∧ Line (clsN r) n (LL.map (·.2)) bs ∧ Ls = pre.map (·.2) ++ post ∧ comeAll n r (pre.map (·.2)) bs post = comeAll n r [] [] Ls)
        ⟨⟨_, _, rfl⟩, ex9, LA.ex ex9, [], [], Ls, rfl, Qy, { n1 := n1, n2 := n2, nd := by simp, ok := fun p hp => by simp at hp, lays := rfl }, rfl, rfl⟩ (fun pre σ' H' _ p => Evl.sq_of p.2.2.1.line) (fun pre x post2 σ' H' ea pp => ?_) (fun σ' H' pp => ?_)
      · obtain ⟨⟨v7, v8, rfl⟩, ex, LA', LL, bs, post, eL, Q', Ln, ePost, eC⟩ := pp
        have xm : x ∈ TT := by rw [ea]; simp
        have ep : post = x.2 :: post2.map (·.2) := by
          have := tsnd
          rw [ea, List.map_append, ePost, List.map_cons] at this
          exact (List.append_cancel_left this).symm
        subst ep
        have xok : nameOk x.2.1 = true := Lok x.2 (by rw [ePost]; simp)
        obtain ⟨dx1, hq⟩ := Q'.ins
        refine x_gT2 (Evl.st_of (LA'.pairs x xm)) ?_
        walk_at "go"
        refine x_onM (c := clsN r) ⟨iq, rfl⟩ hq rfl ?_
        walk_at "go"
        refine ⟨q, l, d, n, LL, bs, .str x.2.1, .int x.2.2, rfl, iq, Q', Ln, .inr ⟨x.2.1, rfl, xok, ?_⟩⟩
        have eC2 : comeAll n r [] [] Ls = if x.2.1 ∈ (pre.map (·.2)).map (·.1) then .inl "Taken" else if 1 ≤ x.2.2 ∧ x.2.2 ≤ n then (match freeOf n r bs x.2.2 with
          | none => .inl "NoRoom"
          | some b => comeAll n r (pre.map (·.2) ++ [x.2]) (bs ++ [b]) (post2.map (·.2))) else .inl "NoWish" := eC.symm
        by_cases hm : x.2.1 ∈ (pre.map (·.2)).map (·.1)
        · rw [if_pos hm] at eC2
          exact .inl ⟨by rw [eL]; exact hm, fun C H10 hC e10 => bad' _ eC2 C H10 hC (ex6.trans (ex.trans e10))⟩
        rw [if_neg hm] at eC2
        refine .inr ⟨by rw [eL]; exact hm, .int, .int _, ?_⟩
        by_cases hw : 1 ≤ x.2.2 ∧ x.2.2 ≤ n
        · rw [if_pos hw] at eC2
          refine .inr ⟨x.2.2, rfl, hw.1, hw.2, ?_⟩
          rw [er]
          cases hf : freeOf n r bs x.2.2 with
          | none =>
            rw [hf] at eC2
            exact .inl ⟨rfl, fun C H10 hC e10 => bad' _ eC2 C H10 hC (ex6.trans (ex.trans e10))⟩
          | some b =>
            rw [hf] at eC2
            refine .inr ⟨b, rfl, fun p H10 Q10 k10 => ?_⟩
            have k10' : KeptL [q, l, d] H' H10 := fun z o hz nz => k10 z o hz fun m => nz (List.mem_cons_of_mem _ m)
            walk_at "go"
            refine ⟨⟨_, _, rfl⟩, ex_kept ex k10 (fun z hz => ?_), LA'.kept k10' Q' tdl, LL ++ [(p, x.2.1, x.2.2)], bs ++ [b], post2.map (·.2), ?_, Q10, ?_, ?_, ?_⟩
            · simp only [List.mem_cons, List.not_mem_nil, or_false] at hz
              rcases hz with rfl | rfl
              · exact l0
              · exact d0
            · rw [List.map_append, List.map_append, eL]
              rfl
            · rw [List.map_append]
              exact Ln.snoc xok (by rw [eL]; exact hm) hw.1 hw.2 (by rw [er]; exact hf)
            · rw [ePost, List.map_append, List.append_assoc]
              rfl
            · rw [List.map_append]
              exact eC2.symm
        · rw [if_neg hw] at eC2
          exact .inl ⟨by simp only [inB, Bool.and_eq_false_iff, decide_eq_false_iff_not]; omega, fun C H10 hC e10 => bad' _ eC2 C H10 hC (ex6.trans (ex.trans e10))⟩
      · obtain ⟨⟨v7, v8, rfl⟩, ex, LA', LL, bs, post, eL, Q', Ln, ePost, eC⟩ := pp
        rw [tsnd] at eL ePost eC
        have ep : post = [] := by
          have := congrArg List.length ePost
          rw [List.length_append] at this
          exact List.eq_nil_of_length_eq_zero (by omega)
        subst ep
        walk_at "go"
        exact good' bs eC.symm q l d LL H' eL Q' (by rw [← eL]; exact Ln) (ex6.trans ex) (exn ex6 q0) (exn ex6 l0) (exn ex6 d0)
    · refine x_ninT (b := false) (Evl.st_of hkp) rfl rfl (by
        show inV (V.str w0) [V.str (Str.ofString "quay"), V.str (Str.ofString "round")] = false
        have h1 : ¬ (Str.ofString "quay") = w0 := fun z => c (.inl z.symm)
        have h2 : ¬ (Str.ofString "round") = w0 := fun z => c (.inr z.symm)
        simp [inV, eqV, h1, h2]) ?_
      walk_at "go"
      exact fun C m => bad (by rw [p0, if_neg c]) C H3 m ex3

/-! ### the law's readers -/
def sp__law_cell_at (K : PySem.W.Frag) : Sp := fun vs H Q _ => ∃ (a : Addr) (ns : List Int) (k : Nat), vs = [.ref a, .int (k : Nat)] ∧ SqL K H a (ns.map V.int) ∧ ns.length ≤ 63 ∧ Q (.int (ns.getD k 0)) H
theorem has__law_cell_at {P : Program} {w : World} {K : PySem.W.Frag} {mg : Str → Option Value} {base : Heap}  (S : B.Stands K mg "_law_cell_at" s__law_cell_at) (N : Nms K mg)  : B.Has P w K mg base "_law_cell_at" 1 ["_law_script", "_law_k"] (sp__law_cell_at K) := by
  refine B.has_ofN S sc__law_cell_at (fun _ _ _ _ _ _ us hl => match us, hl with | [_, _], _ => rfl) (fun vs H Q E h => ?_)
    (fun f cdv A outer s H vs Q E hr h => ⟨_, (pss_cons (ps_if (pt_cmpR op_lt (pv 1) (pe_callB (r := B.rLen K) B.call_len (by rfl) N.n_len PySem.boot_len (pa_cons (pv 0) pa_nil)) (nomark _)) (pss_one (ps_ret (pe_ix (r := rIxL K) ix_list (pv 0) (pv 1) (fun _ _ => rfl)))) pss_nil)
    (pss_one (ps_ret pe_int))), ?_⟩)
  · obtain ⟨a, ns, k, rfl, _⟩ := h
    rfl
  · obtain ⟨a, ns, k, rfl, hs, hl, q⟩ := h
    have hq : Sq K H a (ns.map V.int) := .inl hs
    walk_at "go"
    refine x_dec (fun c => ?_) (fun c => ?_)
    · rw [List.length_map] at c
      have hk : k < ns.length := by omega
      walk_at "go"
      refine x_ixL hs (v := .int (ns.getD k 0)) (atI_nat ?_) ?_
      · rw [List.getElem?_map, List.getElem?_eq_getElem hk, List.getD_eq_getElem?_getD, List.getElem?_eq_getElem hk]
        rfl
      · walk_at "go"
        exact q
    · rw [List.length_map] at c
      walk_at "go"
      rw [show ns.getD k 0 = 0 from by rw [List.getD_eq_getElem?_getD, List.getElem?_eq_none (by omega)]; rfl] at q
      exact q
/-- an item of a short written list, by an index in its bounds -/
theorem at3 {x y z : V} {k : Int} (h0 : 0 ≤ k) (h : k < 3) : ∃ v, atI [x, y, z] k = some v ∧ (v = x ∨ v = y ∨ v = z) := by
  rcases (by omega : k = 0 ∨ k = 1 ∨ k = 2) with rfl | rfl | rfl
  · exact ⟨x, rfl, .inl rfl⟩
  · exact ⟨y, rfl, .inr (.inl rfl)⟩
  · exact ⟨z, rfl, .inr (.inr rfl)⟩
theorem at4 {x y z u : V} {k : Int} (h0 : 0 ≤ k) (h : k < 4) : ∃ v, atI [x, y, z, u] k = some v ∧ (v = x ∨ v = y ∨ v = z ∨ v = u) := by
  rcases (by omega : k = 0 ∨ k = 1 ∨ k = 2 ∨ k = 3) with rfl | rfl | rfl | rfl
  · exact ⟨x, rfl, .inl rfl⟩
  · exact ⟨y, rfl, .inr (.inl rfl)⟩
  · exact ⟨z, rfl, .inr (.inr (.inl rfl))⟩
  · exact ⟨u, rfl, .inr (.inr (.inr rfl))⟩
theorem x_mod {i j : Int} {H : Hp} {Q : VK} (h : 0 < j) (q : ∀ r, 0 ≤ r → r < j → r = i % j → Q (.int r) H) : rI (fun _ j => 0 < j) (fun i j => .int (i % j)) (.int i) (.int j) H Q :=
  x_rI h (q _ (Int.emod_nonneg _ (by omega)) (Int.emod_lt_of_pos _ h) rfl)
theorem x_fdiv {i j : Int} {H : Hp} {Q : VK} (h : 0 < j ∧ j < 1073741824) (q : Q (.int (i / j)) H) : rI CDiv (fun i j => .int (i / j)) (.int i) (.int j) H Q := x_rI h q

def sp__law_mix (K : PySem.W.Frag) : Sp := fun vs H Q _ => ∃ (a : Addr) (s c : Int), vs = [.ref a, .int c] ∧ H a = some (.lst [.int s]) ∧ 0 ≤ s ∧ s < 2147483648 ∧
  ∀ (r s' : Int) (H' : Hp), 0 ≤ r → r < 2147483647 → 0 ≤ s' → s' < 2147483648 → Upd H a (.lst [.int s']) H' → Q (.int r) H'
theorem has__law_mix {P : Program} {w : World} {K : PySem.W.Frag} {mg : Str → Option Value} {base : Heap}  (S : B.Stands K mg "_law_mix" s__law_mix) (N : Nms K mg)  : B.Has P w K mg base "_law_mix" 1 ["_law_state", "_law_cell"] (sp__law_mix K) := by
  refine B.has_ofN S sc__law_mix (fun _ _ _ _ _ _ us hl => match us, hl with | [_, _], _ => rfl) (fun vs H Q E h => ?_)
    (fun f cdv A outer s H vs Q E hr h => ⟨_, (pss_cons (ps_asg (pe_op op_mod (pe_op op_add (pe_op op_add (pe_op op_mul (pe_ix (r := rIxL K) ix_list (pv 0) pe_int (fun _ _ => rfl)) pe_int) (pe_op op_mul (pv 1) pe_int)) pe_int) pe_int) (pg_sub (pv 0) pe_int set_list))
    (pss_one (ps_ret (pe_op op_fdiv (pe_op op_mod (pe_op op_mul (pe_ix (r := rIxL K) ix_list (pv 0) pe_int (fun _ _ => rfl)) (pe_ix (r := rIxL K) ix_list (pv 0) pe_int (fun _ _ => rfl))) pe_int) pe_int)))), ?_⟩)
  · obtain ⟨a, s, c, rfl, _⟩ := h
    rfl
  · obtain ⟨a, s, c, rfl, ha, s0, s1, q⟩ := h
    walk_at "go"
    refine x_ixL (v := .int s) (by walk_at "hx") at_head ?_
    walk_at "go"
    refine x_rI (.inr (by decide)) ?_
    walk_at "go"
    refine x_rI (.inr (by decide)) ?_
    walk_at "go"
    refine x_mod (by decide) fun r r0 r1 _ => ?_
    walk_at "go"
    refine x_setL (n := 0) ha (by simp) fun H1 u1 => ?_
    have h1 : H1 a = some (.lst [.int r]) := u1.same
    walk_at "go"
    refine x_ixL (v := .int r) (by walk_at "hx") at_head ?_
    walk_at "go"
    refine x_ixL (v := .int r) (by walk_at "hx") at_head ?_
    refine x_rI (.inl (by omega)) ?_
    walk_at "go"
    refine x_mod (by decide) fun t t0 t1 _ => ?_
    walk_at "go"
    refine x_fdiv (by decide) ?_
    exact q _ r H1 (by omega) (by omega) r0 (by omega) u1

/-- the words for what is caught -/
def WordOf (mg : Str → Option Value) (C : Addr) (w : Str) : Prop := (C = B.at_ mg "NoText" ∧ w = "text") ∨ (C = B.at_ mg "Taken" ∧ w = "taken") ∨ (C = B.at_ mg "NoWish" ∧ w = "wish") ∨ (C = B.at_ mg "NoRoom" ∧ w = "room")
def sp__law_words (K : PySem.W.Frag) (mg : Str → Option Value) : Sp := fun vs H Q _ => ∃ (x : V) (C : Addr) (w : Str), vs = [x] ∧ Caught K H x (some C) ∧ WordOf mg C w ∧ ∀ H', Ex H H' → Q (.str w) H'
theorem has__law_words {P : Program} {w : World} {K : PySem.W.Frag} {mg : Str → Option Value} {base : Heap}  (S : B.Stands K mg "_law_words" s__law_words) (N : Nms K mg)  : B.Has P w K mg base "_law_words" 1 ["_law_e"] (sp__law_words K mg) := by
  refine B.has_ofN S sc__law_words (fun _ _ _ _ _ _ us hl => match us, hl with | [_], _ => rfl) (fun vs H Q E h => ?_)
    (fun f cdv A outer s H vs Q E hr h => ⟨_, (pss_cons (ps_if (PW.pt (pw_or (pt_val (pe_callB (r := B.rIsiCT K) B.call_isiCT (by rfl) N.n_isinstance B.boot_isinstance (pa_cons (pv 0) (pa_cons (pe_tup (pa_cons (B.pe_cls N.m_NoCount) (pa_cons (B.pe_cls N.m_NoOrder) (pa_cons (B.pe_cls N.m_NoQuay) pa_nil)))) pa_nil)))) (pw_or1 (pt_val (pe_callB (r := B.rIsiCT K) B.call_isiCT (by rfl) N.n_isinstance B.boot_isinstance (pa_cons (pv 0) (pa_cons (pe_tup (pa_cons (B.pe_cls N.m_NoName) (pa_cons (B.pe_cls N.m_NoTree) pa_nil))) pa_nil))))))) (pss_one (ps_ret pe_str)) pss_nil)
    (pss_cons (ps_if (pt_val (pe_callB (r := B.rIsiCT K) B.call_isiCT (by rfl) N.n_isinstance B.boot_isinstance (pa_cons (pv 0) (pa_cons (pe_tup (pa_cons (B.pe_cls N.m_NoWishes) (pa_cons (B.pe_cls N.m_TooMany) (pa_cons (B.pe_cls N.m_NoShip) pa_nil)))) pa_nil)))) (pss_one (ps_ret pe_str)) pss_nil)
    (pss_cons (ps_set (i := 1) sc__law_words.nd rfl (by first | exact Or.inl rfl | exact Or.inr rfl) (pe_lst pa_nil))
    (pss_cons (ps_if (pt_val (pe_callB (r := B.rIsiC K) B.call_isiC (by rfl) N.n_isinstance B.boot_isinstance (pa_cons (pv 0) (pa_cons (B.pe_cls N.m_NoText) pa_nil)))) (pss_one (ps_expr (pe_bm PySem.F.plainAttrs_list PySem.F.slot_list_append PySem.F.type_list_append mt_append (pv 1) (pa_cons pe_str pa_nil)))) pss_nil)
    (pss_cons (ps_if (pt_val (pe_callB (r := B.rIsiC K) B.call_isiC (by rfl) N.n_isinstance B.boot_isinstance (pa_cons (pv 0) (pa_cons (B.pe_cls N.m_Taken) pa_nil)))) (pss_one (ps_expr (pe_bm PySem.F.plainAttrs_list PySem.F.slot_list_append PySem.F.type_list_append mt_append (pv 1) (pa_cons pe_str pa_nil)))) pss_nil)
    (pss_cons (ps_if (pt_val (pe_callB (r := B.rIsiC K) B.call_isiC (by rfl) N.n_isinstance B.boot_isinstance (pa_cons (pv 0) (pa_cons (B.pe_cls N.m_NoWish) pa_nil)))) (pss_one (ps_expr (pe_bm PySem.F.plainAttrs_list PySem.F.slot_list_append PySem.F.type_list_append mt_append (pv 1) (pa_cons pe_str pa_nil)))) pss_nil)
    (pss_cons (ps_if (pt_val (pe_callB (r := B.rIsiC K) B.call_isiC (by rfl) N.n_isinstance B.boot_isinstance (pa_cons (pv 0) (pa_cons (B.pe_cls N.m_NoRoom) pa_nil)))) (pss_one (ps_expr (pe_bm PySem.F.plainAttrs_list PySem.F.slot_list_append PySem.F.type_list_append mt_append (pv 1) (pa_cons pe_str pa_nil)))) pss_nil)
    (pss_one (ps_ret (B.pe_join pe_str (pv 1))))))))))), ?_⟩)
  · obtain ⟨x, C, w, rfl, _⟩ := h
    rfl
  · obtain ⟨x, C, w, rfl, cau, hw, q⟩ := h
    have cx : ∀ H', Ex H H' → Caught K H' x (some C) := fun H' e => cau.ex e
    rcases hw with ⟨rfl, rfl⟩ | ⟨rfl, rfl⟩ | ⟨rfl, rfl⟩ | ⟨rfl, rfl⟩
    · have hF : ∀ D0, some (B.at_ mg "NoText") = some D0 → ExcC K D0 := fun D0 z => by cases z; exact N.k_NoText
      walk_at "go"
      refine x_mkT (by simp) fun t1 H1 _ e1 h1 => ?_
      have ex1 : Ex H H1 := e1
      walk_at "go"
      refine x_isiCT h1 (.cons (.own _) (.cons (.own _) (.cons (.own _) .nil))) (cx _ ex1) hF (b := false) (kitAny_cons N.i_NoText_NoCount (fun _ => kitAny_cons N.i_NoText_NoOrder (fun _ => kitAny_cons N.i_NoText_NoQuay (fun _ => rfl) nofun) nofun) nofun) ?_
      walk_at "go"
      refine x_mkT (by simp) fun t2 H2 _ e2 h2 => ?_
      have ex2 : Ex H H2 := ex1.trans e2
      walk_at "go"
      refine x_isiCT h2 (.cons (.own _) (.cons (.own _) .nil)) (cx _ ex2) hF (b := false) (kitAny_cons N.i_NoText_NoName (fun _ => kitAny_cons N.i_NoText_NoTree (fun _ => rfl) nofun) nofun) ?_
      walk_at "go"
      refine x_mkT (by simp) fun t3 H3 _ e3 h3 => ?_
      have ex3 : Ex H H3 := ex2.trans e3
      walk_at "go"
      refine x_isiCT h3 (.cons (.own _) (.cons (.own _) (.cons (.own _) .nil))) (cx _ ex3) hF (b := false) (kitAny_cons N.i_NoText_NoWishes (fun _ => kitAny_cons N.i_NoText_TooMany (fun _ => kitAny_cons N.i_NoText_NoShip (fun _ => rfl) nofun) nofun) nofun) ?_
      walk_at "go"
      refine x_mkL (by simp) fun l H4 l0 e4 h4 => ?_
      have ex4 : Ex H H4 := ex3.trans e4
      have lH : H l = none := exn ex3 l0
      walk_at "go"
      refine x_isiC (.own _) (cx _ ex4) hF N.i_NoText_NoText ?_
      walk_at "go"
      refine x_append h4 (by simp) fun H5 u5 => ?_
      have ex5 : Ex H H5 := u5.ex ex4 lH
      have h5 : H5 l = some (.lst ([Str.ofString "text"].map V.str)) := u5.same
      walk_at "go"
      refine x_isiC (.own _) (cx _ ex5) hF N.i_NoText_Taken ?_
      walk_at "go"
      refine x_isiC (.own _) (cx _ ex5) hF N.i_NoText_NoWish ?_
      walk_at "go"
      refine x_isiC (.own _) (cx _ ex5) hF N.i_NoText_NoRoom ?_
      walk_at "go"
      refine x_joinL (Evl.sq_of h5) (by decide +kernel) ?_
      rw [show Txt.join (Str.ofString " ") [Str.ofString "text"] = Str.ofString "text" from by decide +kernel]
      exact q H5 ex5
    · have hF : ∀ D0, some (B.at_ mg "Taken") = some D0 → ExcC K D0 := fun D0 z => by cases z; exact N.k_Taken
      walk_at "go"
      refine x_mkT (by simp) fun t1 H1 _ e1 h1 => ?_
      have ex1 : Ex H H1 := e1
      walk_at "go"
      refine x_isiCT h1 (.cons (.own _) (.cons (.own _) (.cons (.own _) .nil))) (cx _ ex1) hF (b := false) (kitAny_cons N.i_Taken_NoCount (fun _ => kitAny_cons N.i_Taken_NoOrder (fun _ => kitAny_cons N.i_Taken_NoQuay (fun _ => rfl) nofun) nofun) nofun) ?_
      walk_at "go"
      refine x_mkT (by simp) fun t2 H2 _ e2 h2 => ?_
      have ex2 : Ex H H2 := ex1.trans e2
      walk_at "go"
      refine x_isiCT h2 (.cons (.own _) (.cons (.own _) .nil)) (cx _ ex2) hF (b := false) (kitAny_cons N.i_Taken_NoName (fun _ => kitAny_cons N.i_Taken_NoTree (fun _ => rfl) nofun) nofun) ?_
      walk_at "go"
      refine x_mkT (by simp) fun t3 H3 _ e3 h3 => ?_
      have ex3 : Ex H H3 := ex2.trans e3
      walk_at "go"
      refine x_isiCT h3 (.cons (.own _) (.cons (.own _) (.cons (.own _) .nil))) (cx _ ex3) hF (b := false) (kitAny_cons N.i_Taken_NoWishes (fun _ => kitAny_cons N.i_Taken_TooMany (fun _ => kitAny_cons N.i_Taken_NoShip (fun _ => rfl) nofun) nofun) nofun) ?_
      walk_at "go"
      refine x_mkL (by simp) fun l H4 l0 e4 h4 => ?_
      have ex4 : Ex H H4 := ex3.trans e4
      have lH : H l = none := exn ex3 l0
      walk_at "go"
      refine x_isiC (.own _) (cx _ ex4) hF N.i_Taken_NoText ?_
      walk_at "go"
      refine x_isiC (.own _) (cx _ ex4) hF N.i_Taken_Taken ?_
      walk_at "go"
      refine x_append h4 (by simp) fun H5 u5 => ?_
      have ex5 : Ex H H5 := u5.ex ex4 lH
      have h5 : H5 l = some (.lst ([Str.ofString "taken"].map V.str)) := u5.same
      walk_at "go"
      refine x_isiC (.own _) (cx _ ex5) hF N.i_Taken_NoWish ?_
      walk_at "go"
      refine x_isiC (.own _) (cx _ ex5) hF N.i_Taken_NoRoom ?_
      walk_at "go"
      refine x_joinL (Evl.sq_of h5) (by decide +kernel) ?_
      rw [show Txt.join (Str.ofString " ") [Str.ofString "taken"] = Str.ofString "taken" from by decide +kernel]
      exact q H5 ex5
    · have hF : ∀ D0, some (B.at_ mg "NoWish") = some D0 → ExcC K D0 := fun D0 z => by cases z; exact N.k_NoWish
      walk_at "go"
      refine x_mkT (by simp) fun t1 H1 _ e1 h1 => ?_
      have ex1 : Ex H H1 := e1
      walk_at "go"
      refine x_isiCT h1 (.cons (.own _) (.cons (.own _) (.cons (.own _) .nil))) (cx _ ex1) hF (b := false) (kitAny_cons N.i_NoWish_NoCount (fun _ => kitAny_cons N.i_NoWish_NoOrder (fun _ => kitAny_cons N.i_NoWish_NoQuay (fun _ => rfl) nofun) nofun) nofun) ?_
      walk_at "go"
      refine x_mkT (by simp) fun t2 H2 _ e2 h2 => ?_
      have ex2 : Ex H H2 := ex1.trans e2
      walk_at "go"
      refine x_isiCT h2 (.cons (.own _) (.cons (.own _) .nil)) (cx _ ex2) hF (b := false) (kitAny_cons N.i_NoWish_NoName (fun _ => kitAny_cons N.i_NoWish_NoTree (fun _ => rfl) nofun) nofun) ?_
      walk_at "go"
      refine x_mkT (by simp) fun t3 H3 _ e3 h3 => ?_
      have ex3 : Ex H H3 := ex2.trans e3
      walk_at "go"
      refine x_isiCT h3 (.cons (.own _) (.cons (.own _) (.cons (.own _) .nil))) (cx _ ex3) hF (b := false) (kitAny_cons N.i_NoWish_NoWishes (fun _ => kitAny_cons N.i_NoWish_TooMany (fun _ => kitAny_cons N.i_NoWish_NoShip (fun _ => rfl) nofun) nofun) nofun) ?_
      walk_at "go"
      refine x_mkL (by simp) fun l H4 l0 e4 h4 => ?_
      have ex4 : Ex H H4 := ex3.trans e4
      have lH : H l = none := exn ex3 l0
      walk_at "go"
      refine x_isiC (.own _) (cx _ ex4) hF N.i_NoWish_NoText ?_
      walk_at "go"
      refine x_isiC (.own _) (cx _ ex4) hF N.i_NoWish_Taken ?_
      walk_at "go"
      refine x_isiC (.own _) (cx _ ex4) hF N.i_NoWish_NoWish ?_
      walk_at "go"
      refine x_append h4 (by simp) fun H5 u5 => ?_
      have ex5 : Ex H H5 := u5.ex ex4 lH
      have h5 : H5 l = some (.lst ([Str.ofString "wish"].map V.str)) := u5.same
      walk_at "go"
      refine x_isiC (.own _) (cx _ ex5) hF N.i_NoWish_NoRoom ?_
      walk_at "go"
      refine x_joinL (Evl.sq_of h5) (by decide +kernel) ?_
      rw [show Txt.join (Str.ofString " ") [Str.ofString "wish"] = Str.ofString "wish" from by decide +kernel]
      exact q H5 ex5
    · have hF : ∀ D0, some (B.at_ mg "NoRoom") = some D0 → ExcC K D0 := fun D0 z => by cases z; exact N.k_NoRoom
      walk_at "go"
      refine x_mkT (by simp) fun t1 H1 _ e1 h1 => ?_
      have ex1 : Ex H H1 := e1
      walk_at "go"
      refine x_isiCT h1 (.cons (.own _) (.cons (.own _) (.cons (.own _) .nil))) (cx _ ex1) hF (b := false) (kitAny_cons N.i_NoRoom_NoCount (fun _ => kitAny_cons N.i_NoRoom_NoOrder (fun _ => kitAny_cons N.i_NoRoom_NoQuay (fun _ => rfl) nofun) nofun) nofun) ?_
      walk_at "go"
      refine x_mkT (by simp) fun t2 H2 _ e2 h2 => ?_
      have ex2 : Ex H H2 := ex1.trans e2
      walk_at "go"
      refine x_isiCT h2 (.cons (.own _) (.cons (.own _) .nil)) (cx _ ex2) hF (b := false) (kitAny_cons N.i_NoRoom_NoName (fun _ => kitAny_cons N.i_NoRoom_NoTree (fun _ => rfl) nofun) nofun) ?_
      walk_at "go"
      refine x_mkT (by simp) fun t3 H3 _ e3 h3 => ?_
      have ex3 : Ex H H3 := ex2.trans e3
      walk_at "go"
      refine x_isiCT h3 (.cons (.own _) (.cons (.own _) (.cons (.own _) .nil))) (cx _ ex3) hF (b := false) (kitAny_cons N.i_NoRoom_NoWishes (fun _ => kitAny_cons N.i_NoRoom_TooMany (fun _ => kitAny_cons N.i_NoRoom_NoShip (fun _ => rfl) nofun) nofun) nofun) ?_
      walk_at "go"
      refine x_mkL (by simp) fun l H4 l0 e4 h4 => ?_
      have ex4 : Ex H H4 := ex3.trans e4
      have lH : H l = none := exn ex3 l0
      walk_at "go"
      refine x_isiC (.own _) (cx _ ex4) hF N.i_NoRoom_NoText ?_
      walk_at "go"
      refine x_isiC (.own _) (cx _ ex4) hF N.i_NoRoom_Taken ?_
      walk_at "go"
      refine x_isiC (.own _) (cx _ ex4) hF N.i_NoRoom_NoWish ?_
      walk_at "go"
      refine x_isiC (.own _) (cx _ ex4) hF N.i_NoRoom_NoRoom ?_
      walk_at "go"
      refine x_append h4 (by simp) fun H5 u5 => ?_
      have ex5 : Ex H H5 := u5.ex ex4 lH
      have h5 : H5 l = some (.lst ([Str.ofString "room"].map V.str)) := u5.same
      walk_at "go"
      refine x_joinL (Evl.sq_of h5) (by decide +kernel) ?_
      rw [show Txt.join (Str.ofString " ") [Str.ofString "room"] = Str.ofString "room" from by decide +kernel]
      exact q H5 ex5

/-! ### the law's own -/
theorem has__law_text {P : Program} {w : World} {K : PySem.W.Frag} {mg : Str → Option Value} {base : Heap}  (S : B.Stands K mg "_law_text" s__law_text) (N : Nms K mg) (hf_all_ships : B.FamM P w K mg base "all_ships" 1 ["self"] (fun c sp => IsQ c ∧ sp = sp_Quay_all_ships K mg c)) (hf_come : B.FamM P w K mg base "come" 3 ["self", "name", "wish"] (fun c sp => IsQ c ∧ sp = sp_Quay_come K mg c)) (hf_free_ones : B.FamM P w K mg base "free_ones" 1 ["self"] (fun c sp => IsQ c ∧ sp = sp_Quay_free_ones K mg c)) (hf_kind : B.FamM P w K mg base "kind" 1 ["self"] (KindS K mg)) (hf_leave : B.FamM P w K mg base "leave" 4 ["self", "name"] (fun c sp => IsQ c ∧ sp = sp_Quay_leave K mg c)) (hf_size : B.FamM P w K mg base "size" 1 ["self"] (fun c sp => IsQ c ∧ sp = sp_Quay_size K mg c)) (hf_where : B.FamM P w K mg base "where" 2 ["self", "name"] (fun c sp => IsQ c ∧ sp = sp_Quay_where K mg c)) : B.Has P w K mg base "_law_text" 5 ["_law_quay"] (sp_written K mg) := by
  refine B.has_ofN S sc__law_text (fun _ _ _ _ _ _ us hl => match us, hl with | [_], _ => rfl) (fun vs H Q E h => ?_)
    (fun f cdv A outer s H vs Q E hr h => ⟨_, (pss_cons (ps_set (i := 1) sc__law_text.nd rfl (by first | exact Or.inl rfl | exact Or.inr rfl) (pe_lst (pa_cons (pe_op B.op_addS (pe_op B.op_addS (B.pe_methF0 (mg0 := mg) (E := fun _ => E0) (pv 0) hf_kind hr B.pass0At) pe_str) (pe_callTy (r := B.rStrI) B.call_strI (by rfl) N.n_str B.boot_str (pa_cons (B.pe_methF0 (mg0 := mg) (E := fun _ => E0) (pv 0) hf_size hr B.pass0At) pa_nil))) pa_nil)))
    (pss_cons (ps_for PassesOwn.never rfl (pi_list (B.pe_methF0 (mg0 := mg) (E := fun _ => E0) (pv 0) hf_all_ships hr B.pass0At)) (pg_tup rfl (pgs_cons (pg_name (i := 2) sc__law_text.nd rfl (by first | exact Or.inl rfl | exact Or.inr rfl)) (pgs_cons (pg_name (i := 3) sc__law_text.nd rfl (by first | exact Or.inl rfl | exact Or.inr rfl)) (pgs_cons (pg_name (i := 4) sc__law_text.nd rfl (by first | exact Or.inl rfl | exact Or.inr rfl)) pgs_nil)))) (pss_one (ps_expr (pe_bm PySem.F.plainAttrs_list PySem.F.slot_list_append PySem.F.type_list_append mt_append (pv 1) (pa_cons (pe_op B.op_addS (pe_op B.op_addS (pv 2) pe_str) (pe_callTy (r := B.rStrI) B.call_strI (by rfl) N.n_str B.boot_str (pa_cons (pv 3) pa_nil))) pa_nil)))))
    (pss_one (ps_ret (B.pe_join pe_str (pe_lc (own := [("_law_row", 5)]) (g := (gName 5)) rfl sc__law_text.nd (pi_list (pv 1)) (blkOk_by (own := [("_law_row", 5)]) (N := n__law_text) (sc := defScope s__law_text) (by decide +kernel)) (fun _ _ _ _ _ => (pg_name (i := 5) sc__law_text.nd rfl (by first | exact Or.inl rfl | exact Or.inr rfl))) (fun _ _ _ _ _ => pts_nil) (fun _ _ _ _ _ => (pe_op B.op_addS (pv 5) pe_str)))))))), ?_⟩)
  · obtain ⟨cn, q, l, d, n, LL, bs, rfl, _⟩ := h
    rfl
  · obtain ⟨cn, q, l, d, n, LL, bs, rfl, iq, Qy, Ln, post⟩ := h
    obtain ⟨len1, len2⟩ := Ln.len
    have n1 := Ln.n1
    have n2 := Ln.n2
    have LLl : (LL.map (·.2)).length = LL.length := List.length_map _
    have RL := rowsT_len Ln (r := clsR cn)
    obtain ⟨dx, hq⟩ := Qy.ins
    obtain ⟨ksp, ks1, ks2⟩ := kindS_of (K := K) (mg := mg) iq
    walk_at "go"
    refine x_onM (c := cn) ks1 hq rfl ?_
    refine ks2 q H _ _ ?_
    walk_at "go"
    have kl := kindT_len (clsR cn)
    have h1 : (Str.ofString " ").length = 1 := by decide +kernel
    refine x_addS (a := kindT (clsR cn)) (by omega) ?_
    walk_at "go"
    refine x_onM (c := cn) ⟨iq, rfl⟩ hq rfl ?_
    refine ⟨q, l, d, dx, n, rfl, iq, hq, ?_⟩
    walk_at "go"
    refine x_strI (small_log (by omega) n2) ?_
    walk_at "go"
    have hl := numT_len (n := n) (by omega) n2
    refine x_addS (b := numT n) (by rw [app_len]; omega) ?_
    walk_at "go"
    refine x_mkL (by simp) fun rl H1 rl0 e1 hrl => ?_
    walk_at "go"
    refine x_onM (c := cn) ⟨iq, rfl⟩ (e1 _ _ hq) rfl ?_
    refine ⟨q, l, d, n, LL, bs, rfl, iq, Qy.ex e1, Ln, fun as H2 as0 e2 hM => ?_⟩
    obtain ⟨MM, hMM, hMp, eM⟩ := hM
    have mok : ∀ x ∈ MM, nameOk x.2.1 = true ∧ 1 ≤ x.2.2.1 ∧ x.2.2.1 ≤ n := fun x hx => by
      have h2 : x.2 ∈ MM.map (·.2) := List.mem_map.mpr ⟨x, hx, rfl⟩
      rw [eM] at h2
      obtain ⟨p, hp, e⟩ := List.mem_map.mp h2
      have := Ln.ok p hp
      rw [← e]
      exact this
    have mlen : MM.length = LL.length := by
      have := congrArg List.length eM
      rw [List.length_map, List.length_map, List.length_map] at this
      exact this
    have rows : MM.map (fun x => rowT (x.2.1, x.2.2.1)) = (LL.map (·.2)).map rowT := by
      have := congrArg (List.map fun (m : Str × Int × Int) => rowT (m.1, m.2.1)) eM
      rw [List.map_map, List.map_map] at this
      exact this
    have nas : as ≠ rl := fun z => by rw [z, hrl] at as0; cases as0
    have nx : ∀ x ∈ MM, x.1 ≠ rl := fun x hx z => by
      have h1 := hMp x hx
      rw [z, e2 _ _ hrl] at h1
      cases h1
    refine x_forL MM (fun x => V.ref x.1) (fun pre σ' H' => (∃ v2 v3 v4, σ' = [some (.ref q), some (.ref rl), v2, v3, v4, none]) ∧ Ex H H' ∧ H' as = some (.lst (MM.map fun x => V.ref x.1)) ∧ (∀ x ∈ MM, H' x.1 = some (.tup [.str x.2.1, .int x.2.2.1, .int x.2.2.2])) ∧
        H' rl = some (.lst ((headT (clsR cn) n :: pre.map (fun x => rowT (x.2.1, x.2.2.1))).map V.str))) ⟨⟨_, _, _, rfl⟩, e1.trans e2, hMM, hMp, e2 _ _ hrl⟩ (fun pre σ' H' _ p => Evl.sq_of p.2.2.1) (fun pre x post2 σ' H' ea pp => ?_) (fun σ' H' pp => ?_)
    · obtain ⟨⟨v2, v3, v4, rfl⟩, ex, has, hx, hrl'⟩ := pp
      have xm : x ∈ MM := by rw [ea]; simp
      obtain ⟨o1, o2, o3⟩ := mok x xm
      have pl : pre.length < MM.length := by rw [ea]; simp
      refine x_gT3 (Evl.st_of (hx x xm)) ?_
      walk_at "go"
      have w1 := nameOk_len o1
      refine x_addS (a := x.2.1) (by omega) ?_
      walk_at "go"
      refine x_strI (small_log (by omega) (by omega)) ?_
      have w2 := numT_len (n := x.2.2.1) (by omega) (by omega)
      refine x_addS (b := numT x.2.2.1) (by rw [app_len]; omega) ?_
      walk_at "go"
      refine x_append hrl' (by rw [List.length_map, List.length_cons, List.length_map]; omega) fun H3 u3 => ?_
      walk_at "go"
      refine ⟨⟨_, _, _, rfl⟩, u3.ex ex rl0, u3.get nas has, fun y hy => u3.get (nx y hy) (hx y hy), ?_⟩
      rw [u3.same, List.map_append, ← List.cons_append, List.map_append]
      rfl
    · obtain ⟨⟨v2, v3, v4, rfl⟩, ex, has, hx, hrl'⟩ := pp
      rw [rows] at hrl'
      walk_at "go"
      have hl2 : (rowsT (clsR cn) n (LL.map (·.2))).length = LL.length + 1 := by
        unfold rowsT
        rw [List.length_cons, List.length_map, LLl]
      refine x_lcL (K := K) (rowsT (clsR cn) n (LL.map (·.2))) V.str (fun _ => true) (fun x => .str (x ++ "\n")) (Evl.sq_of hrl') ⟨by omega, fun _ => rfl, fun x hx H' e' QT kk => ?_, fun x hx _ H' e' Q' kk => ?_, fun jl H3 _ e3 hjl => ?_⟩
      · exact kk H' (.refl _)
      · walk_at "go"
        have := RL x hx
        have h2 : (Str.ofString "\n").length = 1 := by decide +kernel
        refine x_addS (by omega) ?_
        exact kk H' (.refl _)
      have hjl : H3 jl = some (.lst (((rowsT (clsR cn) n (LL.map (·.2))).map fun x => x ++ Str.ofString "\n").map V.str)) := by
        rw [hjl, List.map_map, List.filter_eq_self.mpr fun _ _ => rfl]
        rfl
      walk_at "go"
      have hsum := sum_le (k := 13) (ys := (rowsT (clsR cn) n (LL.map (·.2))).map fun x => x ++ Str.ofString "\n") fun y hy => by
        obtain ⟨x, hx, rfl⟩ := List.mem_map.mp hy
        have := RL x hx
        have h2 : (Str.ofString "\n").length = 1 := by decide +kernel
        rw [app_len]
        omega
      rw [List.length_map, hl2] at hsum
      refine x_joinL (Evl.sq_of hjl) (by rw [List.length_map, hl2, show (Str.ofString "").length = 0 from by decide +kernel]; omega) ?_
      exact post H3 (ex.trans e3)
/-- what is told when a text is refused -/
def Tells (t w : Str) : Prop := (parseT t = none ∧ w = "text") ∨ ∃ r n L c, parseT t = some (r, n, L) ∧ comeAll n r [] [] L = .inl c ∧ ((c = "Taken" ∧ w = "taken") ∨ (c = "NoWish" ∧ w = "wish") ∨ (c = "NoRoom" ∧ w = "room"))
def sp__law_read (K : PySem.W.Frag) (mg : Str → Option Value) : Sp := fun vs H Q _ => ∃ (x : V) (w : Str), vs = [x] ∧ ((∃ k, Kind K H x k ∧ k ≠ .str ∧ w = "text") ∨ ∃ t : Str, x = .str t ∧ t.length ≤ 900 ∧ Tells t w) ∧ ∀ H', Ex H H' → Q (.str w) H'
theorem has__law_read {P : Program} {w : World} {K : PySem.W.Frag} {mg : Str → Option Value} {base : Heap}  (S : B.Stands K mg "_law_read" s__law_read) (N : Nms K mg) (h_read : B.Has P w K mg base "read" 5 ["text"] (sp_read K mg)) (h__law_words : B.Has P w K mg base "_law_words" 1 ["_law_e"] (sp__law_words K mg)) : B.Has P w K mg base "_law_read" 6 ["_law_text_here"] (sp__law_read K mg) := by
  refine B.has_ofN S sc__law_read (fun _ _ _ _ _ _ us hl => match us, hl with | [_], _ => rfl) (fun vs H Q E h => ?_)
    (fun f cdv A outer s H vs Q E hr h => ⟨_, (pss_cons (ps_set (i := 1) sc__law_read.nd rfl (by first | exact Or.inl rfl | exact Or.inr rfl) pe_non)
    (pss_cons (ps_set (i := 2) sc__law_read.nd rfl (by first | exact Or.inl rfl | exact Or.inr rfl) pe_non)
    (pss_cons (B.ps_try_keep (i := 3) (j := 2) rfl rfl rfl sc__law_read.nd rfl rfl ⟨rfl, by decide, .inl N.m_BerthError⟩ takes0 (fun W pn xe tk _ => (pss_one (ps_set (i := 1) sc__law_read.nd rfl (by first | exact Or.inl rfl | exact Or.inr rfl) (B.pe_hasS (E := WE W) h_read hr (fun σ => passAt tk σ) (pa_cons (pv 0) pa_nil))))) (fun a oe pn => pss_one (ps_set (i := 2) sc__law_read.nd rfl (Or.inl rfl) (pv 3))))
    (pss_one (ps_ret (pe_ifExp (pt_cmp (pc_isN (pv 2))) (pv 1) (B.pe_has h__law_words hr B.passL (pa_cons (pv 2) pa_nil)))))))), ?_⟩)
  · obtain ⟨x, w, rfl, _⟩ := h
    rfl
  · obtain ⟨x, w, rfl, h, post⟩ := h
    walk_at "go"
    rcases h with ⟨k, hk, k1, rfl⟩ | ⟨t, rfl, tl0, h⟩
    · refine ⟨x, rfl, .inl ⟨k, hk, k1, fun C H1 hC e1 => ?_⟩⟩
      obtain rfl : B.at_ mg "NoText" = C := at_of hC
      refine x_kept N.e_NoText fun a H2 a0 e2 ha2 => ?_
      walk_at "go"
      rw [decide_eq_false (show ¬ V.ref a = V.non from nofun)]
      walk_at "go"
      refine ⟨.ref a, _, "text", rfl, .yes ha2, .inl ⟨rfl, rfl⟩, fun H3 e3 => ?_⟩
      exact post H3 (e1.trans (e2.trans e3))
    rcases h with ⟨hp, rfl⟩ | ⟨r, n, L, c, hp, hc, h⟩
    · refine ⟨_, rfl, .inr ⟨t, rfl, tl0, fun _ C H1 hC e1 => ?_, fun r n L z => by rw [hp] at z; cases z⟩⟩
      obtain rfl : B.at_ mg "NoText" = C := at_of hC
      refine x_kept N.e_NoText fun a H2 a0 e2 ha2 => ?_
      walk_at "go"
      rw [decide_eq_false (show ¬ V.ref a = V.non from nofun)]
      walk_at "go"
      refine ⟨.ref a, _, "text", rfl, .yes ha2, .inl ⟨rfl, rfl⟩, fun H3 e3 => ?_⟩
      exact post H3 (e1.trans (e2.trans e3))
    refine ⟨_, rfl, .inr ⟨t, rfl, tl0, (fun z => by rw [hp] at z; cases z), fun r1 n1 L1 z => ?_⟩⟩
    rw [hp] at z
    cases z
    refine ⟨fun c1 z C H1 hC e1 => ?_, fun bs z => by rw [hc] at z; cases z⟩
    rw [hc] at z
    cases z
    rcases h with ⟨rfl, rfl⟩ | ⟨rfl, rfl⟩ | ⟨rfl, rfl⟩
    · obtain rfl : B.at_ mg "Taken" = C := at_of hC
      refine x_kept N.e_Taken fun a H2 a0 e2 ha2 => ?_
      walk_at "go"
      rw [decide_eq_false (show ¬ V.ref a = V.non from nofun)]
      walk_at "go"
      refine ⟨.ref a, _, "taken", rfl, .yes ha2, .inr (.inl ⟨rfl, rfl⟩), fun H3 e3 => ?_⟩
      exact post H3 (e1.trans (e2.trans e3))
    · obtain rfl : B.at_ mg "NoWish" = C := at_of hC
      refine x_kept N.e_NoWish fun a H2 a0 e2 ha2 => ?_
      walk_at "go"
      rw [decide_eq_false (show ¬ V.ref a = V.non from nofun)]
      walk_at "go"
      refine ⟨.ref a, _, "wish", rfl, .yes ha2, .inr (.inr (.inl ⟨rfl, rfl⟩)), fun H3 e3 => ?_⟩
      exact post H3 (e1.trans (e2.trans e3))
    · obtain rfl : B.at_ mg "NoRoom" = C := at_of hC
      refine x_kept N.e_NoRoom fun a H2 a0 e2 ha2 => ?_
      walk_at "go"
      rw [decide_eq_false (show ¬ V.ref a = V.non from nofun)]
      walk_at "go"
      refine ⟨.ref a, _, "room", rfl, .yes ha2, .inr (.inr (.inr ⟨rfl, rfl⟩)), fun H3 e3 => ?_⟩
      exact post H3 (e1.trans (e2.trans e3))
/-! ### a quay, drawn -/
/-- a list of a whole number changes, the ships stay -/
theorem LineAt.updS {H H' : Hp} {ln st : Addr} {LW : List (Addr × Str × Int)} {s : Int} {o : HO} (h : LineAt H ln LW) (hs : H st = some (.lst [.int s])) (u : Upd H st o H') : LineAt H' ln LW := by
  refine ⟨u.get (fun z => ?_) h.line, fun x hx => u.get (fun z => ?_) (h.pairs x hx)⟩
  · have h1 := h.line
    rw [z, hs] at h1
    cases LW <;> cases h1
  · have h1 := h.pairs x hx
    rw [z, hs] at h1
    cases h1
theorem Quay.updS {mg : Str → Option Value} {cn : Str} {n : Int} {H H' : Hp} {q l d st : Addr} {LL : List (Addr × Str × Int)} {bs : List Int} {s : Int} {o : HO} (h : Quay mg cn n H q l d LL bs) (hs : H st = some (.lst [.int s])) (u : Upd H st o H') : Quay mg cn n H' q l d LL bs := by
  have := (LineAt.mk (ln := l) h.line h.pairs).updS hs u
  obtain ⟨dx, hq⟩ := h.ins
  refine ⟨⟨dx, u.get (fun z => ?_) hq⟩, this.line, this.pairs, u.get (fun z => ?_) h.lying⟩
  · rw [z, hs] at hq
    cases hq
  · have h1 := h.lying
    rw [z, hs] at h1
    cases h1
def goodN : List Str := ["a", "b", "ab", "ba", "aa", "aab", "abcdefgh", "c", "cab"]
theorem goodN_ok {nm : Str} (h : nm ∈ goodN) : nameOk nm = true := by
  have : ∀ x ∈ goodN, nameOk x = true := by decide +kernel
  exact this nm h
theorem goodN_str {nm : Str} (h : nm ∈ goodN) : PyData.strOk nm = true := by
  have : ∀ x ∈ goodN, PyData.strOk x = true := by decide +kernel
  exact this nm h
theorem free_able {n : Int} {r : Bool} {bs : List Int} {w : Int} (w1 : 1 ≤ w) (w2 : w ≤ n) (h : ((irange 1 (n + 1)).filter fun b => !decide (b ∈ bs)).filter (fun b => decide (b ≥ w) || r) ≠ []) : ∃ b, freeOf n r bs w = some b := by
  obtain ⟨b, hb⟩ := List.exists_mem_of_ne_nil _ h
  obtain ⟨hb, h2⟩ := List.mem_filter.mp hb
  obtain ⟨hb, h1⟩ := List.mem_filter.mp hb
  have hb := mem_irange.mp hb
  have way : b ∈ wayOf n r w := by
    unfold wayOf
    by_cases c : w ≤ b
    · exact List.mem_append_left _ (mem_irange.mpr (by omega))
    · have : r = true := by simpa [show ¬ (b ≥ w) from c] using h2
      rw [this, if_pos rfl]
      exact List.mem_append_right _ (mem_irange.mpr (by omega))
  cases e : freeOf n r bs w with
  | some b => exact ⟨b, rfl⟩
  | none =>
    have := List.find?_eq_none.mp e b way
    rw [h1] at this
    exact absurd rfl this
/-- the quay within the loop -/
structure Drawn (mg : Str → Option Value) (r : Bool) (n : Int) (Hb H : Hp) (c st q l : Addr) (cells : List Int) : Prop where
  ex : Ex Hb H
  hc : H c = some (.lst (cells.map V.int))
  cs : c ≠ st
  q0 : Hb q = none
  l0 : Hb l = none
  st0 : Hb st = none
  state : ∃ s, 0 ≤ s ∧ s < 2147483648 ∧ H st = some (.lst [.int s])
  lc : l ≠ c
  quay : ∃ d LL bs, Hb d = none ∧ Quay mg (clsN r) n H q l d LL bs ∧ Line (clsN r) n (LL.map (·.2)) bs ∧ ∀ p ∈ LL.map (·.2), p.1 ∈ goodN
theorem Drawn.go {mg : Str → Option Value} {r : Bool} {n : Int} {Hb H H' : Hp} {c st q l : Addr} {cells : List Int} (h : Drawn mg r n Hb H c st q l cells) (e : Ex H H') : Drawn mg r n Hb H' c st q l cells where
  ex := h.ex.trans e
  hc := e _ _ h.hc
  cs := h.cs
  q0 := h.q0
  l0 := h.l0
  st0 := h.st0
  state := by obtain ⟨s, h1, h2, h3⟩ := h.state; exact ⟨s, h1, h2, e _ _ h3⟩
  lc := h.lc
  quay := by
    obtain ⟨d, LL, bs, h1, h2, h3, h4⟩ := h.quay
    exact ⟨d, LL, bs, h1, h2.ex e, h3, h4⟩
def sp__law_drawn (K : PySem.W.Frag) (mg : Str → Option Value) : Sp := fun vs H Q _ => ∃ (a : Addr) (ns : List Int), vs = [.ref a] ∧ SqL K H a (ns.map V.int) ∧ ns.length ≤ 63 ∧
  ∀ (r : Bool) (q l d : Addr) (n : Int) (LL : List (Addr × Str × Int)) (bs : List Int) (H' : Hp), Quay mg (clsN r) n H' q l d LL bs → Line (clsN r) n (LL.map (·.2)) bs → (∀ p ∈ LL.map (·.2), p.1 ∈ goodN) → Ex H H' → H q = none → H l = none → H d = none → Q (.ref q) H'
theorem has__law_drawn {P : Program} {w : World} {K : PySem.W.Frag} {mg : Str → Option Value} {base : Heap}  (S : B.Stands K mg "_law_drawn" s__law_drawn) (N : Nms K mg) (h__law_cell_at : B.Has P w K mg base "_law_cell_at" 1 ["_law_script", "_law_k"] (sp__law_cell_at K)) (h__law_mix : B.Has P w K mg base "_law_mix" 1 ["_law_state", "_law_cell"] (sp__law_mix K)) (hm_Quay : B.HasM P w K mg base "Quay" "__init__" 3 ["self", "berths"] (sp_Quay___init__ K mg "Quay")) (hm_Round : B.HasM P w K mg base "Round" "__init__" 3 ["self", "berths"] (sp_Quay___init__ K mg "Round")) (hf_all_ships : B.FamM P w K mg base "all_ships" 1 ["self"] (fun c sp => IsQ c ∧ sp = sp_Quay_all_ships K mg c)) (hf_come : B.FamM P w K mg base "come" 3 ["self", "name", "wish"] (fun c sp => IsQ c ∧ sp = sp_Quay_come K mg c)) (hf_free_ones : B.FamM P w K mg base "free_ones" 1 ["self"] (fun c sp => IsQ c ∧ sp = sp_Quay_free_ones K mg c)) (hf_kind : B.FamM P w K mg base "kind" 1 ["self"] (KindS K mg)) (hf_leave : B.FamM P w K mg base "leave" 4 ["self", "name"] (fun c sp => IsQ c ∧ sp = sp_Quay_leave K mg c)) (hf_size : B.FamM P w K mg base "size" 1 ["self"] (fun c sp => IsQ c ∧ sp = sp_Quay_size K mg c)) (hf_where : B.FamM P w K mg base "where" 2 ["self", "name"] (fun c sp => IsQ c ∧ sp = sp_Quay_where K mg c)) : B.Has P w K mg base "_law_drawn" 5 ["_law_script"] (sp__law_drawn K mg) := by
  refine B.has_ofN S sc__law_drawn (fun _ _ _ _ _ _ us hl => match us, hl with | [_], _ => rfl) (fun vs H Q E h => ?_)
    (fun f cdv A outer s H vs Q E hr h => ⟨_, (pss_cons (ps_set (i := 1) sc__law_drawn.nd rfl (by first | exact Or.inl rfl | exact Or.inr rfl) (pe_lst (pa_cons (pe_op op_add pe_int (pe_op op_mod (B.pe_has h__law_cell_at hr B.passL (pa_cons (pv 0) (pa_cons pe_int pa_nil))) pe_int)) pa_nil)))
    (pss_cons (ps_set (i := 2) sc__law_drawn.nd rfl (by first | exact Or.inl rfl | exact Or.inr rfl) (B.pe_has h__law_cell_at hr B.passL (pa_cons (pv 0) (pa_cons pe_int pa_nil))))
    (pss_cons (ps_set (i := 3) sc__law_drawn.nd rfl (by first | exact Or.inl rfl | exact Or.inr rfl) (pe_ix (r := rIxL K) ix_list (pe_lst (pa_cons (pe_op op_add pe_int (pe_op op_mod (pv 2) pe_int)) (pa_cons (pe_op op_add pe_int (pe_op op_mod (pe_op op_fdiv (pv 2) pe_int) pe_int)) pa_nil))) (pe_op op_fdiv (pe_op op_mod (B.pe_has h__law_mix hr B.passL (pa_cons (pv 1) (pa_cons pe_int pa_nil))) pe_int) pe_int) (fun _ _ => rfl)))
    (pss_cons (ps_set (i := 4) sc__law_drawn.nd rfl (by first | exact Or.inl rfl | exact Or.inr rfl) (B.pe_makeS (mg0 := mg) (E := fun _ => E0) N.cl_Quay hm_Quay hr B.pass0At (pa_cons (pv 3) pa_nil)))
    (pss_cons (B.ps_stop (ps_if (pt_cmpR op_eq (pe_op op_mod (B.pe_has h__law_mix hr B.passL (pa_cons (pv 1) (pa_cons pe_int pa_nil))) pe_int) pe_int (nomark _)) (pss_one (ps_set (i := 4) sc__law_drawn.nd rfl (by first | exact Or.inl rfl | exact Or.inr rfl) (B.pe_makeS (mg0 := mg) (E := fun _ => E0) N.cl_Round hm_Round hr B.pass0At (pa_cons (pv 3) pa_nil)))) pss_nil))
    (pss_cons (ps_for PassesOwn.never rfl (pi_list (pe_slice (r := rSlL K) sl_list (pv 0) po_none (po_some pe_int))) (pg_name (i := 5) sc__law_drawn.nd rfl (by first | exact Or.inl rfl | exact Or.inr rfl)) (pss_cons (ps_set (i := 6) sc__law_drawn.nd rfl (by first | exact Or.inl rfl | exact Or.inr rfl) (B.pe_has h__law_mix hr B.passL (pa_cons (pv 1) (pa_cons (pv 5) pa_nil))))
    (pss_cons (ps_set (i := 7) sc__law_drawn.nd rfl (by first | exact Or.inl rfl | exact Or.inr rfl) (pe_ix (r := rIxL K) ix_list (pe_lst (pa_cons pe_str (pa_cons pe_str (pa_cons pe_str (pa_cons pe_str (pa_cons pe_str (pa_cons pe_str (pa_cons pe_str (pa_cons pe_str (pa_cons pe_str pa_nil)))))))))) (pe_op op_mod (pv 6) pe_int) (fun _ _ => rfl)))
    (pss_cons (ps_setLc (i := 8) (own := [("_law_one", 9), ("_law_wish", 10), ("_law_berth", 11)]) (g := (gTup K 3 (gCons (gName 9) (gCons (gName 10) (gCons (gName 11) gNil))))) rfl sc__law_drawn.nd rfl rfl (sw_true rfl rfl rfl (by decide +kernel)) (pi_list (B.pe_methF0 (mg0 := mg) (E := fun _ => E0) (pv 4) hf_all_ships hr B.pass0At)) (blkOk_by (own := [("_law_one", 9), ("_law_wish", 10), ("_law_berth", 11)]) (N := n__law_drawn) (sc := defScope s__law_drawn) (by decide +kernel)) (fun _ _ _ _ _ => (pg_tup rfl (pgs_cons (pg_name (i := 9) sc__law_drawn.nd rfl (by first | exact Or.inl rfl | exact Or.inr rfl)) (pgs_cons (pg_name (i := 10) sc__law_drawn.nd rfl (by first | exact Or.inl rfl | exact Or.inr rfl)) (pgs_cons (pg_name (i := 11) sc__law_drawn.nd rfl (by first | exact Or.inl rfl | exact Or.inr rfl)) pgs_nil))))) (fun _ _ _ _ _ => (pts_one (pt_cmpR op_eq (pv 9) (pv 7) (nomark _)))) (fun _ _ _ _ _ => (pv 9)))
    (pss_cons (B.ps_stop (ps_if (PW.pt (pw_and (pt_cmpR (r := rNeD K) (op_neD hr.units) (pv 8) (pe_lst pa_nil) (nomark _)) (pw_and1 (pt_cmpR op_eq (pe_op op_mod (pe_op op_fdiv (pv 6) pe_int) pe_int) pe_int (nomark _))))) (pss_one (ps_expr (B.pe_methF (mg0 := mg) (E := fun _ => E0) (pv 4) hf_leave hr B.pass0At (pa_cons (pv 7) pa_nil)))) pss_nil))
    (pss_cons (ps_set (i := 10) sc__law_drawn.nd rfl (by first | exact Or.inl rfl | exact Or.inr rfl) (pe_op op_add pe_int (pe_op op_mod (pe_op op_fdiv (pv 6) pe_int) (pv 3))))
    (pss_cons (ps_set (i := 12) sc__law_drawn.nd rfl (by first | exact Or.inl rfl | exact Or.inr rfl) (B.pe_methF0 (mg0 := mg) (E := fun _ => E0) (pv 4) hf_free_ones hr B.pass0At))
    (pss_cons (ps_setLc (i := 13) (own := [("_law_berth", 11)]) (g := (gName 11)) rfl sc__law_drawn.nd rfl rfl (sw_true rfl rfl rfl (by decide +kernel)) (pi_list (pv 12)) (blkOk_by (own := [("_law_berth", 11)]) (N := n__law_drawn) (sc := defScope s__law_drawn) (by decide +kernel)) (fun _ _ _ _ _ => (pg_name (i := 11) sc__law_drawn.nd rfl (by first | exact Or.inl rfl | exact Or.inr rfl))) (fun _ _ _ _ _ => (pts_one (PW.pt (pw_or (pt_cmpR op_ge (pv 11) (pv 10) (nomark _)) (pw_or1 (pt_cmpR op_eq (B.pe_methF0 (mg0 := mg) (E := fun _ => E0) (pv 4) hf_kind hr B.pass0At) pe_str (nomark _))))))) (fun _ _ _ _ _ => (pv 11)))
    (pss_one (ps_if (PW.pt (pw_and (pt_cmpR (r := rEqD K) (op_eqD hr.units) (pv 8) (pe_lst pa_nil) (nomark _)) (pw_and1 (pt_cmpR (r := rNeD K) (op_neD hr.units) (pv 13) (pe_lst pa_nil) (nomark _))))) (pss_one (ps_expr (B.pe_methF (mg0 := mg) (E := fun _ => E0) (pv 4) hf_come hr B.pass0At (pa_cons (pv 7) (pa_cons (pv 10) pa_nil))))) pss_nil))))))))))
    (pss_one (ps_ret (pv 4))))))))), ?_⟩)
  · obtain ⟨a, ns, rfl, _⟩ := h
    rfl
  · obtain ⟨a, ns, rfl, hs, hl, post⟩ := h
    walk_at "go"
    refine ⟨a, ns, 0, rfl, hs, hl, ?_⟩
    walk_at "go"
    refine x_mod (by decide) fun s s0 s1 _ => ?_
    walk_at "go"
    refine x_mkL (by simp) fun st H1 st0 e1 hst => ?_
    walk_at "go"
    refine ⟨a, ns, 0, rfl, Evl.ex_l e1 hs, hl, ?_⟩
    generalize ns.getD 0 0 = cell0
    walk_at "go"
    refine x_mod (by decide) fun r1 r10 r11 _ => ?_
    walk_at "go"
    refine x_fdiv (by decide) ?_
    walk_at "go"
    refine x_mod (by decide) fun r2 r20 r21 _ => ?_
    walk_at "go"
    refine x_mkL (by simp) fun bl H2 bl0 e2 hbl => ?_
    walk_at "go"
    refine ⟨st, _, 0, rfl, e2 _ _ hst, by omega, by omega, fun m1 s2 H3 m10 m11 s20 s21 u3 => ?_⟩
    have bst : bl ≠ st := fun z => by rw [z, hst] at bl0; cases bl0
    have hbl3 := u3.get bst hbl
    walk_at "go"
    refine x_mod (by decide) fun r3 r30 r31 _ => ?_
    walk_at "go"
    refine x_fdiv (by decide) ?_
    obtain ⟨v, ev, hv⟩ := at_mem (xs := [.int (1 + r1), .int (1 + r2)]) (k := r3 / 3) (by omega) (by simp; omega)
    refine x_ixL (v := v) (Evl.sq_of hbl3) ev ?_
    obtain ⟨n, rfl, n1, n2⟩ : ∃ n : Int, v = .int n ∧ 1 ≤ n ∧ n ≤ 400 := by
      simp only [List.mem_cons, List.not_mem_nil, or_false] at hv
      rcases hv with rfl | rfl
      · exact ⟨_, rfl, by omega, by omega⟩
      · exact ⟨_, rfl, by omega, by omega⟩
    clear ev hv
    walk_at "go"
    have ex3 : Ex H H3 := u3.ex (e1.trans e2) st0
    have hst3 := u3.same
    refine x_make fun x dx H4 bo => ⟨x, n, dx, rfl, .inl rfl, n1, n2, bo.ins, fun l d H5 Qy l0 d0 ld kp => ⟨rfl, ?_⟩⟩
    have ex5 : Ex H3 H5 := ex_kept bo.ex kp fun z hz => by rw [List.mem_singleton.mp hz]; exact bo.x0
    walk_at "go"
    refine x_join (fun σ' H9 => ∃ r q l d s, σ' = [some (.ref a), some (.ref st), some (.int cell0), some (.int n), some (.ref q), none, none, none, none, none, none, none, none, none] ∧ Ex H H9 ∧ 0 ≤ s ∧ s < 2147483648 ∧ H9 st = some (.lst [.int s]) ∧ H q = none ∧ H l = none ∧ H d = none ∧ Quay mg (clsN r) n H9 q l d [] []) (fun σ' H9 p => ?_) (fun next => ?_)
    rotate_left
    · walk_at "go"
      refine ⟨st, s2, 1, rfl, ex5 _ _ hst3, s20, s21, fun m2 s3 H6 m20 m21 s30 s31 u6 => ?_⟩
      have Q6 := Qy.updS (ex5 _ _ hst3) u6
      have ex6 : Ex H H6 := u6.ex (ex3.trans ex5) st0
      have hst6 := u6.same
      have x0 := exn ex3 bo.x0
      have l00 := exn ex3 (exn bo.ex l0)
      have d00 := exn ex3 (exn bo.ex d0)
      walk_at "go"
      refine x_mod (by decide) fun r5 r50 r51 _ => ?_
      walk_at "go"
      refine x_dec (fun c => ?_) (fun c => ?_)
      · walk_at "go"
        refine x_make fun x2 dx2 H9 bo2 => ⟨x2, n, dx2, rfl, .inr rfl, n1, n2, bo2.ins, fun l2 d2 H10 Qy2 l20 d20 ld2 kp2 => ⟨rfl, ?_⟩⟩
        have ex10 : Ex H6 H10 := ex_kept bo2.ex kp2 fun z hz => by rw [List.mem_singleton.mp hz]; exact bo2.x0
        exact next _ _ ⟨true, x2, l2, d2, s3, rfl, ex6.trans ex10, s30, s31, ex10 _ _ hst6, exn ex6 bo2.x0, exn ex6 (exn bo2.ex l20), exn ex6 (exn bo2.ex d20), Qy2⟩
      · exact next _ _ ⟨false, x, l, d, s3, rfl, ex6, s30, s31, hst6, x0, l00, d00, Q6⟩
    clear u3 ex5 kp Qy hst hbl hbl3 hst3 bl0 bst e1 e2 s20 s21 s0 s1 m10 m11 ex3 bo l0 d0 ld r10 r11 r20 r21 r30 r31
    obtain ⟨r, q, l, d, s3, rfl, ex9, s30, s31, hst9, q0, l0, d0, Qy⟩ := p
    obtain ⟨iq, er⟩ := clsN_ok r
    walk_at "go"
    refine x_slL (lo := none) (hi := some ((60 : Nat) : Int)) (Evl.ex_l ex9 hs) fun c H10 c0 e10 hc => ?_
    rw [cut_to, ← List.map_take] at hc
    obtain ⟨cells, hcells⟩ : ∃ cells, cells = ns.take 60 := ⟨_, rfl⟩
    rw [← hcells] at hc
    clear hcells
    have D10 : Drawn mg r n H H10 c st q l cells := {
      ex := ex9.trans e10
      hc := hc
      cs := fun z => by rw [z, hst9] at c0; cases c0
      q0 := q0
      l0 := l0
      st0 := st0
      state := ⟨s3, s30, s31, e10 _ _ hst9⟩
      lc := fun z => by rw [← z, Qy.line] at c0; cases c0
      quay := ⟨d, [], [], d0, Qy.ex e10, { n1 := n1, n2 := n2, nd := by simp, ok := fun p hp => by simp at hp, lays := rfl }, fun p hp => by simp at hp⟩ }
    clear e10 hc c0 ex9 hst9 q0 l0 d0 Qy st0 s30 s31
    refine x_forL cells V.int (fun _ σ' H' => ∃ l z5 z6 z7 z8 z10 z12 z13, σ' = [some (.ref a), some (.ref st), some (.int cell0), some (.int n), some (.ref q), z5, z6, z7, z8, none, z10, none, z12, z13] ∧ Drawn mg r n H H' c st q l cells) ⟨_, _, _, _, _, _, _, _, rfl, D10⟩ (fun pre σ' H' _ p => by obtain ⟨_, _, _, _, _, _, _, _, _, p⟩ := p; exact Evl.sq_of p.hc) (fun pre cell post3 σ' H' ea pp => ?_) (fun σ' H' pp => ?_)
    · clear D10 l
      obtain ⟨l, z5, z6, z7, z8, z10, z12, z13, rfl, S⟩ := pp
      obtain ⟨s, s0, s1, hst⟩ := S.state
      obtain ⟨d, LL, bs, d0, Qy, Ln, gn⟩ := S.quay
      obtain ⟨len1, len2⟩ := Ln.len
      have LLl : (LL.map (·.2)).length = LL.length := List.length_map _
      walk_at "go"
      refine ⟨st, s, cell, rfl, hst, s0, s1, fun m s' H9 m0 m1 t0 t1 u9 => ?_⟩
      have ex9 : Ex H H9 := u9.ex S.ex S.st0
      have Q9 := Qy.updS hst u9
      have S9 : Drawn mg r n H H9 c st q l cells := { ex := ex9, hc := u9.get S.cs S.hc, cs := S.cs, q0 := S.q0, l0 := S.l0, st0 := S.st0, state := ⟨s', t0, t1, u9.same⟩, lc := S.lc, quay := ⟨d, LL, bs, d0, Q9, Ln, gn⟩ }
      clear u9 hst Qy S
      walk_at "go"
      refine x_mkL (by simp) fun p1 H10 _ e10 hp1 => ?_
      walk_at "go"
      refine x_mod (by decide) fun i1 i10 i11 _ => ?_
      obtain ⟨xv, ex, hx⟩ := at_mem (xs := [.str "a", .str "b", .str "ab", .str "ba", .str "aa", .str "aab", .str "abcdefgh", .str "c", .str "cab"]) i10 (by simpa using i11)
      refine x_ixL (v := xv) (Evl.sq_of hp1) ex ?_
      obtain ⟨nm, rfl, hn⟩ : ∃ nm, xv = .str nm ∧ nm ∈ goodN := by
        simp only [List.mem_cons, List.not_mem_nil, or_false] at hx
        unfold goodN
        rcases hx with rfl | rfl | rfl | rfl | rfl | rfl | rfl | rfl | rfl <;> exact ⟨_, rfl, by simp⟩
      clear ex hx
      walk_at "go"
      obtain ⟨dx1, hq⟩ := (Q9.ex e10).ins
      refine x_onM (c := clsN r) ⟨iq, rfl⟩ hq rfl ?_
      refine ⟨q, l, d, n, LL, bs, rfl, iq, Q9.ex e10, Ln, fun as H11 as0 e11 hM => ?_⟩
      obtain ⟨MM, hMM, hMp, eM⟩ := hM
      have mlen : MM.length = LL.length := by
        have := congrArg List.length eM
        rw [List.length_map, List.length_map, List.length_map] at this
        exact this
      walk_at "go"
      refine x_lcGV (K := K) MM (fun x => V.ref x.1) (fun x => decide (x.2.1 = nm)) (fun x => .str x.2.1) (fun x => [some (.ref a), some (.ref st), some (.int cell0), some (.int n), some (.ref q), some (.int cell), some (.int m), some (.str nm), z8, some (.str x.2.1), some (.int x.2.2.1), some (.int x.2.2.2), z12, z13]) (Evl.sq_of hMM) (by omega) (fun _ => rfl) (fun x hx H' e' R k => x_gT3 (Evl.st_of (e' _ _ (hMp x hx))) k) (fun x hx H' e' QT k => ?_) (fun x hx _ H' e' Q' k => ?_) (fun th H12 th0 e12 hth => ?_)
      · walk_at "go"
        rw [show decide (V.str x.2.1 = V.str nm) = decide (x.2.1 = nm) from by simp]
        exact k H' (.refl _)
      · walk_at "go"
        exact k H' (.refl _)
      obtain ⟨S, hS⟩ : ∃ S, S = (MM.filter fun x => decide (x.2.1 = nm)).map fun x => x.2.1 := ⟨_, rfl⟩
      have hth : H12 th = some (.lst (S.map V.str)) := by rw [hth, hS, List.map_map]; rfl
      have Sok : ∀ s ∈ S, PyData.strOk s = true := fun s h => by
        rw [hS] at h
        obtain ⟨x, hx, rfl⟩ := List.mem_map.mp h
        rw [of_decide_eq_true (List.mem_filter.mp hx).2]
        exact goodN_str hn
      have Snil : S = [] ↔ nm ∉ (LL.map (·.2)).map (·.1) := by
        have names : (LL.map (·.2)).map (·.1) = MM.map fun x => x.2.1 := by
          have := congrArg (List.map fun (m : Str × Int × Int) => m.1) eM
          rw [List.map_map, List.map_map] at this
          exact this.symm
        rw [names, hS, List.map_eq_nil_iff, List.filter_eq_nil_iff]
        constructor
        · intro h1 h2
          obtain ⟨x, hx, e⟩ := List.mem_map.mp h2
          exact h1 x hx (decide_eq_true e)
        · intro h1 x hx h2
          exact h1 (List.mem_map.mpr ⟨x, hx, of_decide_eq_true h2⟩)
      have f12 := (e10.trans e11).trans e12
      have S12 := S9.go f12
      have Q12 := Q9.ex f12
      clear hS eM hMp hMM mlen as0 hp1 e10 e11 e12 f12 S9 Q9 hq ex9 t0 t1 m0 m1
      walk_at "go"
      refine x_join (fun σ' H' => ∃ l', σ' = [some (.ref a), some (.ref st), some (.int cell0), some (.int n), some (.ref q), some (.int cell), some (.int m), some (.str nm), some (.ref th), none, z10, none, z12, z13] ∧ Drawn mg r n H H' c st q l' cells ∧ H' th = some (.lst (S.map V.str)) ∧
        (S = [] → ∃ d LL bs, H d = none ∧ Quay mg (clsN r) n H' q l' d LL bs ∧ Line (clsN r) n (LL.map (·.2)) bs ∧ (∀ p ∈ LL.map (·.2), p.1 ∈ goodN) ∧ nm ∉ (LL.map (·.2)).map (·.1))) (fun σ' H' p => ?_) (fun next => ?_)
      rotate_left
      · walk_at "go"
        refine x_mkL (by simp) fun zp H13 _ e13 hzp => ?_
        refine x_neS (ss := S) (ts := []) (Evl.sq_of (e13 _ _ hth)) (Evl.sq_of hzp) Sok (fun s h => nomatch h) ?_
        by_cases c1 : S = []
        · rw [decide_eq_true c1]
          refine x_blV ?_
          refine x_false ?_
          exact next _ _ ⟨l, rfl, S12.go e13, e13 _ _ hth, fun _ => ⟨d, LL, bs, d0, Q12.ex e13, Ln, gn, Snil.mp c1⟩⟩
        · rw [decide_eq_false c1]
          refine x_blV ?_
          refine x_true ?_
          walk_at "go"
          refine x_fdiv (by decide) ?_
          walk_at "go"
          refine x_mod (by decide) fun i2 i20 i21 _ => ?_
          walk_at "go"
          refine x_dec (fun c2 => ?_) (fun c2 => ?_)
          · walk_at "go"
            have S13 := S12.go e13
            have Q13 := Q12.ex e13
            have hth13 := e13 _ _ hth
            obtain ⟨dx2, hq⟩ := Q13.ins
            refine x_onM (c := clsN r) ⟨iq, rfl⟩ hq rfl ?_
            walk_at "go"
            refine ⟨q, l, d, n, LL, bs, .str nm, rfl, iq, Q13, Ln, .inr ⟨nm, rfl, goodN_ok hn, .inr ⟨Classical.byContradiction fun z => c1 (Snil.mpr z), fun l' d' mv H14 LL' bs' eL Q14 L14 l0' d0' mv0 ml Mv k14 => ?_⟩⟩⟩
            have kq : ∀ {z o}, H13 z = some (.lst o) → H14 z = some (.lst o) := fun {z o} hz => k14 z _ hz fun hm => by
              rw [List.mem_singleton.mp hm, hq] at hz
              cases hz
            obtain ⟨s5, s50, s51, hst5⟩ := S13.state
            exact next _ _ ⟨l', rfl, {
              ex := ex_kept S13.ex k14 fun z hz => by rw [List.mem_singleton.mp hz]; exact S13.q0
              hc := kq S13.hc
              cs := S13.cs
              q0 := S13.q0
              l0 := exn S13.ex l0'
              st0 := S13.st0
              state := ⟨s5, s50, s51, kq hst5⟩
              lc := fun z => by rw [z, S13.hc] at l0'; cases l0'
              quay := ⟨d', LL', bs', exn S13.ex d0', Q14, L14, fun p hp => by rw [eL] at hp; exact gn p (List.mem_filter.mp hp).1⟩ }, kq hth13, fun z => absurd z c1⟩
          · exact next _ _ ⟨l, rfl, S12.go e13, e13 _ _ hth, fun z => absurd z c1⟩
      clear S12 Q12 hth Snil gn Ln d0 len1 len2 LLl l d LL bs
      obtain ⟨l, rfl, S1, hth, fresh⟩ := p
      walk_at "go"
      refine x_fdiv (by decide) ?_
      walk_at "go"
      refine x_mod (by omega) fun i3 i30 i31 _ => ?_
      walk_at "go"
      obtain ⟨d, LL, bs, d0, Q1, Ln, gn, nmx⟩ : ∃ d LL bs, H d = none ∧ Quay mg (clsN r) n H' q l d LL bs ∧ Line (clsN r) n (LL.map (·.2)) bs ∧ (∀ p ∈ LL.map (·.2), p.1 ∈ goodN) ∧ (S = [] → nm ∉ (LL.map (·.2)).map (·.1)) := by
        by_cases c1 : S = []
        · obtain ⟨d, LL, bs, h1, h2, h3, h4, h5⟩ := fresh c1
          exact ⟨d, LL, bs, h1, h2, h3, h4, fun _ => h5⟩
        · obtain ⟨d, LL, bs, h1, h2, h3, h4⟩ := S1.quay
          exact ⟨d, LL, bs, h1, h2, h3, h4, fun z => absurd z c1⟩
      clear fresh
      obtain ⟨dx2, hq⟩ := Q1.ins
      refine x_onM (c := clsN r) ⟨iq, rfl⟩ hq rfl ?_
      refine ⟨q, l, d, n, LL, bs, rfl, iq, Q1, Ln, fun fr H2 fr0 e2 hfr => ?_⟩
      walk_at "go"
      obtain ⟨FR, hFR⟩ : ∃ FR, FR = (irange 1 (n + 1)).filter fun b => !decide (b ∈ bs) := ⟨_, rfl⟩
      rw [← hFR] at hfr
      have frl : FR.length ≤ 400 := by
        rw [hFR]
        refine Nat.le_trans (List.length_filter_le _ _) ?_
        rw [irange_len]
        omega
      refine x_lcL (K := K) FR V.int (fun b => decide (b ≥ 1 + i3) || r) V.int (Evl.sq_of hfr) ⟨by omega, fun _ => rfl, fun b _ H'' e'' QT kk => ?_, fun b _ _ H'' e'' Q' kk => ?_, fun ab H3 _ e3 hab => ?_⟩
      · walk_at "go"
        have kk : QT (decide (b ≥ 1 + i3) || r) H'' := kk H'' (.refl _)
        refine x_dec (fun c1 => ?_) (fun c1 => ?_)
        · rw [decide_eq_true (show b ≥ 1 + i3 from c1), Bool.true_or] at kk
          exact kk
        · rw [decide_eq_false (show ¬ b ≥ 1 + i3 from c1), Bool.false_or] at kk
          walk_at "go"
          obtain ⟨ksp, ks1, ks2⟩ := kindS_of (K := K) (mg := mg) iq
          refine x_onM (c := clsN r) ks1 (e'' _ _ (e2 _ _ hq)) rfl ?_
          refine ks2 q H'' _ _ ?_
          walk_at "go"
          rw [er, show decide (V.str (if r then "round" else "quay") = V.str (Str.ofString "round")) = r from by cases r <;> decide +kernel]
          exact kk
      · walk_at "go"
        exact kk H'' (.refl _)
      walk_at "go"
      refine x_mkL (by simp) fun zp H4 _ e4 hzp => ?_
      have ex4 := e2.trans (e3.trans e4)
      refine x_eqS (ss := S) (ts := []) (Evl.sq_of (ex4 _ _ hth)) (Evl.sq_of hzp) Sok (fun s h => nomatch h) ?_
      by_cases c1 : S = []
      · rw [decide_eq_true c1]
        walk_at "go"
        refine x_mkL (by simp) fun zp2 H5 _ e5 hzp2 => ?_
        refine x_neL (xs := (FR.filter fun b => decide (b ≥ 1 + i3) || r).map V.int) (ys := []) (Evl.sq_of (e5 _ _ (e4 _ _ hab))) (Evl.sq_of hzp2) (plain_ints _) rfl ?_
        have ex5 := ex4.trans e5
        by_cases c2 : (FR.filter fun b => decide (b ≥ 1 + i3) || r).map V.int = []
        · rw [decide_eq_true c2]
          walk_at "go"
          exact ⟨_, _, _, _, _, _, _, _, rfl, S1.go ex5⟩
        · rw [decide_eq_false c2]
          walk_at "go"
          obtain ⟨b, hf⟩ := free_able (n := n) (r := r) (bs := bs) (w := 1 + i3) (by omega) (by omega) (fun z => c2 (by rw [hFR, z]; rfl))
          have Q5 := Q1.ex ex5
          have S5 := S1.go ex5
          refine x_onM (c := clsN r) ⟨iq, rfl⟩ (ex5 _ _ hq) rfl ?_
          walk_at "go"
          refine ⟨q, l, d, n, LL, bs, .str nm, .int (1 + i3), rfl, iq, Q5, Ln, .inr ⟨nm, rfl, goodN_ok hn, .inr ⟨nmx c1, .int, .int _, .inr ⟨_, rfl, by omega, by omega, .inr ⟨b, by rw [er]; exact hf, fun p H6 Q6 k6 => ?_⟩⟩⟩⟩⟩
          walk_at "go"
          obtain ⟨s5, s50, s51, hst5⟩ := S5.state
          refine ⟨_, _, _, _, _, _, _, _, rfl, {
            ex := ex_kept S5.ex k6 fun z hz => by
              simp only [List.mem_cons, List.not_mem_nil, or_false] at hz
              rcases hz with rfl | rfl
              · exact S5.l0
              · exact d0
            hc := k6 _ _ S5.hc fun z => by
              simp only [List.mem_cons, List.not_mem_nil, or_false] at z
              rcases z with z | z
              · exact S5.lc z.symm
              · have h1 := S5.hc
                rw [z, Q5.lying] at h1
                cases h1
            cs := S5.cs
            q0 := S5.q0
            l0 := S5.l0
            st0 := S5.st0
            state := ⟨s5, s50, s51, k6 _ _ hst5 fun z => by
              simp only [List.mem_cons, List.not_mem_nil, or_false] at z
              rcases z with z | z
              · have h1 := Q5.line
                rw [← z, hst5] at h1
                cases LL <;> cases h1
              · rw [z, Q5.lying] at hst5
                cases hst5⟩
            lc := S5.lc
            quay := ⟨d, _, _, d0, Q6, by rw [List.map_append]; exact Ln.snoc (goodN_ok hn) (nmx c1) (by omega) (by omega) (by rw [er]; exact hf), fun p hp => by
              rw [List.map_append] at hp
              rcases List.mem_append.mp hp with hp | hp
              · exact gn p hp
              · rw [List.mem_singleton.mp hp]
                exact hn⟩ }⟩
      · rw [decide_eq_false c1]
        walk_at "go"
        exact ⟨_, _, _, _, _, _, _, _, rfl, S1.go ex4⟩
    · obtain ⟨l, z5, z6, z7, z8, z10, z12, z13, rfl, S⟩ := pp
      obtain ⟨d2, LL2, bs2, d20, Q2, Ln2, gn⟩ := S.quay
      walk_at "go"
      exact post r q l d2 n LL2 bs2 H' Q2 Ln2 gn S.ex S.q0 S.l0 d20

/-! ### texts and their rows -/
open TL
theorem flat_join : ∀ ps : List (List Nat), joinL [] ps = ps.flatten
  | [] => rfl
  | [p] => by simp [joinL]
  | p :: q :: r => by
    show p ++ ([] ++ joinL [] (q :: r)) = _
    rw [flat_join (q :: r)]
    rfl
theorem join_end : ∀ qs : List (List Nat), joinL [10] (qs ++ [[]]) = (qs.map fun q => q ++ [10]).flatten
  | [] => rfl
  | [q] => by simp [joinL]
  | q :: p :: r => by
    show q ++ ([10] ++ joinL [10] (p :: r ++ [[]])) = _
    rw [join_end (p :: r)]
    simp
theorem join_end2 : ∀ qs : List (List Nat), qs ≠ [] → joinL [10] qs ++ [10] = joinL [10] (qs ++ [[]])
  | [], h => absurd rfl h
  | [q], _ => by simp [joinL]
  | q :: p :: r, _ => by
    show (q ++ ([10] ++ joinL [10] (p :: r))) ++ [10] = q ++ ([10] ++ joinL [10] (p :: r ++ [[]]))
    rw [← join_end2 (p :: r) (by simp)]
    simp
theorem nl_tl : tl (Str.ofString "\n") = [10] := by decide +kernel
theorem nil_tl : tl (Str.ofString "") = [] := by decide +kernel
theorem sp_tl : tl (Str.ofString " ") = [32] := by decide +kernel
theorem tl_joinT (y : Str) (ps : List Str) : tl (Txt.join y ps) = joinL (tl y) (ps.map tl) := by rw [join_eq, tl_join]
/-- rows that end in a new line each -/
theorem text_rows (R : List Str) : Txt.join "" (R.map fun x => x ++ "\n") = Txt.join "\n" (R ++ [Str.ofString ""]) := by
  refine ext_tl ?_
  rw [tl_joinT, tl_joinT, nil_tl, nl_tl, flat_join, List.map_append, List.map_map]
  show _ = joinL [10] (R.map tl ++ [tl (Str.ofString "")])
  rw [nil_tl, join_end, List.map_map]
  congr 1
  refine List.map_congr_left fun x _ => ?_
  show tl (x ++ Str.ofString "\n") = tl x ++ [10]
  rw [tl_append, nl_tl]
theorem rows_end {R : List Str} (h : R ≠ []) : Txt.join "\n" R ++ Str.ofString "\n" = Txt.join "\n" (R ++ [Str.ofString ""]) := by
  refine ext_tl ?_
  rw [tl_append, tl_joinT, tl_joinT, nl_tl, List.map_append]
  show _ = joinL [10] (R.map tl ++ [tl (Str.ofString "")])
  rw [nil_tl]
  exact join_end2 _ (fun z => h (List.map_eq_nil_iff.mp z))
theorem nl_kind : (Str.ofString "\n").cps.all (· < 256) = true := by decide +kernel
theorem sp_kind : (Str.ofString " ").cps.all (· < 256) = true := by decide +kernel
theorem split_rows {R : List Str} (h : R ≠ []) (hp : ∀ p ∈ R, 10 ∉ tl p) : Txt.split (Txt.join "\n" R) (Str.ofString "\n") = R := split_join (y := Str.ofString "\n") (s := 10) (S := []) nl_tl nl_kind h hp
theorem cut_last (x : Str) : cutS (x ++ Str.ofString "\n") none (some (-1)) = x := by
  refine ext_tl ?_
  have l1 : (x ++ Str.ofString "\n").length = x.length + 1 := by rw [app_len]; rfl
  have e : HT.sIx (x.length + 1) (x.length + 1) (some (-1)) = x.length := by
    show (if (-1 : Int) < 0 then ((-1 : Int) + ((x.length + 1 : Nat) : Int)).toNat else min (-1 : Int).toNat (x.length + 1)) = _
    rw [if_pos (by decide)]
    omega
  unfold cutS
  rw [l1, e, HT.sIx_none]
  show ((tl (x ++ Str.ofString "\n")).drop 0).take (x.length - 0) = tl x
  rw [tl_append, List.drop_zero, Nat.sub_zero, len_tl, List.take_left]
theorem rows_of {R : List Str} (h : R ≠ []) (hp : ∀ p ∈ R, 10 ∉ tl p) : rowsOf (Txt.join "\n" R ++ Str.ofString "\n") = R := by
  unfold rowsOf
  rw [cut_last]
  exact split_rows h hp
theorem words_of {a b : Str} (ha : 32 ∉ tl a) (hb : 32 ∉ tl b) : wordsOf (a ++ " " ++ b) = some (a, b) := by
  refine wordsOf_two ?_
  have e : a ++ Str.ofString " " ++ b = Txt.join " " [a, b] := by rw [join_eq]; rfl
  rw [e]
  exact split_join (y := Str.ofString " ") (s := 32) (S := []) sp_tl sp_kind (by simp) fun p hp => by
    simp only [List.mem_cons, List.not_mem_nil, or_false] at hp
    rcases hp with rfl | rfl
    · exact ha
    · exact hb
theorem name_free {s : Str} (h : nameOk s = true) {c : Nat} (hc : c ∉ okSigns) : c ∉ tl s := fun hm => by
  unfold nameOk at h
  simp only [Bool.and_eq_true, List.all_map, List.all_eq_true] at h
  exact hc (of_decide_eq_true (h.2.2 c hm))
theorem num_free {n : Int} (h : 0 ≤ n) {c : Nat} (hc : c < 48 ∨ 57 < c) : c ∉ tl (numT n) := by
  rw [tl_numT h]
  exact numL_free hc
theorem kind_free (r : Bool) : 32 ∉ tl (kindT r) ∧ 10 ∉ tl (kindT r) := by cases r <;> decide +kernel
def LOk (n : Int) (L : List (Str × Int)) : Prop := 1 ≤ n ∧ n ≤ 400 ∧ ∀ p ∈ L, nameOk p.1 = true ∧ 1 ≤ p.2 ∧ p.2 ≤ n
theorem rowsT_free {r : Bool} {n : Int} {L : List (Str × Int)} (h : LOk n L) : ∀ p ∈ rowsT r n L, 10 ∉ tl p := fun p hp => by
  have s : 10 ∉ tl (Str.ofString " ") := by rw [sp_tl]; decide
  unfold rowsT at hp
  rcases List.mem_cons.mp hp with rfl | hp
  · show 10 ∉ tl (kindT r ++ Str.ofString " " ++ numT n)
    rw [tl_append, tl_append]
    simp only [List.mem_append, not_or]
    exact ⟨⟨(kind_free r).2, s⟩, num_free (by have := h.1; omega) (by decide)⟩
  · obtain ⟨q, hq, rfl⟩ := List.mem_map.mp hp
    obtain ⟨h1, h2, h3⟩ := h.2.2 q hq
    show 10 ∉ tl (q.1 ++ Str.ofString " " ++ numT q.2)
    rw [tl_append, tl_append]
    simp only [List.mem_append, not_or]
    exact ⟨⟨name_free h1 (by decide +kernel), s⟩, num_free (by omega) (by decide)⟩
theorem textT_eq {r : Bool} {n : Int} {L : List (Str × Int)} : textT r n L = Txt.join "\n" (rowsT r n L) ++ Str.ofString "\n" := by
  unfold textT
  rw [text_rows, rows_end (by simp [rowsT])]
theorem parse_text {r : Bool} {n : Int} {L : List (Str × Int)} (h : LOk n L) : parseT (textT r n L) = some (r, n, L) := by
  obtain ⟨n1, n2, ok⟩ := h
  have e1 : Txt.endswith (textT r n L) "\n" = true := by rw [textT_eq]; exact PySem.W.KT.ends_app _ _
  have e2 : rowsOf (textT r n L) = rowsT r n L := by
    rw [textT_eq]
    exact rows_of (by simp [rowsT]) (rowsT_free ⟨n1, n2, ok⟩)
  have e3 : allOf wordsOf (rowsT r n L) = some ((kindT r, numT n) :: L.map fun p => (p.1, numT p.2)) := by
    have a1 : wordsOf (headT r n) = some (kindT r, numT n) := words_of (kind_free r).1 (num_free (by omega) (by decide))
    have a2 : allOf wordsOf (L.map rowT) = some (L.map fun p => (p.1, numT p.2)) := by
      have : ∀ M : List (Str × Int), (∀ p ∈ M, nameOk p.1 = true ∧ 1 ≤ p.2 ∧ p.2 ≤ n) → allOf wordsOf (M.map rowT) = some (M.map fun p => (p.1, numT p.2)) := by
        intro M
        induction M with
        | nil => intro _; rfl
        | cons p M ih =>
          intro hM
          obtain ⟨h1, h2, h3⟩ := hM p List.mem_cons_self
          rw [List.map_cons, List.map_cons]
          unfold allOf
          have a3 : wordsOf (rowT p) = some (p.1, numT p.2) := words_of (name_free h1 (by decide +kernel)) (num_free (by omega) (by decide))
          rw [a3, ih fun q hq => hM q (List.mem_cons_of_mem _ hq)]
      exact this L ok
    unfold rowsT allOf
    rw [a1, a2]
  have e4 : allOf toldOf (L.map fun p => (p.1, numT p.2)) = some L := by
    have : ∀ M : List (Str × Int), (∀ p ∈ M, nameOk p.1 = true ∧ 1 ≤ p.2 ∧ p.2 ≤ n) → allOf toldOf (M.map fun p => (p.1, numT p.2)) = some M := by
      intro M
      induction M with
      | nil => intro _; rfl
      | cons p M ih =>
        intro hM
        obtain ⟨h1, h2, h3⟩ := hM p List.mem_cons_self
        rw [List.map_cons]
        unfold allOf
        have a3 : toldOf (p.1, numT p.2) = some p := by
          unfold toldOf
          rw [if_pos h1, numOf_of h2 (by omega)]
          rfl
        rw [a3, ih fun q hq => hM q (List.mem_cons_of_mem _ hq)]
    exact this L ok
  unfold parseT
  rw [if_pos e1, e2, e3]
  show (if kindT r = "quay" ∨ kindT r = "round" then _ else _) = _
  rw [if_pos (by cases r <;> decide +kernel), numOf_of n1 n2, e4]
  show some (decide (kindT r = "round"), n, L) = _
  rw [show decide (kindT r = ("round" : Str)) = r from by cases r <;> decide +kernel]
/-! ### texts that are refused -/
theorem allOf_cons {α β : Type} {f : α → Option β} {a : α} {l : List α} {bs : List β} (h : allOf f (a :: l) = some bs) : ∃ b bs', f a = some b ∧ allOf f l = some bs' ∧ bs = b :: bs' := by
  unfold allOf at h
  cases e1 : f a with
  | none => rw [e1] at h; cases h
  | some b =>
    cases e2 : allOf f l with
    | none => rw [e1, e2] at h; cases h
    | some bs' =>
      rw [e1, e2] at h
      exact ⟨b, bs', rfl, rfl, (Option.some.inj h).symm⟩
theorem allOf_mem {α β : Type} {f : α → Option β} : ∀ {l : List α} {bs : List β}, allOf f l = some bs → ∀ x ∈ l, ∃ b ∈ bs, f x = some b
  | [], _, _, _, h => by cases h
  | a :: l, bs, h, x, hx => by
    obtain ⟨b, bs', h1, h2, rfl⟩ := allOf_cons h
    rcases List.mem_cons.mp hx with rfl | hx
    · exact ⟨b, List.mem_cons_self, h1⟩
    · obtain ⟨c, hc, e⟩ := allOf_mem h2 x hx
      exact ⟨c, List.mem_cons_of_mem _ hc, e⟩
def headBad (row : Str) : Bool := match wordsOf row with
  | none => true
  | some p => !(decide (p.1 = "quay") || decide (p.1 = "round")) || (numOf p.2).isNone
def rowBad (row : Str) : Bool := match wordsOf row with
  | none => true
  | some p => (toldOf p).isNone
theorem parse_head {h : Str} {R : List Str} (hp : ∀ p ∈ h :: R, 10 ∉ tl p) (hb : headBad h = true) : parseT (Txt.join "\n" (h :: R) ++ Str.ofString "\n") = none := by
  unfold parseT
  rw [if_pos (PySem.W.KT.ends_app _ _), rows_of (by simp) hp]
  cases e : allOf wordsOf (h :: R) with
  | none => rfl
  | some W =>
    obtain ⟨⟨w, m⟩, W', h1, h2, rfl⟩ := allOf_cons e
    unfold headBad at hb
    rw [h1] at hb
    have hb : (!(decide (w = ("quay" : Str)) || decide (w = ("round" : Str))) || (numOf m).isNone) = true := hb
    show (if w = "quay" ∨ w = "round" then _ else _) = _
    by_cases c : w = "quay" ∨ w = "round"
    · rw [if_pos c]
      cases e2 : numOf m with
      | none => rfl
      | some n =>
        exfalso
        rw [e2] at hb
        rcases c with c | c <;> simp [c] at hb
    · rw [if_neg c]
theorem parse_row {h row : Str} {R : List Str} (hp : ∀ p ∈ h :: R, 10 ∉ tl p) (hm : row ∈ R) (hb : rowBad row = true) : parseT (Txt.join "\n" (h :: R) ++ Str.ofString "\n") = none := by
  unfold parseT
  rw [if_pos (PySem.W.KT.ends_app _ _), rows_of (by simp) hp]
  cases e : allOf wordsOf (h :: R) with
  | none => rfl
  | some W =>
    obtain ⟨⟨w, m⟩, W', h1, h2, rfl⟩ := allOf_cons e
    obtain ⟨p, hpW, hp1⟩ := allOf_mem h2 row hm
    unfold rowBad at hb
    rw [hp1] at hb
    have no : allOf toldOf W' = none := allOf_none ⟨p, hpW, by simpa using hb⟩
    show (if w = "quay" ∨ w = "round" then _ else _) = _
    by_cases c : w = "quay" ∨ w = "round"
    · rw [if_pos c, no]
      cases numOf m <;> rfl
    · rw [if_neg c]
theorem joinL_last (S : List Nat) : ∀ {ps : List (List Nat)} {q : List Nat}, ∃ pre, joinL S (ps ++ [q]) = pre ++ q
  | [], q => ⟨[], rfl⟩
  | [p], q => ⟨p ++ S, by simp [joinL]⟩
  | p :: p' :: ps, q => by
    obtain ⟨pre, e⟩ := joinL_last S (ps := p' :: ps) (q := q)
    refine ⟨p ++ (S ++ pre), ?_⟩
    show p ++ (S ++ joinL S (p' :: ps ++ [q])) = _
    rw [e]
    simp
theorem no_end {R : List Str} {q : Str} (hq : tl q ≠ []) (hf : 10 ∉ tl q) : Txt.endswith (Txt.join "\n" (R ++ [q])) (Str.ofString "\n") = false := by
  obtain ⟨pre, e⟩ := joinL_last [10] (ps := R.map tl) (q := tl q)
  have et : tl (Txt.join "\n" (R ++ [q])) = pre ++ tl q := by
    rw [tl_joinT, nl_tl, List.map_append]
    exact e
  generalize Txt.join "\n" (R ++ [q]) = z at et
  cases e2 : Txt.endswith z (Str.ofString "\n") with
  | false => rfl
  | true =>
    exfalso
    unfold Txt.endswith at e2
    rw [Bool.and_eq_true, StrLaws.subAt_eq] at e2
    have l1 : (Str.ofString "\n").length = 1 := by decide +kernel
    rw [l1] at e2
    have e3 : ((tl z).drop (z.length - 1)).take 1 = [10] := by
      have := e2.2
      rw [show (Str.ofString "\n").cps.toList = [10] from nl_tl] at this
      exact eq_of_beq this
    have h1 : 1 ≤ (tl q).length := Nat.pos_of_ne_zero fun z => hq (List.eq_nil_of_length_eq_zero z)
    rw [len_tl, et, List.length_append, List.drop_append, List.drop_eq_nil_of_le (by omega), List.nil_append] at e3
    have m : 10 ∈ (tl q).drop (pre.length + (tl q).length - 1 - pre.length) := List.mem_of_mem_take (by rw [e3]; simp)
    exact hf (List.mem_of_mem_drop m)
theorem parse_end {t : Str} (h : Txt.endswith t (Str.ofString "\n") = false) : parseT t = none := by
  unfold parseT
  rw [if_neg (by rw [show Txt.endswith t "\n" = false from h]; exact Bool.false_ne_true)]

/-! ### odd texts -/
open TL
theorem nodup_leS : ∀ {l m : List Str}, l.Nodup → (∀ x ∈ l, x ∈ m) → l.length ≤ m.length
  | [], m, _, _ => Nat.zero_le _
  | a :: l, m, h, s => by
    obtain ⟨h1, h2⟩ := List.nodup_cons.mp h
    have ha := s a List.mem_cons_self
    have := nodup_leS (m := m.erase a) h2 fun x hx => by
      have hne : x ≠ a := fun z => h1 (z ▸ hx)
      exact (List.mem_erase_of_ne hne).mpr (s x (List.mem_cons_of_mem _ hx))
    rw [List.length_erase_of_mem ha] at this
    have := List.length_pos_of_mem ha
    rw [List.length_cons]
    omega
theorem nine {L : List (Str × Int)} (nd : (L.map (·.1)).Nodup) (g : ∀ p ∈ L, p.1 ∈ goodN) : L.length ≤ 9 := by
  have := nodup_leS (m := goodN) nd fun x hx => by
    obtain ⟨p, hp, rfl⟩ := List.mem_map.mp hx
    exact g p hp
  rw [List.length_map] at this
  exact this
theorem join_short {k : Nat} : ∀ {ps : List (List Nat)}, (∀ p ∈ ps, p.length ≤ k) → (joinL [10] ps).length ≤ (k + 1) * ps.length
  | [], _ => by simp [joinL]
  | [p], h => by
    have := h p List.mem_cons_self
    show p.length ≤ _
    rw [List.length_singleton]
    omega
  | p :: q :: r, h => by
    have h1 := h p List.mem_cons_self
    have h2 := join_short (ps := q :: r) fun x hx => h x (List.mem_cons_of_mem _ hx)
    show (p ++ ([10] ++ joinL [10] (q :: r))).length ≤ _
    rw [List.length_append, List.length_append, List.length_singleton, List.length_cons, Nat.mul_succ]
    omega
theorem joinT_short {k : Nat} {R : List Str} (h : ∀ p ∈ R, p.length ≤ k) : (Txt.join "\n" R).length ≤ (k + 1) * R.length := by
  have := join_short (k := k) (ps := R.map tl) fun p hp => by
    obtain ⟨x, hx, rfl⟩ := List.mem_map.mp hp
    rw [← len_tl]
    exact h x hx
  rw [List.length_map] at this
  rw [len_tl, tl_joinT, nl_tl]
  exact this
def oddHeads : List Str := ["quay 0", "round 401", "quay", "dock 5", "quay 05", "quay +5", "round 5 5", "Quay 5", " quay 5", "quay 5 ", ""]
def oddRows : List Str := ["A 1", "a", "a 0", "a 01", "a 401", "a x", "a 1 1", "", "abcdefghi 1", "a  1", " a 1", "a -1", "1 a", "a1 1"]
theorem oddHeads_bad : ∀ h ∈ oddHeads, headBad h = true ∧ 10 ∉ tl h ∧ h.length ≤ 12 := by decide +kernel
theorem oddRows_bad : ∀ h ∈ oddRows, rowBad h = true ∧ 10 ∉ tl h ∧ h.length ≤ 12 := by decide +kernel
theorem rowsT_ne {r : Bool} {n : Int} {L : List (Str × Int)} : ∀ p ∈ rowsT r n L, tl p ≠ [] := fun p hp => by
  have h : ∀ a b : Str, tl (a ++ Str.ofString " " ++ b) ≠ [] := fun a b => by
    rw [tl_append, tl_append, sp_tl]
    simp
  unfold rowsT at hp
  rcases List.mem_cons.mp hp with rfl | hp
  · exact h _ _
  · obtain ⟨q, hq, rfl⟩ := List.mem_map.mp hp
    exact h _ _
theorem no_end2 {R : List Str} (h : R ≠ []) (h1 : ∀ p ∈ R, tl p ≠ []) (h2 : ∀ p ∈ R, 10 ∉ tl p) : Txt.endswith (Txt.join "\n" R) (Str.ofString "\n") = false := by
  have e := List.dropLast_concat_getLast h
  rw [← e]
  exact no_end (h1 _ (List.getLast_mem h)) (h2 _ (List.getLast_mem h))
def sp__law_odd_text (K : PySem.W.Frag) (mg : Str → Option Value) : Sp := fun vs H Q _ => ∃ (cn : Str) (q l d : Addr) (n c : Int) (LL : List (Addr × Str × Int)) (bs : List Int), vs = [.str (textT (clsR cn) n (LL.map (·.2))), .ref q, .int c] ∧ IsQ cn ∧ Quay mg cn n H q l d LL bs ∧ Line cn n (LL.map (·.2)) bs ∧ LL.length ≤ 9 ∧ 0 ≤ c ∧
  ∀ (t : Str) (H' : Hp), parseT t = none → t.length ≤ 900 → Ex H H' → Q (.str t) H'
theorem has__law_odd_text {P : Program} {w : World} {K : PySem.W.Frag} {mg : Str → Option Value} {base : Heap}  (S : B.Stands K mg "_law_odd_text" s__law_odd_text) (N : Nms K mg) (hf_all_ships : B.FamM P w K mg base "all_ships" 1 ["self"] (fun c sp => IsQ c ∧ sp = sp_Quay_all_ships K mg c)) (hf_come : B.FamM P w K mg base "come" 3 ["self", "name", "wish"] (fun c sp => IsQ c ∧ sp = sp_Quay_come K mg c)) (hf_free_ones : B.FamM P w K mg base "free_ones" 1 ["self"] (fun c sp => IsQ c ∧ sp = sp_Quay_free_ones K mg c)) (hf_kind : B.FamM P w K mg base "kind" 1 ["self"] (KindS K mg)) (hf_leave : B.FamM P w K mg base "leave" 4 ["self", "name"] (fun c sp => IsQ c ∧ sp = sp_Quay_leave K mg c)) (hf_size : B.FamM P w K mg base "size" 1 ["self"] (fun c sp => IsQ c ∧ sp = sp_Quay_size K mg c)) (hf_where : B.FamM P w K mg base "where" 2 ["self", "name"] (fun c sp => IsQ c ∧ sp = sp_Quay_where K mg c)) : B.Has P w K mg base "_law_odd_text" 5 ["_law_text_here", "_law_quay", "_law_cell"] (sp__law_odd_text K mg) := by
  refine B.has_ofN S sc__law_odd_text (fun _ _ _ _ _ _ us hl => match us, hl with | [_, _, _], _ => rfl) (fun vs H Q E h => ?_)
    (fun f cdv A outer s H vs Q E hr h => ⟨_, (pss_cons (ps_set (i := 3) sc__law_odd_text.nd rfl (by first | exact Or.inl rfl | exact Or.inr rfl) (pe_slice (r := rSlL K) sl_list (B.pe_splitT (pv 0) pe_str) po_none (po_some (pe_un un_neg pe_int))))
    (pss_cons (ps_set (i := 4) sc__law_odd_text.nd rfl (by first | exact Or.inl rfl | exact Or.inr rfl) (pe_op op_mod (pv 2) (pe_callB (r := B.rLen K) B.call_len (by rfl) N.n_len PySem.boot_len (pa_cons (pv 3) pa_nil))))
    (pss_cons (ps_set (i := 5) sc__law_odd_text.nd rfl (by first | exact Or.inl rfl | exact Or.inr rfl) (pe_callTy (r := B.rStrI) B.call_strI (by rfl) N.n_str B.boot_str (pa_cons (B.pe_methF0 (mg0 := mg) (E := fun _ => E0) (pv 1) hf_size hr B.pass0At) pa_nil)))
    (pss_cons (ps_set (i := 6) sc__law_odd_text.nd rfl (by first | exact Or.inl rfl | exact Or.inr rfl) (pe_lst (pa_cons pe_str (pa_cons pe_str (pa_cons pe_str (pa_cons pe_str (pa_cons pe_str (pa_cons pe_str (pa_cons pe_str (pa_cons pe_str (pa_cons pe_str pa_nil)))))))))))
    (pss_cons (ps_set (i := 6) sc__law_odd_text.nd rfl (by first | exact Or.inl rfl | exact Or.inr rfl) (pe_op op_cat (pv 6) (pe_lst (pa_cons pe_str (pa_cons pe_str pa_nil)))))
    (pss_cons (ps_if (pt_cmpR op_eq (pe_op op_mod (pe_op op_fdiv (pv 2) pe_int) pe_int) pe_int (nomark _)) (pss_cons (ps_asg (pe_ix (r := rIxL K) ix_list (pv 6) (pe_op op_mod (pe_op op_fdiv (pv 2) pe_int) pe_int) (fun _ _ => rfl)) (pg_sub (pv 3) pe_int set_list))
    (pss_one (ps_ret (pe_op B.op_addS (B.pe_join pe_str (pv 3)) pe_str)))) pss_nil)
    (pss_cons (ps_set (i := 7) sc__law_odd_text.nd rfl (by first | exact Or.inl rfl | exact Or.inr rfl) (pe_lst (pa_cons pe_str (pa_cons pe_str (pa_cons pe_str (pa_cons pe_str (pa_cons pe_str (pa_cons pe_str (pa_cons pe_str (pa_cons pe_str (pa_cons pe_str (pa_cons pe_str (pa_cons pe_str (pa_cons pe_str pa_nil))))))))))))))
    (pss_cons (ps_set (i := 7) sc__law_odd_text.nd rfl (by first | exact Or.inl rfl | exact Or.inr rfl) (pe_op op_cat (pv 7) (pe_lst (pa_cons pe_str (pa_cons pe_str pa_nil)))))
    (pss_cons (ps_expr (pe_bm PySem.F.plainAttrs_list PySem.F.slot_list_insert PySem.F.type_list_insert mt_insert (pv 3) (pa_cons (pe_op op_add (pv 4) pe_int) (pa_cons (pe_ix (r := rIxL K) ix_list (pv 7) (pe_op op_mod (pe_op op_fdiv (pv 2) pe_int) pe_int) (fun _ _ => rfl)) pa_nil))))
    (pss_one (ps_ret (pe_ix (r := rIxL K) ix_list (pe_lst (pa_cons (pe_op B.op_addS (B.pe_join pe_str (pv 3)) pe_str) (pa_cons (B.pe_join pe_str (pe_slice (r := rSlL K) sl_list (pv 3) po_none (po_some (pe_op op_add (pv 4) pe_int)))) pa_nil))) (pe_callTy B.call_int1 (by rfl) N.n_int B.boot_int (pa_cons (pe_cmpR op_eq (pe_op op_mod (pe_op op_fdiv (pv 2) pe_int) pe_int) pe_int (nomark _)) pa_nil)) (fun _ _ => rfl))))))))))))), ?_⟩)
  · obtain ⟨cn, q, l, d, n, c, LL, bs, rfl, _⟩ := h
    rfl
  · obtain ⟨cn, q, l, d, n, c, LL, bs, rfl, iq, Qy, Ln, l9, c0, post⟩ := h
    have n1 := Ln.n1
    have n2 := Ln.n2
    have lok : LOk n (LL.map (·.2)) := ⟨n1, n2, Ln.ok⟩
    have RL := rowsT_len Ln (r := clsR cn)
    have RF := rowsT_free (r := clsR cn) lok
    obtain ⟨dx, hq⟩ := Qy.ins
    have te : textT (clsR cn) n (LL.map (·.2)) = Txt.join "\n" (rowsT (clsR cn) n (LL.map (·.2)) ++ [Str.ofString ""]) := by
      rw [textT_eq, rows_end (by simp [rowsT])]
    rw [te]
    obtain ⟨RT, hRT⟩ : ∃ RT, RT = (LL.map (·.2)).map rowT := ⟨_, rfl⟩
    have RTl : RT.length ≤ 9 := by rw [hRT, List.length_map, List.length_map]; exact l9
    have eR : rowsT (clsR cn) n (LL.map (·.2)) = headT (clsR cn) n :: RT := by rw [hRT]; rfl
    have RN := rowsT_ne (r := clsR cn) (n := n) (L := LL.map (·.2))
    rw [eR] at RL RF RN ⊢
    clear hRT eR te
    generalize headT (clsR cn) n = hd at RL RF RN ⊢
    have sp : Txt.split (Txt.join "\n" (hd :: RT ++ [Str.ofString ""])) (Str.ofString "\n") = hd :: RT ++ [Str.ofString ""] := split_rows (by simp) fun p hp => by
      rcases List.mem_append.mp hp with hp | hp
      · exact RF p hp
      · rw [List.mem_singleton.mp hp, nil_tl]
        simp
    have tlen : (Txt.join "\n" (hd :: RT ++ [Str.ofString ""])).length ≤ 1000 := by
      have := joinT_short (k := 12) (R := hd :: RT ++ [Str.ofString ""]) fun p hp => by
        rcases List.mem_append.mp hp with hp | hp
        · exact RL p hp
        · rw [List.mem_singleton.mp hp]
          decide +kernel
      rw [List.length_append, List.length_cons, List.length_singleton] at this
      omega
    walk_at "go"
    refine x_split (by decide +kernel) (by omega) fun p1 H1 _ e1 hp1 => ?_
    rw [sp, List.map_append] at hp1
    walk_at "go"
    refine x_slL (lo := none) (hi := some (-1)) (Evl.sq_of hp1) fun rp H2 rp0 e2 hrp => ?_
    rw [cut_init, List.map_singleton, List.dropLast_concat] at hrp
    walk_at "go"
    rw [List.length_map, List.length_cons]
    refine x_mod (by omega) fun i1 i10 i11 _ => ?_
    have ex2 := e1.trans e2
    walk_at "go"
    refine x_onM (c := cn) ⟨iq, rfl⟩ (ex2 _ _ hq) rfl ?_
    refine ⟨q, l, d, dx, n, rfl, iq, ex2 _ _ hq, ?_⟩
    walk_at "go"
    refine x_strI (small_log (by omega) n2) ?_
    walk_at "go"
    refine x_mkL (by simp) fun p2 H3 _ e3 hp2 => ?_
    walk_at "go"
    refine x_mkL (by simp) fun p3 H4 _ e4 hp3 => ?_
    refine x_cat (e4 _ _ hp2) hp3 (by simp) fun p4 H5 p40 e5 hp4 => ?_
    have hrp5 := e5 _ _ (e4 _ _ (e3 _ _ hrp))
    have ex5 : Ex H H5 := ex2.trans (e3.trans (e4.trans e5))
    have rpH : H rp = none := exn e1 rp0
    have n4 : p4 ≠ rp := fun z => by rw [z, e4 _ _ (e3 _ _ hrp)] at p40; cases p40
    have nlen : (Str.ofString "\n").length = 1 := by decide +kernel
    -- the text of rows, the last with its end
    have told : ∀ R : List Str, R.length ≤ 20 → (∀ p ∈ R, p.length ≤ 12) → (Txt.join "\n" R).length ≤ 260 := fun R h1 h2 => by
      have := joinT_short h2
      omega
    walk_at "go"
    refine x_fdiv (by decide) ?_
    walk_at "go"
    refine x_mod (by decide) fun i2 i20 i21 _ => ?_
    walk_at "go"
    refine x_dec (fun c1 => ?_) (fun c1 => ?_)
    · walk_at "go"
      refine x_fdiv (by decide) ?_
      walk_at "go"
      refine x_mod (by decide) fun i3 i30 i31 _ => ?_
      obtain ⟨v, ev, hv⟩ := at_mem (xs := [.str "quay 0", .str "round 401", .str "quay", .str "dock 5", .str "quay 05", .str "quay +5", .str "round 5 5", .str "Quay 5", .str " quay 5"] ++ [.str "quay 5 ", .str ""]) i30 (by simpa using i31)
      refine x_ixL (v := v) (Evl.sq_of hp4) ev ?_
      obtain ⟨h, rfl, hh⟩ : ∃ h, v = .str h ∧ h ∈ oddHeads := by
        simp only [List.cons_append, List.nil_append, List.mem_cons, List.not_mem_nil, or_false] at hv
        unfold oddHeads
        rcases hv with rfl | rfl | rfl | rfl | rfl | rfl | rfl | rfl | rfl | rfl | rfl <;> exact ⟨_, rfl, by simp⟩
      obtain ⟨b1, b2, b3⟩ := oddHeads_bad h hh
      walk_at "go"
      refine x_setL (n := 0) hrp5 (by simp) fun H6 u6 => ?_
      have h6 : H6 rp = some (.lst ((h :: RT).map V.str)) := u6.same
      have ex6 : Ex H H6 := u6.ex ex5 rpH
      have rl : ∀ p ∈ h :: RT, p.length ≤ 12 := fun p hp => by
        rcases List.mem_cons.mp hp with rfl | hp
        · exact b3
        · exact RL p (List.mem_cons_of_mem _ hp)
      have rf : ∀ p ∈ h :: RT, 10 ∉ tl p := fun p hp => by
        rcases List.mem_cons.mp hp with rfl | hp
        · exact b2
        · exact RF p (List.mem_cons_of_mem _ hp)
      have jl := told _ (by rw [List.length_cons]; omega) rl
      walk_at "go"
      have sl := sum_le rl
      refine x_joinL (ys := h :: RT) (Evl.sq_of h6) (by rw [nlen]; rw [List.length_cons] at sl ⊢; omega) ?_
      walk_at "go"
      refine x_addS (a := Txt.join "\n" (h :: RT)) (b := Str.ofString "\n") (by rw [nlen]; omega) ?_
      exact post _ H6 (parse_head rf b1) (by rw [app_len, nlen]; omega) ex6
    · walk_at "go"
      refine x_mkL (by simp) fun p5 H6 _ e6 hp5 => ?_
      walk_at "go"
      refine x_mkL (by simp) fun p6 H7 _ e7 hp6 => ?_
      refine x_cat (e7 _ _ hp5) hp6 (by simp) fun p7 H8 p70 e8 hp7 => ?_
      have hrp8 := e8 _ _ (e7 _ _ (e6 _ _ hrp5))
      have ex8 : Ex H H8 := ex5.trans (e6.trans (e7.trans e8))
      walk_at "go"
      refine x_fdiv (by decide) ?_
      walk_at "go"
      refine x_mod (by decide) fun i3 i30 i31 _ => ?_
      obtain ⟨v, ev, hv⟩ := at_mem (xs := [.str "A 1", .str "a", .str "a 0", .str "a 01", .str "a 401", .str "a x", .str "a 1 1", .str "", .str "abcdefghi 1", .str "a  1", .str " a 1", .str "a -1"] ++ [.str "1 a", .str "a1 1"]) i30 (by simpa using i31)
      refine x_ixL (v := v) (Evl.sq_of hp7) ev ?_
      obtain ⟨row, rfl, hh⟩ : ∃ h, v = .str h ∧ h ∈ oddRows := by
        simp only [List.cons_append, List.nil_append, List.mem_cons, List.not_mem_nil, or_false] at hv
        unfold oddRows
        rcases hv with rfl | rfl | rfl | rfl | rfl | rfl | rfl | rfl | rfl | rfl | rfl | rfl | rfl | rfl <;> exact ⟨_, rfl, by simp⟩
      obtain ⟨b1, b2, b3⟩ := oddRows_bad row hh
      clear ev hv hh
      obtain ⟨i, rfl⟩ : ∃ i : Nat, i1 = i := ⟨i1.toNat, by omega⟩
      have il : i ≤ RT.length := by omega
      walk_at "go"
      refine ⟨rp, _, (i : Int) + 1, .str row, rfl, rfl, hrp8, szl (by rw [List.length_map, List.length_cons]; omega), by omega, by omega, ?_⟩
      obtain ⟨H9, hH9⟩ : ∃ H9, H9 = L2.upd H8 rp (.lst (((hd :: RT).map V.str).take ((i : Int) + 1).toNat ++ [.str row] ++ ((hd :: RT).map V.str).drop ((i : Int) + 1).toNat)) := ⟨_, rfl⟩
      rw [← hH9]
      have u9 : Upd H8 rp (.lst (((hd :: RT).map V.str).take ((i : Int) + 1).toNat ++ [.str row] ++ ((hd :: RT).map V.str).drop ((i : Int) + 1).toNat)) H9 := by rw [hH9]; exact .mk0
      have ex9 : Ex H H9 := u9.ex ex8 rpH
      obtain ⟨R2, hR2⟩ : ∃ R2, R2 = RT.take i ++ [row] ++ RT.drop i := ⟨_, rfl⟩
      have h9 : H9 rp = some (.lst ((hd :: R2).map V.str)) := by
        rw [u9.same, hR2, show ((i : Int) + 1).toNat = i + 1 from by omega]
        simp [List.map_take, List.map_drop]
      have rm : ∀ p ∈ R2, p ∈ RT ∨ p = row := fun p hp => by
        rw [hR2] at hp
        rcases List.mem_append.mp hp with hp | hp
        · rcases List.mem_append.mp hp with hp | hp
          · exact .inl (List.mem_of_mem_take hp)
          · exact .inr (List.mem_singleton.mp hp)
        · exact .inl (List.mem_of_mem_drop hp)
      have rowm : row ∈ R2 := by rw [hR2]; simp
      have R2l : R2.length ≤ 10 := by
        rw [hR2, List.length_append, List.length_append, List.length_take, List.length_drop, List.length_singleton]
        omega
      have R2t : (hd :: R2).take (i + 1) = hd :: RT.take i := by
        rw [hR2, List.take_succ_cons, List.append_assoc, List.take_append_of_le_length (by rw [List.length_take]; omega), List.take_take, Nat.min_self]
      have rl : ∀ p ∈ hd :: R2, p.length ≤ 12 := fun p hp => by
        rcases List.mem_cons.mp hp with rfl | hp
        · exact RL _ List.mem_cons_self
        · rcases rm p hp with hp | rfl
          · exact RL p (List.mem_cons_of_mem _ hp)
          · exact b3
      have rf : ∀ p ∈ hd :: R2, 10 ∉ tl p := fun p hp => by
        rcases List.mem_cons.mp hp with rfl | hp
        · exact RF _ List.mem_cons_self
        · rcases rm p hp with hp | rfl
          · exact RF p (List.mem_cons_of_mem _ hp)
          · exact b2
      have jl := told _ (by rw [List.length_cons]; omega) rl
      have tk : ∀ p ∈ hd :: RT.take i, p ∈ hd :: RT := fun p hp => by
        rcases List.mem_cons.mp hp with rfl | hp
        · exact List.mem_cons_self
        · exact List.mem_cons_of_mem _ (List.mem_of_mem_take hp)
      have jl2 := told (hd :: RT.take i) (by rw [List.length_cons, List.length_take]; omega) fun p hp => RL p (tk p hp)
      walk_at "go"
      have sl := sum_le rl
      refine x_joinL (ys := hd :: R2) (Evl.sq_of h9) (by rw [nlen]; rw [List.length_cons] at sl ⊢; omega) ?_
      walk_at "go"
      refine x_addS (a := Txt.join "\n" (hd :: R2)) (b := Str.ofString "\n") (by rw [nlen]; omega) ?_
      walk_at "go"
      refine x_slL (lo := none) (hi := some ((i + 1 : Nat) : Int)) (Evl.sq_of h9) fun p8 H10 _ e10 hp8 => ?_
      rw [cut_to, ← List.map_take, R2t] at hp8
      have sl2 := sum_le (k := 12) (ys := hd :: RT.take i) fun p hp => RL p (tk p hp)
      have tkl : (RT.take i).length ≤ 9 := by rw [List.length_take]; omega
      walk_at "go"
      refine x_joinL (ys := hd :: RT.take i) (Evl.sq_of hp8) (by rw [nlen]; rw [List.length_cons] at sl2 ⊢; omega) ?_
      walk_at "go"
      refine x_mkL (by simp) fun p9 H11 _ e11 hp9 => ?_
      walk_at "go"
      refine x_fdiv (by decide) ?_
      walk_at "go"
      refine x_mod (by decide) fun i4 i40 i41 _ => ?_
      walk_at "go"
      refine x_intB ?_
      have ex11 := ex9.trans (e10.trans e11)
      by_cases c4 : i4 = 1
      · refine x_ixL (v := .str (Txt.join "\n" (hd :: RT.take i))) (Evl.sq_of hp9) (by rw [c4]; rfl) ?_
        exact post _ H11 (parse_end (no_end2 (by simp) (fun p hp => RN p (tk p hp)) fun p hp => RF p (tk p hp))) (by omega) ex11
      · refine x_ixL (v := .str (Txt.join "\n" (hd :: R2) ++ Str.ofString "\n")) (Evl.sq_of hp9) (by
          rw [show (decide (V.int i4 = V.int 1)) = false from decide_eq_false fun z => c4 (V.int.inj z)]
          rfl) ?_
        exact post _ H11 (parse_row rf rowm b1) (by rw [app_len, nlen]; omega) ex11

def sp_law (K : PySem.W.Frag) : Sp := fun vs H Q _ => ∃ (a : Addr) (ns : List Int), vs = [.ref a] ∧ SqL K H a (ns.map V.int) ∧ ns.length ≤ 63 ∧ ∀ H', Q (.bl true) H'

/-! ### the law -/
theorem Moves.ex {H H' : Hp} {mv : Addr} {ms : List (Str × Int × Int)} (e : Ex H H') (h : Moves H mv ms) : Moves H' mv ms := by
  obtain ⟨MM, h1, h2, h3⟩ := h
  exact ⟨MM, e _ _ h1, fun x hx => e _ _ (h2 x hx), h3⟩
theorem letters_ok : ∀ c ∈ okSigns, c < 128 := by decide +kernel
theorem name_strOk {s : Str} (h : nameOk s = true) : PyData.strOk s = true := by
  unfold nameOk at h
  simp only [Bool.and_eq_true, List.all_map, List.all_eq_true] at h
  unfold PyData.strOk
  rw [Array.all_eq_true']
  intro c hc
  have h1 := h.2.2 c (by simpa using hc)
  have := letters_ok c (of_decide_eq_true h1)
  exact decide_eq_true (by omega)
theorem moves_rows {H : Hp} {mv : Addr} {ms : List (Str × Int × Int)} (h : Moves H mv ms) : RowsAt H mv (ms.map fun m => [.str m.1, .int m.2.1, .int m.2.2]) := by
  obtain ⟨MM, h1, h2, rfl⟩ := h
  refine ⟨MM.map (·.1), ?_, by rw [List.length_map, List.length_map, List.length_map], fun i p r g1 g2 => ?_⟩
  · rw [h1, List.map_map]
    rfl
  · rw [List.map_map, List.getElem?_map] at g2
    rw [List.getElem?_map] at g1
    cases e : MM[i]? with
    | none => rw [e] at g1; cases g1
    | some x =>
      rw [e] at g1 g2
      obtain rfl := Option.some.inj g1
      obtain rfl := Option.some.inj g2
      exact h2 x (List.mem_of_getElem? e)
theorem trips_ok {L : List (Str × Int × Int)} (h : ∀ p ∈ L, PyData.strOk p.1 = true) : rowsOk (L.map fun m => [V.str m.1, .int m.2.1, .int m.2.2]) := fun r hr => by
  obtain ⟨p, hp, rfl⟩ := List.mem_map.mp hr
  simp [scOk, h p hp]
theorem text_short {r : Bool} {n : Int} {L : List (Str × Int)} {bs : List Int} {cn : Str} (Ln : Line cn n L bs) (h : L.length ≤ 9) : (textT r n L).length ≤ 300 := by
  have RL := rowsT_len Ln (r := r)
  rw [textT_eq, app_len, show (Str.ofString "\n").length = 1 from by decide +kernel]
  have := joinT_short RL
  have e : (rowsT r n L).length = L.length + 1 := by unfold rowsT; rw [List.length_cons, List.length_map]
  omega
theorem come_all {n : Int} {r : Bool} : ∀ (rest done : List (Str × Int)) (cs bs : List Int), ((done ++ rest).map (·.1)).Nodup → (∀ p ∈ rest, 1 ≤ p.2 ∧ p.2 ≤ n) → lay n r (done.map (·.2)) = some cs → lay n r ((done ++ rest).map (·.2)) = some bs → comeAll n r done cs rest = .inr bs
  | [], done, cs, bs, _, _, h1, h2 => by
    rw [List.append_nil, h1] at h2
    rw [Option.some.inj h2]
    rfl
  | p :: rest, done, cs, bs, nd, ok, h1, h2 => by
    have e : done ++ p :: rest = (done ++ [p]) ++ rest := by simp
    have nin : p.1 ∉ done.map (·.1) := fun z => by
      rw [List.map_append, List.nodup_append] at nd
      exact nd.2.2 _ z p.1 (by simp) rfl
    have wp := ok p List.mem_cons_self
    unfold comeAll
    rw [if_neg nin, if_pos wp]
    cases hf : freeOf n r cs p.2 with
    | none =>
      have := lay_none n r _ (lay_stop h1 hf) (rest.map (·.2))
      rw [e, List.map_append, List.map_append, List.map_singleton, this] at h2
      cases h2
    | some b =>
      have := lay_join h1 hf
      exact come_all rest (done ++ [p]) (cs ++ [b]) bs (by rw [← e]; exact nd) (fun x hx => ok x (List.mem_cons_of_mem _ hx)) (by rw [List.map_append, List.map_singleton]; exact this) (by rw [← e]; exact h2)
theorem Line.come {r : Bool} {n : Int} {L : List (Str × Int)} {bs : List Int} (h : Line (clsN r) n L bs) : comeAll n r [] [] L = .inr bs := by
  have l := h.lays
  rw [(clsN_ok r).2] at l
  exact come_all L [] [] bs h.nd (fun p hp => (h.ok p hp).2) rfl l
theorem row_empty : rowBad (Str.ofString "") = true ∧ headBad (Str.ofString "") = true := by decide +kernel
theorem text_more {r : Bool} {n : Int} {L : List (Str × Int)} (h : LOk n L) : parseT (textT r n L ++ Str.ofString "\n") = none := by
  rw [textT_eq, rows_end (by simp [rowsT])]
  unfold rowsT
  rw [List.cons_append]
  refine parse_row (row := Str.ofString "") (fun p hp => ?_) (by simp) row_empty.1
  rw [← List.cons_append] at hp
  rcases List.mem_append.mp hp with hp | hp
  · exact rowsT_free (r := r) h p hp
  · rw [List.mem_singleton.mp hp, nil_tl]
    simp
theorem text_less {r : Bool} {n : Int} {L : List (Str × Int)} (h : LOk n L) : parseT (Str.ofString "\n" ++ textT r n L) = none := by
  have e : Str.ofString "\n" ++ textT r n L = Txt.join "\n" (Str.ofString "" :: rowsT r n L) ++ Str.ofString "\n" := by
    rw [textT_eq]
    refine ext_tl ?_
    rw [tl_append, tl_append, tl_append, tl_joinT, tl_joinT, nl_tl, List.map_cons, nil_tl]
    unfold rowsT
    rw [List.map_cons]
    show _ = ([] ++ ([10] ++ joinL [10] (tl (headT r n) :: (L.map rowT).map tl))) ++ [10]
    simp
  rw [e]
  refine parse_head (fun p hp => ?_) row_empty.2
  rcases List.mem_cons.mp hp with rfl | hp
  · rw [nil_tl]
    simp
  · exact rowsT_free (r := r) h p hp
theorem text_cut {r : Bool} {n : Int} {L : List (Str × Int)} (h : LOk n L) : parseT (cutS (textT r n L) none (some (-1))) = none := by
  rw [textT_eq, cut_last]
  exact parse_end (no_end2 (by simp [rowsT]) rowsT_ne (rowsT_free h))
theorem odd_few : parseT (Str.ofString "") = none ∧ parseT (Str.ofString "quay 5") = none ∧ parseT (Str.ofString "\n") = none := by decide +kernel
def dues : List (Str × Str) := [("b 2\n", "room"), ("a 1\n", "taken"), ("b 3\n", "wish"), ("b 2\nA 1\n", "text"), ("a 3\n", "taken")]
theorem dues_tell : ∀ x ∈ dues, Tells (Str.ofString "quay 2\na 2\n" ++ x.1) x.2 ∧ (Str.ofString "quay 2\na 2\n").length + x.1.length ≤ 900 := fun x hx => by
  unfold dues at hx
  simp only [List.mem_cons, List.not_mem_nil, or_false] at hx
  rcases hx with rfl | rfl | rfl | rfl | rfl
  · exact ⟨.inr ⟨false, 2, [("a", 2), ("b", 2)], "NoRoom", by decide +kernel, by decide +kernel, .inr (.inr ⟨rfl, rfl⟩)⟩, by decide +kernel⟩
  · exact ⟨.inr ⟨false, 2, [("a", 2), ("a", 1)], "Taken", by decide +kernel, by decide +kernel, .inl ⟨rfl, rfl⟩⟩, by decide +kernel⟩
  · exact ⟨.inr ⟨false, 2, [("a", 2), ("b", 3)], "NoWish", by decide +kernel, by decide +kernel, .inr (.inl ⟨rfl, rfl⟩)⟩, by decide +kernel⟩
  · exact ⟨.inl ⟨by decide +kernel, rfl⟩, by decide +kernel⟩
  · exact ⟨.inr ⟨false, 2, [("a", 2), ("a", 3)], "Taken", by decide +kernel, by decide +kernel, .inl ⟨rfl, rfl⟩⟩, by decide +kernel⟩
theorem last_tell : parseT (Str.ofString "round 2\na 2\nb 2\n") = some (true, (2 : Int), ([("a", 2), ("b", 2)] : List (Str × Int))) ∧ comeAll 2 true [] [] ([("a", 2), ("b", 2)] : List (Str × Int)) = .inr [2, 1] := by decide +kernel
theorem law_ok {P : Program} {w : World} {K : PySem.W.Frag} {mg : Str → Option Value} {base : Heap}  {f : Addr} {fd : FuncData} (F : Fun K "law" "law" s_law f fd) (N : Nms K mg)
    (h__law_drawn : B.Has P w K mg base "_law_drawn" 5 ["_law_script"] (sp__law_drawn K mg)) (h_written : B.Has P w K mg base "written" 5 ["quay"] (sp_written K mg)) (h_read : B.Has P w K mg base "read" 5 ["text"] (sp_read K mg)) (h__law_read : B.Has P w K mg base "_law_read" 6 ["_law_text_here"] (sp__law_read K mg)) (h__law_text : B.Has P w K mg base "_law_text" 5 ["_law_quay"] (sp_written K mg)) (h__law_odd_text : B.Has P w K mg base "_law_odd_text" 5 ["_law_text_here", "_law_quay", "_law_cell"] (sp__law_odd_text K mg)) (hf_all_ships : B.FamM P w K mg base "all_ships" 1 ["self"] (fun c sp => IsQ c ∧ sp = sp_Quay_all_ships K mg c)) (hf_come : B.FamM P w K mg base "come" 3 ["self", "name", "wish"] (fun c sp => IsQ c ∧ sp = sp_Quay_come K mg c)) (hf_free_ones : B.FamM P w K mg base "free_ones" 1 ["self"] (fun c sp => IsQ c ∧ sp = sp_Quay_free_ones K mg c)) (hf_kind : B.FamM P w K mg base "kind" 1 ["self"] (KindS K mg)) (hf_leave : B.FamM P w K mg base "leave" 4 ["self", "name"] (fun c sp => IsQ c ∧ sp = sp_Quay_leave K mg c)) (hf_size : B.FamM P w K mg base "size" 1 ["self"] (fun c sp => IsQ c ∧ sp = sp_Quay_size K mg c)) (hf_where : B.FamM P w K mg base "where" 2 ["self", "name"] (fun c sp => IsQ c ∧ sp = sp_Quay_where K mg c)) :
    FnOk P w K mg base (L2.CX P w) 7 f fd ["_law_script"] (sp_law K) := by
  refine B.fn_okN F sc_law (fun vs H Q E h => ?_)
    (fun cdv A outer s H vs Q E hr h => ⟨_, (pss_cons (ps_set (i := 1) sc_law.nd rfl (by first | exact Or.inl rfl | exact Or.inr rfl) (B.pe_has h__law_drawn hr B.passL (pa_cons (pv 0) pa_nil)))
    (pss_cons (ps_set (i := 2) sc_law.nd rfl (by first | exact Or.inl rfl | exact Or.inr rfl) (B.pe_has h_written hr B.passL (pa_cons (pv 1) pa_nil)))
    (pss_cons (ps_if (PW.pt (pw_or (pt_not (pt_val (pe_callB (r := rIsi K) call_isi (by rfl) N.n_isinstance B.boot_isinstance (pa_cons (pv 2) (pa_cons (pe_bltn (v := .ty "str") (by rfl) N.n_str B.boot_str rfl) pa_nil))))) (pw_or1 (pt_cmpR op_ne (pv 2) (B.pe_has h__law_text hr B.passL (pa_cons (pv 1) pa_nil)) (nomark _))))) (pss_one (ps_ret pe_bl)) pss_nil)
    (pss_cons (ps_set (i := 3) sc_law.nd rfl (by first | exact Or.inl rfl | exact Or.inr rfl) (B.pe_has h_read hr B.passL (pa_cons (pv 2) pa_nil)))
    (pss_cons (ps_set (i := 4) sc_law.nd rfl (by first | exact Or.inl rfl | exact Or.inr rfl) (pe_lst (pa_cons (pe_callB (r := rIsi K) call_isi (by rfl) N.n_isinstance B.boot_isinstance (pa_cons (pv 3) (pa_cons (B.pe_cls N.m_Round) pa_nil))) (pa_cons (pe_callB (r := rIsi K) call_isi (by rfl) N.n_isinstance B.boot_isinstance (pa_cons (pv 1) (pa_cons (B.pe_cls N.m_Round) pa_nil))) pa_nil))))
    (pss_cons (ps_if (PW.pt (pw_or (pt_not (pt_val (pe_callB (r := rIsi K) call_isi (by rfl) N.n_isinstance B.boot_isinstance (pa_cons (pv 3) (pa_cons (B.pe_cls N.m_Quay) pa_nil))))) (pw_or (pt_cmpR op_ne (pe_ix (r := rIxL K) ix_list (pv 4) pe_int (fun _ _ => rfl)) (pe_ix (r := rIxL K) ix_list (pv 4) pe_int (fun _ _ => rfl)) (nomark _)) (pw_or1 (pt_cmpR (r := rNeD K) (op_neD hr.units) (B.pe_methF0 (mg0 := mg) (E := fun _ => E0) (pv 3) hf_all_ships hr B.pass0At) (B.pe_methF0 (mg0 := mg) (E := fun _ => E0) (pv 1) hf_all_ships hr B.pass0At) (nomark _)))))) (pss_one (ps_ret pe_bl)) pss_nil)
    (pss_cons (ps_if (PW.pt (pw_or (pt_cmpR op_ne (B.pe_methF0 (mg0 := mg) (E := fun _ => E0) (pv 3) hf_size hr B.pass0At) (B.pe_methF0 (mg0 := mg) (E := fun _ => E0) (pv 1) hf_size hr B.pass0At) (nomark _)) (pw_or (pt_cmpR (r := rNeD K) (op_neD hr.units) (B.pe_methF0 (mg0 := mg) (E := fun _ => E0) (pv 3) hf_free_ones hr B.pass0At) (B.pe_methF0 (mg0 := mg) (E := fun _ => E0) (pv 1) hf_free_ones hr B.pass0At) (nomark _)) (pw_or1 (pt_cmpR op_ne (B.pe_has h_written hr B.passL (pa_cons (pv 3) pa_nil)) (pv 2) (nomark _)))))) (pss_one (ps_ret pe_bl)) pss_nil)
    (pss_cons (ps_for PassesOwn.never rfl (pi_list (pe_op op_cat (pe_lst (pa_cons pe_int pa_nil)) (pe_slice (r := rSlL K) sl_list (pv 0) po_none (po_some pe_int)))) (pg_name (i := 5) sc_law.nd rfl (by first | exact Or.inl rfl | exact Or.inr rfl)) (pss_one (ps_if (pt_cmpR (r := rNeD K) (op_neD hr.units) (B.pe_has h__law_read hr B.passL (pa_cons (B.pe_has h__law_odd_text hr B.passL (pa_cons (pv 2) (pa_cons (pv 1) (pa_cons (pe_op op_mod (pv 5) (pe_op op_pow pe_int pe_int)) pa_nil)))) pa_nil)) pe_str (nomark _)) (pss_one (ps_ret pe_bl)) pss_nil)))
    (pss_cons (ps_for PassesOwn.never rfl (pi_list (pe_lst (pa_cons pe_non (pa_cons pe_int (pa_cons pe_str (pa_cons pe_str (pa_cons (pe_lst (pa_cons (pv 2) pa_nil)) (pa_cons pe_str (pa_cons (pe_op B.op_addS (pv 2) pe_str) (pa_cons (pe_op B.op_addS pe_str (pv 2)) (pa_cons (pe_slice sl_str (pv 2) po_none (po_some (pe_un un_neg pe_int))) pa_nil))))))))))) (pg_name (i := 6) sc_law.nd rfl (by first | exact Or.inl rfl | exact Or.inr rfl)) (pss_one (ps_if (pt_cmpR (r := rNeD K) (op_neD hr.units) (B.pe_has h__law_read hr B.passL (pa_cons (pv 6) pa_nil)) pe_str (nomark _)) (pss_one (ps_ret pe_bl)) pss_nil)))
    (pss_cons (ps_set (i := 7) sc_law.nd rfl (by first | exact Or.inl rfl | exact Or.inr rfl) pe_str)
    (pss_cons (ps_setLc (i := 8) (own := [("_law_more", 9)]) (g := (gName 9)) rfl sc_law.nd rfl rfl (sw_true rfl rfl rfl (by decide +kernel)) (pi_list (pe_lst (pa_cons pe_str (pa_cons pe_str (pa_cons pe_str (pa_cons pe_str (pa_cons pe_str pa_nil))))))) (blkOk_by (own := [("_law_more", 9)]) (N := n_law) (sc := defScope s_law) (by decide +kernel)) (fun _ _ _ _ _ => (pg_name (i := 9) sc_law.nd rfl (by first | exact Or.inl rfl | exact Or.inr rfl))) (fun _ _ _ _ _ => pts_nil) (fun _ _ _ _ _ => (B.pe_has h__law_read hr B.passL (pa_cons (pe_op B.op_addS (pv 7) (pv 9)) pa_nil))))
    (pss_cons (ps_if (pt_cmpR (r := rNeD K) (op_neD hr.units) (pv 8) (pe_lst (pa_cons pe_str (pa_cons pe_str (pa_cons pe_str (pa_cons pe_str (pa_cons pe_str pa_nil)))))) (nomark _)) (pss_one (ps_ret pe_bl)) pss_nil)
    (pss_one (ps_ret (pe_cmpR (r := rEqD K) (op_eqD hr.units) (B.pe_methF0 (mg0 := mg) (E := fun _ => E0) (B.pe_has h_read hr B.passL (pa_cons pe_str pa_nil)) hf_all_ships hr B.pass0At) (pe_lst (pa_cons (pe_tup (pa_cons pe_str (pa_cons pe_int (pa_cons pe_int pa_nil)))) (pa_cons (pe_tup (pa_cons pe_str (pa_cons pe_int (pa_cons pe_int pa_nil)))) pa_nil))) (nomark _)))))))))))))))), ?_⟩)
  · obtain ⟨a, ns, rfl, _⟩ := h
    rfl
  · obtain ⟨a, ns, rfl, hs, hl, post⟩ := h
    walk_at "go"
    refine ⟨a, ns, rfl, hs, hl, fun r q l d n LL bs H1 Qy Ln gn e1 q0 l0 d0 => ?_⟩
    obtain ⟨iq, er⟩ := clsN_ok r
    have n1 := Ln.n1
    have n2 := Ln.n2
    have l9 : LL.length ≤ 9 := by
      have := nine Ln.nd gn
      rwa [List.length_map] at this
    have lok : LOk n (LL.map (·.2)) := ⟨n1, n2, Ln.ok⟩
    have pt := parse_text (r := r) lok
    have ts := text_short (r := r) Ln (by rw [List.length_map]; exact l9)
    walk_at "go"
    refine ⟨clsN r, q, l, d, n, LL, bs, rfl, iq, Qy, Ln, fun H2 e2 => ?_⟩
    rw [er]
    walk_at "go"
    refine x_isi_str (.str _) ?_
    rw [show KS.isA KS.str "str" = true from rfl]
    walk_at "go"
    refine ⟨clsN r, q, l, d, n, LL, bs, rfl, iq, Qy.ex e2, Ln, fun H3 e3 => ?_⟩
    rw [er]
    walk_at "go"
    refine x_decN (fun z => absurd rfl z) fun _ => ?_
    walk_at "go"
    refine ⟨_, rfl, .inr ⟨_, rfl, by omega, (fun z => by rw [pt] at z; cases z), fun r1 m1 L1 z => ?_⟩⟩
    rw [pt] at z
    cases z
    refine ⟨(fun c z => by rw [Ln.come] at z; cases z), fun bs2 hb q2 l2 d2 LL2 H4 eL Q2 Ln2 e4 q20 l20 d20 => ?_⟩
    rw [Ln.come] at hb
    obtain rfl : bs = bs2 := Sum.inr.inj hb
    have ex4 := e2.trans (e3.trans e4)
    have Q1 := Qy.ex ex4
    obtain ⟨dx, hq⟩ := Q1.ins
    obtain ⟨dx2, hq2⟩ := Q2.ins
    have Ln2' : Line (clsN r) n (LL2.map (·.2)) bs := by rw [eL]; exact Ln
    have cls := (quay_facts N iq).1.cls
    have ob : B.ObjC K (B.at_ mg (clsN r)) := by cases r; exact N.ob_Quay; exact N.ob_Round
    have ikR : PySem.W.kitOne K (.ref (B.at_ mg (clsN r))) (.ref (B.at_ mg "Round")) = some r := by cases r; exact N.ik_Quay_Round; exact N.ik_Round_Round
    have ikQ : PySem.W.kitOne K (.ref (B.at_ mg (clsN r))) (.ref (B.at_ mg "Quay")) = some true := by cases r; exact N.ik_Quay_Quay; exact N.ik_Round_Quay
    walk_at "go"
    refine x_isiO hq2 cls ob ikR ?_
    walk_at "go"
    refine x_isiO hq cls ob ikR ?_
    walk_at "go"
    refine x_mkL (by simp) fun kl H5 _ e5 hkl => ?_
    walk_at "go"
    refine x_isiO (e5 _ _ hq2) cls ob ikQ ?_
    walk_at "go"
    refine x_ixL (v := .bl r) (Evl.sq_of hkl) rfl ?_
    walk_at "go"
    refine x_ixL (v := .bl r) (Evl.sq_of hkl) rfl ?_
    walk_at "go"
    refine x_decN (fun z => absurd rfl z) fun _ => ?_
    walk_at "go"
    refine x_onM (c := clsN r) ⟨iq, rfl⟩ (e5 _ _ hq2) rfl ?_
    refine ⟨q2, l2, d2, n, LL2, bs, rfl, iq, Q2.ex e5, Ln2', fun as H6 _ e6 hM => ?_⟩
    walk_at "go"
    refine x_onM (c := clsN r) ⟨iq, rfl⟩ (e6 _ _ (e5 _ _ hq)) rfl ?_
    refine ⟨q, l, d, n, LL, bs, rfl, iq, Q1.ex (e5.trans e6), Ln, fun as2 H7 _ e7 hM2 => ?_⟩
    rw [eL] at hM
    have rok : rowsOk (((LL.map (·.2)).map fun x => (x.1, x.2, lookB (LL.map (·.2)) bs x.1)).map fun m => [V.str m.1, .int m.2.1, .int m.2.2]) := trips_ok fun p hp => by
      obtain ⟨x, hx, rfl⟩ := List.mem_map.mp hp
      exact name_strOk (Ln.ok x hx).1
    refine x_neRows (moves_rows (hM.ex e7)) (moves_rows hM2) rok rok ?_
    walk_at "go"
    refine x_decN (fun z => absurd rfl z) fun _ => ?_
    have ex7 := e5.trans (e6.trans e7)
    walk_at "go"
    refine x_onM (c := clsN r) ⟨iq, rfl⟩ (ex7 _ _ hq2) rfl ?_
    refine ⟨q2, l2, d2, dx2, n, rfl, iq, ex7 _ _ hq2, ?_⟩
    walk_at "go"
    refine x_onM (c := clsN r) ⟨iq, rfl⟩ (ex7 _ _ hq) rfl ?_
    refine ⟨q, l, d, dx, n, rfl, iq, ex7 _ _ hq, ?_⟩
    walk_at "go"
    refine x_decN (fun z => absurd rfl z) fun _ => ?_
    walk_at "go"
    refine x_onM (c := clsN r) ⟨iq, rfl⟩ (ex7 _ _ hq2) rfl ?_
    refine ⟨q2, l2, d2, n, LL2, bs, rfl, iq, Q2.ex ex7, Ln2', fun f1 H8 _ e8 hf1 => ?_⟩
    walk_at "go"
    refine x_onM (c := clsN r) ⟨iq, rfl⟩ (e8 _ _ (ex7 _ _ hq)) rfl ?_
    refine ⟨q, l, d, n, LL, bs, rfl, iq, Q1.ex (ex7.trans e8), Ln, fun f2 H9 _ e9 hf2 => ?_⟩
    refine x_neL (Evl.sq_of (e9 _ _ hf1)) (Evl.sq_of hf2) (plain_ints _) (plain_ints _) ?_
    walk_at "go"
    refine x_decN (fun z => absurd rfl z) fun _ => ?_
    have ex9 := ex7.trans (e8.trans e9)
    walk_at "go"
    refine ⟨clsN r, q2, l2, d2, n, LL2, bs, rfl, iq, Q2.ex ex9, Ln2', fun H10 e10 => ?_⟩
    rw [er, eL]
    walk_at "go"
    refine x_decN (fun z => absurd rfl z) fun _ => ?_
    have ex10 := ex9.trans e10
    have Q10 := Q1.ex ex10
    have hs10 := Evl.ex_l (e1.trans (ex4.trans ex10)) hs
    clear hM hM2 rok hkl ikR ikQ ob cls hf1 hf2 e5 e6 e7 e8 e9 e10 ex7 ex9 ex10 ex4 e2 e3 e4 Q1 Q2 Qy hq hq2 Ln2' Ln2 q0 l0 d0 q20 l20 d20
    walk_at "go"
    refine x_mkL (by simp) fun s1 H11 _ e11 hs1 => ?_
    walk_at "go"
    refine x_slL (lo := none) (hi := some ((20 : Nat) : Int)) (Evl.ex_l e11 hs10) fun s2 H12 _ e12 hs2 => ?_
    rw [cut_to, ← List.map_take] at hs2
    have lt20 : (ns.take 20).length ≤ 20 := by rw [List.length_take]; omega
    refine x_cat (e12 _ _ hs1) hs2 (by rw [List.length_map]; simp; omega) fun s3 H13 _ e13 hs3 => ?_
    obtain ⟨cells, hcells⟩ : ∃ cells, cells = 7 :: ns.take 20 := ⟨_, rfl⟩
    have hs3 : H13 s3 = some (.lst (cells.map V.int)) := by rw [hs3, hcells]; rfl
    clear hcells
    have Q13 := Q10.ex (e11.trans (e12.trans e13))
    refine x_forL cells V.int (fun _ σ' H' => (∃ z5 z6 z7 z8, σ' = [some (.ref a), some (.ref q), some (.str (textT r n (LL.map (·.2)))), some (.ref q2), some (.ref kl), z5, z6, z7, z8, none]) ∧ Ex H13 H') ⟨⟨_, _, _, _, rfl⟩, .refl _⟩ (fun pre σ' H' _ p => Evl.sq_of (p.2 _ _ hs3)) (fun pre cell post2 σ' H' ea pp => ?_) (fun σ' H' pp => ?_)
    · obtain ⟨⟨z5, z6, z7, z8, rfl⟩, ex⟩ := pp
      walk_at "go"
      refine x_rI ⟨by decide, by decide, by decide⟩ ?_
      walk_at "go"
      refine x_mod (by decide) fun c c0 c1 _ => ?_
      refine ⟨clsN r, q, l, d, n, c, LL, bs, by rw [er]; rfl, iq, Q13.ex ex, Ln, l9, c0, fun t H14 hp tl0 e14 => ?_⟩
      walk_at "go"
      refine ⟨.str t, "text", rfl, .inr ⟨t, rfl, tl0, .inl ⟨hp, rfl⟩⟩, fun H15 e15 => ?_⟩
      walk_at "go"
      refine x_neSc (by decide +kernel) (by decide +kernel) ?_
      walk_at "go"
      refine x_decN (fun z => absurd rfl z) fun _ => ?_
      exact ⟨⟨_, _, _, _, rfl⟩, ex.trans (e14.trans e15)⟩
    · obtain ⟨⟨z5, z6, z7, z8, rfl⟩, ex⟩ := pp
      walk_at "go"
      refine x_mkL (by simp) fun tl1 H14 _ e14 htl1 => ?_
      obtain ⟨T, hT⟩ : ∃ T, T = textT r n (LL.map (·.2)) := ⟨_, rfl⟩
      have pm := text_more (r := r) lok
      have pl := text_less (r := r) lok
      have pc := text_cut (r := r) lok
      rw [← hT] at pm pl pc ts ⊢
      have nlen : (Str.ofString "\n").length = 1 := by decide +kernel
      walk_at "go"
      refine x_addS (a := T) (b := Str.ofString "\n") (by rw [nlen]; omega) ?_
      walk_at "go"
      refine x_addS (a := Str.ofString "\n") (b := T) (by rw [nlen]; omega) ?_
      walk_at "go"
      refine x_slS (by omega) ?_
      walk_at "go"
      refine x_mkL (by simp) fun th H15 _ e15 hth => ?_
      have all : ∀ x ∈ [V.non, .int 5, .str (Str.ofString ""), .str (Str.ofString "quay 5"), .ref tl1, .str (Str.ofString "\n"), .str (T ++ Str.ofString "\n"), .str (Str.ofString "\n" ++ T), .str (cutS T none (some (-1)))], ∀ H', Ex H15 H' →
          ((∃ k, Kind K H' x k ∧ k ≠ .str ∧ ("text" : Str) = "text") ∨ ∃ t : Str, x = .str t ∧ t.length ≤ 900 ∧ Tells t "text") := fun x hx H' e => by
        simp only [List.mem_cons, List.not_mem_nil, or_false] at hx
        rcases hx with rfl | rfl | rfl | rfl | rfl | rfl | rfl | rfl | rfl
        · exact .inl ⟨_, .non, nofun, rfl⟩
        · exact .inl ⟨_, .int _, nofun, rfl⟩
        · exact .inr ⟨_, rfl, by decide +kernel, .inl ⟨odd_few.1, rfl⟩⟩
        · exact .inr ⟨_, rfl, by decide +kernel, .inl ⟨odd_few.2.1, rfl⟩⟩
        · exact .inl ⟨_, .lst (Evl.sq_of (e _ _ (e15 _ _ htl1))), nofun, rfl⟩
        · exact .inr ⟨_, rfl, by decide +kernel, .inl ⟨odd_few.2.2, rfl⟩⟩
        · exact .inr ⟨_, rfl, by rw [app_len, nlen]; omega, .inl ⟨pm, rfl⟩⟩
        · exact .inr ⟨_, rfl, by rw [app_len, nlen]; omega, .inl ⟨pl, rfl⟩⟩
        · exact .inr ⟨_, rfl, by have := cutS_len T none (some (-1)); omega, .inl ⟨pc, rfl⟩⟩
      generalize [V.non, .int 5, .str (Str.ofString ""), .str (Str.ofString "quay 5"), .ref tl1, .str (Str.ofString "\n"), .str (T ++ Str.ofString "\n"), .str (Str.ofString "\n" ++ T), .str (cutS T none (some (-1)))] = things at all hth
      refine x_forL things id (fun _ σ' H' => (∃ z6 z7 z8, σ' = [some (.ref a), some (.ref q), some (.str T), some (.ref q2), some (.ref kl), z5, z6, z7, z8, none]) ∧ Ex H15 H') ⟨⟨_, _, _, rfl⟩, .refl _⟩ (fun pre σ' H' _ p => by rw [List.map_id]; exact Evl.sq_of (p.2 _ _ hth)) (fun pre x post2 σ' H' ea pp => ?_) (fun σ' H' pp => ?_)
      · obtain ⟨⟨z6, z7, z8, rfl⟩, ex⟩ := pp
        walk_at "go"
        refine ⟨x, "text", rfl, all x (by rw [ea]; simp) _ ex, fun H16 e16 => ?_⟩
        walk_at "go"
        refine x_neSc (by decide +kernel) (by decide +kernel) ?_
        walk_at "go"
        refine x_decN (fun z => absurd rfl z) fun _ => ?_
        exact ⟨⟨_, _, _, rfl⟩, ex.trans e16⟩
      · obtain ⟨⟨z6, z7, z8, rfl⟩, ex⟩ := pp
        walk_at "go"
        refine x_mkL (by simp) fun ml H16 _ e16 hml => ?_
        walk_at "go"
        refine x_lcL (K := K) dues (fun x => V.str x.1) (fun _ => true) (fun x => .str x.2) (Evl.sq_of hml) ⟨by decide, fun _ => rfl, fun x hx H' e' QT kk => ?_, fun x hx _ H' e' Q' kk => ?_, fun dl H17 _ e17 hdl => ?_⟩
        · walk_at "go"
          exact kk H' (.refl _)
        · obtain ⟨t1, t2⟩ := dues_tell x hx
          walk_at "go"
          refine x_addS (a := Str.ofString "quay 2\na 2\n") (b := x.1) (by omega) ?_
          walk_at "go"
          refine ⟨_, x.2, rfl, .inr ⟨_, rfl, by rw [app_len]; omega, t1⟩, fun H18 e18 => ?_⟩
          exact kk H18 e18
        have hdl : H17 dl = some (.lst ((dues.map (·.2)).map V.str)) := by
          rw [hdl, List.map_map, List.filter_eq_self.mpr fun _ _ => rfl]
          rfl
        walk_at "go"
        refine x_mkL (by simp) fun wl H18 _ e18 hwl => ?_
        have hwl : H18 wl = some (.lst ((dues.map fun x => x.2).map V.str)) := hwl
        refine x_neS (ss := dues.map fun x => x.2) (ts := dues.map fun x => x.2) (Evl.sq_of (e18 _ _ hdl)) (Evl.sq_of hwl) (by decide +kernel) (by decide +kernel) ?_
        walk_at "go"
        refine x_decN (fun z => absurd rfl z) fun _ => ?_
        walk_at "go"
        refine ⟨_, rfl, .inr ⟨_, rfl, by decide +kernel, (fun z => by rw [last_tell.1] at z; cases z), fun r3 m3 L3 z => ?_⟩⟩
        rw [last_tell.1] at z
        cases z
        refine ⟨(fun c z => by rw [last_tell.2] at z; cases z), fun bs3 hb q3 l3 d3 LL3 H19 eL3 Q3 Ln3 e19 q30 l30 d30 => ?_⟩
        rw [last_tell.2] at hb
        obtain rfl : [2, 1] = bs3 := Sum.inr.inj hb
        obtain ⟨dx3, hq3⟩ := Q3.ins
        obtain ⟨iq3, er3⟩ := clsN_ok true
        refine x_onM (c := clsN true) ⟨iq3, rfl⟩ hq3 rfl ?_
        refine ⟨q3, l3, d3, 2, LL3, [2, 1], rfl, iq3, Q3, by rw [eL3]; exact Ln3, fun as H20 _ e20 hM => ?_⟩
        rw [eL3] at hM
        walk_at "go"
        refine x_mkT (by simp) fun t1 H21 _ e21 ht1 => ?_
        walk_at "go"
        refine x_mkT (by simp) fun t2 H22 _ e22 ht2 => ?_
        walk_at "go"
        refine x_mkL (by simp) fun rl H23 _ e23 hrl => ?_
        have RA : RowsAt H23 rl [[.str (Str.ofString "a"), .int 2, .int 2], [.str (Str.ofString "b"), .int 2, .int 1]] := by
          refine ⟨[t1, t2], hrl, rfl, fun i p r' h1 h2 => ?_⟩
          match i with
          | 0 =>
            obtain rfl := Option.some.inj h1
            obtain rfl := Option.some.inj h2
            exact e23 _ _ (e22 _ _ ht1)
          | 1 =>
            obtain rfl := Option.some.inj h1
            obtain rfl := Option.some.inj h2
            exact e23 _ _ ht2
          | _ + 2 => simp at h1
        refine x_eqRows (moves_rows (hM.ex (e21.trans (e22.trans e23)))) RA (trips_ok (by decide +kernel)) (fun r' hr' => by
          simp only [List.mem_cons, List.not_mem_nil, or_false] at hr'
          rcases hr' with rfl | rfl <;> decide +kernel) ?_
        rw [decide_eq_true (by decide +kernel)]
        exact post _

/-! ### what the top has written, the end -/
theorem all_mk {l : PySem.W.OpenLaw} {w : World} {K : PySem.W.Frag} {h : Heap} {mg : Str → Option Value} {fa : Addr} (X : K.In h) (G : h.Ns mainGlobals mg) (hfa : mg "law" = some (.ref fa))
    {f_is_number : Addr} {od_is_number an_is_number : Option Addr} {sl_is_number : Array (Option Value)} {oc_is_number kV_is_number dc_is_number pm_is_number cd_is_number ct_is_number : Value}
    {f_need_quay : Addr} {od_need_quay an_need_quay : Option Addr} {sl_need_quay : Array (Option Value)} {oc_need_quay kV_need_quay dc_need_quay pm_need_quay cd_need_quay ct_need_quay : Value}
    {f_need_name : Addr} {od_need_name an_need_name : Option Addr} {sl_need_name : Array (Option Value)} {oc_need_name kV_need_name dc_need_name pm_need_name cd_need_name ct_need_name : Value}
    {f_written : Addr} {od_written an_written : Option Addr} {sl_written : Array (Option Value)} {oc_written kV_written dc_written pm_written cd_written ct_written : Value}
    {f_number_of : Addr} {od_number_of an_number_of : Option Addr} {sl_number_of : Array (Option Value)} {oc_number_of kV_number_of dc_number_of pm_number_of cd_number_of ct_number_of : Value}
    {f_name_of : Addr} {od_name_of an_name_of : Option Addr} {sl_name_of : Array (Option Value)} {oc_name_of kV_name_of dc_name_of pm_name_of cd_name_of ct_name_of : Value}
    {f_pair_of : Addr} {od_pair_of an_pair_of : Option Addr} {sl_pair_of : Array (Option Value)} {oc_pair_of kV_pair_of dc_pair_of pm_pair_of cd_pair_of ct_pair_of : Value}
    {f_read : Addr} {od_read an_read : Option Addr} {sl_read : Array (Option Value)} {oc_read kV_read dc_read pm_read cd_read ct_read : Value}
    {f__law_cell_at : Addr} {od__law_cell_at an__law_cell_at : Option Addr} {sl__law_cell_at : Array (Option Value)} {oc__law_cell_at kV__law_cell_at dc__law_cell_at pm__law_cell_at cd__law_cell_at ct__law_cell_at : Value}
    {f__law_mix : Addr} {od__law_mix an__law_mix : Option Addr} {sl__law_mix : Array (Option Value)} {oc__law_mix kV__law_mix dc__law_mix pm__law_mix cd__law_mix ct__law_mix : Value}
    {f__law_words : Addr} {od__law_words an__law_words : Option Addr} {sl__law_words : Array (Option Value)} {oc__law_words kV__law_words dc__law_words pm__law_words cd__law_words ct__law_words : Value}
    {f__law_read : Addr} {od__law_read an__law_read : Option Addr} {sl__law_read : Array (Option Value)} {oc__law_read kV__law_read dc__law_read pm__law_read cd__law_read ct__law_read : Value}
    {f__law_text : Addr} {od__law_text an__law_text : Option Addr} {sl__law_text : Array (Option Value)} {oc__law_text kV__law_text dc__law_text pm__law_text cd__law_text ct__law_text : Value}
    {f__law_drawn : Addr} {od__law_drawn an__law_drawn : Option Addr} {sl__law_drawn : Array (Option Value)} {oc__law_drawn kV__law_drawn dc__law_drawn pm__law_drawn cd__law_drawn ct__law_drawn : Value}
    {f__law_odd_text : Addr} {od__law_odd_text an__law_odd_text : Option Addr} {sl__law_odd_text : Array (Option Value)} {oc__law_odd_text kV__law_odd_text dc__law_odd_text pm__law_odd_text cd__law_odd_text ct__law_odd_text : Value}
    {f_law : Addr} {od_law an_law : Option Addr} {sl_law : Array (Option Value)} {oc_law kV_law dc_law pm_law cd_law ct_law : Value}
    {t_MOST : Tok}
    {t_LETTERS : Tok}
    {t_LONGEST : Tok}
    {t_FIGURES : Tok}
    {C_NoQuay : Addr}
    {C_NoName : Addr}
    {C_NoText : Addr}
    {C_Taken : Addr}
    {C_NoWish : Addr}
    {C_NoRoom : Addr}
    {C_NoShip : Addr}
    {C_Quay : Addr}
    {C_Round : Addr}
    {C_BerthError : Addr}
    {C_NoCount : Addr}
    {C_NoOrder : Addr}
    {C_NoTree : Addr}
    {C_NoWishes : Addr}
    {C_TooMany : Addr}
    {f_Quay___init__ : Addr} {od_Quay___init__ an_Quay___init__ : Option Addr} {sl_Quay___init__ : Array (Option Value)} {oc_Quay___init__ kV_Quay___init__ dc_Quay___init__ pm_Quay___init__ cd_Quay___init__ ct_Quay___init__ : Value}
    {f_Quay_size : Addr} {od_Quay_size an_Quay_size : Option Addr} {sl_Quay_size : Array (Option Value)} {oc_Quay_size kV_Quay_size dc_Quay_size pm_Quay_size cd_Quay_size ct_Quay_size : Value}
    {f_Quay_berth_for : Addr} {od_Quay_berth_for an_Quay_berth_for : Option Addr} {sl_Quay_berth_for : Array (Option Value)} {oc_Quay_berth_for kV_Quay_berth_for dc_Quay_berth_for pm_Quay_berth_for cd_Quay_berth_for ct_Quay_berth_for : Value}
    {f_Quay_come : Addr} {od_Quay_come an_Quay_come : Option Addr} {sl_Quay_come : Array (Option Value)} {oc_Quay_come kV_Quay_come dc_Quay_come pm_Quay_come cd_Quay_come ct_Quay_come : Value}
    {f_Quay_where : Addr} {od_Quay_where an_Quay_where : Option Addr} {sl_Quay_where : Array (Option Value)} {oc_Quay_where kV_Quay_where dc_Quay_where pm_Quay_where cd_Quay_where ct_Quay_where : Value}
    {f_Quay_leave : Addr} {od_Quay_leave an_Quay_leave : Option Addr} {sl_Quay_leave : Array (Option Value)} {oc_Quay_leave kV_Quay_leave dc_Quay_leave pm_Quay_leave cd_Quay_leave ct_Quay_leave : Value}
    {f_Quay_all_ships : Addr} {od_Quay_all_ships an_Quay_all_ships : Option Addr} {sl_Quay_all_ships : Array (Option Value)} {oc_Quay_all_ships kV_Quay_all_ships dc_Quay_all_ships pm_Quay_all_ships cd_Quay_all_ships ct_Quay_all_ships : Value}
    {f_Quay_free_ones : Addr} {od_Quay_free_ones an_Quay_free_ones : Option Addr} {sl_Quay_free_ones : Array (Option Value)} {oc_Quay_free_ones kV_Quay_free_ones dc_Quay_free_ones pm_Quay_free_ones cd_Quay_free_ones ct_Quay_free_ones : Value}
    {f_Quay_way : Addr} {od_Quay_way an_Quay_way : Option Addr} {sl_Quay_way : Array (Option Value)} {oc_Quay_way kV_Quay_way dc_Quay_way pm_Quay_way cd_Quay_way ct_Quay_way : Value}
    {f_Quay_kind : Addr} {od_Quay_kind an_Quay_kind : Option Addr} {sl_Quay_kind : Array (Option Value)} {oc_Quay_kind kV_Quay_kind dc_Quay_kind pm_Quay_kind cd_Quay_kind ct_Quay_kind : Value}
    {f_Round_way : Addr} {od_Round_way an_Round_way : Option Addr} {sl_Round_way : Array (Option Value)} {oc_Round_way kV_Round_way dc_Round_way pm_Round_way cd_Round_way ct_Round_way : Value}
    {f_Round_kind : Addr} {od_Round_kind an_Round_kind : Option Addr} {sl_Round_kind : Array (Option Value)} {oc_Round_kind kV_Round_kind dc_Round_kind pm_Round_kind cd_Round_kind ct_Round_kind : Value}
    (a_is_number : PySem.W.nsIn K mainGlobals "is_number" = some (some (.ref f_is_number)))
    (l_is_number : K.lookup f_is_number = some ⟨oc_is_number, od_is_number, .func (PySem.W.fnOf "is_number" "is_number" (defArgs s_is_number) (defBody s_is_number) (defScope s_is_number) .none kV_is_number dc_is_number pm_is_number an_is_number cd_is_number ct_is_number), sl_is_number⟩)
    (c_is_number : PySem.W.codeIn K cd_is_number "is_number" = true)
    (k_is_number : PySem.W.keepIn K (.ref f_is_number) = true)
    (a_need_quay : PySem.W.nsIn K mainGlobals "need_quay" = some (some (.ref f_need_quay)))
    (l_need_quay : K.lookup f_need_quay = some ⟨oc_need_quay, od_need_quay, .func (PySem.W.fnOf "need_quay" "need_quay" (defArgs s_need_quay) (defBody s_need_quay) (defScope s_need_quay) .none kV_need_quay dc_need_quay pm_need_quay an_need_quay cd_need_quay ct_need_quay), sl_need_quay⟩)
    (c_need_quay : PySem.W.codeIn K cd_need_quay "need_quay" = true)
    (k_need_quay : PySem.W.keepIn K (.ref f_need_quay) = true)
    (a_need_name : PySem.W.nsIn K mainGlobals "need_name" = some (some (.ref f_need_name)))
    (l_need_name : K.lookup f_need_name = some ⟨oc_need_name, od_need_name, .func (PySem.W.fnOf "need_name" "need_name" (defArgs s_need_name) (defBody s_need_name) (defScope s_need_name) .none kV_need_name dc_need_name pm_need_name an_need_name cd_need_name ct_need_name), sl_need_name⟩)
    (c_need_name : PySem.W.codeIn K cd_need_name "need_name" = true)
    (k_need_name : PySem.W.keepIn K (.ref f_need_name) = true)
    (a_written : PySem.W.nsIn K mainGlobals "written" = some (some (.ref f_written)))
    (l_written : K.lookup f_written = some ⟨oc_written, od_written, .func (PySem.W.fnOf "written" "written" (defArgs s_written) (defBody s_written) (defScope s_written) .none kV_written dc_written pm_written an_written cd_written ct_written), sl_written⟩)
    (c_written : PySem.W.codeIn K cd_written "written" = true)
    (k_written : PySem.W.keepIn K (.ref f_written) = true)
    (a_number_of : PySem.W.nsIn K mainGlobals "number_of" = some (some (.ref f_number_of)))
    (l_number_of : K.lookup f_number_of = some ⟨oc_number_of, od_number_of, .func (PySem.W.fnOf "number_of" "number_of" (defArgs s_number_of) (defBody s_number_of) (defScope s_number_of) .none kV_number_of dc_number_of pm_number_of an_number_of cd_number_of ct_number_of), sl_number_of⟩)
    (c_number_of : PySem.W.codeIn K cd_number_of "number_of" = true)
    (k_number_of : PySem.W.keepIn K (.ref f_number_of) = true)
    (a_name_of : PySem.W.nsIn K mainGlobals "name_of" = some (some (.ref f_name_of)))
    (l_name_of : K.lookup f_name_of = some ⟨oc_name_of, od_name_of, .func (PySem.W.fnOf "name_of" "name_of" (defArgs s_name_of) (defBody s_name_of) (defScope s_name_of) .none kV_name_of dc_name_of pm_name_of an_name_of cd_name_of ct_name_of), sl_name_of⟩)
    (c_name_of : PySem.W.codeIn K cd_name_of "name_of" = true)
    (k_name_of : PySem.W.keepIn K (.ref f_name_of) = true)
    (a_pair_of : PySem.W.nsIn K mainGlobals "pair_of" = some (some (.ref f_pair_of)))
    (l_pair_of : K.lookup f_pair_of = some ⟨oc_pair_of, od_pair_of, .func (PySem.W.fnOf "pair_of" "pair_of" (defArgs s_pair_of) (defBody s_pair_of) (defScope s_pair_of) .none kV_pair_of dc_pair_of pm_pair_of an_pair_of cd_pair_of ct_pair_of), sl_pair_of⟩)
    (c_pair_of : PySem.W.codeIn K cd_pair_of "pair_of" = true)
    (k_pair_of : PySem.W.keepIn K (.ref f_pair_of) = true)
    (a_read : PySem.W.nsIn K mainGlobals "read" = some (some (.ref f_read)))
    (l_read : K.lookup f_read = some ⟨oc_read, od_read, .func (PySem.W.fnOf "read" "read" (defArgs s_read) (defBody s_read) (defScope s_read) .none kV_read dc_read pm_read an_read cd_read ct_read), sl_read⟩)
    (c_read : PySem.W.codeIn K cd_read "read" = true)
    (k_read : PySem.W.keepIn K (.ref f_read) = true)
    (a__law_cell_at : PySem.W.nsIn K mainGlobals "_law_cell_at" = some (some (.ref f__law_cell_at)))
    (l__law_cell_at : K.lookup f__law_cell_at = some ⟨oc__law_cell_at, od__law_cell_at, .func (PySem.W.fnOf "_law_cell_at" "_law_cell_at" (defArgs s__law_cell_at) (defBody s__law_cell_at) (defScope s__law_cell_at) .none kV__law_cell_at dc__law_cell_at pm__law_cell_at an__law_cell_at cd__law_cell_at ct__law_cell_at), sl__law_cell_at⟩)
    (c__law_cell_at : PySem.W.codeIn K cd__law_cell_at "_law_cell_at" = true)
    (k__law_cell_at : PySem.W.keepIn K (.ref f__law_cell_at) = true)
    (a__law_mix : PySem.W.nsIn K mainGlobals "_law_mix" = some (some (.ref f__law_mix)))
    (l__law_mix : K.lookup f__law_mix = some ⟨oc__law_mix, od__law_mix, .func (PySem.W.fnOf "_law_mix" "_law_mix" (defArgs s__law_mix) (defBody s__law_mix) (defScope s__law_mix) .none kV__law_mix dc__law_mix pm__law_mix an__law_mix cd__law_mix ct__law_mix), sl__law_mix⟩)
    (c__law_mix : PySem.W.codeIn K cd__law_mix "_law_mix" = true)
    (k__law_mix : PySem.W.keepIn K (.ref f__law_mix) = true)
    (a__law_words : PySem.W.nsIn K mainGlobals "_law_words" = some (some (.ref f__law_words)))
    (l__law_words : K.lookup f__law_words = some ⟨oc__law_words, od__law_words, .func (PySem.W.fnOf "_law_words" "_law_words" (defArgs s__law_words) (defBody s__law_words) (defScope s__law_words) .none kV__law_words dc__law_words pm__law_words an__law_words cd__law_words ct__law_words), sl__law_words⟩)
    (c__law_words : PySem.W.codeIn K cd__law_words "_law_words" = true)
    (k__law_words : PySem.W.keepIn K (.ref f__law_words) = true)
    (a__law_read : PySem.W.nsIn K mainGlobals "_law_read" = some (some (.ref f__law_read)))
    (l__law_read : K.lookup f__law_read = some ⟨oc__law_read, od__law_read, .func (PySem.W.fnOf "_law_read" "_law_read" (defArgs s__law_read) (defBody s__law_read) (defScope s__law_read) .none kV__law_read dc__law_read pm__law_read an__law_read cd__law_read ct__law_read), sl__law_read⟩)
    (c__law_read : PySem.W.codeIn K cd__law_read "_law_read" = true)
    (k__law_read : PySem.W.keepIn K (.ref f__law_read) = true)
    (a__law_text : PySem.W.nsIn K mainGlobals "_law_text" = some (some (.ref f__law_text)))
    (l__law_text : K.lookup f__law_text = some ⟨oc__law_text, od__law_text, .func (PySem.W.fnOf "_law_text" "_law_text" (defArgs s__law_text) (defBody s__law_text) (defScope s__law_text) .none kV__law_text dc__law_text pm__law_text an__law_text cd__law_text ct__law_text), sl__law_text⟩)
    (c__law_text : PySem.W.codeIn K cd__law_text "_law_text" = true)
    (k__law_text : PySem.W.keepIn K (.ref f__law_text) = true)
    (a__law_drawn : PySem.W.nsIn K mainGlobals "_law_drawn" = some (some (.ref f__law_drawn)))
    (l__law_drawn : K.lookup f__law_drawn = some ⟨oc__law_drawn, od__law_drawn, .func (PySem.W.fnOf "_law_drawn" "_law_drawn" (defArgs s__law_drawn) (defBody s__law_drawn) (defScope s__law_drawn) .none kV__law_drawn dc__law_drawn pm__law_drawn an__law_drawn cd__law_drawn ct__law_drawn), sl__law_drawn⟩)
    (c__law_drawn : PySem.W.codeIn K cd__law_drawn "_law_drawn" = true)
    (k__law_drawn : PySem.W.keepIn K (.ref f__law_drawn) = true)
    (a__law_odd_text : PySem.W.nsIn K mainGlobals "_law_odd_text" = some (some (.ref f__law_odd_text)))
    (l__law_odd_text : K.lookup f__law_odd_text = some ⟨oc__law_odd_text, od__law_odd_text, .func (PySem.W.fnOf "_law_odd_text" "_law_odd_text" (defArgs s__law_odd_text) (defBody s__law_odd_text) (defScope s__law_odd_text) .none kV__law_odd_text dc__law_odd_text pm__law_odd_text an__law_odd_text cd__law_odd_text ct__law_odd_text), sl__law_odd_text⟩)
    (c__law_odd_text : PySem.W.codeIn K cd__law_odd_text "_law_odd_text" = true)
    (k__law_odd_text : PySem.W.keepIn K (.ref f__law_odd_text) = true)
    (a_law : PySem.W.nsIn K mainGlobals "law" = some (some (.ref f_law)))
    (l_law : K.lookup f_law = some ⟨oc_law, od_law, .func (PySem.W.fnOf "law" "law" (defArgs s_law) (defBody s_law) (defScope s_law) .none kV_law dc_law pm_law an_law cd_law ct_law), sl_law⟩)
    (c_law : PySem.W.codeIn K cd_law "law" = true)
    (k_law : PySem.W.keepIn K (.ref f_law) = true)
    (z_len : PySem.W.nsIn K mainGlobals "len" = some none)
    (z_isinstance : PySem.W.nsIn K mainGlobals "isinstance" = some none)
    (z_range : PySem.W.nsIn K mainGlobals "range" = some none)
    (z_all : PySem.W.nsIn K mainGlobals "all" = some none)
    (z_int : PySem.W.nsIn K mainGlobals "int" = some none)
    (z_bool : PySem.W.nsIn K mainGlobals "bool" = some none)
    (z_str : PySem.W.nsIn K mainGlobals "str" = some none)
    (z_list : PySem.W.nsIn K mainGlobals "list" = some none)
    (z_ValueError : PySem.W.nsIn K mainGlobals "ValueError" = some none)
    (q_MOST : PySem.W.nsIn K mainGlobals "MOST" = some (some (.int 400 t_MOST)))
    (q_LETTERS : PySem.W.nsIn K mainGlobals "LETTERS" = some (some (.str "abcdefghijklmnopqrstuvwxyz" t_LETTERS)))
    (q_LONGEST : PySem.W.nsIn K mainGlobals "LONGEST" = some (some (.int 8 t_LONGEST)))
    (q_FIGURES : PySem.W.nsIn K mainGlobals "FIGURES" = some (some (.str "0123456789" t_FIGURES)))
    (e_NoQuay : PySem.W.nsIn K mainGlobals "NoQuay" = some (some (.ref C_NoQuay)))
    (x_NoQuay : PySem.W.excIn K C_NoQuay [.type "ValueError", .type "Exception", .type "BaseException", .type "object"] "ValueError.__new__" = true)
    (w_NoQuay : PySem.W.keepIn K (.ref C_NoQuay) = true)
    (b_NoQuay : PySem.W.subIn K (.ref C_NoQuay) (.type "BaseException") = some true)
    (y_NoQuay : PySem.W.typeIn K (.ref C_NoQuay) = some (.type "type"))
    (e_NoName : PySem.W.nsIn K mainGlobals "NoName" = some (some (.ref C_NoName)))
    (x_NoName : PySem.W.excIn K C_NoName [.type "ValueError", .type "Exception", .type "BaseException", .type "object"] "ValueError.__new__" = true)
    (w_NoName : PySem.W.keepIn K (.ref C_NoName) = true)
    (b_NoName : PySem.W.subIn K (.ref C_NoName) (.type "BaseException") = some true)
    (y_NoName : PySem.W.typeIn K (.ref C_NoName) = some (.type "type"))
    (e_NoText : PySem.W.nsIn K mainGlobals "NoText" = some (some (.ref C_NoText)))
    (x_NoText : PySem.W.excIn K C_NoText [.type "ValueError", .type "Exception", .type "BaseException", .type "object"] "ValueError.__new__" = true)
    (w_NoText : PySem.W.keepIn K (.ref C_NoText) = true)
    (b_NoText : PySem.W.subIn K (.ref C_NoText) (.type "BaseException") = some true)
    (y_NoText : PySem.W.typeIn K (.ref C_NoText) = some (.type "type"))
    (e_Taken : PySem.W.nsIn K mainGlobals "Taken" = some (some (.ref C_Taken)))
    (x_Taken : PySem.W.excIn K C_Taken [.type "ValueError", .type "Exception", .type "BaseException", .type "object"] "ValueError.__new__" = true)
    (w_Taken : PySem.W.keepIn K (.ref C_Taken) = true)
    (b_Taken : PySem.W.subIn K (.ref C_Taken) (.type "BaseException") = some true)
    (y_Taken : PySem.W.typeIn K (.ref C_Taken) = some (.type "type"))
    (e_NoWish : PySem.W.nsIn K mainGlobals "NoWish" = some (some (.ref C_NoWish)))
    (x_NoWish : PySem.W.excIn K C_NoWish [.type "ValueError", .type "Exception", .type "BaseException", .type "object"] "ValueError.__new__" = true)
    (w_NoWish : PySem.W.keepIn K (.ref C_NoWish) = true)
    (b_NoWish : PySem.W.subIn K (.ref C_NoWish) (.type "BaseException") = some true)
    (y_NoWish : PySem.W.typeIn K (.ref C_NoWish) = some (.type "type"))
    (e_NoRoom : PySem.W.nsIn K mainGlobals "NoRoom" = some (some (.ref C_NoRoom)))
    (x_NoRoom : PySem.W.excIn K C_NoRoom [.type "ValueError", .type "Exception", .type "BaseException", .type "object"] "ValueError.__new__" = true)
    (w_NoRoom : PySem.W.keepIn K (.ref C_NoRoom) = true)
    (b_NoRoom : PySem.W.subIn K (.ref C_NoRoom) (.type "BaseException") = some true)
    (y_NoRoom : PySem.W.typeIn K (.ref C_NoRoom) = some (.type "type"))
    (e_NoShip : PySem.W.nsIn K mainGlobals "NoShip" = some (some (.ref C_NoShip)))
    (x_NoShip : PySem.W.excIn K C_NoShip [.type "ValueError", .type "Exception", .type "BaseException", .type "object"] "ValueError.__new__" = true)
    (w_NoShip : PySem.W.keepIn K (.ref C_NoShip) = true)
    (b_NoShip : PySem.W.subIn K (.ref C_NoShip) (.type "BaseException") = some true)
    (y_NoShip : PySem.W.typeIn K (.ref C_NoShip) = some (.type "type"))
    (e_Quay : PySem.W.nsIn K mainGlobals "Quay" = some (some (.ref C_Quay)))
    (e_Round : PySem.W.nsIn K mainGlobals "Round" = some (some (.ref C_Round)))
    (e_BerthError : PySem.W.nsIn K mainGlobals "BerthError" = some (some (.ref C_BerthError)))
    (e_NoCount : PySem.W.nsIn K mainGlobals "NoCount" = some (some (.ref C_NoCount)))
    (e_NoOrder : PySem.W.nsIn K mainGlobals "NoOrder" = some (some (.ref C_NoOrder)))
    (e_NoTree : PySem.W.nsIn K mainGlobals "NoTree" = some (some (.ref C_NoTree)))
    (e_NoWishes : PySem.W.nsIn K mainGlobals "NoWishes" = some (some (.ref C_NoWishes)))
    (e_TooMany : PySem.W.nsIn K mainGlobals "TooMany" = some (some (.ref C_TooMany)))
    (sb_BerthError : PySem.W.subIn K (.ref C_BerthError) (.type "BaseException") = some true)
    (hd_BerthError : PySem.W.hasDictIn K C_BerthError = true)
    (ty_BerthError : PySem.W.typeIn K (.ref C_BerthError) = some (.type "type"))
    (xn : PySem.W.specialIn K (.builtin "object.__class__") "__get__" = some (some (.builtin "getset_descriptor.__get__")))
    (xt : PySem.W.takesIn K (.builtin "object.__class__") = some true)
    (kg_NoText : PySem.W.findIn K (.ref C_NoText) "__getattribute__" = some (some (.builtin "BaseException.__getattribute__")))
    (kk_NoText : PySem.W.findIn K (.ref C_NoText) "__getattr__" = some none)
    (kd_NoText : PySem.W.hasDictIn K C_NoText = true)
    (ka_NoText : PySem.W.findIn K (.ref C_NoText) "__class__" = some (some (.builtin "object.__class__")))
    (km_NoText : PySem.W.mroIn K C_NoText (.type "object") = some true)
    (ks_NoText : PySem.W.subIn K (.ref C_NoText) (.ref C_BerthError) = some true)
    (kg_Taken : PySem.W.findIn K (.ref C_Taken) "__getattribute__" = some (some (.builtin "BaseException.__getattribute__")))
    (kk_Taken : PySem.W.findIn K (.ref C_Taken) "__getattr__" = some none)
    (kd_Taken : PySem.W.hasDictIn K C_Taken = true)
    (ka_Taken : PySem.W.findIn K (.ref C_Taken) "__class__" = some (some (.builtin "object.__class__")))
    (km_Taken : PySem.W.mroIn K C_Taken (.type "object") = some true)
    (ks_Taken : PySem.W.subIn K (.ref C_Taken) (.ref C_BerthError) = some true)
    (kg_NoWish : PySem.W.findIn K (.ref C_NoWish) "__getattribute__" = some (some (.builtin "BaseException.__getattribute__")))
    (kk_NoWish : PySem.W.findIn K (.ref C_NoWish) "__getattr__" = some none)
    (kd_NoWish : PySem.W.hasDictIn K C_NoWish = true)
    (ka_NoWish : PySem.W.findIn K (.ref C_NoWish) "__class__" = some (some (.builtin "object.__class__")))
    (km_NoWish : PySem.W.mroIn K C_NoWish (.type "object") = some true)
    (ks_NoWish : PySem.W.subIn K (.ref C_NoWish) (.ref C_BerthError) = some true)
    (kg_NoRoom : PySem.W.findIn K (.ref C_NoRoom) "__getattribute__" = some (some (.builtin "BaseException.__getattribute__")))
    (kk_NoRoom : PySem.W.findIn K (.ref C_NoRoom) "__getattr__" = some none)
    (kd_NoRoom : PySem.W.hasDictIn K C_NoRoom = true)
    (ka_NoRoom : PySem.W.findIn K (.ref C_NoRoom) "__class__" = some (some (.builtin "object.__class__")))
    (km_NoRoom : PySem.W.mroIn K C_NoRoom (.type "object") = some true)
    (ks_NoRoom : PySem.W.subIn K (.ref C_NoRoom) (.ref C_BerthError) = some true)
    (hds_NoName : PySem.W.hasDictIn K C_NoName = true)
    (kss_NoName : PySem.W.subIn K (.ref C_NoName) (.ref C_NoName) = some true)
    (qi_NoText_NoCount : PySem.W.kitOne K (.ref C_NoText) (.ref C_NoCount) = some false)
    (qi_NoText_NoOrder : PySem.W.kitOne K (.ref C_NoText) (.ref C_NoOrder) = some false)
    (qi_NoText_NoQuay : PySem.W.kitOne K (.ref C_NoText) (.ref C_NoQuay) = some false)
    (qi_NoText_NoName : PySem.W.kitOne K (.ref C_NoText) (.ref C_NoName) = some false)
    (qi_NoText_NoTree : PySem.W.kitOne K (.ref C_NoText) (.ref C_NoTree) = some false)
    (qi_NoText_NoWishes : PySem.W.kitOne K (.ref C_NoText) (.ref C_NoWishes) = some false)
    (qi_NoText_TooMany : PySem.W.kitOne K (.ref C_NoText) (.ref C_TooMany) = some false)
    (qi_NoText_NoShip : PySem.W.kitOne K (.ref C_NoText) (.ref C_NoShip) = some false)
    (qi_NoText_Taken : PySem.W.kitOne K (.ref C_NoText) (.ref C_Taken) = some false)
    (qi_NoText_NoWish : PySem.W.kitOne K (.ref C_NoText) (.ref C_NoWish) = some false)
    (qi_NoText_NoRoom : PySem.W.kitOne K (.ref C_NoText) (.ref C_NoRoom) = some false)
    (qi_Taken_NoCount : PySem.W.kitOne K (.ref C_Taken) (.ref C_NoCount) = some false)
    (qi_Taken_NoOrder : PySem.W.kitOne K (.ref C_Taken) (.ref C_NoOrder) = some false)
    (qi_Taken_NoQuay : PySem.W.kitOne K (.ref C_Taken) (.ref C_NoQuay) = some false)
    (qi_Taken_NoName : PySem.W.kitOne K (.ref C_Taken) (.ref C_NoName) = some false)
    (qi_Taken_NoTree : PySem.W.kitOne K (.ref C_Taken) (.ref C_NoTree) = some false)
    (qi_Taken_NoWishes : PySem.W.kitOne K (.ref C_Taken) (.ref C_NoWishes) = some false)
    (qi_Taken_TooMany : PySem.W.kitOne K (.ref C_Taken) (.ref C_TooMany) = some false)
    (qi_Taken_NoShip : PySem.W.kitOne K (.ref C_Taken) (.ref C_NoShip) = some false)
    (qi_Taken_NoText : PySem.W.kitOne K (.ref C_Taken) (.ref C_NoText) = some false)
    (qi_Taken_NoWish : PySem.W.kitOne K (.ref C_Taken) (.ref C_NoWish) = some false)
    (qi_Taken_NoRoom : PySem.W.kitOne K (.ref C_Taken) (.ref C_NoRoom) = some false)
    (qi_NoWish_NoCount : PySem.W.kitOne K (.ref C_NoWish) (.ref C_NoCount) = some false)
    (qi_NoWish_NoOrder : PySem.W.kitOne K (.ref C_NoWish) (.ref C_NoOrder) = some false)
    (qi_NoWish_NoQuay : PySem.W.kitOne K (.ref C_NoWish) (.ref C_NoQuay) = some false)
    (qi_NoWish_NoName : PySem.W.kitOne K (.ref C_NoWish) (.ref C_NoName) = some false)
    (qi_NoWish_NoTree : PySem.W.kitOne K (.ref C_NoWish) (.ref C_NoTree) = some false)
    (qi_NoWish_NoWishes : PySem.W.kitOne K (.ref C_NoWish) (.ref C_NoWishes) = some false)
    (qi_NoWish_TooMany : PySem.W.kitOne K (.ref C_NoWish) (.ref C_TooMany) = some false)
    (qi_NoWish_NoShip : PySem.W.kitOne K (.ref C_NoWish) (.ref C_NoShip) = some false)
    (qi_NoWish_NoText : PySem.W.kitOne K (.ref C_NoWish) (.ref C_NoText) = some false)
    (qi_NoWish_Taken : PySem.W.kitOne K (.ref C_NoWish) (.ref C_Taken) = some false)
    (qi_NoWish_NoRoom : PySem.W.kitOne K (.ref C_NoWish) (.ref C_NoRoom) = some false)
    (qi_NoRoom_NoCount : PySem.W.kitOne K (.ref C_NoRoom) (.ref C_NoCount) = some false)
    (qi_NoRoom_NoOrder : PySem.W.kitOne K (.ref C_NoRoom) (.ref C_NoOrder) = some false)
    (qi_NoRoom_NoQuay : PySem.W.kitOne K (.ref C_NoRoom) (.ref C_NoQuay) = some false)
    (qi_NoRoom_NoName : PySem.W.kitOne K (.ref C_NoRoom) (.ref C_NoName) = some false)
    (qi_NoRoom_NoTree : PySem.W.kitOne K (.ref C_NoRoom) (.ref C_NoTree) = some false)
    (qi_NoRoom_NoWishes : PySem.W.kitOne K (.ref C_NoRoom) (.ref C_NoWishes) = some false)
    (qi_NoRoom_TooMany : PySem.W.kitOne K (.ref C_NoRoom) (.ref C_TooMany) = some false)
    (qi_NoRoom_NoShip : PySem.W.kitOne K (.ref C_NoRoom) (.ref C_NoShip) = some false)
    (qi_NoRoom_NoText : PySem.W.kitOne K (.ref C_NoRoom) (.ref C_NoText) = some false)
    (qi_NoRoom_Taken : PySem.W.kitOne K (.ref C_NoRoom) (.ref C_Taken) = some false)
    (qi_NoRoom_NoWish : PySem.W.kitOne K (.ref C_NoRoom) (.ref C_NoWish) = some false)
    (qi_none_NoCount : PySem.W.kitOne K (.type "NoneType") (.ref C_NoCount) = some false)
    (qi_none_NoOrder : PySem.W.kitOne K (.type "NoneType") (.ref C_NoOrder) = some false)
    (qi_none_NoQuay : PySem.W.kitOne K (.type "NoneType") (.ref C_NoQuay) = some false)
    (qi_none_NoName : PySem.W.kitOne K (.type "NoneType") (.ref C_NoName) = some false)
    (qi_none_NoTree : PySem.W.kitOne K (.type "NoneType") (.ref C_NoTree) = some false)
    (qi_none_NoWishes : PySem.W.kitOne K (.type "NoneType") (.ref C_NoWishes) = some false)
    (qi_none_TooMany : PySem.W.kitOne K (.type "NoneType") (.ref C_TooMany) = some false)
    (qi_none_NoShip : PySem.W.kitOne K (.type "NoneType") (.ref C_NoShip) = some false)
    (qi_none_NoText : PySem.W.kitOne K (.type "NoneType") (.ref C_NoText) = some false)
    (qi_none_Taken : PySem.W.kitOne K (.type "NoneType") (.ref C_Taken) = some false)
    (qi_none_NoWish : PySem.W.kitOne K (.type "NoneType") (.ref C_NoWish) = some false)
    (qi_none_NoRoom : PySem.W.kitOne K (.type "NoneType") (.ref C_NoRoom) = some false)
    (pg_Quay : PySem.W.plainGet K C_Quay Str.empty = true)
    (hdc_Quay : PySem.W.hasDictIn K C_Quay = true)
    (po_Quay : PySem.W.plainOver K C_Quay = true)
    (sa_Quay : PySem.W.findIn K (.ref C_Quay) "__setattr__" = some (some (.builtin "object.__setattr__")))
    (mks_Quay : PySem.W.makesIn K C_Quay = true)
    (kpc_Quay : PySem.W.keepIn K (.ref C_Quay) = true)
    (na_Quay_many : PySem.W.findIn K (.ref C_Quay) "many" = some none)
    (na_Quay_line : PySem.W.findIn K (.ref C_Quay) "line" = some none)
    (na_Quay_lying : PySem.W.findIn K (.ref C_Quay) "lying" = some none)
    (pg_Round : PySem.W.plainGet K C_Round Str.empty = true)
    (hdc_Round : PySem.W.hasDictIn K C_Round = true)
    (po_Round : PySem.W.plainOver K C_Round = true)
    (sa_Round : PySem.W.findIn K (.ref C_Round) "__setattr__" = some (some (.builtin "object.__setattr__")))
    (mks_Round : PySem.W.makesIn K C_Round = true)
    (kpc_Round : PySem.W.keepIn K (.ref C_Round) = true)
    (na_Round_many : PySem.W.findIn K (.ref C_Round) "many" = some none)
    (na_Round_line : PySem.W.findIn K (.ref C_Round) "line" = some none)
    (na_Round_lying : PySem.W.findIn K (.ref C_Round) "lying" = some none)
    (oka_Quay : PySem.W.findIn K (.ref C_Quay) "__class__" = some (some (.builtin "object.__class__")))
    (okm_Quay : PySem.W.mroIn K C_Quay (.type "object") = some true)
    (oka_Round : PySem.W.findIn K (.ref C_Round) "__class__" = some (some (.builtin "object.__class__")))
    (okm_Round : PySem.W.mroIn K C_Round (.type "object") = some true)
    (oik_Quay_Round : PySem.W.kitOne K (.ref C_Quay) (.ref C_Round) = some false)
    (oik_Round_Quay : PySem.W.kitOne K (.ref C_Round) (.ref C_Quay) = some true)
    (fi_Quay___init___Quay : PySem.W.findIn K (.ref C_Quay) "__init__" = some (some (.ref f_Quay___init__)))
    (fi_Quay___init___Round : PySem.W.findIn K (.ref C_Round) "__init__" = some (some (.ref f_Quay___init__)))
    (l_Quay___init__ : K.lookup f_Quay___init__ = some ⟨oc_Quay___init__, od_Quay___init__, .func (PySem.W.fnOf "__init__" "Quay.__init__" (defArgs s_Quay___init__) (defBody s_Quay___init__) (defScope s_Quay___init__) .none kV_Quay___init__ dc_Quay___init__ pm_Quay___init__ an_Quay___init__ cd_Quay___init__ ct_Quay___init__), sl_Quay___init__⟩)
    (c_Quay___init__ : PySem.W.codeIn K cd_Quay___init__ "Quay.__init__" = true)
    (k_Quay___init__ : PySem.W.keepIn K (.ref f_Quay___init__) = true)
    (isf_Quay___init__ : PySem.W.isFn K (.ref f_Quay___init__) = true)
    (fi_Quay_size_Quay : PySem.W.findIn K (.ref C_Quay) "size" = some (some (.ref f_Quay_size)))
    (fi_Quay_size_Round : PySem.W.findIn K (.ref C_Round) "size" = some (some (.ref f_Quay_size)))
    (l_Quay_size : K.lookup f_Quay_size = some ⟨oc_Quay_size, od_Quay_size, .func (PySem.W.fnOf "size" "Quay.size" (defArgs s_Quay_size) (defBody s_Quay_size) (defScope s_Quay_size) .none kV_Quay_size dc_Quay_size pm_Quay_size an_Quay_size cd_Quay_size ct_Quay_size), sl_Quay_size⟩)
    (c_Quay_size : PySem.W.codeIn K cd_Quay_size "Quay.size" = true)
    (k_Quay_size : PySem.W.keepIn K (.ref f_Quay_size) = true)
    (isf_Quay_size : PySem.W.isFn K (.ref f_Quay_size) = true)
    (fi_Quay_berth_for_Quay : PySem.W.findIn K (.ref C_Quay) "berth_for" = some (some (.ref f_Quay_berth_for)))
    (fi_Quay_berth_for_Round : PySem.W.findIn K (.ref C_Round) "berth_for" = some (some (.ref f_Quay_berth_for)))
    (l_Quay_berth_for : K.lookup f_Quay_berth_for = some ⟨oc_Quay_berth_for, od_Quay_berth_for, .func (PySem.W.fnOf "berth_for" "Quay.berth_for" (defArgs s_Quay_berth_for) (defBody s_Quay_berth_for) (defScope s_Quay_berth_for) .none kV_Quay_berth_for dc_Quay_berth_for pm_Quay_berth_for an_Quay_berth_for cd_Quay_berth_for ct_Quay_berth_for), sl_Quay_berth_for⟩)
    (c_Quay_berth_for : PySem.W.codeIn K cd_Quay_berth_for "Quay.berth_for" = true)
    (k_Quay_berth_for : PySem.W.keepIn K (.ref f_Quay_berth_for) = true)
    (isf_Quay_berth_for : PySem.W.isFn K (.ref f_Quay_berth_for) = true)
    (fi_Quay_come_Quay : PySem.W.findIn K (.ref C_Quay) "come" = some (some (.ref f_Quay_come)))
    (fi_Quay_come_Round : PySem.W.findIn K (.ref C_Round) "come" = some (some (.ref f_Quay_come)))
    (l_Quay_come : K.lookup f_Quay_come = some ⟨oc_Quay_come, od_Quay_come, .func (PySem.W.fnOf "come" "Quay.come" (defArgs s_Quay_come) (defBody s_Quay_come) (defScope s_Quay_come) .none kV_Quay_come dc_Quay_come pm_Quay_come an_Quay_come cd_Quay_come ct_Quay_come), sl_Quay_come⟩)
    (c_Quay_come : PySem.W.codeIn K cd_Quay_come "Quay.come" = true)
    (k_Quay_come : PySem.W.keepIn K (.ref f_Quay_come) = true)
    (isf_Quay_come : PySem.W.isFn K (.ref f_Quay_come) = true)
    (fi_Quay_where_Quay : PySem.W.findIn K (.ref C_Quay) "where" = some (some (.ref f_Quay_where)))
    (fi_Quay_where_Round : PySem.W.findIn K (.ref C_Round) "where" = some (some (.ref f_Quay_where)))
    (l_Quay_where : K.lookup f_Quay_where = some ⟨oc_Quay_where, od_Quay_where, .func (PySem.W.fnOf "where" "Quay.where" (defArgs s_Quay_where) (defBody s_Quay_where) (defScope s_Quay_where) .none kV_Quay_where dc_Quay_where pm_Quay_where an_Quay_where cd_Quay_where ct_Quay_where), sl_Quay_where⟩)
    (c_Quay_where : PySem.W.codeIn K cd_Quay_where "Quay.where" = true)
    (k_Quay_where : PySem.W.keepIn K (.ref f_Quay_where) = true)
    (isf_Quay_where : PySem.W.isFn K (.ref f_Quay_where) = true)
    (fi_Quay_leave_Quay : PySem.W.findIn K (.ref C_Quay) "leave" = some (some (.ref f_Quay_leave)))
    (fi_Quay_leave_Round : PySem.W.findIn K (.ref C_Round) "leave" = some (some (.ref f_Quay_leave)))
    (l_Quay_leave : K.lookup f_Quay_leave = some ⟨oc_Quay_leave, od_Quay_leave, .func (PySem.W.fnOf "leave" "Quay.leave" (defArgs s_Quay_leave) (defBody s_Quay_leave) (defScope s_Quay_leave) .none kV_Quay_leave dc_Quay_leave pm_Quay_leave an_Quay_leave cd_Quay_leave ct_Quay_leave), sl_Quay_leave⟩)
    (c_Quay_leave : PySem.W.codeIn K cd_Quay_leave "Quay.leave" = true)
    (k_Quay_leave : PySem.W.keepIn K (.ref f_Quay_leave) = true)
    (isf_Quay_leave : PySem.W.isFn K (.ref f_Quay_leave) = true)
    (fi_Quay_all_ships_Quay : PySem.W.findIn K (.ref C_Quay) "all_ships" = some (some (.ref f_Quay_all_ships)))
    (fi_Quay_all_ships_Round : PySem.W.findIn K (.ref C_Round) "all_ships" = some (some (.ref f_Quay_all_ships)))
    (l_Quay_all_ships : K.lookup f_Quay_all_ships = some ⟨oc_Quay_all_ships, od_Quay_all_ships, .func (PySem.W.fnOf "all_ships" "Quay.all_ships" (defArgs s_Quay_all_ships) (defBody s_Quay_all_ships) (defScope s_Quay_all_ships) .none kV_Quay_all_ships dc_Quay_all_ships pm_Quay_all_ships an_Quay_all_ships cd_Quay_all_ships ct_Quay_all_ships), sl_Quay_all_ships⟩)
    (c_Quay_all_ships : PySem.W.codeIn K cd_Quay_all_ships "Quay.all_ships" = true)
    (k_Quay_all_ships : PySem.W.keepIn K (.ref f_Quay_all_ships) = true)
    (isf_Quay_all_ships : PySem.W.isFn K (.ref f_Quay_all_ships) = true)
    (fi_Quay_free_ones_Quay : PySem.W.findIn K (.ref C_Quay) "free_ones" = some (some (.ref f_Quay_free_ones)))
    (fi_Quay_free_ones_Round : PySem.W.findIn K (.ref C_Round) "free_ones" = some (some (.ref f_Quay_free_ones)))
    (l_Quay_free_ones : K.lookup f_Quay_free_ones = some ⟨oc_Quay_free_ones, od_Quay_free_ones, .func (PySem.W.fnOf "free_ones" "Quay.free_ones" (defArgs s_Quay_free_ones) (defBody s_Quay_free_ones) (defScope s_Quay_free_ones) .none kV_Quay_free_ones dc_Quay_free_ones pm_Quay_free_ones an_Quay_free_ones cd_Quay_free_ones ct_Quay_free_ones), sl_Quay_free_ones⟩)
    (c_Quay_free_ones : PySem.W.codeIn K cd_Quay_free_ones "Quay.free_ones" = true)
    (k_Quay_free_ones : PySem.W.keepIn K (.ref f_Quay_free_ones) = true)
    (isf_Quay_free_ones : PySem.W.isFn K (.ref f_Quay_free_ones) = true)
    (fi_Quay_way_Quay : PySem.W.findIn K (.ref C_Quay) "way" = some (some (.ref f_Quay_way)))
    (l_Quay_way : K.lookup f_Quay_way = some ⟨oc_Quay_way, od_Quay_way, .func (PySem.W.fnOf "way" "Quay.way" (defArgs s_Quay_way) (defBody s_Quay_way) (defScope s_Quay_way) .none kV_Quay_way dc_Quay_way pm_Quay_way an_Quay_way cd_Quay_way ct_Quay_way), sl_Quay_way⟩)
    (c_Quay_way : PySem.W.codeIn K cd_Quay_way "Quay.way" = true)
    (k_Quay_way : PySem.W.keepIn K (.ref f_Quay_way) = true)
    (isf_Quay_way : PySem.W.isFn K (.ref f_Quay_way) = true)
    (fi_Quay_kind_Quay : PySem.W.findIn K (.ref C_Quay) "kind" = some (some (.ref f_Quay_kind)))
    (l_Quay_kind : K.lookup f_Quay_kind = some ⟨oc_Quay_kind, od_Quay_kind, .func (PySem.W.fnOf "kind" "Quay.kind" (defArgs s_Quay_kind) (defBody s_Quay_kind) (defScope s_Quay_kind) .none kV_Quay_kind dc_Quay_kind pm_Quay_kind an_Quay_kind cd_Quay_kind ct_Quay_kind), sl_Quay_kind⟩)
    (c_Quay_kind : PySem.W.codeIn K cd_Quay_kind "Quay.kind" = true)
    (k_Quay_kind : PySem.W.keepIn K (.ref f_Quay_kind) = true)
    (isf_Quay_kind : PySem.W.isFn K (.ref f_Quay_kind) = true)
    (fi_Round_way_Round : PySem.W.findIn K (.ref C_Round) "way" = some (some (.ref f_Round_way)))
    (l_Round_way : K.lookup f_Round_way = some ⟨oc_Round_way, od_Round_way, .func (PySem.W.fnOf "way" "Round.way" (defArgs s_Round_way) (defBody s_Round_way) (defScope s_Round_way) .none kV_Round_way dc_Round_way pm_Round_way an_Round_way cd_Round_way ct_Round_way), sl_Round_way⟩)
    (c_Round_way : PySem.W.codeIn K cd_Round_way "Round.way" = true)
    (k_Round_way : PySem.W.keepIn K (.ref f_Round_way) = true)
    (isf_Round_way : PySem.W.isFn K (.ref f_Round_way) = true)
    (fi_Round_kind_Round : PySem.W.findIn K (.ref C_Round) "kind" = some (some (.ref f_Round_kind)))
    (l_Round_kind : K.lookup f_Round_kind = some ⟨oc_Round_kind, od_Round_kind, .func (PySem.W.fnOf "kind" "Round.kind" (defArgs s_Round_kind) (defBody s_Round_kind) (defScope s_Round_kind) .none kV_Round_kind dc_Round_kind pm_Round_kind an_Round_kind cd_Round_kind ct_Round_kind), sl_Round_kind⟩)
    (c_Round_kind : PySem.W.codeIn K cd_Round_kind "Round.kind" = true)
    (k_Round_kind : PySem.W.keepIn K (.ref f_Round_kind) = true)
    (isf_Round_kind : PySem.W.isFn K (.ref f_Round_kind) = true) :
    ∃ fd : FuncData, (∀ (s : Shared) (v : Value), BindsTo s fd ⟨[v], []⟩ [("_law_script", v)]) ∧ ∀ base : Heap, K.In base → base.Ns mainGlobals mg → FnOk l.prog w K mg base (L2.CX l.prog w) 7 fa fd ["_law_script"] (sp_law K) := by
  have e := hfa.symm.trans (PySem.W.mg_of X G a_law)
  cases e
  have N : Nms K mg := { n_len := PySem.W.mg_none_of X G z_len, n_isinstance := PySem.W.mg_none_of X G z_isinstance, n_range := PySem.W.mg_none_of X G z_range, n_all := PySem.W.mg_none_of X G z_all, n_int := PySem.W.mg_none_of X G z_int, n_bool := PySem.W.mg_none_of X G z_bool, n_str := PySem.W.mg_none_of X G z_str, n_list := PySem.W.mg_none_of X G z_list, n_ValueError := PySem.W.mg_none_of X G z_ValueError, c_MOST := ⟨_, PySem.W.mg_of X G q_MOST, ⟨_, rfl⟩⟩, c_LETTERS := ⟨_, PySem.W.mg_of X G q_LETTERS, ⟨_, rfl⟩⟩, c_LONGEST := ⟨_, PySem.W.mg_of X G q_LONGEST, ⟨_, rfl⟩⟩, c_FIGURES := ⟨_, PySem.W.mg_of X G q_FIGURES, ⟨_, rfl⟩⟩, x_NoQuay := ⟨_, PySem.W.mg_of X G e_NoQuay, x_NoQuay, w_NoQuay, b_NoQuay, y_NoQuay⟩, x_NoName := ⟨_, PySem.W.mg_of X G e_NoName, x_NoName, w_NoName, b_NoName, y_NoName⟩, x_NoText := ⟨_, PySem.W.mg_of X G e_NoText, x_NoText, w_NoText, b_NoText, y_NoText⟩, x_Taken := ⟨_, PySem.W.mg_of X G e_Taken, x_Taken, w_Taken, b_Taken, y_Taken⟩, x_NoWish := ⟨_, PySem.W.mg_of X G e_NoWish, x_NoWish, w_NoWish, b_NoWish, y_NoWish⟩, x_NoRoom := ⟨_, PySem.W.mg_of X G e_NoRoom, x_NoRoom, w_NoRoom, b_NoRoom, y_NoRoom⟩, x_NoShip := ⟨_, PySem.W.mg_of X G e_NoShip, x_NoShip, w_NoShip, b_NoShip, y_NoShip⟩, m_Quay := B.m_of (PySem.W.mg_of X G e_Quay), m_Round := B.m_of (PySem.W.mg_of X G e_Round), m_BerthError := B.m_of (PySem.W.mg_of X G e_BerthError), m_NoCount := B.m_of (PySem.W.mg_of X G e_NoCount), m_NoOrder := B.m_of (PySem.W.mg_of X G e_NoOrder), m_NoQuay := B.m_of (PySem.W.mg_of X G e_NoQuay), m_NoName := B.m_of (PySem.W.mg_of X G e_NoName), m_NoTree := B.m_of (PySem.W.mg_of X G e_NoTree), m_NoWishes := B.m_of (PySem.W.mg_of X G e_NoWishes), m_TooMany := B.m_of (PySem.W.mg_of X G e_TooMany), m_NoShip := B.m_of (PySem.W.mg_of X G e_NoShip), m_NoText := B.m_of (PySem.W.mg_of X G e_NoText), m_Taken := B.m_of (PySem.W.mg_of X G e_Taken), m_NoWish := B.m_of (PySem.W.mg_of X G e_NoWish), m_NoRoom := B.m_of (PySem.W.mg_of X G e_NoRoom), k_NoText := by rw [B.at_of (PySem.W.mg_of X G e_NoText)]; exact ⟨kg_NoText, kk_NoText, b_NoText, kd_NoText, ka_NoText, xn, xt, km_NoText⟩, e_NoText := by rw [B.at_of (PySem.W.mg_of X G e_NoText), B.at_of (PySem.W.mg_of X G e_BerthError)]; exact PySem.W.exm_ref sb_BerthError hd_BerthError ty_BerthError ks_NoText, k_Taken := by rw [B.at_of (PySem.W.mg_of X G e_Taken)]; exact ⟨kg_Taken, kk_Taken, b_Taken, kd_Taken, ka_Taken, xn, xt, km_Taken⟩, e_Taken := by rw [B.at_of (PySem.W.mg_of X G e_Taken), B.at_of (PySem.W.mg_of X G e_BerthError)]; exact PySem.W.exm_ref sb_BerthError hd_BerthError ty_BerthError ks_Taken, k_NoWish := by rw [B.at_of (PySem.W.mg_of X G e_NoWish)]; exact ⟨kg_NoWish, kk_NoWish, b_NoWish, kd_NoWish, ka_NoWish, xn, xt, km_NoWish⟩, e_NoWish := by rw [B.at_of (PySem.W.mg_of X G e_NoWish), B.at_of (PySem.W.mg_of X G e_BerthError)]; exact PySem.W.exm_ref sb_BerthError hd_BerthError ty_BerthError ks_NoWish, k_NoRoom := by rw [B.at_of (PySem.W.mg_of X G e_NoRoom)]; exact ⟨kg_NoRoom, kk_NoRoom, b_NoRoom, kd_NoRoom, ka_NoRoom, xn, xt, km_NoRoom⟩, e_NoRoom := by rw [B.at_of (PySem.W.mg_of X G e_NoRoom), B.at_of (PySem.W.mg_of X G e_BerthError)]; exact PySem.W.exm_ref sb_BerthError hd_BerthError ty_BerthError ks_NoRoom, es_NoName := by rw [B.at_of (PySem.W.mg_of X G e_NoName)]; exact PySem.W.exm_ref b_NoName hds_NoName y_NoName kss_NoName, i_NoText_NoCount := by rw [B.at_of (PySem.W.mg_of X G e_NoText), B.at_of (PySem.W.mg_of X G e_NoCount)]; exact qi_NoText_NoCount, i_NoText_NoOrder := by rw [B.at_of (PySem.W.mg_of X G e_NoText), B.at_of (PySem.W.mg_of X G e_NoOrder)]; exact qi_NoText_NoOrder, i_NoText_NoQuay := by rw [B.at_of (PySem.W.mg_of X G e_NoText), B.at_of (PySem.W.mg_of X G e_NoQuay)]; exact qi_NoText_NoQuay, i_NoText_NoName := by rw [B.at_of (PySem.W.mg_of X G e_NoText), B.at_of (PySem.W.mg_of X G e_NoName)]; exact qi_NoText_NoName, i_NoText_NoTree := by rw [B.at_of (PySem.W.mg_of X G e_NoText), B.at_of (PySem.W.mg_of X G e_NoTree)]; exact qi_NoText_NoTree, i_NoText_NoWishes := by rw [B.at_of (PySem.W.mg_of X G e_NoText), B.at_of (PySem.W.mg_of X G e_NoWishes)]; exact qi_NoText_NoWishes, i_NoText_TooMany := by rw [B.at_of (PySem.W.mg_of X G e_NoText), B.at_of (PySem.W.mg_of X G e_TooMany)]; exact qi_NoText_TooMany, i_NoText_NoShip := by rw [B.at_of (PySem.W.mg_of X G e_NoText), B.at_of (PySem.W.mg_of X G e_NoShip)]; exact qi_NoText_NoShip, i_NoText_NoText := by unfold PySem.W.kitOne; simp, i_NoText_Taken := by rw [B.at_of (PySem.W.mg_of X G e_NoText), B.at_of (PySem.W.mg_of X G e_Taken)]; exact qi_NoText_Taken, i_NoText_NoWish := by rw [B.at_of (PySem.W.mg_of X G e_NoText), B.at_of (PySem.W.mg_of X G e_NoWish)]; exact qi_NoText_NoWish, i_NoText_NoRoom := by rw [B.at_of (PySem.W.mg_of X G e_NoText), B.at_of (PySem.W.mg_of X G e_NoRoom)]; exact qi_NoText_NoRoom, i_Taken_NoCount := by rw [B.at_of (PySem.W.mg_of X G e_Taken), B.at_of (PySem.W.mg_of X G e_NoCount)]; exact qi_Taken_NoCount, i_Taken_NoOrder := by rw [B.at_of (PySem.W.mg_of X G e_Taken), B.at_of (PySem.W.mg_of X G e_NoOrder)]; exact qi_Taken_NoOrder, i_Taken_NoQuay := by rw [B.at_of (PySem.W.mg_of X G e_Taken), B.at_of (PySem.W.mg_of X G e_NoQuay)]; exact qi_Taken_NoQuay, i_Taken_NoName := by rw [B.at_of (PySem.W.mg_of X G e_Taken), B.at_of (PySem.W.mg_of X G e_NoName)]; exact qi_Taken_NoName, i_Taken_NoTree := by rw [B.at_of (PySem.W.mg_of X G e_Taken), B.at_of (PySem.W.mg_of X G e_NoTree)]; exact qi_Taken_NoTree, i_Taken_NoWishes := by rw [B.at_of (PySem.W.mg_of X G e_Taken), B.at_of (PySem.W.mg_of X G e_NoWishes)]; exact qi_Taken_NoWishes, i_Taken_TooMany := by rw [B.at_of (PySem.W.mg_of X G e_Taken), B.at_of (PySem.W.mg_of X G e_TooMany)]; exact qi_Taken_TooMany, i_Taken_NoShip := by rw [B.at_of (PySem.W.mg_of X G e_Taken), B.at_of (PySem.W.mg_of X G e_NoShip)]; exact qi_Taken_NoShip, i_Taken_NoText := by rw [B.at_of (PySem.W.mg_of X G e_Taken), B.at_of (PySem.W.mg_of X G e_NoText)]; exact qi_Taken_NoText, i_Taken_Taken := by unfold PySem.W.kitOne; simp, i_Taken_NoWish := by rw [B.at_of (PySem.W.mg_of X G e_Taken), B.at_of (PySem.W.mg_of X G e_NoWish)]; exact qi_Taken_NoWish, i_Taken_NoRoom := by rw [B.at_of (PySem.W.mg_of X G e_Taken), B.at_of (PySem.W.mg_of X G e_NoRoom)]; exact qi_Taken_NoRoom, i_NoWish_NoCount := by rw [B.at_of (PySem.W.mg_of X G e_NoWish), B.at_of (PySem.W.mg_of X G e_NoCount)]; exact qi_NoWish_NoCount, i_NoWish_NoOrder := by rw [B.at_of (PySem.W.mg_of X G e_NoWish), B.at_of (PySem.W.mg_of X G e_NoOrder)]; exact qi_NoWish_NoOrder, i_NoWish_NoQuay := by rw [B.at_of (PySem.W.mg_of X G e_NoWish), B.at_of (PySem.W.mg_of X G e_NoQuay)]; exact qi_NoWish_NoQuay, i_NoWish_NoName := by rw [B.at_of (PySem.W.mg_of X G e_NoWish), B.at_of (PySem.W.mg_of X G e_NoName)]; exact qi_NoWish_NoName, i_NoWish_NoTree := by rw [B.at_of (PySem.W.mg_of X G e_NoWish), B.at_of (PySem.W.mg_of X G e_NoTree)]; exact qi_NoWish_NoTree, i_NoWish_NoWishes := by rw [B.at_of (PySem.W.mg_of X G e_NoWish), B.at_of (PySem.W.mg_of X G e_NoWishes)]; exact qi_NoWish_NoWishes, i_NoWish_TooMany := by rw [B.at_of (PySem.W.mg_of X G e_NoWish), B.at_of (PySem.W.mg_of X G e_TooMany)]; exact qi_NoWish_TooMany, i_NoWish_NoShip := by rw [B.at_of (PySem.W.mg_of X G e_NoWish), B.at_of (PySem.W.mg_of X G e_NoShip)]; exact qi_NoWish_NoShip, i_NoWish_NoText := by rw [B.at_of (PySem.W.mg_of X G e_NoWish), B.at_of (PySem.W.mg_of X G e_NoText)]; exact qi_NoWish_NoText, i_NoWish_Taken := by rw [B.at_of (PySem.W.mg_of X G e_NoWish), B.at_of (PySem.W.mg_of X G e_Taken)]; exact qi_NoWish_Taken, i_NoWish_NoWish := by unfold PySem.W.kitOne; simp, i_NoWish_NoRoom := by rw [B.at_of (PySem.W.mg_of X G e_NoWish), B.at_of (PySem.W.mg_of X G e_NoRoom)]; exact qi_NoWish_NoRoom, i_NoRoom_NoCount := by rw [B.at_of (PySem.W.mg_of X G e_NoRoom), B.at_of (PySem.W.mg_of X G e_NoCount)]; exact qi_NoRoom_NoCount, i_NoRoom_NoOrder := by rw [B.at_of (PySem.W.mg_of X G e_NoRoom), B.at_of (PySem.W.mg_of X G e_NoOrder)]; exact qi_NoRoom_NoOrder, i_NoRoom_NoQuay := by rw [B.at_of (PySem.W.mg_of X G e_NoRoom), B.at_of (PySem.W.mg_of X G e_NoQuay)]; exact qi_NoRoom_NoQuay, i_NoRoom_NoName := by rw [B.at_of (PySem.W.mg_of X G e_NoRoom), B.at_of (PySem.W.mg_of X G e_NoName)]; exact qi_NoRoom_NoName, i_NoRoom_NoTree := by rw [B.at_of (PySem.W.mg_of X G e_NoRoom), B.at_of (PySem.W.mg_of X G e_NoTree)]; exact qi_NoRoom_NoTree, i_NoRoom_NoWishes := by rw [B.at_of (PySem.W.mg_of X G e_NoRoom), B.at_of (PySem.W.mg_of X G e_NoWishes)]; exact qi_NoRoom_NoWishes, i_NoRoom_TooMany := by rw [B.at_of (PySem.W.mg_of X G e_NoRoom), B.at_of (PySem.W.mg_of X G e_TooMany)]; exact qi_NoRoom_TooMany, i_NoRoom_NoShip := by rw [B.at_of (PySem.W.mg_of X G e_NoRoom), B.at_of (PySem.W.mg_of X G e_NoShip)]; exact qi_NoRoom_NoShip, i_NoRoom_NoText := by rw [B.at_of (PySem.W.mg_of X G e_NoRoom), B.at_of (PySem.W.mg_of X G e_NoText)]; exact qi_NoRoom_NoText, i_NoRoom_Taken := by rw [B.at_of (PySem.W.mg_of X G e_NoRoom), B.at_of (PySem.W.mg_of X G e_Taken)]; exact qi_NoRoom_Taken, i_NoRoom_NoWish := by rw [B.at_of (PySem.W.mg_of X G e_NoRoom), B.at_of (PySem.W.mg_of X G e_NoWish)]; exact qi_NoRoom_NoWish, i_NoRoom_NoRoom := by unfold PySem.W.kitOne; simp, i_none_NoCount := by rw [B.at_of (PySem.W.mg_of X G e_NoCount)]; exact qi_none_NoCount, i_none_NoOrder := by rw [B.at_of (PySem.W.mg_of X G e_NoOrder)]; exact qi_none_NoOrder, i_none_NoQuay := by rw [B.at_of (PySem.W.mg_of X G e_NoQuay)]; exact qi_none_NoQuay, i_none_NoName := by rw [B.at_of (PySem.W.mg_of X G e_NoName)]; exact qi_none_NoName, i_none_NoTree := by rw [B.at_of (PySem.W.mg_of X G e_NoTree)]; exact qi_none_NoTree, i_none_NoWishes := by rw [B.at_of (PySem.W.mg_of X G e_NoWishes)]; exact qi_none_NoWishes, i_none_TooMany := by rw [B.at_of (PySem.W.mg_of X G e_TooMany)]; exact qi_none_TooMany, i_none_NoShip := by rw [B.at_of (PySem.W.mg_of X G e_NoShip)]; exact qi_none_NoShip, i_none_NoText := by rw [B.at_of (PySem.W.mg_of X G e_NoText)]; exact qi_none_NoText, i_none_Taken := by rw [B.at_of (PySem.W.mg_of X G e_Taken)]; exact qi_none_Taken, i_none_NoWish := by rw [B.at_of (PySem.W.mg_of X G e_NoWish)]; exact qi_none_NoWish, i_none_NoRoom := by rw [B.at_of (PySem.W.mg_of X G e_NoRoom)]; exact qi_none_NoRoom, cl_Quay := ⟨B.m_of (PySem.W.mg_of X G e_Quay), by rw [B.at_of (PySem.W.mg_of X G e_Quay)]; exact ⟨pg_Quay, hdc_Quay, po_Quay, sa_Quay⟩, by rw [B.at_of (PySem.W.mg_of X G e_Quay)]; exact mks_Quay, by rw [B.at_of (PySem.W.mg_of X G e_Quay)]; exact kpc_Quay⟩, na_Quay_many := by rw [B.at_of (PySem.W.mg_of X G e_Quay)]; exact na_Quay_many, na_Quay_line := by rw [B.at_of (PySem.W.mg_of X G e_Quay)]; exact na_Quay_line, na_Quay_lying := by rw [B.at_of (PySem.W.mg_of X G e_Quay)]; exact na_Quay_lying, cl_Round := ⟨B.m_of (PySem.W.mg_of X G e_Round), by rw [B.at_of (PySem.W.mg_of X G e_Round)]; exact ⟨pg_Round, hdc_Round, po_Round, sa_Round⟩, by rw [B.at_of (PySem.W.mg_of X G e_Round)]; exact mks_Round, by rw [B.at_of (PySem.W.mg_of X G e_Round)]; exact kpc_Round⟩, na_Round_many := by rw [B.at_of (PySem.W.mg_of X G e_Round)]; exact na_Round_many, na_Round_line := by rw [B.at_of (PySem.W.mg_of X G e_Round)]; exact na_Round_line, na_Round_lying := by rw [B.at_of (PySem.W.mg_of X G e_Round)]; exact na_Round_lying, ob_Quay := by rw [B.at_of (PySem.W.mg_of X G e_Quay)]; exact ⟨oka_Quay, xn, xt, okm_Quay⟩, ob_Round := by rw [B.at_of (PySem.W.mg_of X G e_Round)]; exact ⟨oka_Round, xn, xt, okm_Round⟩, ik_Quay_Quay := by rw [B.at_of (PySem.W.mg_of X G e_Quay)]; unfold PySem.W.kitOne; simp, ik_Quay_Round := by rw [B.at_of (PySem.W.mg_of X G e_Quay), B.at_of (PySem.W.mg_of X G e_Round)]; exact oik_Quay_Round, ik_Round_Round := by rw [B.at_of (PySem.W.mg_of X G e_Round)]; unfold PySem.W.kitOne; simp, ik_Round_Quay := by rw [B.at_of (PySem.W.mg_of X G e_Round), B.at_of (PySem.W.mg_of X G e_Quay)]; exact oik_Round_Quay }
  refine ⟨PySem.W.fnOf "law" "law" (defArgs s_law) (defBody s_law) (defScope s_law) .none kV_law dc_law pm_law an_law cd_law ct_law, fun s v => .of_eq rfl, fun base hb hg => ?_⟩
  have S_is_number : B.Stands K mg "is_number" s_is_number := ⟨_, _, fun_mk (st := s_is_number) l_is_number c_is_number k_is_number, PySem.W.mg_of X G a_is_number⟩
  have H_is_number := has_is_number (P := l.prog) (w := w) (base := base) S_is_number N 
  have S_need_name : B.Stands K mg "need_name" s_need_name := ⟨_, _, fun_mk (st := s_need_name) l_need_name c_need_name k_need_name, PySem.W.mg_of X G a_need_name⟩
  have HC_need_name := hasC_need_name (P := l.prog) (w := w) (base := base) S_need_name N 
  have H_need_name := has_need_name (P := l.prog) (w := w) (base := base) S_need_name N 
  have S_pair_of : B.Stands K mg "pair_of" s_pair_of := ⟨_, _, fun_mk (st := s_pair_of) l_pair_of c_pair_of k_pair_of, PySem.W.mg_of X G a_pair_of⟩
  have H_pair_of := has_pair_of (P := l.prog) (w := w) (base := base) S_pair_of N 
  have S__law_cell_at : B.Stands K mg "_law_cell_at" s__law_cell_at := ⟨_, _, fun_mk (st := s__law_cell_at) l__law_cell_at c__law_cell_at k__law_cell_at, PySem.W.mg_of X G a__law_cell_at⟩
  have H__law_cell_at := has__law_cell_at (P := l.prog) (w := w) (base := base) S__law_cell_at N 
  have S__law_mix : B.Stands K mg "_law_mix" s__law_mix := ⟨_, _, fun_mk (st := s__law_mix) l__law_mix c__law_mix k__law_mix, PySem.W.mg_of X G a__law_mix⟩
  have H__law_mix := has__law_mix (P := l.prog) (w := w) (base := base) S__law_mix N 
  have S__law_words : B.Stands K mg "_law_words" s__law_words := ⟨_, _, fun_mk (st := s__law_words) l__law_words c__law_words k__law_words, PySem.W.mg_of X G a__law_words⟩
  have H__law_words := has__law_words (P := l.prog) (w := w) (base := base) S__law_words N 
  have S_Quay_size_Quay : B.StandsM K mg "Quay" "size" "Quay.size" s_Quay_size := ⟨_, _, fun_mk (st := s_Quay_size) l_Quay_size c_Quay_size k_Quay_size, by rw [B.at_of (PySem.W.mg_of X G e_Quay)]; exact ⟨fi_Quay_size_Quay, isf_Quay_size, k_Quay_size⟩⟩
  have H_Quay_size_Quay := has_Quay_size (P := l.prog) (w := w) (base := base) S_Quay_size_Quay N 
  have S_Quay_size_Round : B.StandsM K mg "Round" "size" "Quay.size" s_Quay_size := ⟨_, _, fun_mk (st := s_Quay_size) l_Quay_size c_Quay_size k_Quay_size, by rw [B.at_of (PySem.W.mg_of X G e_Round)]; exact ⟨fi_Quay_size_Round, isf_Quay_size, k_Quay_size⟩⟩
  have H_Quay_size_Round := has_Quay_size (P := l.prog) (w := w) (base := base) S_Quay_size_Round N 
  have S_Quay_all_ships_Quay : B.StandsM K mg "Quay" "all_ships" "Quay.all_ships" s_Quay_all_ships := ⟨_, _, fun_mk (st := s_Quay_all_ships) l_Quay_all_ships c_Quay_all_ships k_Quay_all_ships, by rw [B.at_of (PySem.W.mg_of X G e_Quay)]; exact ⟨fi_Quay_all_ships_Quay, isf_Quay_all_ships, k_Quay_all_ships⟩⟩
  have H_Quay_all_ships_Quay := has_Quay_all_ships (P := l.prog) (w := w) (base := base) S_Quay_all_ships_Quay N 
  have S_Quay_all_ships_Round : B.StandsM K mg "Round" "all_ships" "Quay.all_ships" s_Quay_all_ships := ⟨_, _, fun_mk (st := s_Quay_all_ships) l_Quay_all_ships c_Quay_all_ships k_Quay_all_ships, by rw [B.at_of (PySem.W.mg_of X G e_Round)]; exact ⟨fi_Quay_all_ships_Round, isf_Quay_all_ships, k_Quay_all_ships⟩⟩
  have H_Quay_all_ships_Round := has_Quay_all_ships (P := l.prog) (w := w) (base := base) S_Quay_all_ships_Round N 
  have S_Quay_free_ones_Quay : B.StandsM K mg "Quay" "free_ones" "Quay.free_ones" s_Quay_free_ones := ⟨_, _, fun_mk (st := s_Quay_free_ones) l_Quay_free_ones c_Quay_free_ones k_Quay_free_ones, by rw [B.at_of (PySem.W.mg_of X G e_Quay)]; exact ⟨fi_Quay_free_ones_Quay, isf_Quay_free_ones, k_Quay_free_ones⟩⟩
  have H_Quay_free_ones_Quay := has_Quay_free_ones (P := l.prog) (w := w) (base := base) S_Quay_free_ones_Quay N 
  have S_Quay_free_ones_Round : B.StandsM K mg "Round" "free_ones" "Quay.free_ones" s_Quay_free_ones := ⟨_, _, fun_mk (st := s_Quay_free_ones) l_Quay_free_ones c_Quay_free_ones k_Quay_free_ones, by rw [B.at_of (PySem.W.mg_of X G e_Round)]; exact ⟨fi_Quay_free_ones_Round, isf_Quay_free_ones, k_Quay_free_ones⟩⟩
  have H_Quay_free_ones_Round := has_Quay_free_ones (P := l.prog) (w := w) (base := base) S_Quay_free_ones_Round N 
  have S_Quay_way_Quay : B.StandsM K mg "Quay" "way" "Quay.way" s_Quay_way := ⟨_, _, fun_mk (st := s_Quay_way) l_Quay_way c_Quay_way k_Quay_way, by rw [B.at_of (PySem.W.mg_of X G e_Quay)]; exact ⟨fi_Quay_way_Quay, isf_Quay_way, k_Quay_way⟩⟩
  have H_Quay_way_Quay := has_Quay_way (P := l.prog) (w := w) (base := base) S_Quay_way_Quay N 
  have S_Quay_kind_Quay : B.StandsM K mg "Quay" "kind" "Quay.kind" s_Quay_kind := ⟨_, _, fun_mk (st := s_Quay_kind) l_Quay_kind c_Quay_kind k_Quay_kind, by rw [B.at_of (PySem.W.mg_of X G e_Quay)]; exact ⟨fi_Quay_kind_Quay, isf_Quay_kind, k_Quay_kind⟩⟩
  have H_Quay_kind_Quay := has_Quay_kind (P := l.prog) (w := w) (base := base) S_Quay_kind_Quay N 
  have S_Round_way_Round : B.StandsM K mg "Round" "way" "Round.way" s_Round_way := ⟨_, _, fun_mk (st := s_Round_way) l_Round_way c_Round_way k_Round_way, by rw [B.at_of (PySem.W.mg_of X G e_Round)]; exact ⟨fi_Round_way_Round, isf_Round_way, k_Round_way⟩⟩
  have H_Round_way_Round := has_Round_way (P := l.prog) (w := w) (base := base) S_Round_way_Round N 
  have S_Round_kind_Round : B.StandsM K mg "Round" "kind" "Round.kind" s_Round_kind := ⟨_, _, fun_mk (st := s_Round_kind) l_Round_kind c_Round_kind k_Round_kind, by rw [B.at_of (PySem.W.mg_of X G e_Round)]; exact ⟨fi_Round_kind_Round, isf_Round_kind, k_Round_kind⟩⟩
  have H_Round_kind_Round := has_Round_kind (P := l.prog) (w := w) (base := base) S_Round_kind_Round N 
  have HF_way : B.FamM l.prog w K mg base "way" 1 ["self", "wish"] (WayS K mg) := fun c sp h => h.elim (fun ⟨h, e⟩ => by subst h; subst e; exact ⟨N.cl_Quay, H_Quay_way_Quay⟩) (fun ⟨h, e⟩ => by subst h; subst e; exact ⟨N.cl_Round, H_Round_way_Round⟩)
  have HF_kind : B.FamM l.prog w K mg base "kind" 1 ["self"] (KindS K mg) := fun c sp h => h.elim (fun ⟨h, e⟩ => by subst h; subst e; exact ⟨N.cl_Quay, H_Quay_kind_Quay⟩) (fun ⟨h, e⟩ => by subst h; subst e; exact ⟨N.cl_Round, H_Round_kind_Round⟩)
  have HF_size : B.FamM l.prog w K mg base "size" 1 ["self"] (fun c sp => IsQ c ∧ sp = sp_Quay_size K mg c) := fun c sp ⟨h, e⟩ => h.elim (fun h => by subst e; subst h; exact ⟨N.cl_Quay, H_Quay_size_Quay⟩) (fun h => by subst e; subst h; exact ⟨N.cl_Round, H_Quay_size_Round⟩)
  have HF_all_ships : B.FamM l.prog w K mg base "all_ships" 1 ["self"] (fun c sp => IsQ c ∧ sp = sp_Quay_all_ships K mg c) := fun c sp ⟨h, e⟩ => h.elim (fun h => by subst e; subst h; exact ⟨N.cl_Quay, H_Quay_all_ships_Quay⟩) (fun h => by subst e; subst h; exact ⟨N.cl_Round, H_Quay_all_ships_Round⟩)
  have HF_free_ones : B.FamM l.prog w K mg base "free_ones" 1 ["self"] (fun c sp => IsQ c ∧ sp = sp_Quay_free_ones K mg c) := fun c sp ⟨h, e⟩ => h.elim (fun h => by subst e; subst h; exact ⟨N.cl_Quay, H_Quay_free_ones_Quay⟩) (fun h => by subst e; subst h; exact ⟨N.cl_Round, H_Quay_free_ones_Round⟩)
  have S_need_quay : B.Stands K mg "need_quay" s_need_quay := ⟨_, _, fun_mk (st := s_need_quay) l_need_quay c_need_quay k_need_quay, PySem.W.mg_of X G a_need_quay⟩
  have H_need_quay := has_need_quay (P := l.prog) (w := w) (base := base) S_need_quay N H_is_number
  have S_number_of : B.Stands K mg "number_of" s_number_of := ⟨_, _, fun_mk (st := s_number_of) l_number_of c_number_of k_number_of, PySem.W.mg_of X G a_number_of⟩
  have H_number_of := has_number_of (P := l.prog) (w := w) (base := base) S_number_of N H_is_number
  have S_name_of : B.Stands K mg "name_of" s_name_of := ⟨_, _, fun_mk (st := s_name_of) l_name_of c_name_of k_name_of, PySem.W.mg_of X G a_name_of⟩
  have H_name_of := has_name_of (P := l.prog) (w := w) (base := base) S_name_of N HC_need_name
  have S_Quay_berth_for_Quay : B.StandsM K mg "Quay" "berth_for" "Quay.berth_for" s_Quay_berth_for := ⟨_, _, fun_mk (st := s_Quay_berth_for) l_Quay_berth_for c_Quay_berth_for k_Quay_berth_for, by rw [B.at_of (PySem.W.mg_of X G e_Quay)]; exact ⟨fi_Quay_berth_for_Quay, isf_Quay_berth_for, k_Quay_berth_for⟩⟩
  have H_Quay_berth_for_Quay := has_Quay_berth_for (P := l.prog) (w := w) (base := base) S_Quay_berth_for_Quay N HF_way
  have S_Quay_berth_for_Round : B.StandsM K mg "Round" "berth_for" "Quay.berth_for" s_Quay_berth_for := ⟨_, _, fun_mk (st := s_Quay_berth_for) l_Quay_berth_for c_Quay_berth_for k_Quay_berth_for, by rw [B.at_of (PySem.W.mg_of X G e_Round)]; exact ⟨fi_Quay_berth_for_Round, isf_Quay_berth_for, k_Quay_berth_for⟩⟩
  have H_Quay_berth_for_Round := has_Quay_berth_for (P := l.prog) (w := w) (base := base) S_Quay_berth_for_Round N HF_way
  have S_Quay_where_Quay : B.StandsM K mg "Quay" "where" "Quay.where" s_Quay_where := ⟨_, _, fun_mk (st := s_Quay_where) l_Quay_where c_Quay_where k_Quay_where, by rw [B.at_of (PySem.W.mg_of X G e_Quay)]; exact ⟨fi_Quay_where_Quay, isf_Quay_where, k_Quay_where⟩⟩
  have H_Quay_where_Quay := has_Quay_where (P := l.prog) (w := w) (base := base) S_Quay_where_Quay N H_need_name
  have S_Quay_where_Round : B.StandsM K mg "Round" "where" "Quay.where" s_Quay_where := ⟨_, _, fun_mk (st := s_Quay_where) l_Quay_where c_Quay_where k_Quay_where, by rw [B.at_of (PySem.W.mg_of X G e_Round)]; exact ⟨fi_Quay_where_Round, isf_Quay_where, k_Quay_where⟩⟩
  have H_Quay_where_Round := has_Quay_where (P := l.prog) (w := w) (base := base) S_Quay_where_Round N H_need_name
  have HF_berth_for : B.FamM l.prog w K mg base "berth_for" 2 ["self", "wish"] (fun c sp => IsQ c ∧ sp = sp_Quay_berth_for K mg c) := fun c sp ⟨h, e⟩ => h.elim (fun h => by subst e; subst h; exact ⟨N.cl_Quay, H_Quay_berth_for_Quay⟩) (fun h => by subst e; subst h; exact ⟨N.cl_Round, H_Quay_berth_for_Round⟩)
  have HF_where : B.FamM l.prog w K mg base "where" 2 ["self", "name"] (fun c sp => IsQ c ∧ sp = sp_Quay_where K mg c) := fun c sp ⟨h, e⟩ => h.elim (fun h => by subst e; subst h; exact ⟨N.cl_Quay, H_Quay_where_Quay⟩) (fun h => by subst e; subst h; exact ⟨N.cl_Round, H_Quay_where_Round⟩)
  have S_Quay___init___Quay : B.StandsM K mg "Quay" "__init__" "Quay.__init__" s_Quay___init__ := ⟨_, _, fun_mk (st := s_Quay___init__) l_Quay___init__ c_Quay___init__ k_Quay___init__, by rw [B.at_of (PySem.W.mg_of X G e_Quay)]; exact ⟨fi_Quay___init___Quay, isf_Quay___init__, k_Quay___init__⟩⟩
  have H_Quay___init___Quay := has_Quay___init__ (P := l.prog) (w := w) (base := base) S_Quay___init___Quay N H_need_quay
  have HM_Quay := H_Quay___init___Quay
  have S_Quay___init___Round : B.StandsM K mg "Round" "__init__" "Quay.__init__" s_Quay___init__ := ⟨_, _, fun_mk (st := s_Quay___init__) l_Quay___init__ c_Quay___init__ k_Quay___init__, by rw [B.at_of (PySem.W.mg_of X G e_Round)]; exact ⟨fi_Quay___init___Round, isf_Quay___init__, k_Quay___init__⟩⟩
  have H_Quay___init___Round := has_Quay___init__ (P := l.prog) (w := w) (base := base) S_Quay___init___Round N H_need_quay
  have HM_Round := H_Quay___init___Round
  have S_Quay_come_Quay : B.StandsM K mg "Quay" "come" "Quay.come" s_Quay_come := ⟨_, _, fun_mk (st := s_Quay_come) l_Quay_come c_Quay_come k_Quay_come, by rw [B.at_of (PySem.W.mg_of X G e_Quay)]; exact ⟨fi_Quay_come_Quay, isf_Quay_come, k_Quay_come⟩⟩
  have H_Quay_come_Quay := has_Quay_come (P := l.prog) (w := w) (base := base) S_Quay_come_Quay N H_need_name H_is_number HF_berth_for
  have S_Quay_come_Round : B.StandsM K mg "Round" "come" "Quay.come" s_Quay_come := ⟨_, _, fun_mk (st := s_Quay_come) l_Quay_come c_Quay_come k_Quay_come, by rw [B.at_of (PySem.W.mg_of X G e_Round)]; exact ⟨fi_Quay_come_Round, isf_Quay_come, k_Quay_come⟩⟩
  have H_Quay_come_Round := has_Quay_come (P := l.prog) (w := w) (base := base) S_Quay_come_Round N H_need_name H_is_number HF_berth_for
  have HF_come : B.FamM l.prog w K mg base "come" 3 ["self", "name", "wish"] (fun c sp => IsQ c ∧ sp = sp_Quay_come K mg c) := fun c sp ⟨h, e⟩ => h.elim (fun h => by subst e; subst h; exact ⟨N.cl_Quay, H_Quay_come_Quay⟩) (fun h => by subst e; subst h; exact ⟨N.cl_Round, H_Quay_come_Round⟩)
  have S_Quay_leave_Quay : B.StandsM K mg "Quay" "leave" "Quay.leave" s_Quay_leave := ⟨_, _, fun_mk (st := s_Quay_leave) l_Quay_leave c_Quay_leave k_Quay_leave, by rw [B.at_of (PySem.W.mg_of X G e_Quay)]; exact ⟨fi_Quay_leave_Quay, isf_Quay_leave, k_Quay_leave⟩⟩
  have H_Quay_leave_Quay := has_Quay_leave (P := l.prog) (w := w) (base := base) S_Quay_leave_Quay N HF_come HF_where
  have S_Quay_leave_Round : B.StandsM K mg "Round" "leave" "Quay.leave" s_Quay_leave := ⟨_, _, fun_mk (st := s_Quay_leave) l_Quay_leave c_Quay_leave k_Quay_leave, by rw [B.at_of (PySem.W.mg_of X G e_Round)]; exact ⟨fi_Quay_leave_Round, isf_Quay_leave, k_Quay_leave⟩⟩
  have H_Quay_leave_Round := has_Quay_leave (P := l.prog) (w := w) (base := base) S_Quay_leave_Round N HF_come HF_where
  have HF_leave : B.FamM l.prog w K mg base "leave" 4 ["self", "name"] (fun c sp => IsQ c ∧ sp = sp_Quay_leave K mg c) := fun c sp ⟨h, e⟩ => h.elim (fun h => by subst e; subst h; exact ⟨N.cl_Quay, H_Quay_leave_Quay⟩) (fun h => by subst e; subst h; exact ⟨N.cl_Round, H_Quay_leave_Round⟩)
  have S_written : B.Stands K mg "written" s_written := ⟨_, _, fun_mk (st := s_written) l_written c_written k_written, PySem.W.mg_of X G a_written⟩
  have H_written := has_written (P := l.prog) (w := w) (base := base) S_written N HF_all_ships HF_come HF_free_ones HF_kind HF_leave HF_size HF_where
  have S_read : B.Stands K mg "read" s_read := ⟨_, _, fun_mk (st := s_read) l_read c_read k_read, PySem.W.mg_of X G a_read⟩
  have H_read := has_read (P := l.prog) (w := w) (base := base) S_read N H_number_of H_pair_of H_name_of HM_Quay HM_Round HF_come
  have S__law_text : B.Stands K mg "_law_text" s__law_text := ⟨_, _, fun_mk (st := s__law_text) l__law_text c__law_text k__law_text, PySem.W.mg_of X G a__law_text⟩
  have H__law_text := has__law_text (P := l.prog) (w := w) (base := base) S__law_text N HF_all_ships HF_come HF_free_ones HF_kind HF_leave HF_size HF_where
  have S__law_drawn : B.Stands K mg "_law_drawn" s__law_drawn := ⟨_, _, fun_mk (st := s__law_drawn) l__law_drawn c__law_drawn k__law_drawn, PySem.W.mg_of X G a__law_drawn⟩
  have H__law_drawn := has__law_drawn (P := l.prog) (w := w) (base := base) S__law_drawn N H__law_cell_at H__law_mix HM_Quay HM_Round HF_all_ships HF_come HF_free_ones HF_kind HF_leave HF_size HF_where
  have S__law_odd_text : B.Stands K mg "_law_odd_text" s__law_odd_text := ⟨_, _, fun_mk (st := s__law_odd_text) l__law_odd_text c__law_odd_text k__law_odd_text, PySem.W.mg_of X G a__law_odd_text⟩
  have H__law_odd_text := has__law_odd_text (P := l.prog) (w := w) (base := base) S__law_odd_text N HF_all_ships HF_come HF_free_ones HF_kind HF_leave HF_size HF_where
  have S__law_read : B.Stands K mg "_law_read" s__law_read := ⟨_, _, fun_mk (st := s__law_read) l__law_read c__law_read k__law_read, PySem.W.mg_of X G a__law_read⟩
  have H__law_read := has__law_read (P := l.prog) (w := w) (base := base) S__law_read N H_read H__law_words
  exact law_ok (fun_mk (st := s_law) l_law c_law k_law) N H__law_drawn H_written H_read H__law_read H__law_text H__law_odd_text HF_all_ships HF_come HF_free_ones HF_kind HF_leave HF_size HF_where
theorem walk {l : PySem.W.OpenLaw} {q : Program} {loose : List Str} {XP : (Str → Option Value) → Heap → Prop} {YP : World → Heap → Prop} {d : DefRec} {K : Params → PySem.W.Frag} (hn : l.most = some 63) (hdf : d.params.defaults = [])
    (hY : ∀ (w : World) (h : Heap), YP w h → (K w.params).In h)
    (F : ∀ (w : World) (mg : Str → Option Value) (fa : Addr) (h : Heap), (K w.params).In h → h.Ns mainGlobals mg → mg d.name = some (.ref fa) →
      ∃ fd : FuncData, (∀ (s : Shared) (u : Value), BindsTo s fd ⟨[u], []⟩ [("_law_script", u)]) ∧ ∀ base : Heap, (K w.params).In base → base.Ns mainGlobals mg → FnOk l.prog w (K w.params) mg base (L2.CX l.prog w) 7 fa fd ["_law_script"] (sp_law (K w.params))) :
    PySem.W.WalkO q loose XP YP l.row.toRowW d [] (fun f vs => PySem.call f vs) :=
  L2.walk_of (n := 63) (k := 7) (x := "_law_script") (CX := fun w => L2.CX l.prog w) (sp := fun w => sp_law (K w.params)) hn (by decide) hdf ⟨rfl, by decide, by decide⟩ hY F (fun _ _ a ns hl _ hS => ⟨a, ns, rfl, hS, hl, fun _ => rfl⟩) fun _ _ _ _ _ z => by
    obtain ⟨_, _, _, _, _, _, _, _, _, _, _, _, z⟩ := z
    exact z
end My
open PySem PySem.W PyProof.Rows
set_option maxRecDepth 100000 in
set_option maxHeartbeats 0 in
theorem PySem.Challenge.cw_berthrow_k13_books_holds : PySem.Challenge.rw_berthrow_k13_books.Holds := by
  w_on; o_law; k_head; (case hw => w_witness2)
  k_fill
  refine My.walk (l := PySem.Challenge.rw_berthrow_k13_books) rfl rfl (fun w h Y => PySem.W.kIn_of Y) ?F
  case F =>
    intro w mg fa h KX G hmg
    refine' My.all_mk KX G hmg ?a_is_number ?l_is_number ?c_is_number ?k_is_number ?a_need_quay ?l_need_quay ?c_need_quay ?k_need_quay ?a_need_name ?l_need_name ?c_need_name ?k_need_name ?a_written ?l_written ?c_written ?k_written ?a_number_of ?l_number_of ?c_number_of ?k_number_of ?a_name_of ?l_name_of ?c_name_of ?k_name_of ?a_pair_of ?l_pair_of ?c_pair_of ?k_pair_of ?a_read ?l_read ?c_read ?k_read ?a__law_cell_at ?l__law_cell_at ?c__law_cell_at ?k__law_cell_at ?a__law_mix ?l__law_mix ?c__law_mix ?k__law_mix ?a__law_words ?l__law_words ?c__law_words ?k__law_words ?a__law_read ?l__law_read ?c__law_read ?k__law_read ?a__law_text ?l__law_text ?c__law_text ?k__law_text ?a__law_drawn ?l__law_drawn ?c__law_drawn ?k__law_drawn ?a__law_odd_text ?l__law_odd_text ?c__law_odd_text ?k__law_odd_text ?a_law ?l_law ?c_law ?k_law ?z_len ?z_isinstance ?z_range ?z_all ?z_int ?z_bool ?z_str ?z_list ?z_ValueError ?q_MOST ?q_LETTERS ?q_LONGEST ?q_FIGURES ?e_NoQuay ?x_NoQuay ?w_NoQuay ?b_NoQuay ?y_NoQuay ?e_NoName ?x_NoName ?w_NoName ?b_NoName ?y_NoName ?e_NoText ?x_NoText ?w_NoText ?b_NoText ?y_NoText ?e_Taken ?x_Taken ?w_Taken ?b_Taken ?y_Taken ?e_NoWish ?x_NoWish ?w_NoWish ?b_NoWish ?y_NoWish ?e_NoRoom ?x_NoRoom ?w_NoRoom ?b_NoRoom ?y_NoRoom ?e_NoShip ?x_NoShip ?w_NoShip ?b_NoShip ?y_NoShip ?e_Quay ?e_Round ?e_BerthError ?e_NoCount ?e_NoOrder ?e_NoTree ?e_NoWishes ?e_TooMany ?sb_BerthError ?hd_BerthError ?ty_BerthError ?xn ?xt ?kg_NoText ?kk_NoText ?kd_NoText ?ka_NoText ?km_NoText ?ks_NoText ?kg_Taken ?kk_Taken ?kd_Taken ?ka_Taken ?km_Taken ?ks_Taken ?kg_NoWish ?kk_NoWish ?kd_NoWish ?ka_NoWish ?km_NoWish ?ks_NoWish ?kg_NoRoom ?kk_NoRoom ?kd_NoRoom ?ka_NoRoom ?km_NoRoom ?ks_NoRoom ?hds_NoName ?kss_NoName ?qi_NoText_NoCount ?qi_NoText_NoOrder ?qi_NoText_NoQuay ?qi_NoText_NoName ?qi_NoText_NoTree ?qi_NoText_NoWishes ?qi_NoText_TooMany ?qi_NoText_NoShip ?qi_NoText_Taken ?qi_NoText_NoWish ?qi_NoText_NoRoom ?qi_Taken_NoCount ?qi_Taken_NoOrder ?qi_Taken_NoQuay ?qi_Taken_NoName ?qi_Taken_NoTree ?qi_Taken_NoWishes ?qi_Taken_TooMany ?qi_Taken_NoShip ?qi_Taken_NoText ?qi_Taken_NoWish ?qi_Taken_NoRoom ?qi_NoWish_NoCount ?qi_NoWish_NoOrder ?qi_NoWish_NoQuay ?qi_NoWish_NoName ?qi_NoWish_NoTree ?qi_NoWish_NoWishes ?qi_NoWish_TooMany ?qi_NoWish_NoShip ?qi_NoWish_NoText ?qi_NoWish_Taken ?qi_NoWish_NoRoom ?qi_NoRoom_NoCount ?qi_NoRoom_NoOrder ?qi_NoRoom_NoQuay ?qi_NoRoom_NoName ?qi_NoRoom_NoTree ?qi_NoRoom_NoWishes ?qi_NoRoom_TooMany ?qi_NoRoom_NoShip ?qi_NoRoom_NoText ?qi_NoRoom_Taken ?qi_NoRoom_NoWish ?qi_none_NoCount ?qi_none_NoOrder ?qi_none_NoQuay ?qi_none_NoName ?qi_none_NoTree ?qi_none_NoWishes ?qi_none_TooMany ?qi_none_NoShip ?qi_none_NoText ?qi_none_Taken ?qi_none_NoWish ?qi_none_NoRoom ?pg_Quay ?hdc_Quay ?po_Quay ?sa_Quay ?mks_Quay ?kpc_Quay ?na_Quay_many ?na_Quay_line ?na_Quay_lying ?pg_Round ?hdc_Round ?po_Round ?sa_Round ?mks_Round ?kpc_Round ?na_Round_many ?na_Round_line ?na_Round_lying ?oka_Quay ?okm_Quay ?oka_Round ?okm_Round ?oik_Quay_Round ?oik_Round_Quay ?fi_Quay___init___Quay ?fi_Quay___init___Round ?l_Quay___init__ ?c_Quay___init__ ?k_Quay___init__ ?isf_Quay___init__ ?fi_Quay_size_Quay ?fi_Quay_size_Round ?l_Quay_size ?c_Quay_size ?k_Quay_size ?isf_Quay_size ?fi_Quay_berth_for_Quay ?fi_Quay_berth_for_Round ?l_Quay_berth_for ?c_Quay_berth_for ?k_Quay_berth_for ?isf_Quay_berth_for ?fi_Quay_come_Quay ?fi_Quay_come_Round ?l_Quay_come ?c_Quay_come ?k_Quay_come ?isf_Quay_come ?fi_Quay_where_Quay ?fi_Quay_where_Round ?l_Quay_where ?c_Quay_where ?k_Quay_where ?isf_Quay_where ?fi_Quay_leave_Quay ?fi_Quay_leave_Round ?l_Quay_leave ?c_Quay_leave ?k_Quay_leave ?isf_Quay_leave ?fi_Quay_all_ships_Quay ?fi_Quay_all_ships_Round ?l_Quay_all_ships ?c_Quay_all_ships ?k_Quay_all_ships ?isf_Quay_all_ships ?fi_Quay_free_ones_Quay ?fi_Quay_free_ones_Round ?l_Quay_free_ones ?c_Quay_free_ones ?k_Quay_free_ones ?isf_Quay_free_ones ?fi_Quay_way_Quay ?l_Quay_way ?c_Quay_way ?k_Quay_way ?isf_Quay_way ?fi_Quay_kind_Quay ?l_Quay_kind ?c_Quay_kind ?k_Quay_kind ?isf_Quay_kind ?fi_Round_way_Round ?l_Round_way ?c_Round_way ?k_Round_way ?isf_Round_way ?fi_Round_kind_Round ?l_Round_kind ?c_Round_kind ?k_Round_kind ?isf_Round_kind
    (case a_is_number => k_is)
    (case l_is_number => k_is)
    (case c_is_number => k_is)
    (case k_is_number => k_is)
    (case a_need_quay => k_is)
    (case l_need_quay => k_is)
    (case c_need_quay => k_is)
    (case k_need_quay => k_is)
    (case a_need_name => k_is)
    (case l_need_name => k_is)
    (case c_need_name => k_is)
    (case k_need_name => k_is)
    (case a_written => k_is)
    (case l_written => k_is)
    (case c_written => k_is)
    (case k_written => k_is)
    (case a_number_of => k_is)
    (case l_number_of => k_is)
    (case c_number_of => k_is)
    (case k_number_of => k_is)
    (case a_name_of => k_is)
    (case l_name_of => k_is)
    (case c_name_of => k_is)
    (case k_name_of => k_is)
    (case a_pair_of => k_is)
    (case l_pair_of => k_is)
    (case c_pair_of => k_is)
    (case k_pair_of => k_is)
    (case a_read => k_is)
    (case l_read => k_is)
    (case c_read => k_is)
    (case k_read => k_is)
    (case a__law_cell_at => k_is)
    (case l__law_cell_at => k_is)
    (case c__law_cell_at => k_is)
    (case k__law_cell_at => k_is)
    (case a__law_mix => k_is)
    (case l__law_mix => k_is)
    (case c__law_mix => k_is)
    (case k__law_mix => k_is)
    (case a__law_words => k_is)
    (case l__law_words => k_is)
    (case c__law_words => k_is)
    (case k__law_words => k_is)
    (case a__law_read => k_is)
    (case l__law_read => k_is)
    (case c__law_read => k_is)
    (case k__law_read => k_is)
    (case a__law_text => k_is)
    (case l__law_text => k_is)
    (case c__law_text => k_is)
    (case k__law_text => k_is)
    (case a__law_drawn => k_is)
    (case l__law_drawn => k_is)
    (case c__law_drawn => k_is)
    (case k__law_drawn => k_is)
    (case a__law_odd_text => k_is)
    (case l__law_odd_text => k_is)
    (case c__law_odd_text => k_is)
    (case k__law_odd_text => k_is)
    (case a_law => k_is)
    (case l_law => k_is)
    (case c_law => k_is)
    (case k_law => k_is)
    (case z_len => k_is)
    (case z_isinstance => k_is)
    (case z_range => k_is)
    (case z_all => k_is)
    (case z_int => k_is)
    (case z_bool => k_is)
    (case z_str => k_is)
    (case z_list => k_is)
    (case z_ValueError => k_is)
    (case q_MOST => k_is)
    (case q_LETTERS => k_is)
    (case q_LONGEST => k_is)
    (case q_FIGURES => k_is)
    (case e_NoQuay => k_is)
    (case x_NoQuay => k_exc)
    (case w_NoQuay => k_is)
    (case b_NoQuay => k_is)
    (case y_NoQuay => k_is)
    (case e_NoName => k_is)
    (case x_NoName => k_exc)
    (case w_NoName => k_is)
    (case b_NoName => k_is)
    (case y_NoName => k_is)
    (case e_NoText => k_is)
    (case x_NoText => k_exc)
    (case w_NoText => k_is)
    (case b_NoText => k_is)
    (case y_NoText => k_is)
    (case e_Taken => k_is)
    (case x_Taken => k_exc)
    (case w_Taken => k_is)
    (case b_Taken => k_is)
    (case y_Taken => k_is)
    (case e_NoWish => k_is)
    (case x_NoWish => k_exc)
    (case w_NoWish => k_is)
    (case b_NoWish => k_is)
    (case y_NoWish => k_is)
    (case e_NoRoom => k_is)
    (case x_NoRoom => k_exc)
    (case w_NoRoom => k_is)
    (case b_NoRoom => k_is)
    (case y_NoRoom => k_is)
    (case e_NoShip => k_is)
    (case x_NoShip => k_exc)
    (case w_NoShip => k_is)
    (case b_NoShip => k_is)
    (case y_NoShip => k_is)
    (case e_Quay => k_is)
    (case e_Round => k_is)
    (case e_BerthError => k_is)
    (case e_NoCount => k_is)
    (case e_NoOrder => k_is)
    (case e_NoTree => k_is)
    (case e_NoWishes => k_is)
    (case e_TooMany => k_is)
    (case sb_BerthError => k_is)
    (case hd_BerthError => k_is)
    (case ty_BerthError => k_is)
    (case xn => k_is)
    (case xt => k_is)
    (case kg_NoText => k_is)
    (case kk_NoText => k_is)
    (case kd_NoText => k_is)
    (case ka_NoText => k_is)
    (case km_NoText => k_is)
    (case ks_NoText => k_is)
    (case kg_Taken => k_is)
    (case kk_Taken => k_is)
    (case kd_Taken => k_is)
    (case ka_Taken => k_is)
    (case km_Taken => k_is)
    (case ks_Taken => k_is)
    (case kg_NoWish => k_is)
    (case kk_NoWish => k_is)
    (case kd_NoWish => k_is)
    (case ka_NoWish => k_is)
    (case km_NoWish => k_is)
    (case ks_NoWish => k_is)
    (case kg_NoRoom => k_is)
    (case kk_NoRoom => k_is)
    (case kd_NoRoom => k_is)
    (case ka_NoRoom => k_is)
    (case km_NoRoom => k_is)
    (case ks_NoRoom => k_is)
    (case hds_NoName => k_is)
    (case kss_NoName => k_is)
    (case qi_NoText_NoCount => kit_is)
    (case qi_NoText_NoOrder => kit_is)
    (case qi_NoText_NoQuay => kit_is)
    (case qi_NoText_NoName => kit_is)
    (case qi_NoText_NoTree => kit_is)
    (case qi_NoText_NoWishes => kit_is)
    (case qi_NoText_TooMany => kit_is)
    (case qi_NoText_NoShip => kit_is)
    (case qi_NoText_Taken => kit_is)
    (case qi_NoText_NoWish => kit_is)
    (case qi_NoText_NoRoom => kit_is)
    (case qi_Taken_NoCount => kit_is)
    (case qi_Taken_NoOrder => kit_is)
    (case qi_Taken_NoQuay => kit_is)
    (case qi_Taken_NoName => kit_is)
    (case qi_Taken_NoTree => kit_is)
    (case qi_Taken_NoWishes => kit_is)
    (case qi_Taken_TooMany => kit_is)
    (case qi_Taken_NoShip => kit_is)
    (case qi_Taken_NoText => kit_is)
    (case qi_Taken_NoWish => kit_is)
    (case qi_Taken_NoRoom => kit_is)
    (case qi_NoWish_NoCount => kit_is)
    (case qi_NoWish_NoOrder => kit_is)
    (case qi_NoWish_NoQuay => kit_is)
    (case qi_NoWish_NoName => kit_is)
    (case qi_NoWish_NoTree => kit_is)
    (case qi_NoWish_NoWishes => kit_is)
    (case qi_NoWish_TooMany => kit_is)
    (case qi_NoWish_NoShip => kit_is)
    (case qi_NoWish_NoText => kit_is)
    (case qi_NoWish_Taken => kit_is)
    (case qi_NoWish_NoRoom => kit_is)
    (case qi_NoRoom_NoCount => kit_is)
    (case qi_NoRoom_NoOrder => kit_is)
    (case qi_NoRoom_NoQuay => kit_is)
    (case qi_NoRoom_NoName => kit_is)
    (case qi_NoRoom_NoTree => kit_is)
    (case qi_NoRoom_NoWishes => kit_is)
    (case qi_NoRoom_TooMany => kit_is)
    (case qi_NoRoom_NoShip => kit_is)
    (case qi_NoRoom_NoText => kit_is)
    (case qi_NoRoom_Taken => kit_is)
    (case qi_NoRoom_NoWish => kit_is)
    (case qi_none_NoCount => kit_is)
    (case qi_none_NoOrder => kit_is)
    (case qi_none_NoQuay => kit_is)
    (case qi_none_NoName => kit_is)
    (case qi_none_NoTree => kit_is)
    (case qi_none_NoWishes => kit_is)
    (case qi_none_TooMany => kit_is)
    (case qi_none_NoShip => kit_is)
    (case qi_none_NoText => kit_is)
    (case qi_none_Taken => kit_is)
    (case qi_none_NoWish => kit_is)
    (case qi_none_NoRoom => kit_is)
    (case pg_Quay => k_is)
    (case hdc_Quay => k_is)
    (case po_Quay => k_is)
    (case sa_Quay => k_is)
    (case mks_Quay => k_is)
    (case kpc_Quay => k_is)
    (case na_Quay_many => k_is)
    (case na_Quay_line => k_is)
    (case na_Quay_lying => k_is)
    (case pg_Round => k_is)
    (case hdc_Round => k_is)
    (case po_Round => k_is)
    (case sa_Round => k_is)
    (case mks_Round => k_is)
    (case kpc_Round => k_is)
    (case na_Round_many => k_is)
    (case na_Round_line => k_is)
    (case na_Round_lying => k_is)
    (case oka_Quay => k_is)
    (case okm_Quay => k_is)
    (case oka_Round => k_is)
    (case okm_Round => k_is)
    (case oik_Quay_Round => kit_is)
    (case oik_Round_Quay => kit_is)
    (case fi_Quay___init___Quay => k_is)
    (case fi_Quay___init___Round => k_is)
    (case l_Quay___init__ => k_is)
    (case c_Quay___init__ => k_is)
    (case k_Quay___init__ => k_is)
    (case isf_Quay___init__ => k_is)
    (case fi_Quay_size_Quay => k_is)
    (case fi_Quay_size_Round => k_is)
    (case l_Quay_size => k_is)
    (case c_Quay_size => k_is)
    (case k_Quay_size => k_is)
    (case isf_Quay_size => k_is)
    (case fi_Quay_berth_for_Quay => k_is)
    (case fi_Quay_berth_for_Round => k_is)
    (case l_Quay_berth_for => k_is)
    (case c_Quay_berth_for => k_is)
    (case k_Quay_berth_for => k_is)
    (case isf_Quay_berth_for => k_is)
    (case fi_Quay_come_Quay => k_is)
    (case fi_Quay_come_Round => k_is)
    (case l_Quay_come => k_is)
    (case c_Quay_come => k_is)
    (case k_Quay_come => k_is)
    (case isf_Quay_come => k_is)
    (case fi_Quay_where_Quay => k_is)
    (case fi_Quay_where_Round => k_is)
    (case l_Quay_where => k_is)
    (case c_Quay_where => k_is)
    (case k_Quay_where => k_is)
    (case isf_Quay_where => k_is)
    (case fi_Quay_leave_Quay => k_is)
    (case fi_Quay_leave_Round => k_is)
    (case l_Quay_leave => k_is)
    (case c_Quay_leave => k_is)
    (case k_Quay_leave => k_is)
    (case isf_Quay_leave => k_is)
    (case fi_Quay_all_ships_Quay => k_is)
    (case fi_Quay_all_ships_Round => k_is)
    (case l_Quay_all_ships => k_is)
    (case c_Quay_all_ships => k_is)
    (case k_Quay_all_ships => k_is)
    (case isf_Quay_all_ships => k_is)
    (case fi_Quay_free_ones_Quay => k_is)
    (case fi_Quay_free_ones_Round => k_is)
    (case l_Quay_free_ones => k_is)
    (case c_Quay_free_ones => k_is)
    (case k_Quay_free_ones => k_is)
    (case isf_Quay_free_ones => k_is)
    (case fi_Quay_way_Quay => k_is)
    (case l_Quay_way => k_is)
    (case c_Quay_way => k_is)
    (case k_Quay_way => k_is)
    (case isf_Quay_way => k_is)
    (case fi_Quay_kind_Quay => k_is)
    (case l_Quay_kind => k_is)
    (case c_Quay_kind => k_is)
    (case k_Quay_kind => k_is)
    (case isf_Quay_kind => k_is)
    (case fi_Round_way_Round => k_is)
    (case l_Round_way => k_is)
    (case c_Round_way => k_is)
    (case k_Round_way => k_is)
    (case isf_Round_way => k_is)
    (case fi_Round_kind_Round => k_is)
    (case l_Round_kind => k_is)
    (case c_Round_kind => k_is)
    (case k_Round_kind => k_is)
    (case isf_Round_kind => k_is)

