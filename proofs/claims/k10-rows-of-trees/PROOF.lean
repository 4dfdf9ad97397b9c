import PyProof.Rows.All
import Wide.All
import OpenK.AllK
import Wide.FinOn
import HandS.ForMost
import HandS.Exc
import HandS.TryOnly
import HandS.ExcOwn
import HandS.WordsExc
import HandS.IsInst
import HandS.SortInts
import HandS.SortKw
import HandS.Evl
import HandS.Conv
import HandS.SetFor
import HandS.SetKeys
import KE.DataMinMax
import KE.SortData
import KE.DatumOrd
import HandS.Style
import HandS.ExcIs
import HandS.TupMul
import HandS.CallLocal
import HandS.TupAny
import HandS.RevTup
import KE.KDictPairs
import KE.KDictZip
import HandS.Nested
import HandS.EndTab
import KE.SortKeyHeap
import KE.KDictSum
import KE.GoesMore
import HandS.RepeatKit
import PySem.Challenge.RW_berthrow_k10_whole_rows_of_trees
set_option Elab.async false
set_option linter.all false
set_option maxRecDepth 100000
set_option maxHeartbeats 4000000
/-! A layer for the berthrow laws: defs by their names, readings run step by step. -/
namespace B
open PySem PySem.Spec PyProof.Rows L2
open PySem.W (Frag)

/-! ### defs by their names -/
/-- the def x of the text stands where the name x leads -/
def Stands (K : Frag) (mg : Str → Option Value) (x : Str) (st : Stmt) : Prop :=
  ∃ (f : Addr) (fd : FuncData), Fun K x x st f fd ∧ mg x = some (.ref f)
/-- the name x leads to a def that keeps the promise -/
def Has (P : Program) (w : World) (K : Frag) (mg : Str → Option Value) (base : Heap) (x : Str) (k : Nat) (ps : List Str) (sp : Sp) : Prop :=
  ∃ (f : Addr) (fd : FuncData), FnOk P w K mg base (L2.CX P w) k f fd ps sp ∧ mg x = some (.ref f) ∧ PySem.W.keepIn K (.ref f) = true ∧ Binds K fd ps []
section
variable {P : Program} {w : World} {K : Frag} {mg : Str → Option Value} {base : Heap}
theorem has_of {x : Str} {st : Stmt} {N ps : List Str} {k : Nat} {sp : Sp} (S : Stands K mg x st) (C : FnScope N ps (defScope st))
    (hb : ∀ (kV doc pm : Value) (an : Option Addr) (cdv ct : Value) (us : List Value), us.length = ps.length → bindArgs (PySem.W.fnOf x x (defArgs st) (defBody st) (defScope st) .none kV doc pm an cdv ct) ⟨us, []⟩ = pure (ps.zip us))
    (len : ∀ vs H Q E, sp vs H Q E → vs.length = ps.length)
    (hbody : ∀ (f : Addr) (cdv : Value) (A : Around) (outer : List Env) (s : Shared) (H : Hp) (vs : List V) (Q : VK) (E : XK), Room k (A.deeper (envOfC x (defScope st) s.heap.objs.size f cdv)) → sp vs H Q E →
      ∃ t, PSs (cxOf (L2.CX P w) P w K mg base N x (defScope st) f cdv A outer s H E) (defBody st) t ∧ t { nx := fun _ H' => Q .non H', rt := Q } (start N vs) H) :
    Has P w K mg base x (k + 1) ps sp := by
  obtain ⟨f, fd, F, m⟩ := S
  exact ⟨f, fd, F.okX C len (fun cdv A outer s H vs Q E hr h => hbody f cdv A outer s H vs Q E hr h), m, F.kp, F.binds hb⟩
end
section
variable {X : Cx} {k j : Nat} {x : Str} {ps : List Str} {sp : Sp} {E : XK} {p pos : Pos} {e : Expr} {es : List Expr} {t : TA}
theorem pe_has (h : Has X.prog X.w X.K X.mg X.base x j ps sp) (hr : Room k X.A) (hx : Passes (L2.CX X.prog X.w) X E) (ha : PA X (e :: es) t) (hj : j ≤ k := by decide) (hg : Gl X x := by rfl)
    (hdb : (x == ("__debug__" : Str)) = false := by decide) (he : starEach (e :: es) X.env = (false, eval e X.env) :: starEach es X.env := by rfl) (hpl : (backTo pos (starEach es X.env)).any (·.1) = false := by rfl) :
    PE X (.Call (.Name x p) (e :: es) [] pos) (tCall sp [] E t) := by
  obtain ⟨f, fd, F, m, kp, b⟩ := h
  exact pe_call F (hr.mono hj) hg m kp b .nil hx ha hdb he hpl
end

/-! ### readings, run step by step -/
abbrev Ex := Evl.Ex
theorem exg {H H' : Hp} {a : Addr} {o : HO} (e : Ex H H') (h : H a = some o) : H' a = some o := e a o h
theorem exn {H H' : Hp} {a : Addr} (e : Ex H H') (h : H' a = none) : H a = none := Evl.fresh_back e h
section
variable {K : Frag} {σ : L2.St} {H H' : Hp} {Q : VK} {QT : Bool → Hp → Prop} {QA : List V → Hp → Prop} {i : Nat} {v x y z : V} {ta tb te : TE} {tt tu tv : TT} {tr : TA} {b : Bool} {D : Ends} {s1 s2 : TS} {g : TG} {a : Addr} {xs ys : List V}
theorem x_var (h : σ[i]? = some (some v)) (q : Q v H) : tVar i σ H Q := ⟨v, h, q⟩
theorem x_c (q : Q v H) : tC v σ H Q := q
theorem x_op {r : R2} (h : ta σ H fun x H1 => tb σ H1 fun y H2 => r x y H2 Q) : tOp r ta tb σ H Q := h
theorem x_un {r : V → Hp → VK → Prop} (h : ta σ H fun x H1 => r x H1 Q) : tUn r ta σ H Q := h
theorem x_rI0 {f : Int → Int → V} {m n : Int} (q : Q (f m n) H) : rI0 f (.int m) (.int n) H Q := ⟨m, n, rfl, rfl, q⟩
theorem x_rI {C : Int → Int → Prop} {f : Int → Int → V} {m n : Int} (c : C m n) (q : Q (f m n) H) : rI C f (.int m) (.int n) H Q := ⟨m, n, rfl, rfl, c, q⟩
theorem x_rEq (s : scal x y = true) (q : Q (.bl (decide (x = y))) H) : rEq x y H Q := ⟨s, q⟩
theorem x_rNe (s : scal x y = true) (q : Q (.bl (!decide (x = y))) H) : rNe x y H Q := ⟨s, q⟩
theorem x_rU {f : Int → V} {m : Int} (q : Q (f m) H) : rU f (.int m) H Q := ⟨m, rfl, q⟩
theorem x_nil (q : QA [] H) : tNil σ H QA := q
theorem x_cons (h : ta σ H fun x H1 => tr σ H1 fun xs H2 => QA (x :: xs) H2) : tCons ta tr σ H QA := h
theorem x_CB {r : List V → Hp → VK → Prop} (h : tr σ H fun vs H1 => r vs H1 Q) : tCB r tr σ H Q := h
theorem x_call {sp : Sp} {E : XK} {dvs : List V} (h : tr σ H fun vs H1 => sp (vs ++ dvs) H1 Q E) : tCall sp dvs E tr σ H Q := h
theorem x_test (h : te σ H fun x H' => ∃ k, x = .bl k ∧ QT k H') : tTest te σ H QT := h
theorem x_B (h : te σ H fun x H' => ∃ k, x = .bl k ∧ QT k H') : tB te σ H QT := h
theorem x_bl (q : QT b H) : ∃ k, V.bl b = .bl k ∧ QT k H := ⟨b, rfl, q⟩
theorem x_and (h : tt σ H fun c H1 => if c = true then tu σ H1 QT else QT false H1) : tAnd tt tu σ H QT := h
theorem x_or (h : tt σ H fun c H1 => if c = true then QT true H1 else tu σ H1 QT) : tOr tt tu σ H QT := h
theorem x_not (h : tt σ H fun c H1 => QT (!c) H1) : tNot tt σ H QT := h
theorem x_andV (h : ta σ H fun x H1 => ∃ c, x = .bl c ∧ if c = true then tb σ H1 Q else Q (.bl false) H1) : tAndV ta tb σ H Q := h
theorem x_orV (h : ta σ H fun x H1 => ∃ c, x = .bl c ∧ if c = true then Q (.bl true) H1 else tb σ H1 Q) : tOrV ta tb σ H Q := h
theorem x_notV (h : ta σ H fun x H1 => ∃ c, x = .bl c ∧ Q (.bl (!c)) H1) : tNotV ta σ H Q := h
theorem x_blV {f : Bool → Prop} (q : f b) : ∃ c, V.bl b = .bl c ∧ f c := ⟨b, rfl, q⟩
theorem x_if (h : tt σ H fun c H1 => if c = true then ta σ H1 Q else tb σ H1 Q) : tIf tt ta tb σ H Q := h
theorem x_isN (h : ta σ H fun x H1 => Q (.bl (decide (x = .non))) H1) : tIsN ta σ H Q := h
theorem x_notN (h : ta σ H fun x H1 => Q (.bl (!decide (x = .non))) H1) : tNotN ta σ H Q := h
/-! statements -/
theorem x_seq (h : s1 { D with nx := s2 D } σ H) : tSeq s1 s2 D σ H := h
theorem x_next (q : D.nx σ H) : tNext D σ H := q
theorem x_brk (q : D.bk σ H) : tBreak D σ H := q
theorem x_cont (q : D.ct σ H) : tCont D σ H := q
theorem x_asg (h : te σ H fun v H1 => D.nx (σ.set i (some v)) H1) : tAsg te (gName i) D σ H := h
theorem x_gName {P : L2.St → Hp → Prop} (h : P (σ.set i (some v)) H) : gName i v σ H P := h
theorem x_drop (h : te σ H fun _ H1 => D.nx σ H1) : tDrop te D σ H := h
theorem x_ret (h : te σ H fun v H1 => D.rt v H1) : tRet te D σ H := h
theorem x_ifS (h : tt σ H fun b H1 => if b = true then s1 D σ H1 else s2 D σ H1) : tIfS tt s1 s2 D σ H := h
theorem x_nx {n bk ct : L2.St → Hp → Prop} {r : VK} (h : n σ H) : Ends.nx { nx := n, rt := r, bk := bk, ct := ct } σ H := h
theorem x_rt {n bk ct : L2.St → Hp → Prop} {r : VK} (h : r v H) : Ends.rt { nx := n, rt := r, bk := bk, ct := ct } v H := h
theorem x_aug {ip : TIp} (hv : σ[i]? = some (some x)) (h : te σ H fun y H1 => ip x y H1 fun z H2 => D.nx (σ.set i (some z)) H2) : tAug i te ip D σ H := ⟨x, hv, h⟩
theorem x_ipI {f : Int → Int → Int} {m n : Int} (q : Q (.int (f m n)) H) : ipI f (.int m) (.int n) H Q := ⟨m, n, rfl, rfl, q⟩
/-! ifs -/
theorem x_true {A B : Prop} (h : A) : if true = true then A else B := by rw [if_pos rfl]; exact h
theorem x_false {A B : Prop} (h : B) : if false = true then A else B := by rw [if_neg Bool.false_ne_true]; exact h
theorem x_dec {c A B : Prop} [Decidable c] (h1 : c → A) (h2 : ¬ c → B) : if decide c = true then A else B := by
  by_cases h : c
  · rw [decide_eq_true h]; exact x_true (h1 h)
  · rw [decide_eq_false h]; exact x_false (h2 h)
theorem x_decN {c A B : Prop} [Decidable c] (h1 : ¬ c → A) (h2 : c → B) : if (!decide c) = true then A else B := by
  by_cases h : c
  · rw [decide_eq_true h]; exact x_false (h2 h)
  · rw [decide_eq_false h]; exact x_true (h1 h)
theorem x_b {A B : Prop} (h1 : b = true → A) (h2 : b = false → B) : if b = true then A else B := by
  cases b
  · exact x_false (h2 rfl)
  · exact x_true (h1 rfl)
theorem x_bN {A B : Prop} (h1 : b = false → A) (h2 : b = true → B) : if (!b) = true then A else B := by
  cases b
  · exact x_true (h1 rfl)
  · exact x_false (h2 rfl)
/-! new objects -/
def MkT (Q : VK) : List V → Hp → Prop := fun vs H1 => vs.length ≤ sizeLine ∧ ∀ p, H1 p = none → Q (.ref p) (upd H1 p (.tup vs))
def MkL (Q : VK) : List V → Hp → Prop := fun vs H1 => vs.length ≤ sizeLine ∧ ∀ p, H1 p = none → Q (.ref p) (upd H1 p (.lst vs))
theorem x_tup (h : tr σ H (MkT Q)) : tTup tr σ H Q := h
theorem x_lst (h : tr σ H (MkL Q)) : tLst tr σ H Q := h
theorem x_mkT {vs : List V} (hl : vs.length ≤ 1000000) (h : ∀ p H', H p = none → Ex H H' → H' p = some (.tup vs) → Q (.ref p) H') : MkT Q vs H := ⟨Nat.le_trans hl (by decide), fun p hp => h p _ hp (Evl.Ex.new hp) upd_same⟩
theorem x_mkL {vs : List V} (hl : vs.length ≤ 1000000) (h : ∀ p H', H p = none → Ex H H' → H' p = some (.lst vs) → Q (.ref p) H') : MkL Q vs H := ⟨Nat.le_trans hl (by decide), fun p hp => h p _ hp (Evl.Ex.new hp) upd_same⟩
theorem x_dnew (h : ∀ p H', H p = none → Ex H H' → H' p = some (.dK []) → Q (.ref p) H') : tDNewK σ H Q := fun p hp => h p _ hp (Evl.Ex.new hp) upd_same
theorem x_new {o : HO} (h : ∀ p H', H p = none → Ex H H' → H' p = some o → Q (.ref p) H') : ∀ p, H p = none → Q (.ref p) (upd H p o) := fun p hp => h p _ hp (Evl.Ex.new hp) upd_same
end

/-! ### more about defs: ends without a raise, what a callee raises handed on -/
section
variable {P : Program} {w : World} {K : Frag} {mg : Str → Option Value} {base : Heap}
theorem has_ofN {x : Str} {st : Stmt} {N ps : List Str} {k : Nat} {sp : Sp} (S : Stands K mg x st) (C : FnScope N ps (defScope st))
    (hb : ∀ (kV doc pm : Value) (an : Option Addr) (cdv ct : Value) (us : List Value), us.length = ps.length → bindArgs (PySem.W.fnOf x x (defArgs st) (defBody st) (defScope st) .none kV doc pm an cdv ct) ⟨us, []⟩ = pure (ps.zip us))
    (len : ∀ vs H Q E, sp vs H Q E → vs.length = ps.length)
    (hbody : ∀ (f : Addr) (cdv : Value) (A : Around) (outer : List Env) (s : Shared) (H : Hp) (vs : List V) (Q : VK) (E : XK), Room k (A.deeper (envOfC x (defScope st) s.heap.objs.size f cdv)) → sp vs H Q E →
      ∃ t, PSs (cxOf (L2.CX P w) P w K mg base N x (defScope st) f cdv A outer s H E).nox (defBody st) t ∧ t { nx := fun _ H' => Q .non H', rt := Q } (start N vs) H) :
    Has P w K mg base x (k + 1) ps sp := has_of S C hb len fun f cdv A outer s H vs Q E hr h => by
  obtain ⟨t, ht, q⟩ := hbody f cdv A outer s H vs Q E hr h
  exact ⟨t, ht.nox, q⟩
end
section
variable {P : Program} {w : World} {K : Frag} {mg : Str → Option Value} {base : Heap}
theorem fn_okN {x : Str} {st : Stmt} {f : Addr} {fd : FuncData} {N ps : List Str} {k : Nat} {sp : Sp} (F : Fun K x x st f fd) (C : FnScope N ps (defScope st)) (len : ∀ vs H Q E, sp vs H Q E → vs.length = ps.length)
    (hbody : ∀ (cdv : Value) (A : Around) (outer : List Env) (s : Shared) (H : Hp) (vs : List V) (Q : VK) (E : XK), Room k (A.deeper (envOfC x (defScope st) s.heap.objs.size f cdv)) → sp vs H Q E →
      ∃ t, PSs (cxOf (L2.CX P w) P w K mg base N x (defScope st) f cdv A outer s H E).nox (defBody st) t ∧ t { nx := fun _ H' => Q .non H', rt := Q } (start N vs) H) :
    FnOk P w K mg base (L2.CX P w) (k + 1) f fd ps sp := F.okX C len fun cdv A outer s H vs Q E hr h => by
  obtain ⟨t, ht, q⟩ := hbody cdv A outer s H vs Q E hr h
  exact ⟨t, ht.nox, q⟩
end
theorem passL {X : Cx} : Passes (L2.CX X.prog X.w) X E0 := L2.passL
theorem passU {X : Cx} {E : XK} (tk : Takes X (fun cls d _ H => E cls d H)) : Passes (L2.CX X.prog X.w) X E := passes_call tk fun _ _ _ _ h => h
/-- a number of the module's -/
def Const (mg : Str → Option Value) (x : Str) (v : V) : Prop := ∃ u, mg x = some u ∧ RelV v u
theorem pe_const {X : Cx} {x : Str} {v : V} {pos : Pos} (c : Const X.mg x v) (hg : Gl X x := by rfl) (hd : (x == ("__debug__" : Str)) = false := by decide) : PE X (.Name x pos) (tC v) := by
  obtain ⟨u, m, r⟩ := c
  exact pe_glob hg m r hd
/-- an error class under ValueError -/
def Err (K : Frag) (mg : Str → Option Value) (x : Str) : Prop := ∃ C, mg x = some (.ref C) ∧ PySem.W.excIn K C [.type "ValueError", .type "Exception", .type "BaseException", .type "object"] "ValueError.__new__" = true ∧
  PySem.W.keepIn K (.ref C) = true ∧ PySem.W.subIn K (.ref C) (.type "BaseException") = some true ∧ PySem.W.typeIn K (.ref C) = some (.type "type")
theorem pmk {X : Cx} {x m : Str} {j : Nat} {p p2 pos : Pos} (E : Err X.K X.mg x) (hg : Gl X x := by rfl) (hdb : (x == ("__debug__" : Str)) = false := by decide) :
    PMk X (.Call (.Name x p) [.Constant (.str m) j p2] [] pos) (fun _ H Q => ∀ C, X.mg x = some (.ref C) → Q (.ref C) none H) := by
  obtain ⟨C, g, e, k, b, t⟩ := E
  intro pins s σ H Q I h
  exact pmk_own PySem.F.excBase_ValueError e g k (raises_own b t) hg hdb pins s σ H Q I (h C g)

/-! ### names of the interpreter -/
theorem boot_isinstance : bootBuiltins "isinstance" = some (.builtin "isinstance") := by decide +kernel
theorem boot_min : bootBuiltins "min" = some (.builtin "min") := by decide +kernel
theorem boot_max : bootBuiltins "max" = some (.builtin "max") := by decide +kernel
theorem boot_sum : bootBuiltins "sum" = some (.builtin "sum") := by decide +kernel
theorem boot_sorted : bootBuiltins "sorted" = some (.builtin "sorted") := by decide +kernel
theorem boot_all : bootBuiltins "all" = some (.builtin "all") := by decide +kernel
theorem boot_int : bootBuiltins "int" = some (.type "int") := by decide +kernel
theorem boot_bool : bootBuiltins "bool" = some (.type "bool") := by decide +kernel
theorem boot_str : bootBuiltins "str" = some (.type "str") := by decide +kernel
theorem boot_list : bootBuiltins "list" = some (.type "list") := by decide +kernel
theorem boot_tuple : bootBuiltins "tuple" = some (.type "tuple") := by decide +kernel
theorem boot_dict : bootBuiltins "dict" = some (.type "dict") := by decide +kernel
theorem boot_set : bootBuiltins "set" = some (.type "set") := by decide +kernel

/-! ### what is a list or a tuple -/
def Sq (K : Frag) (H : Hp) (a : Addr) (xs : List V) : Prop := SqL K H a xs ∨ SqT K H a xs
theorem Sq.ex {K : Frag} {H H' : Hp} {a : Addr} {xs : List V} (e : Ex H H') (h : Sq K H a xs) : Sq K H' a xs := h.elim (fun h => .inl (Evl.ex_l e h)) fun h => .inr (Evl.ex_t e h)
theorem Sq.l {K : Frag} {H : Hp} {a : Addr} {xs : List V} (h : SqL K H a xs) : Sq K H a xs := .inl h
theorem Sq.t {K : Frag} {H : Hp} {a : Addr} {xs : List V} (h : SqT K H a xs) : Sq K H a xs := .inr h
def iSq (K : Frag) (tl : TE) : TI := fun σ H R => iList K tl σ H R ∨ iTup K tl σ H R
theorem pi_sq {X : Cx} {tg l : Expr} {tl : TE} (hl : PE X l tl) : PI X tg l (iSq X.K tl) := ⟨fun pins s σ H R I h => h.elim (fun h => (pi_list hl).run pins s σ H R I h) fun h => (pi_tup hl).run pins s σ H R I h⟩
def rIxQ (K : Frag) : R2 := fun x y H Q => rIxL K x y H Q ∨ rIxT K x y H Q
theorem ix_sq {X : Cx} : IxR X (rIxQ X.K) := by
  intro value slice pins s σ H x y v u Q I rx ry h hs
  exact h.elim (fun h => ix_list value slice pins s σ H x y v u Q I rx ry h hs) fun h => ix_tup value slice pins s σ H x y v u Q I rx ry h hs

/-! ### kinds of values -/
def isNum : V → Bool
  | .int _ => true
  | _ => false
/-- a whole number from a least to a most one -/
def inB (x : V) (lo hi : Int) : Bool := match x with
  | .int i => decide (lo ≤ i) && decide (i ≤ hi)
  | _ => false
/-- a value whose class is told -/
def Kd (K : Frag) (H : Hp) (x : V) (t : String) : Prop := TyX K H x (.type t)
theorem Kd.int {K : Frag} {H : Hp} (i : Int) : Kd K H (.int i) "int" := .base (.int i)
theorem sz {n : Nat} (h : n ≤ 1000000) : n ≤ sizeLine := Nat.le_trans h (by decide)
theorem szl {n : Nat} (h : n ≤ 1000000) : n < sizeLine := Nat.lt_of_le_of_lt h (by decide)

/-! ### min(xs, default=d) of a list of ints -/
def rMinD (K : Frag) : List V → List V → Hp → VK → Prop := fun vs zs H Q => ∃ (a : Addr) (ns : List Int) (d : V), vs = [V.ref a] ∧ zs = [d] ∧ SqL K H a (ns.map V.int) ∧ (ns = [] → Q d H) ∧ ∀ m, m ∈ ns → (∀ y, y ∈ ns → m ≤ y) → Q (.int m) H

/-! ### loops, by what is gone through -/
theorem split_at {α : Type} {as : List α} {i : Nat} {x : α} (h : as[i]? = some x) : as = as.take i ++ x :: as.drop (i + 1) := by
  obtain ⟨hi, e⟩ := List.getElem?_eq_some_iff.mp h
  subst e
  simp
theorem take_snoc {α : Type} {as : List α} {i : Nat} {x : α} (h : as[i]? = some x) : as.take (i + 1) = as.take i ++ [x] := by
  rw [List.take_add_one, h]
  rfl
section
variable {K : Frag} {σ : L2.St} {H H' : Hp} {Q : VK} {QT : Bool → Hp → Prop} {i j : Nat} {v x y z : V} {ta tb te tl : TE} {tt tu tv : TT} {tr : TA} {b : Bool} {D : Ends} {s1 s2 ts : TS} {g : TG} {a : Addr} {xs ys : List V}
/-- a for's turns, from the iterator J -/
def ForRun (g : TG) (ts : TS) (D : Ends) (σ : L2.St) (J : It) (H1 : Hp) : Prop := ∃ W : Nat → Nat → L2.St → Hp → Prop, (∃ m, W 0 m σ H1) ∧ ∀ i m σ H, W i m σ H →
  (J.stop i H ∧ D.nx σ H) ∨ (J.go i H ∧ ∃ N : L2.St → Hp → Prop, (∀ σ' H', N σ' H' → ∃ m', m' < m ∧ W (i + 1) m' σ' H') ∧ ∀ x H', J.yld i H x H' → g x σ H' fun σ2 H2 => ts { D with nx := N, ct := N, bk := D.nx } σ2 H2)
theorem x_for {wi : TI} (h : wi σ H (ForRun g ts D σ)) : tFor wi g ts D σ H := h
theorem x_iList {R : It → Hp → Prop} (h : tl σ H fun x H1 => ∃ a, x = .ref a ∧ (∃ xs, SqL K H1 a xs) ∧ R (Itl K a) H1) : iList K tl σ H R := h
theorem x_iTup {R : It → Hp → Prop} (h : tl σ H fun x H1 => ∃ a, x = .ref a ∧ (∃ xs, SqT K H1 a xs) ∧ R (Itt K a) H1) : iTup K tl σ H R := h
theorem x_iRng1 {R : It → Hp → Prop} (h : tr σ H fun vs H1 => ∃ j : Int, vs = [.int j] ∧ -(2 ^ 62) ≤ j ∧ j < 2 ^ 62 ∧ R (Itr 0 j.toNat) H1) : iRng1 tr σ H R := h
theorem x_iRng2 {R : It → Hp → Prop} (h : tr σ H fun vs H1 => ∃ i j : Int, vs = [.int i, .int j] ∧ (-(2 ^ 62) ≤ i ∧ i < 2 ^ 62 ∧ -(2 ^ 62) ≤ j ∧ j < 2 ^ 62) ∧ R (Itr i (j - i).toNat) H1) : iRng2 tr σ H R := h
theorem x_rng1 {R : It → Hp → Prop} {n : Int} (hn : n ≤ 1000000 ∧ -1000000 ≤ n) (h : R (Itr 0 n.toNat) H) : ∃ j : Int, ([V.int n] : List V) = [.int j] ∧ -(2 ^ 62) ≤ j ∧ j < 2 ^ 62 ∧ R (Itr 0 j.toNat) H := ⟨n, rfl, by omega, by omega, h⟩
theorem x_rng2 {R : It → Hp → Prop} {m n : Int} (hm : m ≤ 1000000 ∧ -1000000 ≤ m) (hn : n ≤ 1000000 ∧ -1000000 ≤ n) (h : R (Itr m (n - m).toNat) H) :
    ∃ i j : Int, ([V.int m, V.int n] : List V) = [.int i, .int j] ∧ (-(2 ^ 62) ≤ i ∧ i < 2 ^ 62 ∧ -(2 ^ 62) ≤ j ∧ j < 2 ^ 62) ∧ R (Itr i (j - i).toNat) H := ⟨m, n, rfl, by omega, h⟩
/-- over a list that stands: as the items, f their values -/
theorem x_forL {α : Type} (as : List α) (f : α → V) (Pv : List α → L2.St → Hp → Prop) (h0 : Pv [] σ H) (hl : ∀ pre σ' H', pre.length ≤ as.length → Pv pre σ' H' → SqL K H' a (as.map f))
    (hs : ∀ pre x post σ' H', as = pre ++ x :: post → Pv pre σ' H' → g (f x) σ' H' fun σ2 H2 => ts { D with nx := Pv (pre ++ [x]), ct := Pv (pre ++ [x]), bk := D.nx } σ2 H2)
    (hd : ∀ σ' H', Pv as σ' H' → D.nx σ' H') : ∃ b, V.ref a = .ref b ∧ (∃ xs, SqL K H b xs) ∧ ForRun g ts D σ (Itl K b) H := by
  refine ⟨a, rfl, ⟨_, hl [] σ H (Nat.zero_le _) h0⟩, for_list (xs := as.map f) (fun i σ' H' => i ≤ as.length ∧ Pv (as.take i) σ' H') ⟨Nat.zero_le _, by rw [List.take_zero]; exact h0⟩ (fun i σ' H' _ p => hl _ σ' H' (by rw [List.length_take]; omega) p.2) (fun i x σ' H' hx p => ?_) fun σ' H' p => hd σ' H' (by
    have q := p.2
    rw [List.length_map, List.take_length] at q
    exact q)⟩
  rw [List.getElem?_map] at hx
  cases ex : as[i]? with
  | none => rw [ex] at hx; cases hx
  | some n =>
    rw [ex] at hx
    cases hx
    have hi : i < as.length := (List.getElem?_eq_some_iff.mp ex).1
    have q := hs (as.take i) n (as.drop (i + 1)) σ' H' (split_at ex) p.2
    have e1 : (fun σ'' H'' => i + 1 ≤ as.length ∧ Pv (as.take (i + 1)) σ'' H'') = Pv (as.take i ++ [n]) := by
      funext σ'' H''
      rw [take_snoc ex]
      exact propext ⟨fun q => q.2, fun q => ⟨hi, q⟩⟩
    rw [e1]
    exact q
theorem x_forT {α : Type} (as : List α) (f : α → V) (Pv : List α → L2.St → Hp → Prop) (h0 : Pv [] σ H) (hl : ∀ pre σ' H', pre.length ≤ as.length → Pv pre σ' H' → SqT K H' a (as.map f))
    (hs : ∀ pre x post σ' H', as = pre ++ x :: post → Pv pre σ' H' → g (f x) σ' H' fun σ2 H2 => ts { D with nx := Pv (pre ++ [x]), ct := Pv (pre ++ [x]), bk := D.nx } σ2 H2)
    (hd : ∀ σ' H', Pv as σ' H' → D.nx σ' H') : ∃ b, V.ref a = .ref b ∧ (∃ xs, SqT K H b xs) ∧ ForRun g ts D σ (Itt K b) H := by
  refine ⟨a, rfl, ⟨_, hl [] σ H (Nat.zero_le _) h0⟩, for_tup (xs := as.map f) (fun i σ' H' => i ≤ as.length ∧ Pv (as.take i) σ' H') ⟨Nat.zero_le _, by rw [List.take_zero]; exact h0⟩ (fun i σ' H' _ p => hl _ σ' H' (by rw [List.length_take]; omega) p.2) (fun i x σ' H' hx p => ?_) fun σ' H' p => hd σ' H' (by
    have q := p.2
    rw [List.length_map, List.take_length] at q
    exact q)⟩
  rw [List.getElem?_map] at hx
  cases ex : as[i]? with
  | none => rw [ex] at hx; cases hx
  | some n =>
    rw [ex] at hx
    cases hx
    have hi : i < as.length := (List.getElem?_eq_some_iff.mp ex).1
    have q := hs (as.take i) n (as.drop (i + 1)) σ' H' (split_at ex) p.2
    have e1 : (fun σ'' H'' => i + 1 ≤ as.length ∧ Pv (as.take (i + 1)) σ'' H'') = Pv (as.take i ++ [n]) := by
      funext σ'' H''
      rw [take_snoc ex]
      exact propext ⟨fun q => q.2, fun q => ⟨hi, q⟩⟩
    rw [e1]
    exact q
/-- over lo, lo + 1, .. : the turn's number k -/
theorem x_forR {lo : Int} {n : Nat} (Pv : Nat → L2.St → Hp → Prop) (h0 : Pv 0 σ H)
    (hs : ∀ k σ' H', k < n → Pv k σ' H' → g (.int (lo + (k : Nat))) σ' H' fun σ2 H2 => ts { D with nx := Pv (k + 1), ct := Pv (k + 1), bk := D.nx } σ2 H2)
    (hd : ∀ σ' H', Pv n σ' H' → D.nx σ' H') : ForRun g ts D σ (Itr lo n) H := for_range Pv h0 hs hd
theorem mono_var {k : Nat} (Q Q' : VK) (h : ∀ v H', Q v H' → Q' v H') (q : tVar k σ H Q) : tVar k σ H Q' := by
  obtain ⟨v, e, q⟩ := q
  exact ⟨v, e, h v H q⟩
/-- over a list or tuple that a name holds, which stood at H0 -/
theorem x_forQ {α : Type} {H0 : Hp} (as : List α) (f : α → V) (hv : σ[i]? = some (some (.ref a))) (hq : Sq K H0 a (as.map f)) (Pv : List α → L2.St → Hp → Prop) (h0 : Pv [] σ H) (hk : ∀ pre σ' H', pre.length ≤ as.length → Pv pre σ' H' → Ex H0 H')
    (hs : ∀ pre x post σ' H', as = pre ++ x :: post → Pv pre σ' H' → g (f x) σ' H' fun σ2 H2 => ts { D with nx := Pv (pre ++ [x]), ct := Pv (pre ++ [x]), bk := D.nx } σ2 H2)
    (hd : ∀ σ' H', Pv as σ' H' → D.nx σ' H') : tFor (iSq K (tVar i)) g ts D σ H := by
  have key : ∀ {k : Nat} {n : α} {σ' : L2.St} {H' : Hp}, as[k]? = some n → Pv (as.take k) σ' H' → g (f n) σ' H' fun σ2 H2 => ts { D with nx := fun σ'' H'' => k + 1 ≤ as.length ∧ Pv (as.take (k + 1)) σ'' H'', ct := fun σ'' H'' => k + 1 ≤ as.length ∧ Pv (as.take (k + 1)) σ'' H'', bk := D.nx } σ2 H2 := by
    intro k n σ' H' ex p
    have hi : k < as.length := (List.getElem?_eq_some_iff.mp ex).1
    have e1 : (fun σ'' H'' => k + 1 ≤ as.length ∧ Pv (as.take (k + 1)) σ'' H'') = Pv (as.take k ++ [n]) := by
      funext σ'' H''
      rw [take_snoc ex]
      exact propext ⟨fun q => q.2, fun q => ⟨hi, q⟩⟩
    rw [e1]
    exact hs (as.take k) n (as.drop (k + 1)) σ' H' (split_at ex) p
  have look : ∀ {k : Nat} {x : V}, (as.map f)[k]? = some x → ∃ n, as[k]? = some n ∧ x = f n := by
    intro k x hx
    rw [List.getElem?_map] at hx
    cases ex : as[k]? with
    | none => rw [ex] at hx; cases hx
    | some n => rw [ex] at hx; cases hx; exact ⟨n, rfl, rfl⟩
  have h0' : (0 : Nat) ≤ as.length ∧ Pv (as.take 0) σ H := ⟨Nat.zero_le _, by rw [List.take_zero]; exact h0⟩
  have hd' : ∀ σ' H', ((as.map f).length ≤ as.length ∧ Pv (as.take (as.map f).length) σ' H') → D.nx σ' H' := fun σ' H' p => hd σ' H' (by
    have q := p.2
    rw [List.length_map, List.take_length] at q
    exact q)
  rcases hq with hq | hq
  · refine .inl ⟨.ref a, hv, a, rfl, ⟨_, Evl.ex_l (hk [] σ H (Nat.zero_le _) h0) hq⟩, for_list (xs := as.map f) (fun i σ' H' => i ≤ as.length ∧ Pv (as.take i) σ' H') h0' (fun i σ' H' _ p => Evl.ex_l (hk _ σ' H' (by rw [List.length_take]; omega) p.2) hq) (fun i x σ' H' hx p => ?_) hd'⟩
    obtain ⟨n, ex, rfl⟩ := look hx
    exact key ex p.2
  · refine .inr ⟨.ref a, hv, a, rfl, ⟨_, Evl.ex_t (hk [] σ H (Nat.zero_le _) h0) hq⟩, for_tup (xs := as.map f) (fun i σ' H' => i ≤ as.length ∧ Pv (as.take i) σ' H') h0' (fun i σ' H' _ p => Evl.ex_t (hk _ σ' H' (by rw [List.length_take]; omega) p.2) hq) (fun i x σ' H' hx p => ?_) hd'⟩
    obtain ⟨n, ex, rfl⟩ := look hx
    exact key ex p.2
/-- while, by a word that falls -/
theorem x_while (W : Nat → L2.St → Hp → Prop) (m0 : Nat) (h0 : W m0 σ H)
    (hs : ∀ m σ' H', W m σ' H' → tt σ' H' fun b H1 => if b = true then ts { D with nx := fun σ2 H2 => ∃ m', m' < m ∧ W m' σ2 H2, ct := fun σ2 H2 => ∃ m', m' < m ∧ W m' σ2 H2, bk := D.nx } σ' H1 else D.nx σ' H1)
    (mono : ∀ σ H Q Q', (∀ b H1, Q b H1 → Q' b H1) → tt σ H Q → tt σ H Q') : tWhile tt ts D σ H := by
  refine ⟨W, ⟨m0, h0⟩, fun m σ' H' hw => mono σ' H' _ _ (fun b H1 q => ?_) (hs m σ' H' hw)⟩
  cases b with
  | true => exact ⟨_, fun _ _ q => q, q⟩
  | false => exact q

/-! ### list comprehensions -/
/-- what is to be said of [te for .. in a list if tt]: the items as, their values f; which are taken, what is made -/
def LcSay (K : Frag) (j : Nat) (vs : List Nat) (tt : TT) (te : TE) (σ : L2.St) (H1 : Hp) (Q : VK) (α : Type) (as : List α) (f : α → V) (p : α → Bool) (v : α → V) : Prop :=
  as.length ≤ 1000000 ∧ (∀ x, wipe ((wipe σ vs).set j (some x)) vs = wipe σ vs) ∧
  (∀ x ∈ as, ∀ H', Ex H1 H' → ∀ QT : Bool → Hp → Prop, (∀ H2, Ex H' H2 → QT (p x) H2) → tt ((wipe σ vs).set j (some (f x))) H' QT) ∧
  (∀ x ∈ as, p x = true → ∀ H', Ex H1 H' → ∀ Q' : VK, (∀ H2, Ex H' H2 → Q' (v x) H2) → te ((wipe σ vs).set j (some (f x))) H' Q') ∧
  ∀ D H2, H1 D = none → Ex H1 H2 → H2 D = some (.lst ((as.filter p).map v)) → Q (.ref D) H2
theorem lc_step {α : Type} {as : List α} {p : α → Bool} {v : α → V} {H1 H' : Hp} {Dl : Addr} {k : Nat} {n : α} {σ2 : L2.St} (hz : as.length ≤ 1000000) (ex : as[k]? = some n) (hD : H1 Dl = none) (e1 : Ex H1 H') (hl : H' Dl = some (.lst (((as.take k).filter p).map v)))
    (ht : ∀ QT : Bool → Hp → Prop, (∀ H2, Ex H' H2 → QT (p n) H2) → tt σ2 H' QT)
    (he : p n = true → ∀ H2, Ex H1 H2 → ∀ Q' : VK, (∀ H3, Ex H2 H3 → Q' (v n) H3) → te σ2 H2 Q') :
    tt σ2 H' fun b H3 => if b = true then te σ2 H3 fun y H4 => ∃ acc, H4 Dl = some (.lst acc) ∧ acc.length < sizeLine ∧ ((Ex H1 (upd H4 Dl (.lst (acc ++ [y])))) ∧ (upd H4 Dl (.lst (acc ++ [y]))) Dl = some (.lst (((as.take (k + 1)).filter p).map v)))
      else ((Ex H1 H3) ∧ H3 Dl = some (.lst (((as.take (k + 1)).filter p).map v))) := by
  refine ht _ fun H3 e3 => ?_
  rw [take_snoc ex, List.filter_append, List.map_append]
  cases hp : p n with
  | true =>
    refine x_true ?_
    refine he hp H3 (e1.trans e3) _ fun H4 e4 => ?_
    refine ⟨_, e4 Dl _ (e3 Dl _ hl), ?_, Evl.Ex.mut ((e1.trans e3).trans e4) hD, ?_⟩
    · have h1 := List.length_filter_le p (as.take k)
      rw [List.length_take] at h1
      rw [List.length_map]
      exact szl (by omega)
    · rw [upd_same, List.filter_cons, if_pos hp]
      rfl
  | false =>
    refine x_false ⟨e1.trans e3, ?_⟩
    rw [List.filter_cons, if_neg (by rw [hp]; decide), e3 Dl _ hl]
    simp
/-- a comprehension's turns, from the iterator J -/
def LcRun (g : TG) (tt : TT) (te : TE) (vs : List Nat) (σ : L2.St) (Q : VK) (J : It) (H1 : Hp) : Prop := ∀ D, H1 D = none → ∃ W : Nat → Nat → Hp → Prop, (∃ m, W 0 m (upd H1 D (.lst []))) ∧ ∀ i m H, W i m H →
  (J.stop i H ∧ Q (.ref D) H) ∨ (J.go i H ∧ ∃ Nx : Hp → Prop, (∀ H', Nx H' → ∃ m', m' < m ∧ W (i + 1) m' H') ∧ ∀ x H', J.yld i H x H' → g x (wipe σ vs) H' fun σ2 H2 => wipe σ2 vs = wipe σ vs ∧ tt σ2 H2 fun b H3 =>
    if b = true then te σ2 H3 fun y H4 => ∃ acc, H4 D = some (.lst acc) ∧ acc.length < sizeLine ∧ Nx (upd H4 D (.lst (acc ++ [y]))) else Nx H3)
theorem x_lc {wi : TI} {vs : List Nat} (h : wi σ H (LcRun g tt te vs σ Q)) : tLc wi g tt te vs σ H Q := h
theorem x_lcL {vs : List Nat} {α : Type} (as : List α) (f : α → V) (p : α → Bool) (v : α → V) (hl : SqL K H a (as.map f)) (h : LcSay K j vs tt te σ H Q α as f p v) :
    ∃ b, V.ref a = .ref b ∧ (∃ xs, SqL K H b xs) ∧ LcRun (gName j) tt te vs σ Q (Itl K b) H := by
  obtain ⟨hz, hw, ht, he, q⟩ := h
  refine ⟨a, rfl, ⟨_, hl⟩, fun Dl hD => lc_list (xs := as.map f) (fun k H' => Ex H H' ∧ H' Dl = some (.lst (((as.take k).filter p).map v))) ⟨Evl.Ex.new hD, by rw [upd_same]; rfl⟩ (fun k H' _ pp => Evl.ex_l pp.1 hl) (fun k x H' hx pp => ?_) fun H' pp => q Dl H' hD pp.1 (by
    have r := pp.2
    rw [List.length_map, List.take_length] at r
    exact r)⟩
  rw [List.getElem?_map] at hx
  cases ex : as[k]? with
  | none => rw [ex] at hx; cases hx
  | some n =>
    rw [ex] at hx
    cases hx
    have hm : n ∈ as := List.mem_of_getElem? ex
    exact ⟨hw _, lc_step hz ex hD pp.1 pp.2 (ht n hm H' pp.1) fun hp H2 e2 => he n hm hp H2 e2⟩
theorem x_lcT {vs : List Nat} {α : Type} (as : List α) (f : α → V) (p : α → Bool) (v : α → V) (hl : SqT K H a (as.map f)) (h : LcSay K j vs tt te σ H Q α as f p v) :
    ∃ b, V.ref a = .ref b ∧ (∃ xs, SqT K H b xs) ∧ LcRun (gName j) tt te vs σ Q (Itt K b) H := by
  obtain ⟨hz, hw, ht, he, q⟩ := h
  refine ⟨a, rfl, ⟨_, hl⟩, fun Dl hD => lc_tup (xs := as.map f) (fun k H' => Ex H H' ∧ H' Dl = some (.lst (((as.take k).filter p).map v))) ⟨Evl.Ex.new hD, by rw [upd_same]; rfl⟩ (fun k H' _ pp => Evl.ex_t pp.1 hl) (fun k x H' hx pp => ?_) fun H' pp => q Dl H' hD pp.1 (by
    have r := pp.2
    rw [List.length_map, List.take_length] at r
    exact r)⟩
  rw [List.getElem?_map] at hx
  cases ex : as[k]? with
  | none => rw [ex] at hx; cases hx
  | some n =>
    rw [ex] at hx
    cases hx
    have hm : n ∈ as := List.mem_of_getElem? ex
    exact ⟨hw _, lc_step hz ex hD pp.1 pp.2 (ht n hm H' pp.1) fun hp H2 e2 => he n hm hp H2 e2⟩
/-- lo, lo + 1, .. below hi -/
def irange (lo hi : Int) : List Int := (List.range (hi - lo).toNat).map fun k => lo + ((k : Nat) : Int)
theorem irange_len (lo hi : Int) : (irange lo hi).length = (hi - lo).toNat := by unfold irange; rw [List.length_map, List.length_range]
theorem irange_at {lo hi : Int} {k : Nat} (h : k < (hi - lo).toNat) : (irange lo hi)[k]? = some (lo + (k : Int)) := by
  unfold irange
  rw [List.getElem?_map, List.getElem?_range h]
  rfl
theorem mem_irange {lo hi i : Int} : i ∈ irange lo hi ↔ lo ≤ i ∧ i < hi := by
  unfold irange
  rw [List.mem_map]
  constructor
  · rintro ⟨k, hk, rfl⟩
    rw [List.mem_range] at hk
    omega
  · rintro ⟨h1, h2⟩
    exact ⟨(i - lo).toNat, by rw [List.mem_range]; omega, by omega⟩
theorem x_lcR {lo hi : Int} {vs : List Nat} (p : Int → Bool) (v : Int → V) (h : LcSay K j vs tt te σ H Q Int (irange lo hi) V.int p v) : LcRun (gName j) tt te vs σ Q (Itr lo (hi - lo).toNat) H := by
  obtain ⟨hz, hw, ht, he, q⟩ := h
  intro Dl hD
  refine lc_range (fun k H' => Ex H H' ∧ H' Dl = some (.lst ((((irange lo hi).take k).filter p).map v))) ⟨Evl.Ex.new hD, by rw [upd_same]; rfl⟩ (fun k H' hk pp => ?_) fun H' pp => q Dl H' hD pp.1 (by
    have r := pp.2
    rw [List.take_of_length_le (by rw [irange_len]; exact Nat.le_refl _)] at r
    exact r)
  have ex := irange_at hk
  have hm := List.mem_of_getElem? ex
  exact ⟨hw _, lc_step hz ex hD pp.1 pp.2 (ht _ hm H' pp.1) fun hp H2 e2 => he _ hm hp H2 e2⟩
end

/-! ### min(xs, default=d) -/
section
open PySem.W (dataLt dataLt_ii dataLt_pair minD min_list_default)
theorem dataLt_int (x y : Int) : dataLt (.int x) (.int y) = decide (x < y) := by
  have h := dataLt_ii 0 x 0 y
  rw [dataLt_pair rfl rfl] at h
  have e0 : PyData.eqv (.int 0) (.int 0) = true := by decide
  rw [if_pos e0] at h
  by_cases e : PyData.eqv (.int x) (.int y) = true
  · rw [if_pos e] at h
    have hxy : x = y := by simpa [PyData.eqv] using e
    subst hxy
    rw [show dataLt (.int x) (.int x) = false from PySem.W.dataLt_self _]
    simp
  · rw [if_neg e] at h
    rw [h]
    simp
theorem minD_least : ∀ (ns : List Int) (n : Int), ∃ m, minD (.int n) (ns.map PyData.int) = .int m ∧ m ∈ n :: ns ∧ ∀ y ∈ n :: ns, m ≤ y
  | [], n => ⟨n, rfl, by simp, by simp⟩
  | a :: ns, n => by
    have e : minD (.int n) ((a :: ns).map PyData.int) = minD (if dataLt (.int a) (.int n) then .int a else .int n) (ns.map PyData.int) := rfl
    rw [e, dataLt_int]
    by_cases h : a < n
    · rw [decide_eq_true h, if_pos rfl]
      obtain ⟨m, e1, h1, h2⟩ := minD_least ns a
      refine ⟨m, e1, List.mem_cons_of_mem _ h1, fun y hy => ?_⟩
      rcases List.mem_cons.mp hy with rfl | hy
      · exact Int.le_trans (h2 a List.mem_cons_self) (Int.le_of_lt h)
      · exact h2 y hy
    · rw [decide_eq_false h, if_neg Bool.false_ne_true]
      obtain ⟨m, e1, h1, h2⟩ := minD_least ns n
      refine ⟨m, e1, ?_, fun y hy => ?_⟩
      · rcases List.mem_cons.mp h1 with rfl | h1
        · exact List.mem_cons_self
        · exact List.mem_cons_of_mem _ (List.mem_cons_of_mem _ h1)
      · rcases List.mem_cons.mp hy with rfl | hy
        · exact h2 y List.mem_cons_self
        · rcases List.mem_cons.mp hy with rfl | hy
          · exact Int.le_trans (h2 n List.mem_cons_self) (by omega)
          · exact h2 y (List.mem_cons_of_mem _ hy)
theorem reads_ints {h : Heap} : ∀ {ns : List Int} {us : List Value}, Vals (ns.map V.int) us → ReadsAll h us (ns.map PyData.int) []
  | [], _, .nil => .nil
  | n :: ns, _, .cons r t => by
    obtain ⟨t1, rfl⟩ := r
    exact .cons (as := []) (bs := []) (Reads.int n t1) (reads_ints t)
theorem depth_ints : ∀ ns : List Int, PyData.depthAll (ns.map PyData.int) ≤ 1
  | [] => by decide
  | n :: ns => by
    have h := depth_ints ns
    show PyData.depthAll (PyData.int n :: ns.map PyData.int) ≤ 1
    simp only [PyData.depthAll, PyData.depth]
    omega
theorem call_minD {X : Cx} (hc : X.calm = true) (hu : X.A.units + 64 < cLine) : CallRK X (.builtin "min") [Str.ofString "default"] (rMinD X.K) := by
  intro pins s σ H xs zs us ws Q I r rz h
  obtain ⟨a, ns, d, rfl, rfl, hs, h0, h1⟩ := h
  obtain ⟨its, rv, hl, _⟩ := I.list hs
  obtain rfl := Vals.ref1 r
  obtain ⟨w1, rfl, e1⟩ := vals1 rz
  have hd := depth_ints ns
  refine min_list_default (xs := ns.map PyData.int) (as := []) (I.ok.hd hc) hl.isList (by simpa using reads_ints rv) ⟨fun x hx y hy => ?_, fun x hx => ?_⟩ (by omega) (fun e h' tk hk => ⟨d, H, I.kept hk, e1, h0 (by simpa using e)⟩) (fun y ys i v h' tk bs e hi hr hk => ?_)
  · obtain ⟨_, _, rfl⟩ := List.mem_map.mp hx
    obtain ⟨_, _, rfl⟩ := List.mem_map.mp hy
    rfl
  · obtain ⟨_, _, rfl⟩ := List.mem_map.mp hx
    exact fun z => nomatch z
  · cases ns with
    | nil => cases e
    | cons n ns =>
      injection e with e2 e3
      subst e2 e3
      obtain ⟨m, em, m1, m2⟩ := minD_least ns n
      rw [em] at hr
      obtain ⟨t, rfl, _⟩ := PyProof.Rows.reads_int_inv hr
      exact ⟨.int m, H, I.kept hk, ⟨t, rfl⟩, h1 m m1 m2⟩
end
end B

namespace B
open PySem PySem.Spec PyProof.Rows L2
open PySem.W (Frag)
/-! ### kinds of values -/
inductive KS where
  | non | bl | int | str | lst | tup | dct
  deriving DecidableEq
inductive Kind (K : Frag) (H : Hp) : V → KS → Prop where
  | non : Kind K H .non .non
  | bl (b : Bool) : Kind K H (.bl b) .bl
  | int (i : Int) : Kind K H (.int i) .int
  | str (x : Str) : Kind K H (.str x) .str
  | lst {a : Addr} {xs : List V} (h : SqL K H a xs) : Kind K H (.ref a) .lst
  | tup {a : Addr} {xs : List V} (h : SqT K H a xs) : Kind K H (.ref a) .tup
  | dct {a : Addr} {kvs : List (Key × V)} (h : H a = some (.dK kvs)) : Kind K H (.ref a) .dct
theorem Kind.ex {K : Frag} {H H' : Hp} {x : V} {s : KS} (e : Ex H H') (h : Kind K H x s) : Kind K H' x s := by
  cases h with
  | non => exact .non
  | bl b => exact .bl b
  | int i => exact .int i
  | str x => exact .str x
  | lst h => exact .lst (Evl.ex_l e h)
  | tup h => exact .tup (Evl.ex_t e h)
  | dct h => exact .dct (e _ _ h)
def KS.name : KS → String
  | .non => "NoneType" | .bl => "bool" | .int => "int" | .str => "str" | .lst => "list" | .tup => "tuple" | .dct => "dict"
/-- the class a value's kind is under -/
def KS.isA : KS → String → Bool
  | .bl, t => t == "bool" || t == "int"
  | k, t => k.name == t
theorem Kind.ty {K : Frag} {H : Hp} {x : V} {s : KS} (h : Kind K H x s) : TyX K H x (.type s.name) := by
  cases h with
  | non => exact .base .non
  | bl b => exact .base (.bl b)
  | int i => exact .base (.int i)
  | str x => exact .base (.str x)
  | lst h =>
    rcases h with (h | ⟨o, h⟩) | ⟨o, its, n, h⟩
    · exact .base (.lst h)
    · exact .base (.frz h)
    · exact .kList h.1 h.2.1
  | tup h =>
    rcases h with (h | ⟨o, h⟩) | ⟨o, its, n, h⟩
    · exact .base (.tup h)
    · exact .fTuple h
    · exact .kTuple h.1 h.2.1
  | dct h => exact .base (.dK h)

section
variable {K : Frag} {σ : L2.St} {H H' : Hp} {Q : VK} {QT : Bool → Hp → Prop} {i j : Nat} {v x y z : V} {ta tb te tl : TE} {tt tu tv : TT} {tr : TA} {b : Bool} {D : Ends} {s1 s2 ts : TS} {g : TG} {a : Addr} {xs ys : List V}
/-! ### isinstance -/
theorem kit_int (s : KS) : PySem.W.kitOne K (.type s.name) (.type "int") = some (s.isA "int") := by cases s <;> exact kit_ty (by decide +kernel)
theorem kit_bool (s : KS) : PySem.W.kitOne K (.type s.name) (.type "bool") = some (s.isA "bool") := by cases s <;> exact kit_ty (by decide +kernel)
theorem kit_list (s : KS) : PySem.W.kitOne K (.type s.name) (.type "list") = some (s.isA "list") := by cases s <;> exact kit_ty (by decide +kernel)
theorem kit_tuple (s : KS) : PySem.W.kitOne K (.type s.name) (.type "tuple") = some (s.isA "tuple") := by cases s <;> exact kit_ty (by decide +kernel)
theorem kit_str (s : KS) : PySem.W.kitOne K (.type s.name) (.type "str") = some (s.isA "str") := by cases s <;> exact kit_ty (by decide +kernel)
theorem x_isi_int {s : KS} (k : Kind K H x s) (q : Q (.bl (s.isA "int")) H) : rIsi K [x, .ty "int"] H Q := ⟨x, _, _, _, _, rfl, .ty _, k.ty, kit_int s, q⟩
theorem x_isi_bool {s : KS} (k : Kind K H x s) (q : Q (.bl (s.isA "bool")) H) : rIsi K [x, .ty "bool"] H Q := ⟨x, _, _, _, _, rfl, .ty _, k.ty, kit_bool s, q⟩
theorem x_isi_list {s : KS} (k : Kind K H x s) (q : Q (.bl (s.isA "list")) H) : rIsi K [x, .ty "list"] H Q := ⟨x, _, _, _, _, rfl, .ty _, k.ty, kit_list s, q⟩
theorem x_isi_tuple {s : KS} (k : Kind K H x s) (q : Q (.bl (s.isA "tuple")) H) : rIsi K [x, .ty "tuple"] H Q := ⟨x, _, _, _, _, rfl, .ty _, k.ty, kit_tuple s, q⟩
theorem x_isi_str {s : KS} (k : Kind K H x s) (q : Q (.bl (s.isA "str")) H) : rIsi K [x, .ty "str"] H Q := ⟨x, _, _, _, _, rfl, .ty _, k.ty, kit_str s, q⟩
/-- isinstance(x, (list, tuple)) -/
theorem x_isiLT {s : KS} {p : Addr} (k : Kind K H x s) (hp : H p = some (.tup [.ty "list", .ty "tuple"])) (q : Q (.bl (s.isA "list" || s.isA "tuple")) H) : rIsiT K [x, .ref p] H Q := by
  refine ⟨x, p, _, _, _, s.isA "list" || s.isA "tuple", rfl, hp, .cons (.ty _) (.cons (.ty _) .nil), k.ty, kitAny_cons (kit_list s) (fun e => kitAny_cons (r := s.isA "list" || s.isA "tuple") (kit_tuple s) (fun e2 => ?_) ?_) ?_, q⟩
  · rw [e, e2]; exact kitAny_nil
  all_goals (cases s <;> decide)

/-! ### lists and tuples: lengths, items, copies -/
def rLen (K : Frag) : List V → Hp → VK → Prop := fun xs H Q => ∃ p ys, xs = [.ref p] ∧ (SqL K H p ys ∨ SqT K H p ys) ∧ Q (.int ys.length) H
def rListOf (K : Frag) : List V → Hp → VK → Prop := fun xs H Q => ∃ p ys, xs = [.ref p] ∧ (SqL K H p ys ∨ SqT K H p ys) ∧ ∀ l, H l = none → Q (.ref l) (upd H l (.lst ys))
def rTupOf (K : Frag) : List V → Hp → VK → Prop := fun xs H Q => ∃ p ys, xs = [.ref p] ∧ ((SqL K H p ys ∧ ∀ l, H l = none → Q (.ref l) (upd H l (.tup ys))) ∨ (SqT K H p ys ∧ Q (.ref p) H))
theorem call_len {X : Cx} : CallR X (.builtin "len") (rLen X.K) := call_len_seq
theorem call_listOf {X : Cx} : CallR X (.type "list") (rListOf X.K) := call_list_of
theorem call_tupOf {X : Cx} : CallR X (.type "tuple") (rTupOf X.K) := call_tuple_of
def rMin2 : List V → Hp → VK → Prop := fun xs H Q => ∃ i j, xs = [.int i, .int j] ∧ Q (.int (if j < i then j else i)) H
def rMax2 : List V → Hp → VK → Prop := fun xs H Q => ∃ i j, xs = [.int i, .int j] ∧ Q (.int (if j > i then j else i)) H
theorem call_min2 {X : Cx} (hc : X.calm = true) : CallR X (.builtin "min") rMin2 := L2.call_min2 hc
theorem call_max2 {X : Cx} (hc : X.calm = true) : CallR X (.builtin "max") rMax2 := L2.call_max2 hc
theorem x_len (h : Sq K H a xs) (q : Q (.int xs.length) H) : rLen K [.ref a] H Q := ⟨a, xs, rfl, h, q⟩
theorem x_min2 {m n : Int} (q : Q (.int (if n < m then n else m)) H) : rMin2 [.int m, .int n] H Q := ⟨m, n, rfl, q⟩
theorem x_max2 {m n : Int} (q : Q (.int (if n > m then n else m)) H) : rMax2 [.int m, .int n] H Q := ⟨m, n, rfl, q⟩
theorem x_ixL {k : Int} (h : SqL K H a xs) (e : atI xs k = some v) (q : Q v H) : rIxL K (.ref a) (.int k) H Q := ⟨a, xs, k, v, rfl, rfl, h, e, q⟩
theorem x_ixT {k : Int} (h : SqT K H a xs) (e : atI xs k = some v) (q : Q v H) : rIxT K (.ref a) (.int k) H Q := ⟨a, xs, k, v, rfl, rfl, h, e, q⟩
theorem x_listOf (h : Sq K H a xs) (q : ∀ p H', H p = none → Ex H H' → H' p = some (.lst xs) → Q (.ref p) H') : rListOf K [.ref a] H Q := ⟨a, xs, rfl, h, x_new q⟩
theorem x_tupOf (h : SqL K H a xs) (q : ∀ p H', H p = none → Ex H H' → H' p = some (.tup xs) → Q (.ref p) H') : rTupOf K [.ref a] H Q := ⟨a, xs, rfl, .inl ⟨h, x_new q⟩⟩
/-! ### data compared -/
def vd : V → PyData
  | .non => .none
  | .bl b => .bool b
  | .int i => .int i
  | .str x => .str x
  | _ => .none
/-- None and whole numbers -/
def plainV : V → Bool
  | .non => true
  | .int _ => true
  | _ => false
theorem eqv_vd {x y : V} (hx : plainV x = true) (hy : plainV y = true) : PyData.eqv (vd x) (vd y) = decide (x = y) := by
  cases x <;> cases y <;> simp [plainV, vd, PyData.eqv] at * <;> exact Bool.beq_eq_decide_eq _ _
theorem eqv_vdAll : ∀ {xs ys : List V}, xs.all plainV = true → ys.all plainV = true → PyData.eqvAll (xs.map vd) (ys.map vd) = decide (xs = ys)
  | [], [], _, _ => by simp [PyData.eqvAll]
  | [], _ :: _, _, _ => by simp [PyData.eqvAll]
  | _ :: _, [], _, _ => by simp [PyData.eqvAll]
  | x :: xs, y :: ys, hx, hy => by
    simp only [List.all_cons, Bool.and_eq_true] at hx hy
    show (PyData.eqv (vd x) (vd y) && PyData.eqvAll (xs.map vd) (ys.map vd)) = _
    rw [eqv_vd hx.1 hy.1, eqv_vdAll hx.2 hy.2]
    by_cases e1 : x = y <;> by_cases e2 : xs = ys <;> simp [e1, e2]
theorem dpAll_vd : ∀ {xs : List V}, xs.all plainV = true → DpAll K H xs (xs.map vd)
  | [], _ => .nil
  | x :: xs, h => by
    simp only [List.all_cons, Bool.and_eq_true] at h
    refine .cons ?_ (dpAll_vd h.2)
    cases x <;> simp [plainV] at h
    · exact .non
    · exact .int _
theorem can_vd : ∀ xs : List V, xs.all plainV = true → PyData.canLayAll0 (xs.map vd) = true ∧ PyData.depthAll (xs.map vd) ≤ 1
  | [], _ => by decide
  | x :: xs, h => by
    simp only [List.all_cons, Bool.and_eq_true] at h
    obtain ⟨h1, h2⟩ := can_vd xs h.2
    cases x <;> simp [plainV] at h <;> simp_all [vd, PyData.canLayAll0, PyData.canLay0, PyData.depthAll, PyData.depth]
theorem shaped_l {xs : List V} (h : xs.all plainV = true) : SeqAt.shaped (.list (xs.map vd)) = true := by
  obtain ⟨h1, h2⟩ := can_vd xs h
  simp only [SeqAt.shaped, PyData.canLay0, PyData.depth, h1, Bool.true_and, decide_eq_true_eq]
  exact decide_eq_true (by omega)
theorem shaped_t {xs : List V} (h : xs.all plainV = true) : SeqAt.shaped (.tuple (xs.map vd)) = true := by
  obtain ⟨h1, h2⟩ := can_vd xs h
  simp only [SeqAt.shaped, PyData.canLay0, PyData.depth, h1, Bool.true_and, decide_eq_true_eq]
  exact decide_eq_true (by omega)
theorem x_eqL {c : Addr} (h1 : SqL K H a xs) (h2 : SqL K H c ys) (p1 : xs.all plainV = true) (p2 : ys.all plainV = true) (q : Q (.bl (decide (xs = ys))) H) : rEqD K (.ref a) (.ref c) H Q :=
  ⟨_, _, .lst h1 (dpAll_vd p1), .lst h2 (dpAll_vd p2), shaped_l p1, shaped_l p2, by rw [show PyData.eqv (.list (xs.map vd)) (.list (ys.map vd)) = PyData.eqvAll (xs.map vd) (ys.map vd) from by simp only [PyData.eqv], eqv_vdAll p1 p2]; exact q⟩
theorem x_neL {c : Addr} (h1 : SqL K H a xs) (h2 : SqL K H c ys) (p1 : xs.all plainV = true) (p2 : ys.all plainV = true) (q : Q (.bl (!decide (xs = ys))) H) : rNeD K (.ref a) (.ref c) H Q :=
  ⟨_, _, .lst h1 (dpAll_vd p1), .lst h2 (dpAll_vd p2), shaped_l p1, shaped_l p2, by rw [show PyData.eqv (.list (xs.map vd)) (.list (ys.map vd)) = PyData.eqvAll (xs.map vd) (ys.map vd) from by simp only [PyData.eqv], eqv_vdAll p1 p2]; exact q⟩
theorem x_eqT {c : Addr} (h1 : SqT K H a xs) (h2 : SqT K H c ys) (p1 : xs.all plainV = true) (p2 : ys.all plainV = true) (q : Q (.bl (decide (xs = ys))) H) : rEqD K (.ref a) (.ref c) H Q :=
  ⟨_, _, .tup h1 (dpAll_vd p1), .tup h2 (dpAll_vd p2), shaped_t p1, shaped_t p2, by rw [show PyData.eqv (.tuple (xs.map vd)) (.tuple (ys.map vd)) = PyData.eqvAll (xs.map vd) (ys.map vd) from by simp only [PyData.eqv], eqv_vdAll p1 p2]; exact q⟩
theorem x_neT {c : Addr} (h1 : SqT K H a xs) (h2 : SqT K H c ys) (p1 : xs.all plainV = true) (p2 : ys.all plainV = true) (q : Q (.bl (!decide (xs = ys))) H) : rNeD K (.ref a) (.ref c) H Q :=
  ⟨_, _, .tup h1 (dpAll_vd p1), .tup h2 (dpAll_vd p2), shaped_t p1, shaped_t p2, by rw [show PyData.eqv (.tuple (xs.map vd)) (.tuple (ys.map vd)) = PyData.eqvAll (xs.map vd) (ys.map vd) from by simp only [PyData.eqv], eqv_vdAll p1 p2]; exact q⟩
theorem plain_ints (ns : List Int) : (ns.map V.int).all plainV = true := by simp [plainV]
theorem ints_inj {ns ms : List Int} : ns.map V.int = ms.map V.int ↔ ns = ms := by
  constructor
  · intro h
    exact (List.map_inj_right (fun a b e => V.int.inj e)).mp h
  · intro h; rw [h]
/-- a ship's berth, or None -/
def optV : Option Int → V
  | none => .non
  | some b => .int b
theorem plain_opts (os : List (Option Int)) : (os.map optV).all plainV = true := by
  rw [List.all_map, List.all_eq_true]
  intro o _
  cases o <;> rfl
theorem optV_inj {a b : Option Int} (h : optV a = optV b) : a = b := by cases a <;> cases b <;> simp [optV] at h <;> simp_all
/-! ### sums, sorts -/
theorem x_sum {ns : List Int} (h : SqL K H a (ns.map V.int)) (q : Q (.int ns.sum) H) : rSum K [.ref a] H Q := ⟨a, ns, rfl, h, q⟩
theorem x_sorted {ns : List Int} (h : SqL K H a (ns.map V.int)) (q : ∀ (ns' : List Int) p H', ns'.Perm ns → ns'.Pairwise (· ≤ ·) → H p = none → Ex H H' → H' p = some (.lst (ns'.map V.int)) → Q (.ref p) H') : rSortedI K [.ref a] H Q :=
  ⟨a, ns, rfl, h, fun ns' p h1 h2 hp => q ns' p _ h1 h2 hp (Evl.Ex.new hp) upd_same⟩
end
end B

namespace B
open PySem PySem.Spec PyProof.Rows L2
open PySem.W (Frag)
/-! ### an object is changed -/
structure Upd (H : Hp) (l : Addr) (o : HO) (H' : Hp) : Prop where
  same : H' l = some o
  other : ∀ b, b ≠ l → H' b = H b
theorem Upd.mk0 {H : Hp} {l : Addr} {o : HO} : Upd H l o (upd H l o) := ⟨upd_same, fun _ h => upd_ne h⟩
theorem Upd.ex {H0 H H' : Hp} {l : Addr} {o : HO} (u : Upd H l o H') (e : Ex H0 H) (h : H0 l = none) : Ex H0 H' := fun b x q => by
  rw [u.other b (ne_of_none q h)]
  exact e b x q
theorem Upd.get {H H' : Hp} {l b : Addr} {o x : HO} (u : Upd H l o H') (n : b ≠ l) (h : H b = some x) : H' b = some x := by rw [u.other b n]; exact h
theorem Upd.getL {K : Frag} {H H' : Hp} {l b : Addr} {o : HO} {xs : List V} (u : Upd H l o H') (n : b ≠ l) (h : SqL K H b xs) : SqL K H' b xs := by
  rcases h with (h | ⟨z, h⟩) | h
  · exact .inl (.inl (u.get n h))
  · exact .inl (.inr ⟨z, u.get n h⟩)
  · exact .inr h
section
variable {K : Frag} {σ : L2.St} {H H' : Hp} {Q : VK} {QT : Bool → Hp → Prop} {i j : Nat} {v x y z : V} {ta tb te tl tv to td : TE} {tt tu : TT} {t tr : TA} {b : Bool} {D : Ends} {s1 s2 ts : TS} {g : TG} {a l : Addr} {xs ys : List V} {kvs : List (Key × V)} {k : Key}
/-! ### methods of lists -/
def rBML (K : Frag) (T : String) (r : V → List V → Hp → VK → Prop) (t : TA) (σ : L2.St) (Q : VK) : V → Hp → Prop := fun x H1 => tyV K T x H1 ∧ t σ H1 fun vs H2 => r x vs H2 Q
theorem x_BM {T : String} {r : V → List V → Hp → VK → Prop} (h : to σ H (rBML K T r t σ Q)) : tBM K T r to t σ H Q := h
def rBM0L (K : Frag) (T : String) (r : V → List V → Hp → VK → Prop) (Q : VK) : V → Hp → Prop := fun x H1 => tyV K T x H1 ∧ r x [] H1 Q
theorem x_BM0 {T : String} {r : V → List V → Hp → VK → Prop} (h : to σ H (rBM0L K T r Q)) : tBM0 K T r to σ H Q := h
theorem x_onL {r : V → List V → Hp → VK → Prop} (hl : SqL K H l xs) (h : t σ H fun vs H2 => r (.ref l) vs H2 Q) : rBML K "list" r t σ Q (.ref l) H := ⟨.inl ⟨rfl, xs, hl⟩, h⟩
theorem x_onL0 {r : V → List V → Hp → VK → Prop} (hl : SqL K H l xs) (h : r (.ref l) [] H Q) : rBM0L K "list" r Q (.ref l) H := ⟨.inl ⟨rfl, xs, hl⟩, h⟩
theorem x_append (hl : H l = some (.lst xs)) (hz : xs.length ≤ 1000000) (q : ∀ H', Upd H l (.lst (xs ++ [y])) H' → Q .non H') : rAppend (.ref l) [y] H Q := ⟨l, xs, y, rfl, rfl, hl, szl hz, q _ .mk0⟩
theorem x_remove {ns : List Int} {n : Int} (hl : H l = some (.lst (ns.map V.int))) (hj : ns[j]? = some n) (hno : ∀ m : Nat, m < j → ns[m]? ≠ some n) (q : ∀ H', Upd H l (.lst ((ns.eraseIdx j).map V.int)) H' → Q .non H') : rRemI (.ref l) [.int n] H Q :=
  ⟨l, ns, n, j, rfl, rfl, hl, hj, hno, q _ .mk0⟩
theorem x_clear (hl : H l = some (.lst xs)) (q : ∀ H', Upd H l (.lst []) H' → Q .non H') : rClear (.ref l) [] H Q := ⟨l, xs, rfl, rfl, hl, q _ .mk0⟩
theorem x_pop (hl : H l = some (.lst xs)) (hy : xs[xs.length - 1]? = some y) (q : ∀ H', Upd H l (.lst xs.dropLast) H' → Q y H') : rPop (.ref l) [] H Q := ⟨l, xs, y, rfl, rfl, hl, hy, q _ .mk0⟩
/-- xs.pop(i), i from 0 -/
theorem x_popAt {n : Nat} (hl : H l = some (.lst xs)) (hz : xs.length ≤ 1000000) (hy : xs[n]? = some y) (q : ∀ H', Upd H l (.lst (xs.eraseIdx n)) H' → Q y H') : rPopAt (.ref l) [.int (n : Nat)] H Q := by
  have hn : n < xs.length := (List.getElem?_eq_some_iff.mp hy).1
  refine ⟨l, xs, (n : Int), n, y, rfl, rfl, hl, by omega, by omega, ?_, hy, q _ .mk0⟩
  unfold seqIndex?
  have h0 : (0 : Int) ≤ (n : Int) := by omega
  have h1 : (n : Int) < (xs.length : Int) := by omega
  first
    | (simp only [h0, h1, if_true, Int.toNat_natCast]; done)
    | (simp [h0, h1]; done)
    | (rw [if_pos h0, if_pos h1]; simp)
    | (simp; omega)
/-- xs[i] = e -/
theorem x_asgG {G : TG} (h : te σ H fun v H1 => G v σ H1 D.nx) : tAsg te G D σ H := h
def gSubC (ti : TE) (w : TSet) (v : V) (σ : L2.St) (Qn : L2.St → Hp → Prop) : V → Hp → Prop := fun o H1 => ti σ H1 fun i H2 => w o i v H2 fun H3 => Qn σ H3
theorem x_gSub {Qn : L2.St → Hp → Prop} {w : TSet} (h : to σ H fun o H1 => tb σ H1 fun i H2 => w o i v H2 (Qn σ)) : gSub to tb w v σ H Qn := h
theorem x_setL {n : Nat} {Qh : Hp → Prop} (hl : H l = some (.lst xs)) (hn : n < xs.length) (q : ∀ H', Upd H l (.lst (xs.set n v)) H' → Qh H') : rSetL (.ref l) (.int (n : Nat)) v H Qh := ⟨l, xs, (n : Int), n, rfl, rfl, hl, Evl.ixN_nat hn, q _ .mk0⟩
/-! ### dicts -/
def rDIn (y x : V) : Hp → VK → Prop := fun H Q => ∃ a o, x = .ref a ∧ DGet H a y o ∧ Q (.bl o.isSome) H
def rDNotIn (y x : V) : Hp → VK → Prop := fun H Q => ∃ a o, x = .ref a ∧ DGet H a y o ∧ Q (.bl (!o.isSome)) H
theorem x_dIn (h : ta σ H fun y H1 => td σ H1 fun x H2 => rDIn y x H2 Q) : tDIn ta td σ H Q := h
theorem x_dNotIn (h : ta σ H fun y H1 => td σ H1 fun x H2 => rDNotIn y x H2 Q) : tDNotIn ta td σ H Q := h
theorem x_inI {n : Int} (hd : H a = some (.dK kvs)) (q : Q (.bl (valV kvs (.inl n)).isSome) H) : rDIn (.int n) (.ref a) H Q := ⟨a, _, rfl, DGet.k (k := .inl n) hd, q⟩
theorem x_inS {n : Str} (hd : H a = some (.dK kvs)) (q : Q (.bl (valV kvs (.inr n)).isSome) H) : rDIn (.str n) (.ref a) H Q := ⟨a, _, rfl, DGet.k (k := .inr n) hd, q⟩
theorem x_notInI {n : Int} (hd : H a = some (.dK kvs)) (q : Q (.bl (!(valV kvs (.inl n)).isSome)) H) : rDNotIn (.int n) (.ref a) H Q := ⟨a, _, rfl, DGet.k (k := .inl n) hd, q⟩
theorem x_notInS {n : Str} (hd : H a = some (.dK kvs)) (q : Q (.bl (!(valV kvs (.inr n)).isSome)) H) : rDNotIn (.str n) (.ref a) H Q := ⟨a, _, rfl, DGet.k (k := .inr n) hd, q⟩
def rDGet (x y : V) : Hp → VK → Prop := fun H Q => ∃ a v, x = .ref a ∧ DGet H a y (some v) ∧ Q v H
theorem x_dGet (h : td σ H fun x H1 => ta σ H1 fun y H2 => rDGet x y H2 Q) : tDGet td ta σ H Q := h
theorem x_getI {n : Int} (hd : H a = some (.dK kvs)) (e : valV kvs (.inl n) = some v) (q : Q v H) : rDGet (.ref a) (.int n) H Q := ⟨a, v, rfl, by rw [← e]; exact DGet.k (k := .inl n) hd, q⟩
theorem x_getS {n : Str} (hd : H a = some (.dK kvs)) (e : valV kvs (.inr n) = some v) (q : Q v H) : rDGet (.ref a) (.str n) H Q := ⟨a, v, rfl, by rw [← e]; exact DGet.k (k := .inr n) hd, q⟩
def rDPut (v x y : V) (nx : Hp → Prop) : Hp → Prop := fun H => ∃ a H4, x = .ref a ∧ DPut H a y v H4 ∧ nx H4
theorem x_dPut (h : tv σ H fun v H1 => td σ H1 fun x H2 => ta σ H2 fun y H3 => rDPut v x y (D.nx σ) H3) : sDPut td ta tv D σ H := h
theorem x_putI {n : Int} {nx : Hp → Prop} (hd : H a = some (.dK kvs)) (hz : kvs.length ≤ 1000000) (q : ∀ H', Upd H a (.dK (putK kvs (.inl n) v)) H' → nx H') : rDPut v (.ref a) (.int n) nx H := ⟨a, _, rfl, DPut.k (k := .inl n) hd (szl hz), q _ .mk0⟩
theorem x_putS {n : Str} {nx : Hp → Prop} (hd : H a = some (.dK kvs)) (hz : kvs.length ≤ 1000000) (q : ∀ H', Upd H a (.dK (putK kvs (.inr n) v)) H' → nx H') : rDPut v (.ref a) (.str n) nx H := ⟨a, _, rfl, DPut.k (k := .inr n) hd (szl hz), q _ .mk0⟩
/-! ### list(range(a, b)) -/
theorem rgV_eq (m n : Int) : rgV m n = (irange m n).map V.int := by unfold rgV irange; rw [List.map_map]; rfl
def rLstRg (Q : VK) : Int → Int → Hp → Prop := fun a b H1 => RgOk a b ∧ ∀ q, H1 q = none → Q (.ref q) (upd H1 q (.lst (rgV a b)))
theorem x_lstRg {tg : L2.St → Hp → (Int → Int → Hp → Prop) → Prop} (h : tg σ H (rLstRg Q)) : tLstRg tg σ H Q := h
theorem x_rg1 {R : Int → Int → Hp → Prop} (h : ta σ H fun x H1 => ∃ n, x = .int n ∧ R 0 n H1) : tRg1 ta σ H R := h
theorem x_rg2 {R : Int → Int → Hp → Prop} (h : ta σ H fun x H1 => tb σ H1 fun y H2 => ∃ i j, x = .int i ∧ y = .int j ∧ R i j H2) : tRg2 ta tb σ H R := h
theorem x_mkRg1 {n : Int} (hn : n ≤ 1000000 ∧ -1000000 ≤ n) (q : ∀ p H', H p = none → Ex H H' → H' p = some (.lst ((irange 0 n).map V.int)) → Q (.ref p) H') : ∃ m, V.int n = .int m ∧ rLstRg Q 0 m H :=
  ⟨n, rfl, ⟨by omega, by omega, by omega, by omega, by omega⟩, fun p hp => q p _ hp (Evl.Ex.new hp) (by rw [upd_same, rgV_eq])⟩
theorem x_mkRg2 {m n : Int} (hm : m ≤ 1000000 ∧ -1000000 ≤ m) (hn : n ≤ 1000000 ∧ -1000000 ≤ n) (q : ∀ p H', H p = none → Ex H H' → H' p = some (.lst ((irange m n).map V.int)) → Q (.ref p) H') : ∃ i j, V.int m = .int i ∧ V.int n = .int j ∧ rLstRg Q i j H :=
  ⟨m, n, rfl, rfl, ⟨by omega, by omega, by omega, by omega, by omega⟩, fun p hp => q p _ hp (Evl.Ex.new hp) (by rw [upd_same, rgV_eq])⟩
/-! ### keywords -/
theorem x_CKw {r : List V → List V → Hp → VK → Prop} {tk : TA} (h : t σ H fun vs H1 => tk σ H1 fun zs H2 => r vs zs H2 Q) : tCKw r t tk σ H Q := h
theorem x_minD {ns : List Int} {d : V} (h : SqL K H a (ns.map V.int)) (q0 : ns = [] → Q d H) (q : ∀ m, m ∈ ns → (∀ y, y ∈ ns → m ≤ y) → Q (.int m) H) : rMinD K [.ref a] [d] H Q := ⟨a, ns, d, rfl, rfl, h, q0, q⟩
/-! ### slices -/
theorem x_sl {r : V → Option Int → Option Int → Hp → VK → Prop} {tl' th : TO} (h : te σ H fun x H1 => tl' σ H1 fun lo H2 => th σ H2 fun hi H3 => r x lo hi H3 Q) : tSl r te tl' th σ H Q := h
theorem x_noPart {QO : Option Int → Hp → Prop} (h : QO none H) : tNoPart σ H QO := h
def rPart (QO : Option Int → Hp → Prop) : V → Hp → Prop := fun x H1 => ∃ i, x = .int i ∧ QO (some i) H1
theorem x_part {QO : Option Int → Hp → Prop} (h : te σ H (rPart QO)) : tPart te σ H QO := h
theorem x_partI {QO : Option Int → Hp → Prop} {n : Int} (h : QO (some n) H) : rPart QO (.int n) H := ⟨n, rfl, h⟩
theorem x_slL {lo hi : Option Int} (h : SqL K H a xs) (q : ∀ p H', H p = none → Ex H H' → H' p = some (.lst (cutV xs lo hi)) → Q (.ref p) H') : rSlL K (.ref a) lo hi H Q := ⟨a, xs, rfl, h, x_new q⟩
end
theorem at_head {x : V} {xs : List V} : atI (x :: xs) 0 = some x := by
  have h : atI (x :: xs) ((0 : Nat) : Int) = some x := atI_nat rfl
  exact h
/-- slices of lists, by drop and take -/
theorem cut_from (xs : List V) (n : Nat) : cutV xs (some (n : Int)) none = xs.drop n := by
  unfold cutV
  rw [HT.sIx_none, HT.sIx_nat]
  rcases Nat.le_total n xs.length with h | h
  · rw [Nat.min_eq_left h, List.take_of_length_le (by rw [List.length_drop]; exact Nat.le_refl _)]
  · rw [Nat.min_eq_right h, List.drop_length, List.drop_eq_nil_of_le h]
    simp
theorem cut_to (xs : List V) (n : Nat) : cutV xs none (some (n : Int)) = xs.take n := by
  unfold cutV
  rw [HT.sIx_none, HT.sIx_nat, List.drop_zero, Nat.sub_zero]
  rcases Nat.le_total n xs.length with h | h
  · rw [Nat.min_eq_left h]
  · rw [Nat.min_eq_right h, List.take_of_length_le h, List.take_of_length_le (Nat.le_refl _)]

/-! ### [e for a, b in zip(xs, ys) if t] -/
section
variable {K : Frag} {σ : L2.St} {H H' : Hp} {Q : VK} {i j : Nat} {te : TE} {tt : TT} {t : TA} {a b : Addr}
def rZip (K : Frag) (R : It → Hp → Prop) : List V → Hp → Prop := fun vs H1 => ∃ a b xs ys, vs = [.ref a, .ref b] ∧ SqL K H1 a xs ∧ SqL K H1 b ys ∧ R (Itz K a b) H1
theorem x_iZip {R : It → Hp → Prop} (h : t σ H (rZip K R)) : iZip K t σ H R := h
def LcSay2 (i j : Nat) (vs : List Nat) (tt : TT) (te : TE) (σ : L2.St) (H1 : Hp) (Q : VK) (α β : Type) (as : List (α × β)) (f : α → V) (g : β → V) (p : α × β → Bool) (v : α × β → V) : Prop :=
  as.length ≤ 1000000 ∧ (∀ x y, wipe (((wipe σ vs).set i (some x)).set j (some y)) vs = wipe σ vs) ∧
  (∀ x ∈ as, ∀ H', Ex H1 H' → ∀ QT : Bool → Hp → Prop, (∀ H2, Ex H' H2 → QT (p x) H2) → tt (((wipe σ vs).set i (some (f x.1))).set j (some (g x.2))) H' QT) ∧
  (∀ x ∈ as, p x = true → ∀ H', Ex H1 H' → ∀ Q' : VK, (∀ H2, Ex H' H2 → Q' (v x) H2) → te (((wipe σ vs).set i (some (f x.1))).set j (some (g x.2))) H' Q') ∧
  ∀ D H2, H1 D = none → Ex H1 H2 → H2 D = some (.lst ((as.filter p).map v)) → Q (.ref D) H2
theorem x_lcZ {α β : Type} {vs : List Nat} (xs : List α) (ys : List β) (f : α → V) (g : β → V) (p : α × β → Bool) (v : α × β → V) (h1 : SqL K H a (xs.map f)) (h2 : SqL K H b (ys.map g))
    (h : LcSay2 i j vs tt te σ H Q α β (xs.zip ys) f g p v) : rZip K (LcRun (gTup K 2 (gCons (gName i) (gCons (gName j) gNil))) tt te vs σ Q) [.ref a, .ref b] H := by
  obtain ⟨hz, hw, ht, he, q⟩ := h
  refine ⟨a, b, _, _, rfl, h1, h2, fun D hD => ?_⟩
  refine ⟨fun k m H' => m = (xs.zip ys).length - k ∧ k ≤ (xs.zip ys).length ∧ Ex H H' ∧ H' D = some (.lst ((((xs.zip ys).take k).filter p).map v)), ⟨_, rfl, Nat.zero_le _, Evl.Ex.new hD, by rw [upd_same]; rfl⟩, ?_⟩
  rintro k m H' ⟨rfl, hk, e1, hl⟩
  have q1 := Evl.ex_l e1 h1
  have q2 := Evl.ex_l e1 h2
  by_cases hlt : k < (xs.zip ys).length
  · have hlz := List.length_zip (l₁ := xs) (l₂ := ys)
    have kx : k < xs.length := by omega
    have ky : k < ys.length := by omega
    have ex : (xs.zip ys)[k]? = some (xs[k], ys[k]) := by rw [List.getElem?_eq_getElem hlt, List.getElem_zip]
    have mx : (xs.map f)[k]? = some (f xs[k]) := by rw [List.getElem?_map, List.getElem?_eq_getElem kx]; rfl
    have my : (ys.map g)[k]? = some (g ys[k]) := by rw [List.getElem?_map, List.getElem?_eq_getElem ky]; rfl
    refine .inr ⟨⟨_, _, _, _, q1, q2, mx, my⟩, fun H'' => Ex H H'' ∧ H'' D = some (.lst ((((xs.zip ys).take (k + 1)).filter p).map v)), fun H'' p' => ⟨_, by omega, rfl, hlt, p'.1, p'.2⟩, fun x H2 y => ?_⟩
    obtain ⟨T, x', y', rfl, hT, rfl, f1, f2⟩ := y
    have ex1 := Option.some.inj (mx.symm.trans (f1 _ q1))
    have ey1 := Option.some.inj (my.symm.trans (f2 _ q2))
    subst ex1 ey1
    have mem := List.mem_of_getElem? ex
    have e2 : Ex H' (upd H' T (.tup [f xs[k], g ys[k]])) := Evl.Ex.new hT
    refine ⟨T, _, rfl, .inl (.inl upd_same), rfl, _, _, rfl, _, _, rfl, rfl, hw _ _, ?_⟩
    exact lc_step hz ex hD (e1.trans e2) (e2 _ _ hl) (ht _ mem _ (e1.trans e2)) fun hp H3 e3 => he _ mem hp H3 e3
  · have e : k = (xs.zip ys).length := by omega
    subst e
    have hlz := List.length_zip (l₁ := xs) (l₂ := ys)
    refine .inl ⟨⟨_, _, q1, q2, ?_⟩, q D H' hD e1 ?_⟩
    · rw [List.length_map, List.length_map]
      omega
    · rw [List.take_length] at hl
      exact hl
end
end B

namespace B
open PySem PySem.Spec PyProof.Rows L2
open PySem.W (Frag)
section
variable {X : Cx} {tg : Expr}
/-! ### xs[i] op= e, of a list, at a place in its bounds -/
def rGetN (K : Frag) : V → V → Hp → VK → Prop := fun o i H Q => ∃ p xs k v, o = .ref p ∧ i = .int k ∧ SqL K H p xs ∧ 0 ≤ k ∧ atI xs k = some v ∧ Q v H
theorem get_list : PGet X (rGetN X.K) := by
  intro pins s σ H o i ov iv Q I ro ri h
  obtain ⟨p, xs, k, v, rfl, rfl, hq, k0, hv, q⟩ := h
  cases ro
  obtain ⟨t, rfl⟩ := ri
  obtain ⟨its, r, pl, hz⟩ := I.list hq
  obtain ⟨j, h1, h2, h3, h4, h5⟩ := atI_get hv
  obtain ⟨w, ew, rw'⟩ := r.get h2
  have hn := line63
  have hj : k.toNat = j := by
    rw [seqIndex_of k0 h5] at h1
    exact Option.some.inj h1
  exact wpAny_getItem_list pl.isList k0 (by omega) (by rw [hj]; simpa using ew) ⟨v, H, I, rw', q⟩
theorem ps_augL {o i e : Expr} {to ti te : TE} {tip : TIp} {op : Operator} {tpos pos : Pos} (ho : PE X o to) (hi : PE X i ti) (he : PE X e te) (hp : PIp X op tip)
    (ha : ∀ ov iv new, augStore i ov iv new = (do holding [new, ov, iv] (setItem ov iv new); release [new, ov, iv] []; pure .next) := by intros; rfl) : PS X (.AugAssign (.Subscript o i tpos) op e pos) (tAugS to ti te (rGetN X.K) tip rSetL) :=
  ps_augS ho hi get_list he hp set_list ha
end
section
variable {K : Frag} {σ : L2.St} {H H' : Hp} {Q : VK} {QT : Bool → Hp → Prop} {i j : Nat} {v x y z : V} {ta tb te tl to ti : TE} {tt : TT} {tr : TA} {b : Bool} {D : Ends} {ts : TS} {g : TG} {a l p : Addr} {xs ys : List V}
def rSetC (o i : V) (nx : Hp → Prop) : V → Hp → Prop := fun z H5 => rSetL o i z H5 nx
theorem x_augS {ip : TIp} (h : to σ H fun o H1 => ti σ H1 fun i H2 => rGetN K o i H2 fun x H3 => te σ H3 fun y H4 => ip x y H4 (rSetC o i (D.nx σ))) : tAugS to ti te (rGetN K) ip rSetL D σ H := h
theorem x_getN {n : Nat} (hl : SqL K H p xs) (hx : xs[n]? = some v) (q : Q v H) : rGetN K (.ref p) (.int (n : Nat)) H Q := ⟨p, xs, n, v, rfl, rfl, hl, by omega, atI_nat hx, q⟩
theorem x_setC {n : Nat} {nx : Hp → Prop} (hl : H l = some (.lst xs)) (hn : n < xs.length) (q : ∀ H', Upd H l (.lst (xs.set n v)) H' → nx H') : rSetC (.ref l) (.int (n : Nat)) nx v H := ⟨l, xs, (n : Int), n, rfl, rfl, hl, Evl.ixN_nat hn, q _ .mk0⟩
/-! ### range with a step of -1 -/
def rRng3 (R : It → Hp → Prop) : List V → Hp → Prop := fun vs H1 => ∃ (i j c : Int) (n : Nat), vs = [.int i, .int j, .int c] ∧ RgC i j c n ∧ R (Itc i c n) H1
theorem x_iRng3 {R : It → Hp → Prop} (h : tr σ H (rRng3 R)) : iRng3 tr σ H R := h
theorem x_down {R : It → Hp → Prop} {m n : Int} (hm : m ≤ 1000000 ∧ -1000000 ≤ m) (hn : n ≤ 1000000 ∧ -1000000 ≤ n) (h : R (Itc m (-1) (m - n).toNat) H) : rRng3 R [.int m, .int n, .int (-1)] H := ⟨m, n, -1, _, rfl, RgC.neg (by omega) (by omega) (by omega) (by omega), h⟩
theorem x_forC {lo c : Int} {n : Nat} (Pv : Nat → L2.St → Hp → Prop) (h0 : Pv 0 σ H)
    (hs : ∀ k σ' H', k < n → Pv k σ' H' → g (.int (lo + (k : Nat) * c)) σ' H' fun σ2 H2 => ts { D with nx := Pv (k + 1), ct := Pv (k + 1), bk := D.nx } σ2 H2)
    (hd : ∀ σ' H', Pv n σ' H' → D.nx σ' H') : ForRun g ts D σ (Itc lo c n) H := for_rangeC Pv h0 hs hd
/-! ### is, of bools -/
theorem op_isbl {X : Cx} : OpR X (compareOp .Is) rIsB := op_isBl
theorem x_isB {c d : Bool} (q : Q (.bl (decide (c = d))) H) : rIsB (.bl c) (.bl d) H Q := ⟨c, d, rfl, rfl, q⟩
/-! ### xs[::-1] -/
def rRevL (K : Frag) (Q : VK) : V → Hp → Prop := fun x H1 => ∃ a xs, x = .ref a ∧ SqL K H1 a xs ∧ ∀ p, H1 p = none → Q (.ref p) (upd H1 p (.lst xs.reverse))
theorem x_revL (h : te σ H (rRevL K Q)) : tRevL K te σ H Q := h
theorem x_rev (h : SqL K H a xs) (q : ∀ p H', H p = none → Ex H H' → H' p = some (.lst xs.reverse) → Q (.ref p) H') : rRevL K Q (.ref a) H := ⟨a, xs, rfl, h, x_new q⟩
/-! ### xs * n -/
theorem x_rep {n : Int} (hl : H l = some (.lst xs)) (h0 : 0 ≤ n) (h1 : n ≤ 1000000) (hz : xs.length ≤ 1) (q : ∀ p H', H p = none → Ex H H' → H' p = some (.lst ((List.replicate n.toNat xs).flatten)) → Q (.ref p) H') : rRep (.ref l) (.int n) H Q := by
  refine ⟨l, n, xs, rfl, rfl, hl, by omega, by omega, sz ?_, fun p hp => ?_⟩
  · have : xs.length * n.toNat ≤ 1 * n.toNat := Nat.mul_le_mul_right _ hz
    omega
  · exact q p _ hp (Evl.Ex.new hp) (by rw [upd_same])
/-! ### for i, x in enumerate(xs) -/
def rEnum (K : Frag) (R : It → Hp → Prop) : List V → Hp → Prop := fun vs H1 => ∃ a xs, vs = [.ref a] ∧ SqL K H1 a xs ∧ R (Ite K a) H1
theorem x_iEnum {R : It → Hp → Prop} (h : tr σ H (rEnum K R)) : iEnum K tr σ H R := h
theorem x_forE {α : Type} (as : List α) (f : α → V) (Pv : List α → L2.St → Hp → Prop) (h0 : Pv [] σ H) (hl : ∀ pre σ' H', pre.length ≤ as.length → Pv pre σ' H' → SqL K H' a (as.map f))
    (mono : ∀ pre σ' H' H'', Pv pre σ' H' → Ex H' H'' → Pv pre σ' H'')
    (hs : ∀ pre x post σ' H', as = pre ++ x :: post → Pv pre σ' H' → ts { D with nx := Pv (pre ++ [x]), ct := Pv (pre ++ [x]), bk := D.nx } ((σ'.set i (some (.int (pre.length : Nat)))).set j (some (f x))) H')
    (hd : ∀ σ' H', Pv as σ' H' → D.nx σ' H') : rEnum K (ForRun (gTup K 2 (gCons (gName i) (gCons (gName j) gNil))) ts D σ) [.ref a] H := by
  refine ⟨a, _, rfl, hl [] σ H (Nat.zero_le _) h0, fun k m σ' H' => m = as.length - k ∧ k ≤ as.length ∧ Pv (as.take k) σ' H', ⟨_, rfl, Nat.zero_le _, by rw [List.take_zero]; exact h0⟩, ?_⟩
  rintro k m σ' H' ⟨rfl, hk, p⟩
  have hq := hl _ σ' H' (by rw [List.length_take]; omega) p
  by_cases hlt : k < as.length
  · have ex : as[k]? = some as[k] := List.getElem?_eq_getElem hlt
    have ev : (as.map f)[k]? = some (f as[k]) := by rw [List.getElem?_map, ex]; rfl
    refine .inr ⟨⟨_, _, hq, ev⟩, Pv (as.take k ++ [as[k]]), fun σ'' H'' p' => ⟨as.length - (k + 1), by omega, rfl, hlt, by rw [take_snoc ex]; exact p'⟩, fun x H2 y => ?_⟩
    obtain ⟨T, x', rfl, hT, rfl, f1⟩ := y
    have e1 := Option.some.inj (ev.symm.trans (f1 _ hq))
    subst e1
    refine ⟨T, _, rfl, .inl (.inl upd_same), rfl, _, _, rfl, _, _, rfl, rfl, ?_⟩
    have q := hs (as.take k) as[k] (as.drop (k + 1)) σ' _ (split_at ex) (mono _ _ _ _ p (Evl.Ex.new (o := .tup [.int (k : Nat), f as[k]]) hT))
    have el : (as.take k).length = k := by rw [List.length_take]; omega
    rw [el] at q
    exact q
  · have e : k = as.length := by omega
    subst e
    refine .inl ⟨⟨_, hq, by rw [List.length_map]; exact Nat.le_refl _⟩, hd σ' H' ?_⟩
    rw [List.take_length] at p
    exact p
end
end B
namespace B
open PySem PySem.Spec PyProof.Rows L2
/-- a statement at which the steps stop -/
def tStop (t : TS) : TS := t
theorem ps_stop {X : Cx} {st : Stmt} {t : TS} (h : PS X st t) : PS X st (tStop t) := h
theorem x_stop {t : TS} {D : Ends} {σ : L2.St} {H : Hp} (h : t D σ H) : tStop t D σ H := h
/-- what follows a statement is shown once, from R -/
theorem x_join {t : TS} {D : Ends} {σ : L2.St} {H : Hp} (R : L2.St → Hp → Prop) (hr : ∀ σ' H', R σ' H' → D.nx σ' H') (h : (∀ σ' H', R σ' H' → D.nx σ' H') → t D σ H) : tStop t D σ H := h hr
/-- an edge that the search for facts does not take -/
def Far (H H' : Hp) : Prop := Ex H H'
theorem Far.of {H H' : Hp} (e : Ex H H') : Far H H' := e
theorem Far.e {H H' : Hp} (e : Far H H') : Ex H H' := e
theorem inV_int (b : Int) (ms : List Int) : inV (.int b) (ms.map V.int) = decide (b ∈ ms) := by
  unfold inV
  induction ms with
  | nil => simp
  | cons a ms ih =>
    rw [List.map_cons, List.any_cons, ih]
    by_cases h : b = a
    · subst h
      simp [eqV]
    · have h2 : ¬ a = b := fun z => h z.symm
      simp [eqV, h, h2]
theorem x_notIn {K : PySem.W.Frag} {H : Hp} {Q : VK} {p : Addr} {ms : List Int} {b : Int} (h : SqL K H p (ms.map V.int)) (q : Q (.bl (!decide (b ∈ ms))) H) : rIn K true (.int b) (.ref p) H Q :=
  ⟨p, _, rfl, .inl h, rfl, by simp [flatV], by rw [inV_int]; exact q⟩
theorem x_isIn {K : PySem.W.Frag} {H : Hp} {Q : VK} {p : Addr} {ms : List Int} {b : Int} (h : SqL K H p (ms.map V.int)) (q : Q (.bl (decide (b ∈ ms))) H) : rIn K false (.int b) (.ref p) H Q :=
  ⟨p, _, rfl, .inl h, rfl, by simp [flatV], by rw [inV_int]; exact q⟩
theorem cut_init (xs : List V) : cutV xs none (some (-1)) = xs.dropLast := by
  unfold cutV
  have h : HT.sIx xs.length xs.length (some (-1)) = xs.length - 1 := by
    show (if (-1 : Int) < 0 then ((-1 : Int) + (xs.length : Int)).toNat else min (-1 : Int).toNat xs.length) = _
    rw [if_pos (by decide)]
    omega
  rw [HT.sIx_none, h, List.drop_zero, Nat.sub_zero, List.dropLast_eq_take]
end B

namespace B
open PySem PySem.Spec PyProof.Rows L2
open PySem.W (Frag)
/-! ### an exception that is caught and kept under a name -/
/-- the exception at a: an instance of cls, with its fields, without a dict of its own -/
def ExC (a : Addr) (cls : Value) (d : Option Addr) : HO := .ext fun h => ∃ (oe : Obj) (vs : Array Value), h.get? a = some oe ∧ Zc cls d oe ∧ oe.data = .fields vs
section
variable {X : Cx} {pins : List (Addr × Obj)} {σ : L2.St} {H : Hp} {s : Shared}
theorem exC_ok {P : Program} {w : World} {H : Hp} {h : Heap} {a : Addr} {cls : Value} {d : Option Addr} {oe : Obj} {vs : Array Value} (e : h.get? a = some oe) (z : Zc cls d oe) (hd : oe.data = .fields vs) : ObjOk P w H h a (ExC a cls d) :=
  ⟨⟨oe, vs, e, z, hd⟩, ⟨oe, e⟩, fun h1 h2 ⟨o, us, g1, g2, g3⟩ k => ⟨o, us, k _ g1, g2, g3⟩⟩
/-- an object of which nothing was said, new since the entry, is told of from now on -/
theorem inv_track {a : Addr} {cls : Value} {d : Option Addr} {oe : Obj} {vs : Array Value} (I : Inv X pins σ H s) (e : s.heap.get? a = some oe) (z : Zc cls d oe) (hd : oe.data = .fields vs) (na : H a = none)
    (nL : a ≠ X.env.locals) (n0 : X.s_0.heap.get? a = none) (np : ∀ p ∈ X.pn ++ pins, p.1 ≠ a) : Inv X pins σ (upd H a (ExC a cls d)) s where
  ok := I.ok
  os := I.os
  bare := I.bare
  base :=
    { keep := I.base.keep
      slot := I.base.slot
      free := fun b o h1 h2 h3 => by
        rw [upd_ne (fun q => by rw [q, n0] at h1; cases h1)]
        exact I.base.free b o h1 h2 h3
      there := I.base.there
      tups := fun b xs q => by
        have r := I.base.tups b xs q
        rw [upd_ne (ne_of_none r na)]
        exact r
      frzs := fun b o u q => by
        have r := I.base.frzs b o u q
        rw [upd_ne (ne_of_none r na)]
        exact r
      tbls := fun b ps q => by
        obtain ⟨m, r⟩ := I.base.tbls b ps q
        exact ⟨m, by rw [upd_ne (ne_of_none r na)]; exact r⟩ }
  loc := I.loc
  cell := I.cell
  free := by rw [upd_ne (Ne.symm nL)]; exact I.free
  freeC := fun x c hc => by
    have ne : c ≠ a := by
      rintro rfl
      obtain ⟨v, hv⟩ := I.cell x c hc
      obtain ⟨oc, h1, h2⟩ := hv
      rw [e] at h1
      cases h1
      rw [hd] at h2
      cases h2
    rw [upd_ne ne]
    exact I.freeC x c hc
  pin := fun p hp => by
    obtain ⟨h1, h2, h3, h4, h5⟩ := I.pin p hp
    exact ⟨h1, by rw [upd_ne (np p hp)]; exact h2, h3, h4, h5⟩
  hok := fun b u q => by
    by_cases hb : b = a
    · subst hb
      rw [upd_same] at q
      cases q
      exact exC_ok e z hd
    · rw [upd_ne hb] at q
      exact (I.hok b u q).stay (fun _ _ _ r => r) (fun c r => by rw [upd_ne (ne_of_none r na)]; exact r) fun c xs r => by rw [upd_ne (ne_of_none r na)]; exact r
  len := I.len
/-- what is wished where the body raises: caught, kept in slot j, the clause's own name (slot i) gone; or not of the class -/
def wKeep (K : Frag) (c : Value) (i j : Nat) (Wout : WX) (D : Ends) : WX := fun cls d σ H =>
  ∃ b, PySem.W.exmOne K cls c = some b ∧ (b = true → ∀ a, H a = none → D.nx (((σ.set i (some (.ref a))).set j (some (.ref a))).set i none) (upd H a (ExC a cls d))) ∧ (b = false → Wout cls d σ H)
end
section
variable {X : Cx} {x n : Str} {c : Value} {i j : Nat} {body suite : List Stmt} {st0 : Stmt} {q1 q2 q3 : Pos} {tb : WX → TS} {Wout : WX}
/-- try: body / except x as n: kept = n -/
theorem ps_try_keep (stk : X.stack = X.env :: X.outer) (frm : X.env.frame = some X.env.locals) (noex : X.ex = []) (nd : X.N.Nodup) (ni : X.N[i]? = some n) (loc : X.env.kindOf n = some .local) (nm : Names X x c) (out : Takes X Wout)
    (run : ∀ (W : WX) (pn : List (Addr × Obj)) (xe : Value → Shared → Prop), Takes (X.tr pn xe) W → PassesOwn (model X.prog X.w) X.A X.env xe → PSs (X.tr pn xe) body (tb W))
    (sui : ∀ (a : Addr) (oe : Obj) (pn : List (Addr × Obj)), PSs (X.suite a ((a, oe) :: pn)) (st0 :: suite) (tAsg (tVar i) (gName j))) :
    PS X (.Try body [.ExceptHandler (some (.Name x q1)) (some n) (st0 :: suite) q2] [] [] q3) (fun D σ H => tb (wKeep X.K c i j Wout D) D σ H) := by
  constructor
  intro pins s σ H D I go
  have good := I.ok
  have hfrs : X.A.frames = some (X.env :: X.outer) := good.frames.trans (congrArg some stk)
  apply wpAny_Try_except
  have B0 := (run (wKeep X.K c i j Wout D) (X.pn ++ pins) (fun ev z1 => wpAny (model X.prog X.w) X.A (noteFrame ev X.env) (fun _ z2 => wpAny (model X.prog X.w) X.A (setFlight ev none) (fun _ z3 => wpAny (model X.prog X.w) X.A
    (handleBy ev X.env [.ExceptHandler (some (.Name x q1)) (some n) (st0 :: suite) q2]) (SP X pins D) X.xe z3) X.xe z2) X.xe z1) ?caught PassesOwn.looking).run [] s σ H D (I.toTry _) go
  case caught =>
    rintro u z ⟨a, G, sG, pp, σ', H', cls, d, rfl, JT, apart, upto, sky, free, eos, eag, b, isC, yes, no⟩
    have J : Inv X pins σ' H' sG := JT.ofTry good
    rw [stk] at sky
    show wpAny (model X.prog X.w) X.A (noteFrame (.ref a) X.env) _ _ _
    refine Sky.land Zc.steady hfrs frm sky fun hA fA uA => ?_
    have JA : Inv X pins σ' H' { z with heap := hA } := J.landed apart fA.1 (upto.trans uA) eos eag
    obtain ⟨oA, vA, gA, zA, dA⟩ := fA.there
    have offStack : a ∉ frs (X.env :: X.outer) := fun m => by
      obtain ⟨_, o', g', nf⟩ := fA.2.2.1.mem m
      rw [gA] at g'
      cases g'
      exact nf _ dA
    have offLoc : a ≠ X.env.locals := fun q => offStack (List.mem_filterMap.mpr ⟨X.env, List.mem_cons_self, by rw [frm, q]⟩)
    have offOut : a ∉ X.fs := fun m => by
      obtain ⟨ev, he, hq⟩ := List.mem_filterMap.mp m
      exact offStack (List.mem_filterMap.mpr ⟨ev, List.mem_cons_of_mem _ he, hq⟩)
    have newG : sG.heap.get? a = none := by
      cases e : sG.heap.get? a with
      | none => rfl
      | some o =>
        have g1 := apart a o e (by rw [stk]; exact offStack)
        rw [fA.2.1] at g1
        cases g1
    have newS : X.s_0.heap.get? a = none := by
      cases e : X.s_0.heap.get? a with
      | none => rfl
      | some o =>
        obtain ⟨o', g1⟩ := J.base.there a o e (by rw [noex]; simp)
        rw [newG] at g1
        cases g1
    have apartP : ∀ p ∈ X.pn ++ pins, p.1 ≠ a := fun p hp q => by
      have g1 := (J.pin p hp).1
      rw [q, newG] at g1
      cases g1
    have SA := JA.suite gA dA free offLoc offOut
    refine wpAny_handleBy_cons (codeAny_handlers_test ?_) (by intro q; cases q)
    have tyA : PySem.W.Looks (model X.prog X.w) hA (typeOf (.ref a)) cls := fun _ _ _ _ k r => wpAny_typeOf_ref (k _ _ gA) (by rw [zA.1]; exact r)
    have isA := PySem.W.exm_one (M := model X.prog X.w) JA.kIn tyA isC
    have look : ∀ {Q E : Value → Shared → Prop}, Q c { z with heap := hA } → wpAny (model X.prog X.w) (X.A.mark (some (.ref a))) (eval (.Name x q1) X.env) Q E { z with heap := hA } := fun r => by
      rcases nm with ⟨g1, g2, g3 | ⟨g3, g4, g5⟩⟩
      · exact ld_glob (X := X.suite a ((a, oA) :: (X.pn ++ pins))) SA g1 g3 r g2
      · exact ld_blt (X := X.suite a ((a, oA) :: (X.pn ++ pins))) SA g1 g3 g4 r g5 g2
    refine look (isA.here ?_)
    cases b
    · -- another class: it flies on
      show wpAny _ X.A (handleBy (.ref a) X.env []) _ _ _
      apply wpAny_handleBy_nil
      have flyOn : wpAny (model X.prog X.w) X.A (setFlight (.ref a) X.env.frame) (fun _ z4 => wpAny (model X.prog X.w) X.A (throw (.ref a) : Sem Flow) (SP X pins D) X.xe z4) X.xe { z with heap := hA } := by
        rw [frm]
        refine HandSPX.setFlight_upZ fA fun hB fB uB => wpAny_throw (out _ _ ⟨a, G, sG, pins, σ', H', cls, d, rfl, J, apart, (upto.trans uA).trans uB, ?_, free, eos, eag, no rfl⟩)
        rw [stk]
        exact .inr (.inr fB)
      obtain ⟨_, _, _, oe, us, T, oT, ts, g1, g2, g3, g4, g5⟩ := id fA
      unfold PySem.passOn
      refine wpAny_bind (wpAny_field g1 g3 g4 ?_)
      rw [if_neg (show ¬ ((Value.ref T == Value.none) = true) from by simp)]
      first
        | exact wpAny_bind (wpAny_pure (wpAny_bind flyOn))
        | exact wpAny_bind flyOn
    · -- the clause's own
      apply codeAny_handlers_suite_as
      refine HandSPX.lands_againZ fA fun hB fB uB => ?_
      have JB : Inv X pins σ' H' { z with heap := hB } := J.landed apart fB.1 ((upto.trans uA).trans uB) eos eag
      obtain ⟨oB, vB, gB, zB, dB⟩ := fB.there
      have SB := JB.suite gB dB free offLoc offOut
      refine store_ok (X := X.suite a ((a, oB) :: (X.pn ++ pins))) (v := .ref a) SB nd ni (.inl loc) rfl (fun z5 S5 => ?_) (.inr loc)
      have li : i < σ'.length := by rw [J.len]; exact (List.getElem?_eq_some_iff.mp ni).1
      have fin := (sui a oB (X.pn ++ pins)).run [] z5 _ H' { nx := fun σ6 H6 => σ6 = (σ'.set i (some (.ref a))).set j (some (.ref a)) ∧ H6 = H', rt := fun _ _ => False, bk := fun _ _ => False, ct := fun _ _ => False } S5
        ⟨.ref a, by rw [List.getElem?_set_self li], rfl, rfl⟩
      refine wpAny_mono fin (fun fl z6 hz => ?_) (fun _ _ q => q.elim)
      cases fl with
      | next =>
        obtain ⟨σ6, H6, S6, rfl, rfl⟩ := hz
        have g6 := (S6.pin (a, oB) (List.mem_append.mpr (.inl List.mem_cons_self))).1
        have T6 := inv_track (S6.unsuite good) g6 zB dB free offLoc newS apartP
        exact gone_ok T6 nd ni loc fun z7 J7 => ⟨_, _, J7, yes rfl a free⟩
      | brk => obtain ⟨_, _, _, q⟩ := hz; exact q.elim
      | cont => obtain ⟨_, _, _, q⟩ := hz; exact q.elim
      | ret u => obtain ⟨_, _, _, _, _, q⟩ := hz; exact q.elim
  refine wpAny_mono B0 (fun fl z hz => ?_) (fun _ _ q => q)
  cases fl with
  | next => obtain ⟨σ', H', J, q⟩ := hz; exact wpAny_execs_nil ⟨σ', H', J.ofTry good, q⟩
  | brk => obtain ⟨σ', H', J, q⟩ := hz; exact ⟨σ', H', J.ofTry good, q⟩
  | cont => obtain ⟨σ', H', J, q⟩ := hz; exact ⟨σ', H', J.ofTry good, q⟩
  | ret u => obtain ⟨v, σ', H', J, r, q⟩ := hz; exact ⟨v, σ', H', J.ofTry good, r, q⟩
end
/-! ### isinstance of what was caught -/
/-- None, or an exception whose class is D -/
inductive Caught (K : Frag) (H : Hp) : V → Option Addr → Prop where
  | no : Caught K H .non none
  | yes {a D : Addr} (h : H a = some (ExC a (.ref D) none)) : Caught K H (.ref a) (some D)
theorem Caught.ex {K : Frag} {H H' : Hp} {x : V} {o : Option Addr} (e : Ex H H') (h : Caught K H x o) : Caught K H' x o := by
  cases h with
  | no => exact .no
  | yes h => exact .yes (e _ _ h)
/-- the class of what was caught -/
def clsOf : Option Addr → Value
  | none => .type "NoneType"
  | some D => .ref D
def rIsiC (K : Frag) : List V → Hp → VK → Prop := fun xs H Q => ∃ (x cv : V) (o : Option Addr) (u : Value) (b : Bool), xs = [x, cv] ∧ ClsV cv u ∧ Caught K H x o ∧ (∀ D, o = some D → ExcC K D) ∧ PySem.W.kitOne K (clsOf o) u = some b ∧ Q (.bl b) H
def rIsiCT (K : Frag) : List V → Hp → VK → Prop := fun xs H Q => ∃ (x : V) (tp : Addr) (cs : List V) (o : Option Addr) (us : List Value) (b : Bool), xs = [x, .ref tp] ∧ H tp = some (.tup cs) ∧ Paired ClsV cs us ∧ Caught K H x o ∧ (∀ D, o = some D → ExcC K D) ∧ PySem.W.kitAny K (clsOf o) us = some b ∧ Q (.bl b) H
section
variable {X : Cx} {pins : List (Addr × Obj)} {σ : L2.St} {H : Hp} {s : Shared}
theorem kit_caught {x : V} {u : Value} {o : Option Addr} (I : Inv X pins σ H s) (rx : RelV x u) (h : Caught X.K H x o) (hc : ∀ D, o = some D → ExcC X.K D) : ∃ P : Heap → Prop, PySem.W.KitX X.K u (clsOf o) P ∧ P s.heap ∧ u ≠ .builtin "__main__.__loader__#opaque" := by
  cases h with
  | no => cases (show u = Value.none from rx); exact ⟨_, PySem.W.kitx_none, True.intro, fun z => nomatch z⟩
  | @yes a D e =>
    cases (show u = Value.ref a from rx)
    obtain ⟨⟨oe, vs, g1, g2, g3⟩, _, _⟩ := (show ObjOk X.prog X.w H s.heap a (ExC a (.ref D) none) from I.hok a _ e)
    have C := hc D rfl
    have J : PySem.W.InstAt s.heap a oe D none := by
      obtain ⟨oc, od, oda, osl⟩ := oe
      obtain ⟨e1, e2⟩ := g2
      dsimp only at e1 e2 g3
      subst e1 e2 g3
      exact ⟨g1, rfl, rfl, trivial⟩
    exact ⟨_, PySem.W.handS_kitx_exc C.hg C.hk C.hs C.hd C.ha C.hn C.ht C.hm, J, fun z => nomatch z⟩
theorem call_isiC : CallR X (.builtin "isinstance") (rIsiC X.K) := by
  intro pins s σ H xs us Q I r h
  obtain ⟨x, cv, o, w, b, rfl, k, ca, hc, e, q⟩ := h
  obtain ⟨u1, u2, rfl, r1, r2⟩ := vals2 r
  obtain rfl := k.eq r2
  obtain ⟨P, Z, p, hx⟩ := kit_caught I r1 ca hc
  exact PySem.W.kia_one Z I.kIn p e hx fun tk => ⟨.bl b, H, I.tok tk, rfl, q⟩
theorem call_isiCT : CallR X (.builtin "isinstance") (rIsiCT X.K) := by
  intro pins s σ H xs us Q I r h
  obtain ⟨x, tp, cs, o, ws, b, rfl, hT, k, ca, hc, e, q⟩ := h
  obtain ⟨u1, u2, rfl, r1, r2⟩ := vals2 r
  cases (show u2 = Value.ref tp from r2)
  obtain ⟨P, Z, p, hx⟩ := kit_caught I r1 ca hc
  obtain ⟨_, its, rv, ob, g1, g2, n, g3⟩ := (show ObjOk X.prog X.w H s.heap tp (.tup cs) from I.hok tp _ hT)
  obtain rfl := ClsV.all k rv
  obtain ⟨oc, od, dt, sl⟩ := ob
  simp only at g2 g3
  subst g2 g3
  exact PySem.W.kia_tup Z I.kIn p g1 e hx fun tk => ⟨.bl b, H, I.tok tk, rfl, q⟩
end
end B

namespace B
open PySem PySem.Spec PyProof.Rows L2
open PySem.W (Frag)
section
/-! ### (v,) * n, any n -/
theorem tupMul_one (l : Addr) (its : Array Value) (n : Nat) (dd : Option Addr) (sl : Array (Option Value)) (u : Tok) :
    Meets (Builtin.«tuple.__mul__» ⟨[.ref l, .int 1 u], []⟩) (fun _ R s => s.heap.get? l = some { cls := .type "tuple", dict := dd, data := .seq its n, slots := sl } ∧ R (.ok (.ret (Value.ref l))) s) :=
  .of_wp fun prog w A R s h => by
    obtain ⟨hp, g, d, tk, os⟩ := s
    obtain ⟨hl, h⟩ := h
    have f1 := AutoSeq1.idx_int
    have c1 : (its.isEmpty || (1 : Int) == 1) = true := by simp
    wp_walk using wpAny_loadPart' hl
    exact ⟨_, rfl, h⟩
theorem tupMul_none (l : Addr) (its : Array Value) (n : Nat) (dd : Option Addr) (sl : Array (Option Value)) (k : Int) (u : Tok) (hk : k ≤ 0) (hk2 : -1000000 ≤ k) (hi : its.isEmpty = false) :
    Meets (Builtin.«tuple.__mul__» ⟨[.ref l, .int k u], []⟩) (fun _ R s => s.heap.get? l = some { cls := .type "tuple", dict := dd, data := .seq its n, slots := sl } ∧
      R (.ok (.ret (Value.ref s.heap.objs.size))) { s with heap := s.heap.push { cls := Value.type "tuple", data := Data.seq #[] }, toks := s.toks }) :=
  .of_wp fun prog w A R s h => by
    obtain ⟨hp, g, d, tk, os⟩ := s
    obtain ⟨hl, h⟩ := h
    have f1 := AutoSeq1.idx_int
    have c0 : (decide (k < -(2 ^ 63)) || decide (k ≥ 2 ^ 63)) = false := by rw [decide_eq_false (by omega), decide_eq_false (by omega)] <;> rfl
    have c1 : (its.isEmpty || k == 1) = false := by rw [hi, Bool.false_or]; exact beq_eq_false_iff_ne.mpr (by omega)
    have c2 : (decide (k ≤ 0) || its.isEmpty) = true := by rw [decide_eq_true hk]; rfl
    wp_walk using wpAny_loadPart' hl
    repeat (first
      | (refine wpAny_ite_false (decide_eq_false (by rw [c0]; exact Bool.false_ne_true)) ?_; wp_walk using wpAny_loadPart' hl)
      | (refine wpAny_ite_false (decide_eq_false (by rw [c1]; exact Bool.false_ne_true)) ?_; wp_walk using wpAny_loadPart' hl)
      | (refine wpAny_ite_true (decide_eq_true c2) ?_; wp_walk using wpAny_loadPart' hl))
    exact ⟨_, rfl, h⟩
end
/-- t * k of a tuple that isn't empty -/
def rRepTX (K : Frag) : R2 := fun x y H Q => ∃ l k xs, x = .ref l ∧ y = .int k ∧ H l = some (.tup xs) ∧ xs ≠ [] ∧ -1000 ≤ k ∧ k ≤ 1000 ∧ xs.length ≤ 1000 ∧
  ∀ p H', Ex H H' → H' p = some (.tup (List.replicate k.toNat xs).flatten) → Q (.ref p) H'
theorem op_repTX {X : Cx} : OpR X (binaryOp .Mult) (rRepTX X.K) := by
  intro pins s σ H x y v u Q I rx ry h
  obtain ⟨l, k, xs, rfl, rfl, hT, hne, h1, h2, hz, q⟩ := h
  by_cases k2 : 2 ≤ k
  · exact op_repT pins s σ H _ _ v u Q I rx ry ⟨l, k, xs, rfl, rfl, .inl (.inl hT), hne, k2, h2, hz, fun p hp => q p _ (Evl.Ex.new hp) upd_same⟩
  · cases rx
    obtain ⟨t, rfl⟩ := ry
    obtain ⟨hs, its, r, ⟨cls, dd, data, sl⟩, ho, hc, n, hd⟩ := (show ObjOk X.prog X.w H s.heap l (.tup xs) from I.hok l _ hT)
    simp only at hc hd
    subst hc hd
    have hle : its.length = xs.length := r.length.symm
    have hi : its.toArray.isEmpty = false := by
      cases its with
      | nil => exact absurd (List.eq_nil_of_length_eq_zero hle.symm) hne
      | cons a b => rfl
    have go : ∀ {P : Value → Shared → Prop}, wpAny (model X.prog X.w) X.A (call (.builtin "tuple.__mul__") [.ref l, .int k t]) P X.xe s → wpAny (model X.prog X.w) X.A (binaryOp .Mult (.ref l) (.int k t)) P X.xe s := fun {P} w =>
      wpAny_binaryOp_repeat_ref (T := "tuple") (U := "int") (by decide) ⟨_, ho, rfl⟩ (fun s' => typeIs_int s' k t) noFill_tuple_mul F.fills_int_mul F.slot_int_rmul repeat_tuple F.slot_int_index.lookup
        (call_meets F.slot_int_rmul (typeIs_int s k t) F.entry_int_rmul (F.args_int_rmul_2 _ _) (int_rmul_tuple k t l its.toArray n dd sl) ⟨ho, rfl, ⟨_, ho, rfl⟩, w⟩)
    by_cases k1 : k = 1
    · subst k1
      refine go (call_meets F.slot_tuple_mul ⟨_, ho, rfl⟩ F.entry_tuple_mul (F.args_tuple_mul_2 _ _) (tupMul_one l its.toArray n dd sl t) ⟨ho, ?_⟩)
      refine ⟨.ref l, H, I, rfl, q l H (Evl.Ex.refl H) ?_⟩
      rw [hT]
      simp
    · refine go (call_meets F.slot_tuple_mul ⟨_, ho, rfl⟩ F.entry_tuple_mul (F.args_tuple_mul_2 _ _) (tupMul_none l its.toArray n dd sl k t (by omega) (by omega) hi) ⟨ho, ?_⟩)
      have hn := I.hok.fresh (Nat.le_refl _)
      refine ⟨.ref s.heap.objs.size, _, I.laid (t' := s.toks) (o := .tup []) (fun b ob q => Heap.get?_push_of_some _ q) (Nat.le_refl _) ⟨Nat.zero_le _, [], .nil, IsTup.new _ _⟩, rfl, q _ _ (Evl.Ex.new hn) ?_⟩
      rw [upd_same, show k.toNat = 0 from by omega]
      rfl
section
/-! ### xs + ys of lists that are only read -/
theorem addL_meets (l b : Addr) (its its2 : Array Value) (n n2 : Nat) (dd dd2 : Option Addr) (sl sl2 : Array (Option Value)) (hz : its.size + its2.size ≤ sizeLine) :
    Meets (Builtin.«list.__add__» ⟨[.ref l, .ref b], []⟩) (fun _ R s => s.heap.get? l = some { cls := .type "list", dict := dd, data := .seq its n, slots := sl } ∧ s.heap.get? b = some { cls := .type "list", dict := dd2, data := .seq its2 n2, slots := sl2 } ∧
      R (.ok (.ret (Value.ref s.heap.objs.size))) { s with heap := s.heap.push { cls := Value.type "list", data := Data.seq (its ++ its2) }, toks := s.toks }) :=
  .of_wp fun prog w A R s h => by
    obtain ⟨hp, g, d, tk, os⟩ := s
    obtain ⟨hl, hb, h⟩ := h
    have f3 := AutoSeq1.sub_list_list
    wp_walk using wpAny_loadPart' hl, wpAny_loadPart' hb
    exact ⟨_, rfl, h⟩
end
def rCatR (K : Frag) : R2 := fun x y H Q => ∃ l b xs ys, x = .ref l ∧ y = .ref b ∧ SqL K H l xs ∧ SqL K H b ys ∧ xs.length + ys.length ≤ 1000000 ∧ ∀ p, H p = none → Q (.ref p) (upd H p (.lst (xs ++ ys)))
theorem op_catR {X : Cx} : OpR X (binaryOp .Add) (rCatR X.K) := by
  intro pins s σ H x y v u Q I rx ry h
  obtain ⟨l, b, xs, ys, rfl, rfl, h1, h2, hz, q⟩ := h
  cases rx
  cases ry
  obtain ⟨its, r1, ⟨⟨c1, d1, t1, s1⟩, n1, g1, e1, e2, e3⟩, _⟩ := I.list h1
  obtain ⟨its2, r2, ⟨⟨c2, d2, t2, s2⟩, n2, g2, e4, e5, e6⟩, _⟩ := I.list h2
  simp only at e1 e2 e3 e4 e5 e6
  subst e1 e2 e3 e4 e5 e6
  have hl1 := r1.length
  have hl2 := r2.length
  refine concat_meets ⟨_, g1, rfl⟩ ⟨_, g2, rfl⟩ noFill_list_add seq_list_add F.slot_list_add F.entry_list_add (F.args_list_add_2 _ _) (addL_meets l b its.toArray its2.toArray n1 n2 none none s1 s2 (by rw [List.size_toArray, List.size_toArray]; exact sz (by omega))) ⟨g1, g2, ?_⟩
  have ea : its.toArray ++ its2.toArray = (its ++ its2).toArray := by simp
  rw [ea]
  exact ⟨.ref _, _, I.lnew (t' := s.toks) (r1.append r2) (by rw [List.length_append]; exact sz hz), rfl, q _ I.fresh⟩
/-! ### name *= e, of ints -/
def ipM : TIp := fun x y H Q => ∃ i j, x = .int i ∧ y = .int j ∧ CMul i j ∧ Q (.int (i * j)) H
theorem ip_mul {X : Cx} : PIp X .Mult ipM := by
  intro pins s σ H x y v u Q I r1 r2 h
  obtain ⟨i, j, rfl, rfl, c, q⟩ := h
  obtain ⟨t, rfl⟩ := r1
  obtain ⟨t', rfl⟩ := r2
  exact imul_int ⟨.int _, H, I.tok _, ⟨_, rfl⟩, q⟩ c.ok
section
variable {X : Cx} {k i : Nat} {f : Addr} {x : Str} {p pos : Pos} {e : Expr} {es : List Expr} {t : TA}
/-! ### a call of a def that a local name holds, one of a family; what it raises is wished for at the caller's slots -/
def tCallF (i : Nat) (S : Addr → Sp → Prop) (E : L2.St → XK) (t : TA) : TE := fun σ H Q => ∃ f sp, σ[i]? = some (some (.ref f)) ∧ S f sp ∧ t σ H fun vs H1 => sp vs H1 Q (E σ)
/-- the defs of a family keep their promises -/
def Fam (P : Program) (w : World) (K : Frag) (mg : Str → Option Value) (base : Heap) (k : Nat) (S : Addr → Sp → Prop) : Prop :=
  ∀ f sp, S f sp → ∃ fd ps, FnOk P w K mg base (L2.CX P w) k f fd ps sp ∧ PySem.W.keepIn K (.ref f) = true ∧ Binds K fd ps []
theorem pe_callF {S : Addr → Sp → Prop} {E : L2.St → XK} {j : Nat} (A : Fam X.prog X.w X.K X.mg X.base j S) (hr : Room k X.A) (hx : ∀ σ, PassesAt (L2.CX X.prog X.w) X σ (E σ)) (ha : PA X (e :: es) t) (hj : j ≤ k := by decide) (hN : X.N[i]? = some x := by rfl)
    (hv : Vis X.env.scope x := by first | exact Or.inl rfl | exact Or.inr (Or.inl rfl) | exact Or.inr (Or.inr rfl)) (hdb : (x == ("__debug__" : Str)) = false := by decide) (hcd : (x == ("__classdict__" : Str)) = false := by decide)
    (he : starEach (e :: es) X.env = (false, eval e X.env) :: starEach es X.env := by rfl) (hpl : (backTo pos (starEach es X.env)).any (·.1) = false := by rfl) : PE X (.Call (.Name x p) (e :: es) [] pos) (tCallF i S E t) := by
  constructor
  intro pins s σ H Q I h
  obtain ⟨f, sp, hs, hS, ht⟩ := h
  obtain ⟨fd, ps, F, hk, hb⟩ := A f sp hS
  refine wpAny_Call_Name_kw (thn ((pe_var (pos := p) hN hv hdb hcd).run pins s σ H (fun v H1 => v = .ref f ∧ H1 = H) I ⟨.ref f, hs, rfl, rfl⟩) fun u s1 z => ?_)
  obtain ⟨v, H1, I1, r1, rfl, rfl⟩ := z
  cases r1
  exact PySem.W.callWith_K (h₀ := X.base) I.ok.mod.kin hk (thn (ha.run pos pins s1 σ _ _ I1 ht) fun us s2 z2 => by
    obtain ⟨vs, H2, I2, r, q⟩ := z2
    exact ⟨I2.kIn, run_fnS F (hr.mono hj) hb (hx σ) I2 r q⟩) he hpl
end
section
variable {K : Frag} {σ : L2.St} {H H' : Hp} {Q : VK} {i j : Nat} {v x y z : V} {ta tb te tl to ti : TE} {tt : TT} {t tr : TA} {b : Bool} {D : Ends} {ts : TS} {g : TG} {a l p : Addr} {xs ys : List V}
theorem x_ipM {m n : Int} (c : CMul m n) (q : Q (.int (m * n)) H) : ipM (.int m) (.int n) H Q := ⟨m, n, rfl, rfl, c, q⟩
theorem x_catR (h1 : SqL K H a xs) (h2 : SqL K H l ys) (hz : xs.length + ys.length ≤ 1000000) (q : ∀ p H', H p = none → Ex H H' → H' p = some (.lst (xs ++ ys)) → Q (.ref p) H') : rCatR K (.ref a) (.ref l) H Q := ⟨a, l, xs, ys, rfl, rfl, h1, h2, hz, x_new q⟩
theorem x_cat (h1 : H a = some (.lst xs)) (h2 : H l = some (.lst ys)) (hz : xs.length + ys.length ≤ 1000000) (q : ∀ p H', H p = none → Ex H H' → H' p = some (.lst (xs ++ ys)) → Q (.ref p) H') : rCat (.ref a) (.ref l) H Q := ⟨a, l, xs, ys, rfl, rfl, h1, h2, sz hz, x_new q⟩
/-- (v,) * n -/
theorem x_repT {n : Int} (h : H a = some (.tup [v])) (h0 : -1000 ≤ n) (h1 : n ≤ 1000) (q : ∀ p H', Ex H H' → H' p = some (.tup (List.replicate n.toNat v)) → Q (.ref p) H') : rRepTX K (.ref a) (.int n) H Q :=
  ⟨a, n, [v], rfl, rfl, h, by simp, h0, h1, by simp, fun p H' e hp => q p H' e (by rw [hp, List.flatten_replicate_singleton])⟩
/-- xs * n, n from 0 -/
theorem x_repL {n : Int} (hl : H l = some (.lst xs)) (h0 : -1000000 ≤ n) (h1 : n ≤ 1000) (hz : xs.length ≤ 1000) (q : ∀ p H', H p = none → Ex H H' → H' p = some (.lst ((List.replicate n.toNat xs).flatten)) → Q (.ref p) H') : rRep (.ref l) (.int n) H Q := by
  refine ⟨l, n, xs, rfl, rfl, hl, by omega, by omega, sz ?_, fun p hp => q p _ hp (Evl.Ex.new hp) upd_same⟩
  have : xs.length * n.toNat ≤ 1000 * 1000 := Nat.mul_le_mul hz (by omega)
  omega
def rInt1 : List V → Hp → VK → Prop := fun xs H Q => (∃ i, xs = [.int i] ∧ Q (.int i) H) ∨ ∃ k, xs = [.bl k] ∧ Q (.int (if k then 1 else 0)) H
theorem call_int1 {X : Cx} : CallR X (.type "int") rInt1 := L2.call_int1
theorem x_intB {c : Bool} (q : Q (.int (if c then 1 else 0)) H) : rInt1 [.bl c] H Q := .inr ⟨c, rfl, q⟩
theorem x_callF {S : Addr → Sp → Prop} {E : L2.St → XK} {f : Addr} {sp : Sp} (hs : σ[i]? = some (some (.ref f))) (hS : S f sp) (h : t σ H fun vs H1 => sp vs H1 Q (E σ)) : tCallF i S E t σ H Q := ⟨f, sp, hs, hS, h⟩
theorem x_un' {m : Int} (q : Q (.int (-m)) H) : rU (fun i => V.int (-i)) (.int m) H Q := ⟨m, rfl, q⟩
end
/-! ### classes by their names -/
def at_ (mg : Str → Option Value) (x : Str) : Addr := match mg x with
  | some (.ref a) => a
  | _ => 0
theorem at_of {mg : Str → Option Value} {x : Str} {C : Addr} (h : mg x = some (.ref C)) : at_ mg x = C := by
  unfold at_
  rw [h]
theorem m_of {mg : Str → Option Value} {x : Str} {C : Addr} (h : mg x = some (.ref C)) : mg x = some (.ref (at_ mg x)) := by
  rw [at_of h]
  exact h
theorem pe_cls {X : Cx} {x : Str} {C : Addr} {pos : Pos} (m : X.mg x = some (.ref C)) (hg : Gl X x := by rfl) (hd : (x == ("__debug__" : Str)) = false := by decide) : PE X (.Name x pos) (tC (.ref C)) := pe_glob hg m rfl hd
theorem Has.held {P : Program} {w : World} {K : Frag} {mg : Str → Option Value} {base : Heap} {x : Str} {j k : Nat} {ps : List Str} {sp : Sp} (h : Has P w K mg base x j ps sp) (hj : j ≤ k) :
    ∃ fd ps, FnOk P w K mg base (L2.CX P w) k (at_ mg x) fd ps sp ∧ PySem.W.keepIn K (.ref (at_ mg x)) = true ∧ Binds K fd ps [] := by
  obtain ⟨f, fd, F, m, kp, b⟩ := h
  rw [at_of m]
  exact ⟨fd, ps, F.mono hj, kp, b⟩
section
variable {X : Cx} {k j : Nat} {x : Str} {ps : List Str} {sp : Sp} {E : L2.St → XK} {p pos : Pos} {e : Expr} {es : List Expr} {t : TA}
theorem pe_hasS (h : Has X.prog X.w X.K X.mg X.base x j ps sp) (hr : Room k X.A) (hx : ∀ σ, PassesAt (L2.CX X.prog X.w) X σ (E σ)) (ha : PA X (e :: es) t) (hj : j ≤ k := by decide) (hg : Gl X x := by rfl)
    (hdb : (x == ("__debug__" : Str)) = false := by decide) (he : starEach (e :: es) X.env = (false, eval e X.env) :: starEach es X.env := by rfl) (hpl : (backTo pos (starEach es X.env)).any (·.1) = false := by rfl) :
    PE X (.Call (.Name x p) (e :: es) [] pos) (tCallS sp E t) := by
  obtain ⟨f, fd, F, m, kp, b⟩ := h
  exact pe_callS F (hr.mono hj) hg m kp b hx ha hdb he hpl
theorem x_callS {σ : L2.St} {H : Hp} {Q : VK} (h : t σ H fun vs H1 => sp vs H1 Q (E σ)) : tCallS sp E t σ H Q := h
end
section
variable {K : Frag} {H : Hp} {Q : VK} {x : V} {o : Option Addr}
theorem x_isiC {cv : V} {u : Value} {b : Bool} (k : ClsV cv u) (c : Caught K H x o) (hc : ∀ D, o = some D → ExcC K D) (e : PySem.W.kitOne K (clsOf o) u = some b) (q : Q (.bl b) H) : rIsiC K [x, cv] H Q := ⟨x, cv, o, u, b, rfl, k, c, hc, e, q⟩
theorem x_isiCT {tp : Addr} {cs : List V} {us : List Value} {b : Bool} (h : H tp = some (.tup cs)) (k : Paired ClsV cs us) (c : Caught K H x o) (hc : ∀ D, o = some D → ExcC K D) (e : PySem.W.kitAny K (clsOf o) us = some b) (q : Q (.bl b) H) : rIsiCT K [x, .ref tp] H Q :=
  ⟨x, tp, cs, o, us, b, rfl, h, k, c, hc, e, q⟩
end
/-! ### a comprehension whose items are new objects -/
theorem x_lcN {K : Frag} {σ : L2.St} {H : Hp} {Q : VK} {j : Nat} {te : TE} {a : Addr} {vs : List Nat} {α : Type} (as : List α) (f : α → V) (o : α → HO) (hl : SqL K H a (as.map f)) (hz : as.length ≤ 1000000) (hw : ∀ x, wipe ((wipe σ vs).set j (some x)) vs = wipe σ vs)
    (he : ∀ x ∈ as, ∀ H', Ex H H' → ∀ Q' : VK, (∀ p H2, H' p = none → Ex H' H2 → H2 p = some (o x) → Q' (.ref p) H2) → te ((wipe σ vs).set j (some (f x))) H' Q')
    (q : ∀ D H2 (ps : List Addr), H D = none → Ex H H2 → H2 D = some (.lst (ps.map V.ref)) → ps.length = as.length → (∀ (i : Nat) (x : α) (p : Addr), as[i]? = some x → ps[i]? = some p → H2 p = some (o x)) → Q (.ref D) H2) :
    ∃ b, V.ref a = .ref b ∧ (∃ xs, SqL K H b xs) ∧ LcRun (gName j) tYes te vs σ Q (Itl K b) H := by
  refine ⟨a, rfl, ⟨_, hl⟩, fun Dl hD => lc_list (xs := as.map f) (fun k H' => Ex H H' ∧ ∃ ps : List Addr, H' Dl = some (.lst (ps.map V.ref)) ∧ ps.length = k ∧ ∀ (i : Nat) (x : α) (p : Addr), as[i]? = some x → ps[i]? = some p → p ≠ Dl ∧ H' p = some (o x))
    ⟨Evl.Ex.new hD, [], by rw [upd_same]; rfl, rfl, fun i x p _ h => by simp at h⟩ (fun k H' _ pp => Evl.ex_l pp.1 hl) (fun k x H' hx pp => ?_) fun H' pp => ?_⟩
  · rw [List.getElem?_map] at hx
    cases ex : as[k]? with
    | none => rw [ex] at hx; cases hx
    | some n =>
      rw [ex] at hx
      cases hx
      have hk : k < as.length := (List.getElem?_eq_some_iff.mp ex).1
      obtain ⟨e1, ps, hps, hlen, hall⟩ := pp
      refine ⟨hw _, ?_⟩
      refine x_true (B := True) ?_
      refine he n (List.mem_of_getElem? ex) H' e1 _ fun p H2 p0 e2 hp => ?_
      have npD : p ≠ Dl := Ne.symm (ne_of_none hps p0)
      refine ⟨_, e2 _ _ hps, by rw [List.length_map, hlen]; exact szl (by omega), Evl.Ex.mut (e1.trans e2) hD, ps ++ [p], by rw [upd_same, List.map_append]; rfl, by rw [List.length_append, hlen]; rfl, fun i y r hi hr => ?_⟩
      by_cases h : i < ps.length
      · rw [List.getElem?_append_left h] at hr
        obtain ⟨h1, h2⟩ := hall i y r hi hr
        exact ⟨h1, by rw [upd_ne h1]; exact e2 _ _ h2⟩
      · have h2 := (List.getElem?_eq_some_iff.mp hr).1
        rw [List.length_append, List.length_singleton] at h2
        have h3 : i = ps.length := by omega
        subst h3
        rw [List.getElem?_append_right (Nat.le_refl _), Nat.sub_self] at hr
        cases hr
        rw [hlen, ex] at hi
        cases hi
        exact ⟨npD, by rw [upd_ne npD]; exact hp⟩
  · obtain ⟨e1, ps, hps, hlen, hall⟩ := pp
    rw [List.length_map] at hlen
    exact q Dl H' ps hD e1 hps hlen fun i x p hi hp => (hall i x p hi hp).2
theorem at2 {x y : V} {k : Int} (h0 : 0 ≤ k) (h : k < 2) : ∃ v, atI [x, y] k = some v ∧ (v = x ∨ v = y) := by
  rcases (by omega : k = 0 ∨ k = 1) with rfl | rfl
  · exact ⟨x, rfl, .inl rfl⟩
  · exact ⟨y, rfl, .inr rfl⟩
end B

namespace B
open PySem PySem.Spec PyProof.Rows L2
open PySem.W (Frag)
theorem boot_ValueError : bootBuiltins "ValueError" = some (.type "ValueError") := by decide +kernel
/-! ### list(range(a, b, -1)) -/
/-- a, a - 1, .., b + 1 -/
def downs (a b : Int) : List Int := (List.range (a - b).toNat).map fun i => a - (i : Nat)
theorem downs_len (a b : Int) : (downs a b).length = (a - b).toNat := by unfold downs; rw [List.length_map, List.length_range]
def rDownL (Q : VK) : List V → Hp → Prop := fun vs H1 => ∃ i j, vs = [.int i, .int j, .int (-1)] ∧ i ≤ 1000000 ∧ -1000000 ≤ i ∧ j ≤ 1000000 ∧ -1000000 ≤ j ∧ ∀ p, H1 p = none → Q (.ref p) (upd H1 p (.lst ((downs i j).map V.int)))
def tLstDn (ta : TA) : TE := fun σ H Q => ta σ H (rDownL Q)
section
variable {X : Cx} {a b c : Expr} {ta : TA} {p pos p2 pos2 : Pos}
theorem pe_listDn (hc : X.calm = true) (hg : Gl X "list") (hm : X.mg "list" = none) (hg2 : Gl X "range") (hm2 : X.mg "range" = none) (ha : PA X [a, b, c] ta)
    (na : starEach [.Call (.Name "range" p2) [a, b, c] [] pos2] X.env = (false, eval (.Call (.Name "range" p2) [a, b, c] [] pos2) X.env) :: starEach [] X.env := by rfl)
    (hs : starEach [a, b, c] X.env = (false, eval a X.env) :: starEach [b, c] X.env := by rfl) (hpl : (backTo pos2 (starEach [b, c] X.env)).any (·.1) = false := by rfl) :
    PE X (.Call (.Name "list" p) [.Call (.Name "range" p2) [a, b, c] [] pos2] [] pos) (tLstDn ta) := by
  refine ⟨fun pins s σ H Q I h => ?_⟩
  refine Call_ (ld_blt I hg hm boot_list (PyProof.Rows.callWith_type1 (args_cons ?_ na) na))
  refine Call_ (ld_blt I hg2 hm2 boot_range (PyProof.Rows.callWith_type1 (thn (ha.run pos2 pins s σ H _ I h) fun us s1 ⟨vs, H1, I1, r1, q1⟩ => ?_) hs hpl))
  obtain ⟨i, j, e, i1, i2, j1, j2, q⟩ := q1
  subst e
  cases r1 with
  | cons r rr =>
    cases rr with
    | cons r' rr =>
      cases rr with
      | cons r'' rr =>
        cases rr
        obtain ⟨t, rfl⟩ := r
        obtain ⟨t', rfl⟩ := r'
        obtain ⟨t'', rfl⟩ := r''
        refine call_range_3 (by decide) ?_ (.inl (PyProof.noPylong_small (by decide)))
        refine args_nil ?_
        have I2 : Inv X pins σ H1 { s1 with heap := s1.heap.push { cls := .type "range", data := .fields #[.int i t, .int j t', .int (-1) t''] } } := I1.kept (t' := s1.toks) fun b o e => Heap.get?_push_of_some _ e
        refine call_list_range (n := (i - j).toNat) (I2.ok.hd hc) (IsRange.new ..) (PySem.W.small_down (by omega) (by omega) (by omega) (by omega)) (PySem.W.rangeSize_downNat i j) (by omega) fun h' tk acc c' hk e' hi => ?_
        refine ⟨.ref _, upd H1 _ (.lst ((downs i j).map V.int)), I2.laid hk (Nat.le_refl _) (show ObjOk X.prog X.w _ _ _ (.lst ((downs i j).map V.int)) from ⟨?_, acc.toList, c', ?_, ?_⟩), rfl, q _ (I2.hok.fresh (Nat.le_refl _))⟩
        · rw [List.length_map, downs_len]
          rw [sizeLine_eq]
          omega
        · have el : acc.toList.length = (i - j).toNat := by rw [Array.length_toList]; exact hi.1
          unfold downs
          rw [List.map_map, ← el]
          refine vals_of_get acc.toList _ fun k u hu => ?_
          obtain ⟨z, rfl⟩ := hi.2 k u (by rw [← hu, Array.getElem?_toList])
          refine ⟨z, ?_⟩
          show Value.int (i + (k : Nat) * -1) z = Value.int (i - (k : Nat)) z
          rw [show i + ((k : Nat) : Int) * -1 = i - (k : Nat) from by omega]
        · rw [Array.toArray_toList]; exact e'
end
section
variable {K : Frag} {σ : L2.St} {H H' : Hp} {Q : VK} {ta : TA}
theorem x_callF2 {i j k : Nat} {S : Addr → Sp → Prop} {E : L2.St → XK} {f : Addr} {x y : V} (hf : σ[i]? = some (some (.ref f))) (hx : σ[j]? = some (some x)) (hy : σ[k]? = some (some y)) (h : ∃ sp, S f sp ∧ sp [x, y] H Q (E σ)) :
    tCallF i S E (tCons (tVar j) (tCons (tVar k) tNil)) σ H Q := by
  obtain ⟨sp, h1, h2⟩ := h
  exact ⟨f, sp, hf, h1, x, hx, y, hy, h2⟩
theorem x_neD {x y : V} {d e : PyData} {b : Bool} (hd : Dp K H x d) (he : Dp K H y e) (sd : SeqAt.shaped d = true) (se : SeqAt.shaped e = true) (hb : PyData.eqv d e = b) (q : Q (.bl (!b)) H) : rNeD K x y H Q := ⟨d, e, hd, he, sd, se, by rw [hb]; exact q⟩
/-- an exception of the class: kept, the suite's end is what comes next -/
theorem x_kept {i j : Nat} {c cls : Value} {Wout : WX} {D : Ends} (e : PySem.W.exmOne K cls c = some true) (q : ∀ a H', H a = none → Ex H H' → H' a = some (ExC a cls none) → D.nx (((σ.set i (some (.ref a))).set j (some (.ref a))).set i none) H') : WE (wKeep K c i j Wout D) σ cls none H :=
  ⟨true, e, fun _ a h0 => q a _ h0 (Evl.Ex.new h0) upd_same, fun z => nomatch z⟩
theorem x_inL {x : V} {l : Addr} {xs : List V} (h : SqL K H l xs) (hx : flatV x = true) {b : Bool} (hs : xs.all flatV = true) (e : inV x xs = b) (q : Q (.bl b) H) : rIn K false x (.ref l) H Q := ⟨l, xs, rfl, .inl h, hx, hs, by rw [← e] at q; exact q⟩
theorem x_lstDn (h : ta σ H (rDownL Q)) : tLstDn ta σ H Q := h
theorem x_downs {m n : Int} (hm : m ≤ 1000000 ∧ -1000000 ≤ m) (hn : n ≤ 1000000 ∧ -1000000 ≤ n) (q : ∀ p H', H p = none → Ex H H' → H' p = some (.lst ((downs m n).map V.int)) → Q (.ref p) H') : rDownL Q [.int m, .int n, .int (-1)] H :=
  ⟨m, n, rfl, hm.1, hm.2, hn.1, hn.2, fun p hp => q p _ hp (Evl.Ex.new hp) (by rw [upd_same])⟩
end
end B

namespace B
open PySem PySem.Spec PyProof.Rows L2
open PySem.W (Frag DatumOrd minOf maxOf HoldAll)
/-! ### sorted(t) of a tuple of ints -/
section
variable {prog : Program} {w : World} {A : Around} {E : Value → Shared → Prop} {s : Shared}
/-- the heap after a tuple's items were put into a new list -/
def gotHeap (h : Heap) (vs : List Value) : Heap := (h.push (seqObj "list" #[] 0)).update h.objs.size (Obj.mapSeq (· ++ vs.toArray))
theorem got_size (h : Heap) (vs : List Value) : (gotHeap h vs).objs.size = h.objs.size + 1 := by unfold gotHeap; rw [Heap.size_update, size_push']
theorem got_old {h : Heap} {vs : List Value} {b : Addr} {o : Obj} (e : h.get? b = some o) : (gotHeap h vs).get? b = some o := by
  unfold gotHeap; rw [Heap.get?_update_ne _ _ _ _ (Nat.ne_of_lt (Heap.lt_size e))]; exact Heap.get?_push_of_some _ e
theorem collect_tup {t : Addr} {vs : List Value} {Q : List Value → Shared → Prop} (ht : IsTup s.heap t vs.toArray) (hz : vs.length ≤ sizeLine) (h : Q vs { s with heap := gotHeap s.heap vs }) : wpAny (model prog w) A (collect (.ref t)) Q E s := by
  obtain ⟨o, ho, hc, n, hd⟩ := id ht
  unfold collect; refine wpAny_bind (wpAny_runValue (codeAny_builtin entry_proto_collect' ?_))
  show wpAny _ _ (do again (.builtin "list.__iadd__" ⟨[← newList [], .ref t], []⟩)) _ _ s
  refine wpAny_bind (wpAny_newList (wpAny_pure ⟨Code.quiet_builtin _ (by decide +kernel), codeAny_builtin entry_list_iadd' ?_⟩)); show wpAny _ _ (Builtin.List.listExtendWith (.ref s.heap.objs.size) (.ref t) (.ref s.heap.objs.size)) _ _ { s with heap := s.heap.push (seqObj "list" #[] 0) }
  unfold Builtin.List.listExtendWith; have ho' : (s.heap.push (seqObj "list" #[] 0)).get? t = some o := Heap.get?_push_of_some _ ho
  refine wpAny_bind (wpAny_typeOf (T := "tuple") ⟨o, ho', hc⟩ ?_)
  rw [if_pos (by simp)]
  refine wpAny_bind (listItems_at ho' hd (wpAny_bind (listItems_at (xs := #[]) (n := 0) (Heap.get?_push_size _ rfl) rfl ?_)))
  rw [if_neg (by simp)]; refine wpAny_bind (listUpdate_at (xs := #[]) (n := 0) (Heap.get?_push_size _ rfl) rfl (wpAny_pure ?_) (Nat.zero_le _) (by show (#[] ++ vs.toArray).size ≤ sizeLine + 1; rw [Array.size_append, List.size_toArray]; simp only [List.size_toArray, List.length_nil]; omega))
  show wpAny (model prog w) A (load s.heap.objs.size >>= fun o => match o.data with | .seq xs _ => pure xs.toList | _ => unsupported "internal:collect") Q E { s with heap := gotHeap s.heap vs }
  refine wpAny_bind (wpAny_load (get?_update_seq (Heap.get?_push_size _ rfl) _) (show wpAny _ _ (pure ((#[] : Array Value) ++ vs.toArray).toList) Q E _ from ?_))
  rw [show ((#[] : Array Value) ++ vs.toArray).toList = vs by simp]; exact wpAny_pure h
theorem sorted_tup {t : Addr} {vs : List Value} {ns : List Int} {Q : Value → Shared → Prop} (ht : IsTup s.heap t vs.toArray) (hz : vs.length ≤ sizeLine) (hi : IntsAre vs ns)
    (h : ∀ out : List Value, SrtO.Srtd SrtO.ltIv out → SrtO.Stb SrtO.ltIv out vs → Q (.ref (s.heap.objs.size + 1)) { s with heap := sortedAll s.heap vs out.toArray }) : wpAny (model prog w) A (call (.builtin "sorted") [.ref t]) Q E s := by
  refine Calls.call_function_entry kind_sorted plain_sorted entry_sorted (args_sorted1 _) (show wpAny _ _ (Builtin.«sorted» _) _ _ _ from ?_)
  unfold Builtin.«sorted»; refine wpAny_bind (m := checkCount "sorted" 1 1 _) (wpAny_pure (wpAny_bind (collect_tup ht hz (wpAny_bind (wpAny_newList ?_ hz)))))
  have hoL : ((gotHeap s.heap vs).push (seqObj "list" vs.toArray 0)).get? (s.heap.objs.size + 1) = some (seqObj "list" vs.toArray 0) := by rw [← got_size s.heap vs]; exact Heap.get?_push_size _ rfl
  show wpAny _ _ _ _ _ { s with heap := (gotHeap s.heap vs).push (seqObj "list" vs.toArray 0) }
  rw [got_size]
  refine wpAny_bind (wpAny_holding (wpAny_call_entry slot_list_sort ⟨_, hoL, rfl⟩ entry_list_sort (SrtO.list_sort_ord SrtO.swo_int hoL hz (fun h2 => SrtO.ints_sortable hi h2) fun out hs hb => ⟨_, rfl, wpAny_pure ⟨_, rfl, h out hs hb⟩⟩) (args_list_sort _)))
end
def rSortedT (K : Frag) : List V → Hp → VK → Prop := fun vs H Q => ∃ (a : Addr) (ns : List Int), vs = [V.ref a] ∧ SqT K H a (ns.map V.int) ∧ ∀ (ns' : List Int) (p : Addr), ns'.Perm ns → ns'.Pairwise (· ≤ ·) → H p = none → Q (.ref p) (upd H p (.lst (ns'.map V.int)))
def rMinT (K : Frag) : List V → Hp → VK → Prop := fun vs H Q => ∃ (a : Addr) (ns : List Int), vs = [V.ref a] ∧ SqT K H a (ns.map V.int) ∧ ns ≠ [] ∧ ∀ m, m ∈ ns → (∀ y, y ∈ ns → m ≤ y) → Q (.int m) H
def rMaxT (K : Frag) : List V → Hp → VK → Prop := fun vs H Q => ∃ (a : Addr) (ns : List Int), vs = [V.ref a] ∧ SqT K H a (ns.map V.int) ∧ ns ≠ [] ∧ ∀ m, m ∈ ns → (∀ y, y ∈ ns → y ≤ m) → Q (.int m) H
section
variable {X : Cx}
theorem call_sortedT : CallR X (.builtin "sorted") (rSortedT X.K) := by
  intro pins s σ H vs us Q I r h
  obtain ⟨a, ns, rfl, hs, q⟩ := h
  obtain ⟨its, rv, ht, hz⟩ := I.tuple hs
  rw [Vals.ref1 r]
  have hi := rv.ints
  refine sorted_tup ht (by rw [← rv.length]; exact hz) hi fun out h1 h2 => ?_
  obtain ⟨k1, k2, k3⟩ := SrtO.ints_out hi h1 h2
  obtain ⟨ep, he'⟩ := PyProof.Rows.sortedAll_at s.heap its out.toArray
  have hlen : ((out.map SrtO.iv).map V.int).length ≤ sizeLine := by rw [List.length_map, k2.length_eq, ← List.length_map (f := V.int)]; exact hz
  exact ⟨.ref _, upd H _ (.lst ((out.map SrtO.iv).map V.int)), I.laid (t' := s.toks) (fun _ _ => PyProof.Rows.sortedAll_old) (Nat.le_succ _) ⟨hlen, out, ep, vals_of_ints k1, he'⟩, rfl, q _ _ k2 k3 (I.hok.fresh (Nat.le_succ _))⟩
theorem lt_int {a b : Int} : DatumOrd.lt a b = decide (a < b) := rfl
theorem minOf_int (x : Int) (xs : List Int) : minOf x xs ∈ x :: xs ∧ ∀ y ∈ x :: xs, minOf x xs ≤ y := by
  induction xs generalizing x with
  | nil => simp [minOf]
  | cons z zs ih =>
    have e : minOf x (z :: zs) = minOf (if z < x then z else x) zs := by
      show minOf (if DatumOrd.lt z x = true then z else x) zs = _
      rw [lt_int]
      by_cases h : z < x <;> simp [h]
    rw [e]
    obtain ⟨h1, h2⟩ := ih (if z < x then z else x)
    by_cases h : z < x
    · rw [if_pos h] at h1 h2 ⊢
      refine ⟨List.mem_cons_of_mem _ h1, fun y hy => ?_⟩
      rcases List.mem_cons.mp hy with rfl | hy
      · have := h2 z List.mem_cons_self
        omega
      · exact h2 y hy
    · rw [if_neg h] at h1 h2 ⊢
      refine ⟨?_, fun y hy => ?_⟩
      · rcases List.mem_cons.mp h1 with h1 | h1
        · rw [h1]; exact List.mem_cons_self
        · exact List.mem_cons_of_mem _ (List.mem_cons_of_mem _ h1)
      · rcases List.mem_cons.mp hy with rfl | hy
        · exact h2 _ List.mem_cons_self
        · rcases List.mem_cons.mp hy with rfl | hy
          · have := h2 x List.mem_cons_self
            omega
          · exact h2 y (List.mem_cons_of_mem _ hy)
theorem maxOf_int (x : Int) (xs : List Int) : maxOf x xs ∈ x :: xs ∧ ∀ y ∈ x :: xs, y ≤ maxOf x xs := by
  induction xs generalizing x with
  | nil => simp [maxOf]
  | cons z zs ih =>
    have e : maxOf x (z :: zs) = maxOf (if x < z then z else x) zs := by
      show maxOf (if DatumOrd.lt x z = true then z else x) zs = _
      rw [lt_int]
      by_cases h : x < z <;> simp [h]
    rw [e]
    obtain ⟨h1, h2⟩ := ih (if x < z then z else x)
    by_cases h : x < z
    · rw [if_pos h] at h1 h2 ⊢
      refine ⟨List.mem_cons_of_mem _ h1, fun y hy => ?_⟩
      rcases List.mem_cons.mp hy with rfl | hy
      · have := h2 z List.mem_cons_self
        omega
      · exact h2 y hy
    · rw [if_neg h] at h1 h2 ⊢
      refine ⟨?_, fun y hy => ?_⟩
      · rcases List.mem_cons.mp h1 with h1 | h1
        · rw [h1]; exact List.mem_cons_self
        · exact List.mem_cons_of_mem _ (List.mem_cons_of_mem _ h1)
      · rcases List.mem_cons.mp hy with rfl | hy
        · exact h2 _ List.mem_cons_self
        · rcases List.mem_cons.mp hy with rfl | hy
          · have := h2 x List.mem_cons_self
            omega
          · exact h2 y (List.mem_cons_of_mem _ hy)
theorem call_minT (hc : X.calm = true) (hu : X.A.units + 64 < cLine) : CallR X (.builtin "min") (rMinT X.K) := by
  intro pins s σ H vs us Q I r h
  obtain ⟨a, ns, rfl, hs, hne, q⟩ := h
  obtain ⟨its, rv, ht, hz⟩ := I.tuple hs
  rw [Vals.ref1 r]
  have hi := rv.ints
  cases ns with
  | nil => exact absurd rfl hne
  | cons x xs =>
    refine PySem.W.min_tuple_datum (α := Int) (I.ok.hd hc) ht (x := x) (xs := xs) (HoldAll.of_ints hi) (show X.A.units + 1 + 0 < cLine by omega) fun i v h' tk hi' hv hk => ?_
    obtain ⟨as, hv⟩ := hv
    cases hv
    exact ⟨.int _, H, I.kept hk, ⟨_, rfl⟩, q _ (minOf_int x xs).1 (minOf_int x xs).2⟩
theorem call_maxT (hc : X.calm = true) (hu : X.A.units + 64 < cLine) : CallR X (.builtin "max") (rMaxT X.K) := by
  intro pins s σ H vs us Q I r h
  obtain ⟨a, ns, rfl, hs, hne, q⟩ := h
  obtain ⟨its, rv, ht, hz⟩ := I.tuple hs
  rw [Vals.ref1 r]
  have hi := rv.ints
  cases ns with
  | nil => exact absurd rfl hne
  | cons x xs =>
    refine PySem.W.max_tuple_datum (α := Int) (I.ok.hd hc) ht (x := x) (xs := xs) (HoldAll.of_ints hi) (show X.A.units + 1 + 0 < cLine by omega) fun i v h' tk hi' hv hk => ?_
    obtain ⟨as, hv⟩ := hv
    cases hv
    exact ⟨.int _, H, I.kept hk, ⟨_, rfl⟩, q _ (maxOf_int x xs).1 (maxOf_int x xs).2⟩
end
/-! ### t[::-1] -/
theorem rev_at (xs : Array Value) : ((List.range xs.size).filterMap fun (k : Nat) => xs[((xs.size : Int) - 1 + (k : Int) * (-1)).toNat]?).toArray = xs.toList.reverse.toArray := by
  congr 1
  have key : ∀ n, n ≤ xs.size → (List.range n).filterMap (fun (k : Nat) => xs[((xs.size : Int) - 1 + (k : Int) * (-1)).toNat]?) = xs.toList.reverse.take n := by
    intro n
    induction n with
    | zero => intro _; simp
    | succ n ih =>
      intro hn
      have e : ((xs.size : Int) - 1 + (n : Int) * (-1)).toNat = xs.size - 1 - n := by omega
      have hx : xs.size - 1 - n < xs.size := by omega
      rw [List.range_succ, List.filterMap_append, ih (by omega)]
      simp only [List.filterMap_cons, List.filterMap_nil, e, Array.getElem?_eq_getElem hx]
      rw [List.take_succ, List.getElem?_reverse (by simp; omega)]
      simp only [Array.length_toList]
      rw [Array.getElem?_toList, Array.getElem?_eq_getElem hx]
      rfl
  rw [key _ (Nat.le_refl _), List.take_of_length_le (by simp)]
section
variable {prog : Program} {w : World} {A : Around} {E : Value → Shared → Prop} {s : Shared}
theorem applied_rev {sl : Addr} {vl vu vs : Value} {n : Nat} {Q : Int × Int × Nat → Shared → Prop} (hs : s.heap.IsSliceOf sl vl vu vs) (pl : IsPart vl none) (pu : IsPart vu none) (ps : IsPart vs (some (-1))) (h : Q ((n : Int) - 1, -1, n) s) :
    wpAny (model prog w) A (Builtin.Slice.sliceApplied (.ref sl) (pure (n : Int))) Q E s := by
  obtain ⟨os, hos, hcs, hds⟩ := id hs
  unfold Builtin.Slice.sliceApplied Builtin.Slice.sliceFields; refine wpAny_bind (wpAny_bind (wpAny_field hos hds (x := vl) rfl (wpAny_bind (wpAny_field hos hds (x := vu) rfl (wpAny_bind (wpAny_field hos hds (x := vs) rfl (wpAny_pure (wpAny_bind (HT.slicePart_ ps ?_)))))))))
  show wpAny _ _ (if ((-1 : Int) == 0) = true then _ else _) _ _ s
  rw [if_neg (by decide)]; refine wpAny_bind (HT.slicePart_ pl (wpAny_bind (HT.slicePart_ pu (wpAny_bind (wpAny_pure ?_)))))
  have e : Builtin.Slice.slicePlaces ((n : Int) - 1) (-1) (-1) = n := by
    unfold Builtin.Slice.slicePlaces
    rw [if_neg (by decide)]
    by_cases h0 : (n : Int) - 1 > -1
    · rw [if_pos h0, show (n : Int) - 1 - -1 - 1 = n - 1 from by omega, show (- -1 : Int) = 1 from rfl, Int.ediv_one]
      omega
    · rw [if_neg h0]
      omega
  show wpAny _ _ (pure ((n : Int) - 1, (-1 : Int), Builtin.Slice.slicePlaces ((n : Int) - 1) (-1) (-1))) _ _ s
  rw [e]
  exact wpAny_pure h
theorem getItem_tup_rev {t sl : Addr} {items : Array Value} {vl vu vs : Value} {Q : Value → Shared → Prop} (ht : IsTup s.heap t items) (hs : s.heap.IsSliceOf sl vl vu vs) (pl : IsPart vl none) (pu : IsPart vu none) (ps : IsPart vs (some (-1))) (hsz : items.size ≤ sizeLine)
    (h : Q (.ref s.heap.objs.size) { s with heap := s.heap.push { cls := .type "tuple", data := .seq items.toList.reverse.toArray } }) : wpAny (model prog w) A (getItem (.ref t) (.ref sl)) Q E s := by
  have hok : sizeOk (.seq items.toList.reverse.toArray) := by show items.toList.reverse.toArray.size ≤ sizeLine; simpa using hsz
  obtain ⟨os, hos, hcs, hds⟩ := id hs
  have hT : s.TypeIs (.ref sl) "slice" := ⟨os, hos, hcs⟩
  unfold getItem
  try with_reducible refine wpAny_holding ?_
  first | refine wpAny_bind (wpAny_pure ?_) | skip
  refine wpAny_bind (wpAny_sequenceKey ht.typeIs (by decide) (wpAny_bind (wpAny_callSpecial?_slot (name := Str.ofString "__getitem__") ht.typeIs PyProof.Rows.slot_tuple_getitem (wpAny_call_entry PyProof.Rows.slot_tuple_getitem ht.typeIs entry_tuple_getitem ?_ (args_tuple_getitem _ _)))))
  show wpAny _ _ (Builtin.Tuple.tupleItemsOf (.ref t) >>= _) _ _ s
  refine wpAny_bind (tupleItemsOf_ ht (wpAny_bind (wpAny_typeOf hT ?_)))
  rw [if_pos (by decide)]; refine wpAny_bind (applied_rev hs pl pu ps ?_)
  show wpAny _ _ (if ((((items.size : Int) - 1 == 0) && ((-1 : Int) == 1)) && (items.size == items.size)) = true then _ else _) _ _ s
  rw [if_neg (by rw [show ((-1 : Int) == 1) = false from rfl, Bool.and_false, Bool.false_and]; exact Bool.false_ne_true), rev_at]
  first
    | exact wpAny_bind (m := Builtin.Tuple.tupleExact _) (wpAny_newObj_type (wpAny_pure ⟨_, rfl, wpAny_pure h⟩) hok)
    | exact wpAny_bind (m := Builtin.Tuple.tupleExact _) (wpAny_newObj_type (wpAny_bind (wpAny_pure (wpAny_pure ⟨_, rfl, wpAny_pure h⟩))) hok)
    | exact wpAny_bind (wpAny_bind (m := Builtin.Tuple.tupleExact _) (wpAny_newObj_type (wpAny_pure (wpAny_pure ⟨_, rfl, wpAny_pure h⟩)) hok))
    | exact wpAny_bind (wpAny_bind (m := Builtin.Tuple.tupleExact _) (wpAny_newObj_type (wpAny_pure ⟨_, rfl, wpAny_pure h⟩) hok))
end
def rRevT (K : Frag) (Q : VK) : V → Hp → Prop := fun x H1 => ∃ a xs, x = .ref a ∧ SqT K H1 a xs ∧ ∀ p, H1 p = none → Q (.ref p) (upd H1 p (.tup xs.reverse))
def tRevT (K : Frag) (te : TE) : TE := fun σ H Q => te σ H (rRevT K Q)
theorem pe_revT {X : Cx} {e : Expr} {te : TE} {k : Nat} {p1 p2 p3 pos : Pos} (he : PE X e te) : PE X (.Subscript e (.Slice none none (some (.UnaryOp .USub (.Constant (.int 1) k p1) p2)) p3) pos) (tRevT X.K te) := by
  refine ⟨fun pins s σ H Q I h => ?_⟩
  refine Subscript_ (thn (he.run pins s σ H _ I h) fun v s1 ⟨x, H1, I1, r1, a, xs, ex, hx, q⟩ => ?_)
  subst ex
  cases r1
  have hst : PO X (some (.UnaryOp .USub (.Constant (.int 1) k p1) p2)) (tPart (tUn (rU fun i => .int (-i)) (tC (.int 1)))) := po_some (pe_un un_neg pe_int)
  refine wpAny_Slice (thn (po_none.run pins s1 σ H1 (fun o H2 => o = none ∧ H2 = H1) I1 ⟨rfl, rfl⟩) fun vl s2 ⟨l, H2, I2, pl, el, e2⟩ => thn (po_none.run pins s2 σ H2 (fun o H3 => o = none ∧ H3 = H2) I2 ⟨rfl, rfl⟩) fun vu s3 ⟨u, H3, I3, pu, eu, e3⟩ => ?_)
  subst el e2 eu e3
  refine thn (hst.run pins s3 σ H3 (fun o H4 => o = some (-1) ∧ H4 = H3) I3 ⟨1, rfl, -1, rfl, rfl, rfl⟩) fun vs s4 ⟨o, H4, I4, ps, eo, e4⟩ => ?_
  subst eo e4
  have I5 : Inv X pins σ H4 { s4 with heap := s4.heap.push { cls := .type "slice", data := .fields #[vl, vu, vs] } } := I4.kept (t' := s4.toks) fun b ob q => Heap.get?_push_of_some _ q
  obtain ⟨its, r, ht, hz⟩ := I5.tuple hx
  have hlen := r.length
  show wpAny (model X.prog X.w) X.A (subscriptTail e (.Slice none none (some (.UnaryOp .USub (.Constant (.int 1) k p1) p2)) p3) (.ref a) (.ref s4.heap.objs.size)) (EP X pins σ Q) X.xe { s4 with heap := s4.heap.push { cls := .type "slice", data := .fields #[vl, vu, vs] } }
  refine tail_any (ops := [.ref a, .ref s4.heap.objs.size]) ht.typeIs PyProof.Rows.slot_tuple_getitem.lookup ?_ (by with_unfolding_all rfl)
  refine getItem_tup_rev ht (Heap.IsSliceOf.new _ vl vu vs) pl pu ps (by rw [List.size_toArray, ← hlen]; exact hz) ?_
  exact ⟨.ref _, _, I5.laid (t' := s4.toks) (o := .tup xs.reverse) (fun b ob q => Heap.get?_push_of_some _ q) (Nat.le_refl _) ⟨by rw [List.length_reverse]; exact hz, _, r.reverse, IsTup.new _ _⟩, rfl, q _ (I5.hok.fresh (Nat.le_refl _))⟩
section
variable {K : Frag} {σ : L2.St} {H H' : Hp} {Q : VK} {te : TE} {a b : Addr} {xs ys : List V}
theorem x_revT (h : te σ H (rRevT K Q)) : tRevT K te σ H Q := h
theorem x_revt (h : SqT K H a xs) (q : ∀ p H', H p = none → Ex H H' → H' p = some (.tup xs.reverse) → Q (.ref p) H') : rRevT K Q (.ref a) H := ⟨a, xs, rfl, h, x_new q⟩
theorem x_sortedT {ns : List Int} (h : SqT K H a (ns.map V.int)) (q : ∀ (ns' : List Int) p H', ns'.Perm ns → ns'.Pairwise (· ≤ ·) → H p = none → Ex H H' → H' p = some (.lst (ns'.map V.int)) → Q (.ref p) H') : rSortedT K [.ref a] H Q :=
  ⟨a, ns, rfl, h, fun ns' p h1 h2 hp => q ns' p _ h1 h2 hp (Evl.Ex.new hp) upd_same⟩
theorem x_tupQ (h : Sq K H a xs) (q : ∀ p H', Ex H H' → SqT K H' p xs → Q (.ref p) H') : rTupOf K [.ref a] H Q := by
  rcases h with h | h
  · exact ⟨a, xs, rfl, .inl ⟨h, fun p hp => q p _ (Evl.Ex.new hp) (Evl.st_of upd_same)⟩⟩
  · exact ⟨a, xs, rfl, .inr ⟨h, q a H (Evl.Ex.refl H) h⟩⟩
theorem x_minT {ns : List Int} (h : SqT K H a (ns.map V.int)) (hn : ns ≠ []) (q : ∀ m, m ∈ ns → (∀ y, y ∈ ns → m ≤ y) → Q (.int m) H) : rMinT K [.ref a] H Q := ⟨a, ns, rfl, h, hn, q⟩
theorem x_maxT {ns : List Int} (h : SqT K H a (ns.map V.int)) (hn : ns ≠ []) (q : ∀ m, m ∈ ns → (∀ y, y ∈ ns → y ≤ m) → Q (.int m) H) : rMaxT K [.ref a] H Q := ⟨a, ns, rfl, h, hn, q⟩
/-- a part of a tuple -/
theorem x_slT {lo hi : Option Int} (h : SqT K H a xs) (q : ∀ p H', Ex H H' → SqT K H' p (cutV xs lo hi) → Q (.ref p) H') : rSlA K (.ref a) lo hi H Q := by
  refine ⟨a, xs, rfl, h, fun z => ?_, fun _ p hp => q p _ (Evl.Ex.new hp) (Evl.st_of upd_same)⟩
  refine q a H (Evl.Ex.refl H) ?_
  have e : cutV xs lo hi = xs := by
    unfold cutV
    rw [z.1, z.2, List.drop_zero, Nat.sub_zero, List.take_length]
  rw [e]
  exact h
theorem x_catT (h1 : SqT K H a xs) (h2 : SqT K H b ys) (hz : xs.length + ys.length ≤ 1000000) (q : ∀ p H', Ex H H' → SqT K H' p (xs ++ ys) → Q (.ref p) H') : rCatA K (.ref a) (.ref b) H Q := by
  refine ⟨a, b, xs, ys, rfl, rfl, h1, h2, sz hz, fun e => ?_, fun _ e => ?_, fun _ _ p hp => q p _ (Evl.Ex.new hp) (Evl.st_of upd_same)⟩
  · subst e
    exact q b H (Evl.Ex.refl H) h2
  · subst e
    exact q a H (Evl.Ex.refl H) (by rw [List.append_nil]; exact h1)
theorem x_ltT {ns ms : List Int} (h1 : SqT K H a (ns.map V.int)) (h2 : SqT K H b (ms.map V.int)) (q : Q (.bl (HT.lexLt ns ms)) H) : rLtT K (.ref a) (.ref b) H Q := ⟨a, b, ns, ms, rfl, rfl, h1, h2, q⟩
end
end B

namespace B
open PySem PySem.Spec PyProof.Rows L2
open PySem.W (Frag)
/-! ### what is said of a value stays when a list is changed -/
structure Lasts (Pe : V → Hp → Prop) : Prop where
  ex : ∀ {v H H'}, Ex H H' → Pe v H → Pe v H'
  up : ∀ {v H l xs ys}, H l = some (.lst xs) → Pe v H → Pe v (upd H l (.lst ys))
theorem Upd.getT {K : Frag} {H H' : Hp} {l b : Addr} {zs xs : List V} {o : HO} (u : Upd H l o H') (e : H l = some (.lst zs)) (h : SqT K H b xs) : SqT K H' b xs := by
  rcases h with (h | ⟨z, h⟩) | h
  · have n : b ≠ l := fun q => by rw [q, e] at h; cases h
    exact .inl (.inl (u.get n h))
  · have n : b ≠ l := fun q => by rw [q, e] at h; cases h
    exact .inl (.inr ⟨z, u.get n h⟩)
  · exact .inr h
theorem Lasts.of {Pe : V → Hp → Prop} (h : Lasts Pe) {v : V} {H H' : Hp} {l : Addr} {xs ys : List V} (u : Upd H l (.lst ys) H') (e : H l = some (.lst xs)) (p : Pe v H) : Pe v H' := by
  have : H' = upd H l (.lst ys) := by
    funext b
    by_cases c : b = l
    · subst c
      rw [upd_same, u.same]
    · rw [upd_ne c, u.other b c]
  rw [this]
  exact h.up e p
/-- a tuple of which something holds -/
def TupP (K : Frag) (P : List V → Prop) (v : V) (H : Hp) : Prop := ∃ p xs, v = .ref p ∧ SqT K H p xs ∧ P xs
theorem TupP.lasts {K : Frag} {P : List V → Prop} : Lasts (TupP K P) where
  ex := fun e ⟨p, xs, h1, h2, h3⟩ => ⟨p, xs, h1, Evl.ex_t e h2, h3⟩
  up := fun e ⟨p, xs, h1, h2, h3⟩ => ⟨p, xs, h1, Upd.getT .mk0 e h2, h3⟩
section
variable {K : Frag} {σ : L2.St} {H : Hp} {Q : VK} {j : Nat} {te : TE} {a : Addr} {vs : List Nat}
theorem x_lcRP {lo hi : Int} (Pe : Int → V → Hp → Prop) (ls : ∀ i, Lasts (Pe i)) (hz : (hi - lo).toNat ≤ 1000000) (hw : ∀ x, wipe ((wipe σ vs).set j (some x)) vs = wipe σ vs)
    (he : ∀ i, lo ≤ i → i < hi → ∀ H', Ex H H' → ∀ Q' : VK, (∀ v H2, Ex H' H2 → Pe i v H2 → Q' v H2) → te ((wipe σ vs).set j (some (.int i))) H' Q')
    (q : ∀ D H2 (zs : List V), H D = none → Ex H H2 → H2 D = some (.lst zs) → zs.length = (hi - lo).toNat → (∀ (k : Nat) v, zs[k]? = some v → Pe (lo + (k : Nat)) v H2) → Q (.ref D) H2) :
    LcRun (gName j) tYes te vs σ Q (Itr lo (hi - lo).toNat) H := by
  intro Dl hD
  refine lc_range (fun k H' => Ex H H' ∧ ∃ zs : List V, H' Dl = some (.lst zs) ∧ zs.length = k ∧ ∀ (i : Nat) v, zs[i]? = some v → Pe (lo + (i : Nat)) v H')
    ⟨Evl.Ex.new hD, [], by rw [upd_same], rfl, fun i v h => by simp at h⟩ (fun k H' hk pp => ?_) fun H' pp => ?_
  · obtain ⟨e1, zs, hzs, hlen, hall⟩ := pp
    refine ⟨hw _, ?_⟩
    refine x_true (B := True) ?_
    refine he (lo + (k : Nat)) (by omega) (by omega) H' e1 _ fun v H2 e2 hv => ?_
    have g2 := e2 _ _ hzs
    refine ⟨_, g2, by rw [hlen]; exact szl (by omega), Evl.Ex.mut (e1.trans e2) hD, zs ++ [v], by rw [upd_same], by rw [List.length_append, hlen]; rfl, fun i y hi => ?_⟩
    by_cases h : i < zs.length
    · rw [List.getElem?_append_left h] at hi
      exact (ls _).up g2 ((ls _).ex e2 (hall i y hi))
    · have h2 := (List.getElem?_eq_some_iff.mp hi).1
      rw [List.length_append, List.length_singleton] at h2
      have h3 : i = zs.length := by omega
      subst h3
      rw [List.getElem?_append_right (Nat.le_refl _), Nat.sub_self] at hi
      cases hi
      rw [hlen]
      exact (ls _).up g2 hv
  · obtain ⟨e1, zs, hzs, hlen, hall⟩ := pp
    exact q Dl H' zs hD e1 hzs hlen hall
theorem x_lcLP {α : Type} (as : List α) (f : α → V) (Pe : α → V → Hp → Prop) (ls : ∀ i, Lasts (Pe i)) (hl : SqL K H a (as.map f)) (hz : as.length ≤ 1000000) (hw : ∀ x, wipe ((wipe σ vs).set j (some x)) vs = wipe σ vs)
    (he : ∀ x ∈ as, ∀ H', Ex H H' → ∀ Q' : VK, (∀ v H2, Ex H' H2 → Pe x v H2 → Q' v H2) → te ((wipe σ vs).set j (some (f x))) H' Q')
    (q : ∀ D H2 (zs : List V), H D = none → Ex H H2 → H2 D = some (.lst zs) → zs.length = as.length → (∀ (k : Nat) x v, as[k]? = some x → zs[k]? = some v → Pe x v H2) → Q (.ref D) H2) :
    ∃ b, V.ref a = .ref b ∧ (∃ xs, SqL K H b xs) ∧ LcRun (gName j) tYes te vs σ Q (Itl K b) H := by
  refine ⟨a, rfl, ⟨_, hl⟩, fun Dl hD => lc_list (xs := as.map f) (fun k H' => Ex H H' ∧ ∃ zs : List V, H' Dl = some (.lst zs) ∧ zs.length = k ∧ ∀ (i : Nat) x v, as[i]? = some x → zs[i]? = some v → Pe x v H')
    ⟨Evl.Ex.new hD, [], by rw [upd_same], rfl, fun i x v _ h => by simp at h⟩ (fun k H' _ pp => Evl.ex_l pp.1 hl) (fun k x H' hx pp => ?_) fun H' pp => ?_⟩
  · rw [List.getElem?_map] at hx
    cases ex : as[k]? with
    | none => rw [ex] at hx; cases hx
    | some n =>
      rw [ex] at hx
      cases hx
      have hk : k < as.length := (List.getElem?_eq_some_iff.mp ex).1
      obtain ⟨e1, zs, hzs, hlen, hall⟩ := pp
      refine ⟨hw _, ?_⟩
      refine x_true (B := True) ?_
      refine he n (List.mem_of_getElem? ex) H' e1 _ fun v H2 e2 hv => ?_
      have g2 := e2 _ _ hzs
      refine ⟨_, g2, by rw [hlen]; exact szl (by omega), Evl.Ex.mut (e1.trans e2) hD, zs ++ [v], by rw [upd_same], by rw [List.length_append, hlen]; rfl, fun i x y hx hi => ?_⟩
      by_cases h : i < zs.length
      · rw [List.getElem?_append_left h] at hi
        exact (ls _).up g2 ((ls _).ex e2 (hall i x y hx hi))
      · have h2 := (List.getElem?_eq_some_iff.mp hi).1
        rw [List.length_append, List.length_singleton] at h2
        have h3 : i = zs.length := by omega
        subst h3
        rw [List.getElem?_append_right (Nat.le_refl _), Nat.sub_self] at hi
        cases hi
        rw [hlen, ex] at hx
        cases hx
        exact (ls _).up g2 hv
  · obtain ⟨e1, zs, hzs, hlen, hall⟩ := pp
    rw [List.length_map] at hlen
    exact q Dl H' zs hD e1 hzs hlen hall
theorem op_notBl0 {X : Cx} : OpR X (compareOp .IsNot) rNotB := op_notBl
theorem x_notB {c d : Bool} (q : Q (.bl (!decide (c = d))) H) : rNotB (.bl c) (.bl d) H Q := ⟨c, d, rfl, rfl, q⟩
theorem map_self (xs : List V) : xs.map (fun x => x) = xs := List.map_id' xs
end
end B

namespace B
open PySem PySem.Spec PyProof.Rows L2
open PySem.W (Frag)
/-! ### dict(xs) of pairs whose keys are tuples -/
def mergeT (kvs more : List (List Key × V)) : List (List Key × V) := more.foldl (fun acc kv => putK acc kv.1 kv.2) kvs
theorem putT_len (kvs : List (List Key × V)) (k : List Key) (v : V) : (putK kvs k v).length ≤ kvs.length + 1 := by
  unfold putK
  split
  · rw [List.length_map]; omega
  · rw [List.length_append]; exact Nat.le_refl _
theorem mergeT_len : ∀ (more kvs : List (List Key × V)), (mergeT kvs more).length ≤ kvs.length + more.length
  | [], _ => Nat.le_refl _
  | p :: r, kvs => by
    have h1 := mergeT_len r (putK kvs p.1 p.2)
    have h2 := putT_len kvs p.1 p.2
    rw [List.length_cons]
    show (mergeT (putK kvs p.1 p.2) r).length ≤ _
    omega
theorem ktAll {H : Hp} : ∀ {more : List (List Key × V)} {rs : List (List Key × Addr × Value)} {kvs : List (List Key × V)} {xs : List (List Key × Addr × Value)}, KT H more rs → KT H kvs xs → KT H (mergeT kvs more) (storedAllH xs rs)
  | _, _, _, _, .nil, r => r
  | _, _, kvs, xs, .cons (a := p) (b := q) h t, r => by
    obtain ⟨h1, h2, h3⟩ := h
    have k := KT.put r p.1 h2 h3
    rw [show storedH xs p.1 q.2.1 q.2.2 = storedH xs q.1 q.2.1 q.2.2 from by rw [h1]] at k
    exact ktAll (kvs := putK kvs p.1 p.2) (xs := storedH xs q.1 q.2.1 q.2.2) t k
theorem ktMem {H : Hp} : ∀ {kvs : List (List Key × V)} {rs : List (List Key × Addr × Value)}, KT H kvs rs → ∀ x ∈ rs, H x.2.1 = some (.tup (x.1.map kV))
  | _, _, .nil, _, hx => nomatch hx
  | _, _, .cons (a := p) (b := q) h t, x, hx => by
    rcases List.mem_cons.mp hx with rfl | hx
    · rw [← h.1]; exact h.2.1
    · exact ktMem t x hx
/-- a pair (tuple, value) at p -/
def PairT (K : Frag) (H : Hp) (p : Addr) (kv : List Key × V) : Prop := ∃ b, SqT K H p [.ref b, kv.2] ∧ H b = some (.tup (kv.1.map kV))
def rDictT (K : Frag) : List V → Hp → VK → Prop := fun vs H Q => ∃ (a : Addr) (ps : List Addr) (kvs : List (List Key × V)), vs = [.ref a] ∧ SqL K H a (ps.map V.ref) ∧ Paired (PairT K H) ps kvs ∧ ∀ d, H d = none → Q (.ref d) (upd H d (.dT (mergeT [] kvs)))
section
variable {X : Cx}
theorem pairs_ofT {pins : List (Addr × Obj)} {σ : L2.St} {H : Hp} {s : Shared} (I : Inv X pins σ H s) : ∀ {ps : List Addr} {kvs : List (List Key × V)}, Paired (PairT X.K H) ps kvs →
    ∃ rs : List (List Key × Addr × Value), KT H kvs rs ∧ rs.length = ps.length ∧ ∀ (j : Nat) (q : List Key × Addr × Value), rs[j]? = some q → ∃ p : Addr, ps[j]? = some p ∧ IsTup s.heap p #[.ref q.2.1, q.2.2]
  | _, _, .nil => ⟨[], .nil, rfl, fun j q e => by simp at e⟩
  | _, _, .cons (a := p) (b := kv) h t => by
    obtain ⟨rs, r, hl, hp⟩ := pairs_ofT I t
    obtain ⟨b, ht, hb⟩ := h
    obtain ⟨its, rv, hT, _⟩ := I.tuple ht
    obtain ⟨u, y, ei, ru, ry⟩ := vals2 rv
    subst ei
    cases ru
    refine ⟨(kv.1, b, y) :: rs, .cons ⟨rfl, hb, ry⟩ r, by rw [List.length_cons, List.length_cons, hl], fun j q e => ?_⟩
    cases j with
    | zero => cases e; exact ⟨p, rfl, hT⟩
    | succ j =>
      obtain ⟨p', e1, e2⟩ := hp j q (by simpa using e)
      exact ⟨p', by simpa using e1, e2⟩
theorem call_dictT (hc : X.calm = true) (hu : X.A.units + 64 < cLine) : CallR X (.type "dict") (rDictT X.K) := by
  intro pins s σ H vs us Q I r h
  obtain ⟨a, ps, kvs, rfl, hl, hp, q⟩ := h
  obtain ⟨its, rv, pl, hz⟩ := I.list hl
  rw [Vals.ref1 r]
  have ei := refs_at rv
  subst ei
  rw [List.length_map] at hz
  obtain ⟨rs, rel, hlen, hpr⟩ := pairs_ofT I hp
  obtain ⟨o, n, ho, hcl, hd, hdat⟩ := pl
  have P := PySem.PairArg.list (prog := X.prog) (w := X.w) a (ps.map Value.ref).toArray (fun j => ps.getD j 0) (rs.map fun q => (.ref q.2.1, q.2.2))
  have sz : (rs.map fun q => ((Value.ref q.2.1 : Value), q.2.2)).length = ps.length := by rw [List.length_map, hlen]
  refine PySem.call_dict_pairsH (knd := tupleKind (mixKind X.prog X.w)) (ps := rs) P (I.ok.hd hc) ?_ ⟨⟨o, n, ho, hcl, hd, hdat⟩, by simp [hlen], fun j k v e => ?_⟩ ⟨by rw [sz, hlen], fun i key v e => ?_⟩ (fun h' hk x hx => ?_) (by rw [sz]; exact hz) fun h' tk hd' hk => ?_
  · exact PySem.tupleKind_room_in1 (A := X.A.in1) (show X.A.units + 1 + 1 < cLine by omega)
  · rw [List.getElem?_map] at e
    cases er : rs[j]? with
    | none => rw [er] at e; cases e
    | some q =>
      rw [er] at e
      cases e
      obtain ⟨p, ep, hT⟩ := hpr j q er
      exact ⟨by simp [ep], .inl (by show s.heap.IsTuple (ps.getD j 0) _; rw [List.getD_eq_getElem?_getD, ep]; exact hT)⟩
  · have e : (rs.map fun q => ((Value.ref q.2.1 : Value), q.2.2))[i]? = some (key, v) := e
    rw [List.getElem?_map] at e
    cases er : rs[i]? with
    | none => rw [er] at e; cases e
    | some q => rw [er] at e; cases e; exact ⟨_, _, rfl, rfl⟩
  · obtain ⟨ob, items, m, g1, g2, g3, g4⟩ := key_of I.hok (ktMem rel x hx)
    exact ⟨ob, items, m, hk _ _ (Nat.ne_of_lt (Heap.lt_size g1)) (by simp) g1, g2, g3, g4⟩
  · have hm : (s.heap.objs.size == sysModules) = false := beq_eq_false_iff_ne.mpr (Nat.ne_of_gt I.big)
    have keep : ∀ b o, s.heap.get? b = some o → h'.get? b = some o := fun b o e => hk b o (by simp) e
    have lenT : (mergeT [] kvs).length ≤ sizeLine := by
      have := mergeT_len kvs []
      rw [List.length_nil, rel.length, hlen] at this
      omega
    have hn := I.hok.fresh (Nat.le_refl _)
    obtain ⟨od, es, ep, d1, d2, d3, d4, _, d5⟩ := hd'
    refine ⟨.ref s.heap.objs.size, upd H s.heap.objs.size (.dT (mergeT [] kvs)), I.laid (t' := tk) keep (Nat.le_refl _) ⟨lenT, hm, storedAllH [] rs, ?_, od, es, ep, d1, d2, d3, d4, d5⟩, rfl, q _ hn⟩
    refine KT.keeps (ktAll rel .nil) fun b ys e => ?_
    rw [upd_ne (ne_of_none e hn)]
    exact e
end
section
variable {K : Frag} {H : Hp} {Q : VK} {a b : Addr} {xs ys : List V} {v : V}
theorem x_dictT {ps : List Addr} {kvs : List (List Key × V)} (hl : SqL K H a (ps.map V.ref)) (hp : Paired (PairT K H) ps kvs) (q : ∀ d H', H d = none → Ex H H' → H' d = some (.dT (mergeT [] kvs)) → Q (.ref d) H') : rDictT K [.ref a] H Q := ⟨a, ps, kvs, rfl, hl, hp, x_new q⟩
/-- the first items of a tuple, not all -/
theorem x_slP {n : Nat} (h : SqT K H a xs) (hn : n < xs.length) (q : ∀ p H', H p = none → Ex H H' → H' p = some (.tup (xs.take n)) → Q (.ref p) H') : rSlA K (.ref a) none (some (n : Int)) H Q := by
  refine ⟨a, xs, rfl, h, fun z => ?_, fun _ p hp => q p _ hp (Evl.Ex.new hp) (by rw [upd_same, cut_to])⟩
  have e := cut_to xs n
  unfold cutV at e
  rw [z.1, z.2] at e
  have := congrArg List.length e
  rw [List.length_take, List.length_take, List.length_drop] at this
  omega
theorem x_catH (h1 : H a = some (.tup xs)) (h2 : H b = some (.tup ys)) (hz : xs.length + ys.length ≤ 1000000) (q : ∀ p H', Ex H H' → H' p = some (.tup (xs ++ ys)) → Q (.ref p) H') : rCatA K (.ref a) (.ref b) H Q := by
  refine ⟨a, b, xs, ys, rfl, rfl, Evl.st_of h1, Evl.st_of h2, sz hz, fun e => ?_, fun _ e => ?_, fun _ _ p hp => q p _ (Evl.Ex.new hp) upd_same⟩
  · subst e
    exact q b H (Evl.Ex.refl H) h2
  · subst e
    exact q a H (Evl.Ex.refl H) (by rw [List.append_nil]; exact h1)
/-- t in d, of a dict with tuple keys -/
theorem x_inT {kvs : List (List Key × V)} {k : List Key} (hd : H a = some (.dT kvs)) (hb : H b = some (.tup (k.map kV))) (q : Q (.bl (valV kvs k).isSome) H) : rDIn (.ref b) (.ref a) H Q := ⟨a, _, rfl, DGet.t hd hb, q⟩
end
theorem valT_put (kvs : List (List Key × V)) (k k' : List Key) (v : V) : (valV (putK kvs k v) k').isSome = (decide (k = k') || (valV kvs k').isSome) := by
  rw [← valV_any, ← valV_any]
  unfold putK
  by_cases c : (kvs.any fun kv => decide (kv.1 = k)) = true
  · rw [if_pos c, List.any_map]
    have e : ((fun kv : List Key × V => decide (kv.1 = k')) ∘ fun kv : List Key × V => if kv.1 = k then (kv.1, v) else kv) = fun kv => decide (kv.1 = k') := by
      funext kv
      show decide ((if kv.1 = k then (kv.1, v) else kv).1 = k') = decide (kv.1 = k')
      split <;> rfl
    rw [e]
    by_cases h : k = k'
    · subst h
      rw [c]
      simp
    · simp [h]
  · rw [if_neg c, List.any_append, List.any_cons, List.any_nil, Bool.or_false, Bool.or_comm]
theorem valT_merge : ∀ (more kvs : List (List Key × V)) (k : List Key), (valV (mergeT kvs more) k).isSome = (more.any (fun kv => decide (kv.1 = k)) || (valV kvs k).isSome)
  | [], _, _ => by simp [mergeT]
  | p :: r, kvs, k => by
    show (valV (mergeT (putK kvs p.1 p.2) r) k).isSome = _
    rw [valT_merge r, valT_put, List.any_cons, ← Bool.or_assoc, Bool.or_comm (r.any _)]
end B

namespace B
open PySem PySem.Spec PyProof.Rows L2
open PySem.W (Frag)
/-! ### while, any test -/
def WTurn (ts : TS) (D : Ends) (W : Nat → L2.St → Hp → Prop) (m : Nat) (σ : L2.St) : Bool → Hp → Prop := fun b H1 =>
  if b = true then ∃ N : L2.St → Hp → Prop, (∀ σ' H', N σ' H' → ∃ m', m' < m ∧ W m' σ' H') ∧ ts { D with nx := N, ct := N, bk := D.nx } σ H1 else D.nx σ H1
section
variable {σ : L2.St} {H : Hp} {tt : TT} {ts : TS} {D : Ends} {W : Nat → L2.St → Hp → Prop} {m : Nat} {b : Bool}
theorem x_whileG (W : Nat → L2.St → Hp → Prop) (m0 : Nat) (h0 : W m0 σ H) (hs : ∀ m σ' H', W m σ' H' → tt σ' H' (WTurn ts D W m σ')) : tWhile tt ts D σ H := ⟨W, ⟨m0, h0⟩, hs⟩
theorem x_wt (h : if b = true then ts { D with nx := fun σ2 H2 => ∃ m', m' < m ∧ W m' σ2 H2, ct := fun σ2 H2 => ∃ m', m' < m ∧ W m' σ2 H2, bk := D.nx } σ H else D.nx σ H) : WTurn ts D W m σ b H := by
  cases b with
  | true => exact ⟨_, fun _ _ q => q, h⟩
  | false => exact h
end
end B

namespace B
open PySem PySem.Spec PyProof.Rows L2
open PySem.W (Frag KeyPure kla_fn kla_obj EachIs AllAlike Sortable dataLe)
open LamX (CodeO TabS Tabs ExtN TabB)
/-! ### sorted(x, key=lambda n: held[n]) -/
/-- what reads an item of the captured thing u by v: it gives the number k, and no object is changed -/
def ItemIs (P : Program) (w : World) (h : Heap) (u v : Value) (k : Int) : Prop :=
  ∃ T id : String, typeLookup (.type T) "__getitem__" = pure (some (.builtin id)) ∧ ∀ (A : Around) (E Q : Value → Shared → Prop) (s : Shared), (∀ b o, h.get? b = some o → s.heap.get? b = some o) →
    s.TypeIs u T ∧ ((∀ t tk, Q (.int k t) { s with toks := tk }) → wpAny (model P w) A (getItem u v) Q E s)
section
variable {prog : Program} {w : World} {A : Around} {s : Shared}
theorem lam_item {f c' cell : Addr} {q x y : Str} {params : Arguments} {scope : Scope} {cl : List (Str × Addr)} {pm ctv v u : Value} {py px pp : Pos} {k : Int} {h0 : Heap}
    (hroom : A.depth < recursionLimit) (ho : s.heap.get? f = some (kla_obj "<lambda>" q params (.Subscript (.Name y py) (.Name x px) pp) scope cl pm c' ctv)) (hcd : s.heap.CodeRec (.ref c') q) (lim : s.heap.NoLimit)
    (hbind : bindArgs (kla_fn "<lambda>" q params (.Subscript (.Name y py) (.Name x px) pp) scope cl pm (.ref c') ctv) ⟨[v], []⟩ = pure [(x, v)])
    (hk : scope.kind = .function) (hco : scope.isCoroutine = false) (hgen : scope.isGenerator = false) (nocell : ∀ z ∈ scope.names, z.2 ≠ .cell) (hx : scope.names.lookup x = some .local) (hy : scope.names.lookup y = some .free)
    (hcl : cl.lookup y = some cell) (hcell : s.heap.IsCell cell (some u)) (dx : (x == ("__debug__" : Str)) = false) (dy : (y == ("__debug__" : Str)) = false) (cy : (y == ("__classdict__" : Str)) = false)
    (kp0 : ∀ b o, h0.get? b = some o → s.heap.get? b = some o) (get : ItemIs prog w h0 u v k) :
    wpAny (model prog w) A (call (.ref f) [v]) (KeyPure (.int k) s) (fun _ _ => False) s := by
  obtain ⟨T, id, hl, get⟩ := get
  refine wpAny_call (PySem.W.kla_callFunE hroom ho rfl hco hgen rfl hcd ?_)
  rw [hbind]
  refine wpAny_pure (wpAny_newFunctionEnv nocell (fun z hz => ?_) (fun h₁ hns hsb => ⟨lim.fresh _ hsb, PySem.W.kla_codeExpr ?_⟩) hk)
  · have : z = (x, v) := by simpa using hz
    rw [this]
    exact hx
  have kp : ∀ b o, s.heap.get? b = some o → h₁.get? b = some o := fun b o e => hsb.extBut b o (Nat.ne_of_lt (Heap.lt_size e)) (Heap.get?_push_of_some _ e)
  refine subD_of hl (fun _ _ => rfl) (wpAny_Name (wpAny_loadName_free (v := u) hk hy hcl ?_ (wpAny_Name (wpAny_loadName_local (m := fun z => ([(x, v)] : List (Str × Value)).reverse.lookup z) (v := v) hk hx hns ?_ ?_) dx) cy) dy)
  · obtain ⟨o, e1, e2⟩ := hcell
    exact ⟨o, kp _ _ e1, e2⟩
  · show ([(x, v)] : List (Str × Value)).reverse.lookup x = some v
    simp
  · obtain ⟨g1, g2⟩ := get _ _ _ { s with heap := h₁, toks := s.toks + ([(x, v)] : List (Str × Value)).length } fun b o e => kp b o (kp0 b o e)
    exact ⟨g1, g2 fun t tk => ⟨h₁, tk, rfl, kp, .int k t⟩⟩
end
section
variable {X : Cx} {pins : List (Addr × Obj)} {σ : L2.St} {H : Hp} {s : Shared}
theorem item_dict {d : Addr} {kvs : List (Key × V)} {n k : Int} {t : Tok} (I : Inv X pins σ H s) (e : H d = some (.dK kvs)) (hv : valV kvs (.inl n) = some (.int k)) : ItemIs X.prog X.w s.heap (.ref d) (.int n t) k :=
  ⟨"dict", _, PySem.F.slot_dict_getitem.lookup, fun A E Q s' kp => by
    have ok' : HOk X.prog X.w H s'.heap := I.hok.kept kp
    obtain ⟨_, _, vs, rel, dd⟩ := dk_of ok' e
    obtain ⟨w', hw, rw'⟩ := RelO.some_of (v := .int k) (o := valueAt vs (.inl n)) (by rw [← hv]; exact rel.val _)
    obtain ⟨t', rfl⟩ := rw'
    exact ⟨dd.typeIs, fun q => wpAny_getItem_of (kV_is (k := .inl n) ⟨t, rfl⟩) dd.mapOf hw (q t' _)⟩⟩
theorem item_list {d : Addr} {xs : List V} {n : Nat} {k : Int} {t : Tok} (I : Inv X pins σ H s) (e : H d = some (.lst xs)) (hv : xs[n]? = some (.int k)) : ItemIs X.prog X.w s.heap (.ref d) (.int (n : Nat) t) k :=
  ⟨"list", _, PySem.F.slot_list_getitem.lookup, fun A E Q s' kp => by
    have ok' : HOk X.prog X.w H s'.heap := I.hok.kept kp
    obtain ⟨hz, its, m, r, hob⟩ := (show ObjOk X.prog X.w H s'.heap d (.lst xs) from ok' d _ e)
    obtain ⟨u, eu, ru⟩ := r.get hv
    obtain ⟨t', rfl⟩ := ru
    have hl : n < xs.length := (List.getElem?_eq_some_iff.mp hv).1
    have hn := line63
    have il : s'.heap.IsList d its.toArray := ⟨_, hob, rfl, _, rfl⟩
    exact ⟨il.typeIs, fun q => wpAny_getItem_list (k := (n : Nat)) il (by omega) (by omega) (by simpa using eu) (q t' s'.toks)⟩⟩
/-- what is gone through by sorted: the keys of a dict, or a range -/
def Coll (H : Hp) (x : V) (ns : List Int) : Prop := (∃ d kvs, x = .ref d ∧ H d = some (.dK kvs) ∧ kvs.map (·.1) = ns.map Sum.inl) ∨ ∃ (r : Addr) (n : Nat), x = .ref r ∧ H r = some (.rng 0 (n : Nat)) ∧ ns = irange 0 (n : Nat) ∧ n ≤ 1000000
theorem ints_of_at : ∀ {us : List Value} {ns : List Int}, us.length = ns.length → (∀ (j : Nat) (v : Value), us[j]? = some v → ∃ n t, ns[j]? = some n ∧ v = .int n t) → IntsAre us ns
  | [], [], _, _ => .nil
  | [], _ :: _, h, _ => by simp at h
  | _ :: _, [], h, _ => by simp at h
  | u :: us, n :: ns, h, f => by
    obtain ⟨m, t, e1, rfl⟩ := f 0 u rfl
    have e1 : n = m := Option.some.inj e1
    subst e1
    refine .cons _ _ (ints_of_at (by simpa using h) fun j v e => ?_)
    obtain ⟨m, t, e1, e2⟩ := f (j + 1) v (by simpa using e)
    exact ⟨m, t, by simpa using e1, e2⟩
theorem collect_coll {A : Around} {E : Value → Shared → Prop} {R : List Value → Shared → Prop} {x : V} {u : Value} {ns : List Int} (hh : A.handled = none) (I : Inv X pins σ H s) (c : Coll H x ns) (rx : RelV x u)
    (h : ∀ h' tk us, (∀ b o, s.heap.get? b = some o → h'.get? b = some o) → IntsAre us ns → us.length ≤ 1000000 + sizeLine → us.length ≤ sizeLine → R us { s with heap := h', toks := tk }) : wpAny (model X.prog X.w) A (collect u) R E s := by
  rcases c with ⟨d, kvs, rfl, hd, hks⟩ | ⟨r, n, rfl, hr, rfl, hn⟩
  · obtain rfl : u = Value.ref d := rx
    obtain ⟨z, lo, vs, rel, dd⟩ := dk_of I.hok hd
    obtain ⟨ep, hat⟩ := dd.dictAt
    have hkeys : vs.map (·.1) = ns.map Sum.inl := rel.keys.symm.trans hks
    have hvl : vs.length ≤ sizeLine := by rw [← rel.length]; exact z
    have hl : vs.length = ns.length := by simpa using congrArg List.length hkeys
    refine PySem.W.kdu_collect (PySem.W.kdl_dict (knd := mixKind X.prog X.w) (kvs := vs) (ep := ep) lo) hh hat hvl fun h' tk acc hk hacc => ?_
    have hal : acc.toList.length = ns.length := by rw [Array.length_toList, hacc.1, hl]
    refine h h' tk acc.toList hk (ints_of_at hal fun j v e => ?_) (by omega) (by omega)
    obtain ⟨k, y, e1, e2⟩ := hacc.2 j v (by rw [← Array.getElem?_toList]; exact e)
    have e3 : (vs.map (·.1))[j]? = some k := by rw [List.getElem?_map, e1]; rfl
    rw [hkeys, List.getElem?_map] at e3
    cases e4 : ns[j]? with
    | none => rw [e4] at e3; cases e3
    | some m =>
      rw [e4] at e3
      have e5 : Sum.inl m = k := Option.some.inj e3
      subst e5
      rcases keyIs_shape (show keyIs (Sum.inl m) v = true from e2) with ⟨i, t, ek, ev⟩ | ⟨z, t, ek, ev⟩
      · cases ek
        exact ⟨_, t, rfl, ev⟩
      · cases ek
  · obtain rfl : u = Value.ref r := rx
    obtain ⟨t, u, v, hr'⟩ := (show ObjOk X.prog X.w H s.heap r (.rng 0 (n : Nat)) from I.hok r _ hr)
    have hsz : (1000000 : Nat) ≤ sizeLine := by decide
    refine collect_range (n := n) hh hr' (small_one (by omega) (by omega) (by omega) (by omega)) (by rw [rangeSize_nat]; simp) (by omega) fun h' tk acc hk hi => ?_
    have hal : acc.toList.length = n := by rw [Array.length_toList]; exact hi.1
    refine h h' tk acc.toList hk (ints_of_at (by rw [hal, irange_len]; simp) fun j v e => ?_) (by omega) (by omega)
    obtain ⟨t, rfl⟩ := hi.2 j v (by rw [← Array.getElem?_toList]; exact e)
    have hj : j < n := by
      have := (List.getElem?_eq_some_iff.mp e).1
      omega
    exact ⟨_, t, irange_at (by simpa using hj), by simp⟩
/-- the items of what is captured -/
def KeyAt (H : Hp) (d : Addr) (key : Int → Int) (ns : List Int) : Prop := (∃ kvs, H d = some (.dK kvs) ∧ ∀ n ∈ ns, valV kvs (.inl n) = some (.int (key n))) ∨ ∃ xs, H d = some (.lst xs) ∧ ∀ n ∈ ns, ∃ m : Nat, n = (m : Nat) ∧ xs[m]? = some (.int (key n))
theorem KeyAt.item {d : Addr} {key : Int → Int} {ns : List Int} {n : Int} {t : Tok} (I : Inv X pins σ H s) (h : KeyAt H d key ns) (hn : n ∈ ns) : ItemIs X.prog X.w s.heap (.ref d) (.int n t) (key n) := by
  rcases h with ⟨kvs, e, h⟩ | ⟨xs, e, h⟩
  · exact item_dict I e (h n hn)
  · obtain ⟨m, rfl, e2⟩ := h n hn
    exact item_list I e e2
theorem KeyAt.extN {H' : Hp} {d : Addr} {key : Int → Int} {ns : List Int} (e : ExtN H H') (h : KeyAt H d key ns) : KeyAt H' d key ns := by
  rcases h with ⟨kvs, e1, h⟩ | ⟨xs, e1, h⟩
  · exact .inl ⟨kvs, e _ _ e1 (fun ps z => by cases z), h⟩
  · exact .inr ⟨xs, e _ _ e1 (fun ps z => by cases z), h⟩
theorem Coll.extN {H' : Hp} {x : V} {ns : List Int} (e : ExtN H H') (h : Coll H x ns) : Coll H' x ns := by
  rcases h with ⟨d, kvs, h1, h2, h3⟩ | ⟨r, n, h1, h2, h3⟩
  · exact .inl ⟨d, kvs, h1, e _ _ h2 (fun ps z => by cases z), h3⟩
  · exact .inr ⟨r, n, h1, e _ _ h2 (fun ps z => by cases z), h3⟩
theorem each_ints : ∀ {us : List Value} {ns : List Int}, IntsAre us ns → EachIs (fun v n => ∃ t, v = .int n t) us ns
  | _, _, .nil => EachIs.nil
  | _, _, .cons _ _ h => EachIs.cons ⟨_, rfl⟩ (each_ints h)
theorem vals_each : ∀ {us : List Value} {ns : List Int}, EachIs (fun v n => ∃ t, v = .int n t) us ns → Vals (ns.map V.int) us
  | _, _, .nil => .nil
  | _, _, .cons ⟨t, e⟩ h => .cons ⟨t, e⟩ (vals_each h)
def SortAsk (T : List (Addr × Str)) (j : Nat) (σ : L2.St) (Q : VK) : List V → Hp → Prop := fun vs H1 => ∃ v, vs = [v] ∧ Tabs T H1 ∧ ∃ (d : Addr) (ns : List Int) (key : Int → Int), σ[j]? = some (some (.ref d)) ∧ Coll H1 v ns ∧ KeyAt H1 d key ns ∧
  ∀ (ns' : List Int) p Hm H2, ExtN H1 Hm → Tabs T Hm → Hm p = none → Ex Hm H2 → H2 p = some (.lst (ns'.map V.int)) → ns'.Perm ns → ns'.Pairwise (fun a b => key a ≤ key b) → Q (.ref p) H2
def tSortLam (T : List (Addr × Str)) (j : Nat) (te : TE) : TE := fun σ H Q => tCons te tNil σ H (SortAsk T j σ Q)
theorem pe_sortLam {T : List (Addr × Str)} {c P : Addr} {k j : Nat} {x y : Str} {e : Expr} {te : TE} {params : Arguments} {scope : Scope} {p py px pp lpos kpos pos : Pos} (hc : X.calm = true) (hr : Room (k + 1) X.A) (hg : Gl X "sorted") (hm : X.mg "sorted" = none) (he : PE X e te)
    (hN : X.N[j]? = some y) (hv : X.env.scope.names.lookup y = some .cell) (TB : TabB X.base X.mg c P) (hcode : X.env.code = .ref c) (hmT : (P, X.env.qual ++ "<lambda>") ∈ T) (hu : ∀ p ∈ T, p.1 = P → p.2 = X.env.qual ++ "<lambda>")
    (hdef : defaultsOf params X.env = ([], [])) (hbind : ∀ (q : Str) (cl : List (Str × Addr)) (pm cv ctv v : Value), bindArgs (kla_fn "<lambda>" q params (.Subscript (.Name y py) (.Name x px) pp) scope cl pm cv ctv) ⟨[v], []⟩ = pure [(x, v)])
    (hk : scope.kind = .function) (hco : scope.isCoroutine = false) (hgen : scope.isGenerator = false) (hnm : scope.names = [(x, .local), (y, .free)] ∨ scope.names = [(y, .free), (x, .local)]) (hxy : (x == y) = false)
    (dx : (x == ("__debug__" : Str)) = false) (dy : (y == ("__debug__" : Str)) = false) (cy : (y == ("__classdict__" : Str)) = false)
    (hs : starEach [e] X.env = (false, eval e X.env) :: starEach [] X.env := by rfl) :
    PE X (.Call (.Name "sorted" p) [e] [⟨some "key", .Lambda params (.Subscript (.Name y py) (.Name x px) pp) scope lpos, kpos⟩] pos) (tSortLam T j te) := by
  refine ⟨fun pins s σ H Q I h => ?_⟩
  have hyx : (y == x) = false := by
    cases c : (y == x) with
    | false => rfl
    | true => rw [eq_of_beq c] at hxy; simp at hxy
  have hx : scope.names.lookup x = some .local := by
    rcases hnm with e | e <;> rw [e] <;> simp [List.lookup, hxy]
  have hy : scope.names.lookup y = some .free := by
    rcases hnm with e | e <;> rw [e] <;> simp [List.lookup, hyx]
  have nocell : ∀ z ∈ scope.names, z.2 ≠ .cell := by
    rcases hnm with e | e <;> rw [e] <;> simp
  have ymem : (y, NameKind.free) ∈ scope.names := by
    rcases hnm with e | e <;> rw [e] <;> simp
  have hfree : ∀ z ∈ scope.names, z.2 = .free → ∃ c, X.env.cells.lookup z.1 = some c := by
    intro z hz ez
    have : z = (y, .free) := by
      rcases hnm with e | e <;> rw [e] at hz <;> simp at hz <;> rcases hz with rfl | rfl <;> first | rfl | (cases ez)
    rw [this]
    exact I.ok.has _ (.inl hv)
  refine wpAny_Call_Name_kw (ld_blt I hg hm boot_sorted ?_)
  refine PyProof.Rows.callWith_kw (thn ((show PA X [e] (tCons te tNil) from pa_cons he pa_nil hs).run pos pins s σ H _ I h) fun us s1 ⟨vs, H1, I1, r1, v, ev, hT, d, ns, key, hd, hcol, hkey, q⟩ => ?_) (by rw [hs]; rfl) (by rw [hs]; rfl)
  subst ev
  obtain ⟨u, rfl, ru⟩ := vals1 r1
  show wpAny _ _ (evalAll ((do let v ← eval (.Lambda params (.Subscript (.Name y py) (.Name x px) pp) scope lpos) X.env; standAt pos; pure v) :: [])) _ _ s1
  refine wpAny_evalAll_cons (wpAny_bind (LamX.lam_make2 I1 TB hcode hmT hu hT hdef hfree fun f c' pm' ctv H2 s2 I2 eN T2 hf hfn hfr hcd => wpAny_bind (wpAny_standAt (wpAny_pure (wpAny_evalAll_nil ?_)))))
  show wpAny _ _ (call (.builtin "sorted") [u] [(Str.ofString "key", .ref f)]) _ _ s2
  -- the captured cell
  obtain ⟨mm, hnm2, hl⟩ := I2.loc
  obtain ⟨w, rw', l⟩ := hl j y (.ref d) hN hd (.inr (.inl hv))
  obtain rfl : w = Value.ref d := rw'
  obtain ⟨cell, hcl, hcell⟩ : ∃ cell, X.env.cells.lookup y = some cell ∧ s2.heap.IsCell cell (some (.ref d)) := by
    rcases l with ⟨z, _⟩ | ⟨_, a', ha', hc'⟩
    · have z' : X.env.scope.names.lookup y = some .local := z
      rw [hv] at z'
      cases z'
    · exact ⟨a', ha', hc'⟩
  have hclo := NdefX.clo_has hfree ymem hcl
  refine PyProof.Rows.call_function_entry_kw PyProof.Rows.kind_sorted PyProof.Rows.plain_sorted PyProof.Rows.entry_sorted (PyProof.Rows.ksk_s1 _ _) ?_
  unfold Builtin.«sorted»
  refine wpAny_bind (m := checkCount "sorted" 1 1 _) (wpAny_pure ?_)
  refine wpAny_bind (collect_coll (A := X.A.in1) hr.hd I2 (hcol.extN eN) ru fun h' tk us hk' hi _ hz => ?_)
  have I3 : Inv X pins σ H2 { s2 with heap := h', toks := tk } := I2.kept hk'
  refine wpAny_bind (wpAny_newList ?_ hz)
  have hoL : (h'.push (seqObj "list" us.toArray 0)).get? h'.objs.size = some (seqObj "list" us.toArray 0) := Heap.get?_push_size _ rfl
  show wpAny _ _ _ _ _ { s2 with heap := h'.push (seqObj "list" us.toArray 0), toks := tk }
  have up : ∀ {g : Heap}, PySem.W.KeepsBut h'.objs.size (h'.push (seqObj "list" us.toArray 0)) g → ∀ b o, h'.get? b = some o → g.get? b = some o := fun {g} kp b o e =>
    kp b o (Nat.ne_of_lt (Heap.lt_size e)) (Heap.get?_push_of_some _ e)
  have el := each_ints hi
  have hlen : ns.length = us.length := hi.length.symm
  refine wpAny_bind (wpAny_holding (PyProof.Rows.wpAny_call_entry_kw PyProof.Rows.slot_list_sort ⟨_, hoL, rfl⟩ PyProof.Rows.entry_list_sort ?body (PyProof.Rows.ksk_l1 _ _)))
  rw [PyProof.Rows.ksk_t1]
  have hsortable : Sortable (ns.map fun n => PyData.int (key n)) := by
    unfold PySem.W.Sortable
    right
    intro d hd
    obtain ⟨_, _, rfl⟩ := List.mem_map.mp hd
    exact ⟨(by intro z; cases z), (by intro _ z; cases z)⟩
  refine PySem.W.keyH_tree (kz := ns.map fun n => PyData.int (key n)) (b := false) (s := { s2 with heap := h'.push (seqObj "list" us.toArray 0), toks := tk }) hoL (by rw [List.length_map, hlen]) hz (PySem.W.AllAlike.of fun _ _ => by simp [PySem.W.alike]) hsortable (fun d hd => ?_)
    (PySem.W.keyH_turns (s := { s2 with heap := h'.push (seqObj "list" us.toArray 0), toks := tk }) el fun v n ⟨t, ev⟩ hn g tk2 kp => ?_) fun g tk2 out c2 kp hD ko => ⟨_, rfl, wpAny_pure ⟨_, rfl, ?_⟩⟩
  · obtain ⟨_, _, rfl⟩ := List.mem_map.mp hd
    have := hr.un
    show X.A.units + 1 + 1 + 0 < cLine
    omega
  · subst ev
    have kg := up kp
    have ks : ∀ b o, s2.heap.get? b = some o → g.get? b = some o := fun b o e => kg b o (hk' b o e)
    refine lam_item (h0 := s2.heap) (by have := hr.dp; show X.A.depth < _; omega) (ks _ _ hf) (NdefX.codeO_at (I2.hok.kept ks) hcd) (I2.nolimit.keeps ks) (hbind _ _ _ _ _ _) hk hco hgen nocell hx hy hclo ?_ dx dy cy ks ((hkey.extN eN).item I2 hn)
    obtain ⟨o, e1, e2⟩ := hcell
    exact ⟨o, ks _ _ e1, e2⟩
  · have eo := PySem.W.keyedOut_each (fun n => PyData.int (key n)) ko el
    rw [PySem.W.dataLe_int] at eo
    have hp := List.mergeSort_perm ns (fun a b => decide (key a ≤ key b))
    have hn0 := I3.hok.fresh (Nat.le_refl _)
    refine ⟨.ref h'.objs.size, upd H2 h'.objs.size (.lst ((ns.mergeSort (fun a b => decide (key a ≤ key b))).map V.int)), I3.laid (t' := tk2) (up kp) (Nat.le_refl _) ⟨?_, out, c2, vals_each eo, hD⟩, rfl, q _ _ H2 _ eN T2 hn0 (Evl.Ex.new hn0) upd_same hp ?_⟩
    · rw [List.length_map, hp.length_eq, hlen]
      exact hz
    · have := List.pairwise_mergeSort (le := fun a b => decide (key a ≤ key b)) (fun a b c h1 h2 => by simp at *; omega) (fun a b => by simp; omega) ns
      exact this.imp fun h => by simpa using h
end
end B

namespace B
open PySem PySem.Spec PyProof.Rows L2
open PySem.W (Frag)
open LamX (CodeO TabS Tabs ExtN TabB)
/-! ### a def that makes a lambda: its code object is told -/
def StandsC (K : Frag) (mg : Str → Option Value) (x : Str) (st : Stmt) (c : Addr) : Prop :=
  ∃ (f : Addr) (oc : Value) (od : Option Addr) (kV doc pm : Value) (an : Option Addr) (ct : Value) (osl : Array (Option Value)),
    K.lookup f = some ⟨oc, od, .func (PySem.W.fnOf x x (defArgs st) (defBody st) (defScope st) .none kV doc pm an (.ref c) ct), osl⟩ ∧ PySem.W.codeIn K (.ref c) x = true ∧ PySem.W.keepIn K (.ref f) = true ∧ mg x = some (.ref f)
section
variable {P : Program} {w : World} {K : Frag} {mg : Str → Option Value} {base : Heap}
theorem has_ofC {x : Str} {st : Stmt} {c : Addr} {N ps : List Str} {k : Nat} {sp : Sp} (S : StandsC K mg x st c) (C : FnScope N ps (defScope st))
    (hb : ∀ (kV doc pm : Value) (an : Option Addr) (cdv ct : Value) (us : List Value), us.length = ps.length → bindArgs (PySem.W.fnOf x x (defArgs st) (defBody st) (defScope st) .none kV doc pm an cdv ct) ⟨us, []⟩ = pure (ps.zip us))
    (len : ∀ vs H Q E, sp vs H Q E → vs.length = ps.length)
    (hbody : ∀ (f : Addr) (A : Around) (outer : List Env) (s : Shared) (H : Hp) (vs : List V) (Q : VK) (E : XK), Room k (A.deeper (envOfC x (defScope st) s.heap.objs.size f (.ref c))) → sp vs H Q E →
      ∃ t, PSs (cxOf (L2.CX P w) P w K mg base N x (defScope st) f (.ref c) A outer s H E) (defBody st) t ∧ t { nx := fun _ H' => Q .non H', rt := Q } (start N vs) H) :
    Has P w K mg base x (k + 1) ps sp := by
  obtain ⟨f, oc, od, kV, doc, pm, an, ct, osl, lk, hcd, hk, hm⟩ := S
  have F : Fun K x x st f _ := fun_mk lk hcd hk
  exact ⟨f, _, fn_of lk hcd C len fun A outer s H vs Q E hr hsp => hbody f A outer s H vs Q E hr hsp, hm, hk, F.binds hb⟩
end
/-! ### edges along which tables may grow -/
theorem exgN {H H' : Hp} {a : Addr} {o : HO} (e : ExtN H H') (h : H a = some o) (n : ∀ ps, o ≠ .tbl ps) : H' a = some o := e a o h n
section
variable {K : Frag} {H H' H0 : Hp} {a l : Addr} {xs ys : List V} {x : V} {s : KS} {o : HO} {T : List (Addr × Str)}
theorem SqL.exN (e : ExtN H H') (h : SqL K H a xs) : SqL K H' a xs := by
  rcases h with (h | ⟨z, h⟩) | h
  · exact .inl (.inl (e _ _ h fun ps q => by cases q))
  · exact .inl (.inr ⟨z, e _ _ h fun ps q => by cases q⟩)
  · exact .inr h
theorem SqT.exN (e : ExtN H H') (h : SqT K H a xs) : SqT K H' a xs := by
  rcases h with (h | ⟨z, h⟩) | h
  · exact .inl (.inl (e _ _ h fun ps q => by cases q))
  · exact .inl (.inr ⟨z, e _ _ h fun ps q => by cases q⟩)
  · exact .inr h
theorem Sq.exN (e : ExtN H H') (h : Sq K H a xs) : Sq K H' a xs := h.elim (fun h => .inl (SqL.exN e h)) fun h => .inr (SqT.exN e h)
theorem Kind.exN (e : ExtN H H') (h : Kind K H x s) : Kind K H' x s := by
  cases h with
  | non => exact .non
  | bl b => exact .bl b
  | int i => exact .int i
  | str x => exact .str x
  | lst h => exact .lst (SqL.exN e h)
  | tup h => exact .tup (SqT.exN e h)
  | dct h => exact .dct (e _ _ h fun ps q => by cases q)
theorem Caught.exN {o : Option Addr} (e : ExtN H H') (h : Caught K H x o) : Caught K H' x o := by
  cases h with
  | no => exact .no
  | yes h => exact .yes (e _ _ h fun ps q => by unfold ExC at q; cases q)
theorem ExtN.ex (e : Ex H H') : ExtN H H' := ExtN.of e
theorem ExtN.upd (e : ExtN H0 H) (u : Upd H l o H') (f : ∃ Hk, ExtN H0 Hk ∧ Hk l = none) : ExtN H0 H' := fun b x h n => by
  obtain ⟨Hk, e1, h1⟩ := f
  have hb : b ≠ l := ne_of_none (e1 b x h n) h1
  rw [u.other b hb]
  exact e b x h n
theorem Tabs.upd (t : Tabs T H) (u : Upd H l o H') (h : ∃ x, H l = some x ∧ (∀ ps, x ≠ .tbl ps) ∧ ∀ c q, x ≠ CodeO c q) : Tabs T H' := fun p hp => by
  obtain ⟨x, hx, n1, n2⟩ := h
  obtain ⟨ps, h1, h2, h3⟩ := t p hp
  refine ⟨ps, u.get (fun z => ?_) h1, h2, fun pos cv hc => ?_⟩
  · rw [z, hx] at h1
    exact n1 ps (Option.some.inj h1)
  · obtain ⟨c, e1, e2⟩ := h3 pos cv hc
    refine ⟨c, e1, u.get (fun z => ?_) e2⟩
    rw [z, hx] at e2
    exact n2 _ _ (Option.some.inj e2)
theorem Tabs.updL (t : Tabs T H) (u : Upd H l o H') (h : H l = some (.lst xs)) : Tabs T H' := Tabs.upd t u ⟨_, h, (fun ps z => by cases z), (fun c q z => by unfold CodeO at z; cases z)⟩
theorem Tabs.ex (t : Tabs T H) (e : Ex H H') : Tabs T H' := LamX.Tabs.ext t e
end
end B

namespace B
open PySem PySem.Spec PyProof.Rows L2
open PySem.W (Frag)
/-! ### enumerate(t) of a tuple -/
def enumObj (a : Addr) : Obj := { cls := .type "enumerate", data := .fields #[.none, .bool false, .ref a, rawInt 0, .none, .none] }
theorem enum_new {v : Value} {oi : Obj} {Hd : Heap → Prop} (Bg : Begins v oi Hd) :
    Meets (Builtin.«enumerate.__new__» ⟨[.type "enumerate", v], []⟩) (fun _ R s => Hd s.heap ∧ R (.ok (.ret (.ref (s.heap.push oi).objs.size))) { s with heap := (s.heap.push oi).push (enumObj s.heap.objs.size) }) :=
  .of_wp fun prog w A R s hh => by
    obtain ⟨hp, g, d, tk, os⟩ := s
    obtain ⟨hd, hr⟩ := hh
    have hsub := sub_enumerate
    have start : ∀ {A' : Around} {E Q : Value → Shared → Prop}, Q (.ref hp.objs.size) ⟨hp.push oi, g, d, tk, os⟩ → wpAny (model prog w) A' (pyIter v) Q E ⟨hp, g, d, tk, os⟩ := fun q => Bg.iter prog w _ _ ⟨hp, g, d, tk, os⟩ _ hd q
    wp_walk using start
    refine wpAny_stack_any fun _ => wpAny_pure ?_
    split
    · rename_i c _ _ _ _ _
      cases (c == Value.type "enumerate") <;> (wp_walk using start; exact ⟨_, rfl, hr⟩)
    · wp_walk using start
      exact ⟨_, rfl, hr⟩
theorem call_enumB {prog : Program} {w : World} {A : Around} {E : Value → Shared → Prop} {s : Shared} {v : Value} {oi : Obj} {Hd : Heap → Prop} {Q : Value → Shared → Prop} (Bg : Begins v oi Hd) (hd : Hd s.heap)
    (h : ∀ h', IsEnum h' (s.heap.objs.size + 1) s.heap.objs.size 0 .none → h'.get? s.heap.objs.size = some oi → (∀ b o, s.heap.get? b = some o → h'.get? b = some o) → Q (.ref (s.heap.objs.size + 1)) { s with heap := h' }) :
    wpAny (model prog w) A (call (.type "enumerate") [v]) Q E s := by
  have sz1 : (s.heap.push oi).objs.size = s.heap.objs.size + 1 := Heap.size_push ..
  have made : IsEnum ((s.heap.push oi).push (enumObj s.heap.objs.size)) (s.heap.objs.size + 1) s.heap.objs.size 0 .none := by
    rw [← sz1]
    exact Heap.get?_push_size _ rfl
  refine callType_new F.called_enumerate (by decide) (F.typeCall_enumerate_1 _) (F.newCall_enumerate_1 _) (fun ob => F.args_object_init_2 ob _) F.entry_enumerate_new (enum_new Bg) ⟨hd, ?_⟩
  rw [sz1]
  exact ⟨⟨_, made, rfl⟩, h _ made (Heap.get?_push_of_some _ (Heap.get?_push_size _ Bg.free)) fun b o x => Heap.get?_push_of_some _ (Heap.get?_push_of_some _ x)⟩
/-- a tuple's items, each in a new pair with its place -/
def Iet (K : Frag) (a : Addr) : It :=
  ⟨fun i H => ∃ (xs : List V) (x : V), SqT K H a xs ∧ xs[i]? = some x,
   fun i H v H' => ∃ T x, v = .ref T ∧ H T = none ∧ H' = upd H T (.tup [.int (i : Nat), x]) ∧ ∀ xs, SqT K H a xs → xs[i]? = some x,
   fun i H => ∃ xs : List V, SqT K H a xs ∧ xs.length = i⟩
theorem rel_inj {x y : V} {u : Value} (h1 : RelV x u) (h2 : RelV y u) : x = y := L2.RelV.inj h1 h2
theorem vals_same {xs ys : List V} {us : List Value} (h1 : Vals xs us) (h2 : Vals ys us) : xs = ys := by
  induction h1 generalizing ys with
  | nil => cases h2; rfl
  | cons r t ih =>
    cases h2 with
    | cons r' t' => rw [rel_inj r r', ih t']
theorem tup_same {X : Cx} {pins : List (Addr × Obj)} {σ : L2.St} {H : Hp} {s : Shared} {a : Addr} {xs ys : List V} (I : Inv X pins σ H s) (h1 : SqT X.K H a xs) (h2 : SqT X.K H a ys) : xs = ys := by
  obtain ⟨i1, r1, ⟨o1, g1, _, n1, d1⟩, _⟩ := I.tuple h1
  obtain ⟨i2, r2, ⟨o2, g2, _, n2, d2⟩, _⟩ := I.tuple h2
  rw [g1] at g2
  cases g2
  rw [d1] at d2
  injection d2 with e _
  have e' : i1 = i2 := by simpa using e
  subst e'
  exact vals_same r1 r2
theorem turn_enumT {P : Program} {w : World} {K : Frag} {elts : List Expr} {kk : Nat} {tpos : Pos} (a e it : Addr) :
    Turn P w K (.Tuple elts kk tpos) (Iet K a) [e, it] e (fun i h => (∃ old, IsEnum h e it ((i : Nat) : Int) old) ∧ h.IsTupleIter it a i ∧ e ≠ it ∧ e ≠ a ∧ a ≠ it) where
  mem := List.mem_cons_self
  obj := fun i h st b hb => by
    obtain ⟨⟨old, he⟩, ⟨o, ho, _, hd⟩, _⟩ := st
    rcases List.mem_cons.mp hb with rfl | hb
    · exact ⟨_, he, fun v q => nomatch q⟩
    · obtain rfl : b = it := by simpa using hb
      exact ⟨o, ho, fun v q => by rw [hd] at q; cases q⟩
  keep := fun i h h' st k => by
    obtain ⟨⟨old, he⟩, hi, ne⟩ := st
    exact ⟨⟨old, k e List.mem_cons_self _ he⟩, hi.at fun o q => k it (by simp) o q, ne⟩
  item := by
    intro X hP hw hK calm i pins s σ H E I hf st hg
    subst hP hw hK
    obtain ⟨⟨old, he⟩, hit, ne1, ne2, ne3⟩ := st
    obtain ⟨xs, x, hq, hx⟩ := hg
    obtain ⟨its, rv, tp, _⟩ := I.tuple hq
    obtain ⟨u, hu, ru⟩ := rv.get hx
    have ile : i < its.toArray.size := by
      rw [List.size_toArray]
      exact (List.getElem?_eq_some_iff.mp hu).1
    have el : e < s.heap.objs.size := Heap.lt_size he
    have il : it < s.heap.objs.size := by
      obtain ⟨_, q, _⟩ := hit
      exact Heap.lt_size q
    refine wpAny_pyNext_enum_itemD (Draws.tuple (A := X.A.in1) (I.ok.hd calm) it a ne3 its.toArray) he ⟨hit, tp⟩ ile ne1 (by simp [ne1, ne2]) fun y h' tk hy hout st' hT _ hk => ?_
    have ey : y = u := by
      have : its.toArray[i]? = some y := hy
      rw [List.getElem?_toArray, hu] at this
      exact (Option.some.inj this).symm
    subst ey
    refine ⟨_, rfl, wpAny_letOwnedTupleGo_enum (s := { s with heap := h', toks := tk + 1 }) hout fun h2 he2 same => ?_⟩
    have hT2 : h2.get? s.heap.objs.size = some { cls := .type "tuple", data := .seq #[.int i tk, y] } := (same.2 _ (Nat.ne_of_gt el)).trans hT
    have ok : ObjOk X.prog X.w (upd H s.heap.objs.size (.tup [.int (i : Nat), x])) h2 s.heap.objs.size (.tup [.int (i : Nat), x]) := ⟨by show 2 ≤ sizeLine; decide, [.int i tk, y], .cons ⟨_, rfl⟩ (.cons ru .nil), ⟨_, hT2, rfl, _, rfl⟩⟩
    have J : Inv X pins σ (upd H s.heap.objs.size (.tup [.int (i : Nat), x])) { s with heap := h2, toks := tk + 1 } :=
      I.turnedNew (ch := [e, it]) (fun b ob hb q => (same.2 b fun z => hb (by simp [z])).trans (hk b ob (fun z => hb (by simp [z])) (fun z => hb (by simp [z])) q)) hf (Nat.le_refl _) ok
    refine ⟨.ref s.heap.objs.size, _, J, rfl, ⟨_, x, rfl, I.hok.fresh (Nat.le_refl _), rfl, fun ys hy => by rw [tup_same I hy hq]; exact hx⟩, ⟨⟨y, ?_⟩, st'.1.at fun o q => (same.2 it (Ne.symm ne1)).trans q, ne1, ne2, ne3⟩, fun b hb => ?_⟩
    · rw [show ((i + 1 : Nat) : Int) = (i : Int) + 1 from by omega]
      exact he2
    · have lt : b < s.heap.objs.size := by
        rcases List.mem_cons.mp hb with rfl | hb
        · exact el
        · obtain rfl : b = it := by simpa using hb
          exact il
      rw [upd_ne (Nat.ne_of_lt lt)]
      exact (hf b hb).1
  done := by
    intro X hP hw hK calm i pins s σ H E I hf st hg
    subst hP hw hK
    obtain ⟨⟨old, he⟩, hit, ne1, ne2, ne3⟩ := st
    obtain ⟨xs, hq, hx⟩ := hg
    obtain ⟨its, rv, tp, _⟩ := I.tuple hq
    have hl := rv.length
    obtain ⟨f0, f1, f2, f3, f4, f5⟩ := hf it (by simp)
    have sz : its.toArray.size = i := by
      rw [List.size_toArray]
      omega
    exact wpAny_pyNext_enum_endD (Draws.tuple (A := X.A.in1) (I.ok.hd calm) it a ne3 its.toArray) he ⟨by rw [sz]; exact hit, tp⟩ fun h' eb => ⟨rfl, I.turned (t' := s.toks) (fun b o hb q => eb b o hb q) f0 f1 f3 f4 f5⟩
  self := fun A i s Q E st h => by
    obtain ⟨⟨old, he⟩, _⟩ := st
    exact wpAny_pyIter_enum he h
def rEnumT (K : Frag) (R : It → Hp → Prop) : List V → Hp → Prop := fun vs H1 => ∃ a xs, vs = [.ref a] ∧ SqT K H1 a xs ∧ R (Iet K a) H1
def rEnumQ (K : Frag) (R : It → Hp → Prop) : List V → Hp → Prop := fun vs H1 => rEnum K R vs H1 ∨ rEnumT K R vs H1
def iEnumQ (K : Frag) (ta : TA) : TI := fun σ H R => ta σ H (rEnumQ K R)
theorem pi_enumT {X : Cx} {e : Expr} {ta : TA} {p pos tpos : Pos} {elts : List Expr} {kk : Nat} (hg : Gl X "enumerate") (hm : X.mg "enumerate" = none) (ha : PA X [e] ta) (hs : starEach [e] X.env = [(false, eval e X.env)] := by rfl) :
    PI X (.Tuple elts kk tpos) (.Call (.Name "enumerate" p) [e] [] pos) (iEnumQ X.K ta) := by
  refine ⟨fun pins s σ H R I hh => ?_⟩
  refine Call_ (ld_blt I hg hm boot_enumerate (callWith_type1 (thn (ha.run pos pins s σ H _ I hh) fun us s1 z => ?_) hs rfl))
  obtain ⟨vs, H1, I1, r1, z⟩ := z
  have fp : ∀ {H' : Hp} {h' : Heap}, (∀ b, s1.heap.objs.size ≤ b → H' b = none) → ∀ b ∈ [s1.heap.objs.size + 1, s1.heap.objs.size], FpOk X pins H' b := fun {H' h'} hn b hb => by
    have hle : s1.heap.objs.size ≤ b := by
      rcases List.mem_cons.mp hb with rfl | hb
      · exact Nat.le_succ _
      · obtain rfl : b = s1.heap.objs.size := by simpa using hb
        exact Nat.le_refl _
    exact I1.fpOk hle (hn b hle)
  rcases z with ⟨a, xs, rfl, hq, q⟩ | ⟨a, xs, rfl, hq, q⟩
  · obtain ⟨u, rfl, ru⟩ := vals1 r1
    obtain rfl : u = Value.ref a := ru
    obtain ⟨its, rv, pl, _⟩ := I1.list hq
    refine call_enumerate_list pl.isList fun h' he hit _ hk => wpAny_pyIter_enum he ⟨s1.heap.objs.size + 1, [s1.heap.objs.size + 1, s1.heap.objs.size], _, _, H1, rfl, I1.kept (t' := s1.toks) hk, turn_enum a _ _, ⟨⟨.none, he⟩, hit, Nat.succ_ne_self _⟩, fp (h' := h') fun b hb => I1.hok.fresh hb, q⟩
  · obtain ⟨u, rfl, ru⟩ := vals1 r1
    obtain rfl : u = Value.ref a := ru
    obtain ⟨its, rv, tp, _⟩ := I1.tuple hq
    have la : a < s1.heap.objs.size := by
      obtain ⟨o, e, _⟩ := tp
      exact Heap.lt_size e
    refine call_enumB (begins_tuple a its.toArray) tp fun h' he hit hk => wpAny_pyIter_enum he ⟨s1.heap.objs.size + 1, [s1.heap.objs.size + 1, s1.heap.objs.size], _, _, H1, rfl, I1.kept (t' := s1.toks) hk, turn_enumT a _ _, ⟨⟨.none, he⟩, ⟨_, hit, rfl, rfl⟩, Nat.succ_ne_self _, Nat.ne_of_gt (Nat.lt_succ_of_lt la), Nat.ne_of_lt la⟩, fp (h' := h') fun b hb => I1.hok.fresh hb, q⟩
section
variable {K : Frag} {σ : L2.St} {H : Hp} {i j : Nat} {D : Ends} {ts : TS} {a : Addr} {tr : TA}
theorem x_iEnumQ {R : It → Hp → Prop} (h : tr σ H (rEnumQ K R)) : iEnumQ K tr σ H R := h
/-- for i, x in enumerate(a list or a tuple that stands) -/
theorem x_forEQ {α : Type} (as : List α) (f : α → V) (Pv : List α → L2.St → Hp → Prop) (h0 : Pv [] σ H) (hl : (∀ pre σ' H', pre.length ≤ as.length → Pv pre σ' H' → SqL K H' a (as.map f)) ∨ ∀ pre σ' H', pre.length ≤ as.length → Pv pre σ' H' → SqT K H' a (as.map f))
    (mono : ∀ pre σ' H' H'', Pv pre σ' H' → Ex H' H'' → Pv pre σ' H'')
    (hs : ∀ pre x post σ' H', as = pre ++ x :: post → Pv pre σ' H' → ts { D with nx := Pv (pre ++ [x]), ct := Pv (pre ++ [x]), bk := D.nx } ((σ'.set i (some (.int (pre.length : Nat)))).set j (some (f x))) H')
    (hd : ∀ σ' H', Pv as σ' H' → D.nx σ' H') : rEnumQ K (ForRun (gTup K 2 (gCons (gName i) (gCons (gName j) gNil))) ts D σ) [.ref a] H := by
  rcases hl with hl | hl
  · exact .inl (x_forE as f Pv h0 hl mono hs hd)
  · refine .inr ⟨a, _, rfl, hl [] σ H (Nat.zero_le _) h0, fun k m σ' H' => m = as.length - k ∧ k ≤ as.length ∧ Pv (as.take k) σ' H', ⟨_, rfl, Nat.zero_le _, by rw [List.take_zero]; exact h0⟩, ?_⟩
    rintro k m σ' H' ⟨rfl, hk, p⟩
    have hq := hl _ σ' H' (by rw [List.length_take]; omega) p
    by_cases hlt : k < as.length
    · have ex : as[k]? = some as[k] := List.getElem?_eq_getElem hlt
      have ev : (as.map f)[k]? = some (f as[k]) := by rw [List.getElem?_map, ex]; rfl
      refine .inr ⟨⟨_, _, hq, ev⟩, Pv (as.take k ++ [as[k]]), fun σ'' H'' p' => ⟨as.length - (k + 1), by omega, rfl, hlt, by rw [take_snoc ex]; exact p'⟩, fun x H2 y => ?_⟩
      obtain ⟨T, x', rfl, hT, rfl, f1⟩ := y
      have e1 := Option.some.inj (ev.symm.trans (f1 _ hq))
      subst e1
      refine ⟨T, _, rfl, .inl (.inl upd_same), rfl, _, _, rfl, _, _, rfl, rfl, ?_⟩
      have q := hs (as.take k) as[k] (as.drop (k + 1)) σ' _ (split_at ex) (mono _ _ _ _ p (Evl.Ex.new (o := .tup [.int (k : Nat), f as[k]]) hT))
      have el : (as.take k).length = k := by rw [List.length_take]; omega
      rw [el] at q
      exact q
    · have e : k = as.length := by omega
      subst e
      refine .inl ⟨⟨_, hq, by rw [List.length_map]⟩, hd σ' H' ?_⟩
      rw [List.take_length] at p
      exact p
end
end B

namespace B
open PySem PySem.Spec PyProof.Rows L2
open PySem.W (Frag)
open LamX (Tabs ExtN)
/-- p is none of the things that stood -/
def Apart (H : Hp) (p : Addr) : Prop := ∀ b o, H b = some o → (∀ ps, o ≠ .tbl ps) → b ≠ p
theorem Apart.back {H H' : Hp} {p : Addr} (e : ExtN H H') (h : Apart H' p) : Apart H p := fun b o hb n => h b o (e b o hb n) n
theorem Apart.of {H : Hp} {p : Addr} (h : H p = none) : Apart H p := fun b o hb _ => ne_of_none hb h
section
variable {K : Frag} {σ : L2.St} {H : Hp} {Q : VK} {i j : Nat} {te : TE} {tt : TT} {a : Addr} {T : List (Addr × Str)}
theorem x_sortLam (h : tCons te tNil σ H (SortAsk T j σ Q)) : tSortLam T j te σ H Q := h
theorem x_lcQ {vs : List Nat} {α : Type} (as : List α) (f : α → V) (p : α → Bool) (v : α → V) (hv : σ[i]? = some (some (.ref a))) (hq : Sq K H a (as.map f)) (h : LcSay K j vs tt te σ H Q α as f p v) : iSq K (tVar i) σ H (LcRun (gName j) tt te vs σ Q) :=
  hq.elim (fun hq => .inl ⟨.ref a, hv, x_lcL as f p v hq h⟩) fun hq => .inr ⟨.ref a, hv, x_lcT as f p v hq h⟩
end
end B
namespace B
open PySem PySem.Spec PyProof.Rows L2
open LamX (Tabs ExtN)
section
variable {σ : L2.St} {H : Hp} {Q : VK} {ta tb tc : TE} {r r' : R2}
theorem x_chain (h : ta σ H fun x H1 => tb σ H1 fun y H2 => r x y H2 fun z H3 => ∃ k, z = .bl k ∧ (if k = true then tc σ H3 fun w' H4 => r' y w' H4 Q else Q (.bl false) H3)) : tChain r r' ta tb tc σ H Q := h
end
theorem cut_part (ns : List Int) (a b : Nat) : ∃ ms : List Int, cutV (ns.map V.int) (some (a : Int)) (some (b : Int)) = ms.map V.int ∧ ms.length ≤ b - a := by
  unfold cutV
  rw [HT.sIx_nat, HT.sIx_nat, List.length_map]
  refine ⟨(ns.drop (min a ns.length)).take (min b ns.length - min a ns.length), by rw [List.map_take, List.map_drop], ?_⟩
  rw [List.length_take]
  omega
theorem bl_decide (c : Prop) [Decidable c] (b : Bool) (h : b = true ↔ c) : b = decide c := by
  by_cases e : c
  · rw [decide_eq_true e, h.mpr e]
  · rw [decide_eq_false e]
    cases b with
    | false => rfl
    | true => exact absurd (h.mp rfl) e
end B
namespace B
theorem x_ntrue {A C : Prop} (h : C) : if (!true) = true then A else C := by rw [if_neg (by decide)]; exact h
theorem x_nfalse {A C : Prop} (h : A) : if (!false) = true then A else C := by rw [if_pos (by decide)]; exact h
end B

namespace B
open PySem PySem.Spec PyProof.Rows L2
open PySem.W (Frag)
open LamX (Tabs TabS ExtN TabB)
/-! ### the end of a law with a table -/
/-- where a def's code object and its table stand -/
theorem tab_in {K : Frag} {x : Str} {f c Pt : Addr} {oc oc2 : Value} {od od2 : Option Addr} {fd : FuncData} {sl sl2 : Array (Option Value)} {vs : Array Value} (a : PySem.W.nsIn K mainGlobals x = some (some (.ref f))) (l : K.lookup f = some ⟨oc, od, .func fd, sl⟩) (e : fd.code = .ref c)
    (lc : K.lookup c = some ⟨oc2, od2, .fields vs, sl2⟩) (h : vs[11]? = some (.ref Pt)) : PySem.W.tabIn K x = some (c, Pt) := by
  unfold PySem.W.tabIn
  simp only [a, l, e, lc, h]
theorem no_tab {K : Frag} {h : Heap} {Pt : Addr} (X : K.In h) (nt : PySem.W.noTabs K = true) (e : h.get? Pt = some (PySem.W.tabObj #[])) : K.lookup Pt = none := by
  cases q : K.lookup Pt with
  | none => rfl
  | some o =>
    have e2 := X Pt o q
    rw [e] at e2
    cases e2
    have h2 := List.all_eq_true.mp nt (Pt, _) (PySem.W.mem_of_lookupK q)
    exact absurd (show false = true from h2) Bool.false_ne_true
theorem tabs_one {H : Hp} {Pt : Addr} {q : Str} (h : H Pt = some (.tbl #[])) : Tabs [(Pt, q)] H := fun p hp => by
  rw [List.mem_singleton.mp hp]
  exact TabS.nil h
theorem walk_tab {l : PySem.W.OpenLaw} {n k : Nat} {q : Program} {loose : List Str} {XP : (Str → Option Value) → Heap → Prop} {YP : World → Heap → Prop} {d : DefRec} {K : Params → Frag} {x y ql : Str} {sp : Frag → Addr → Sp}
    (hn : l.most = some n) (hn2 : n ≤ sizeLine) (hdf : d.params.defaults = []) (hr : Room k callerA) (hY : ∀ (w : World) (h : Heap), YP w h → (K w.params).In h) (hnt : ∀ w : World, PySem.W.noTabs (K w.params) = true) (hrec : ∃ e, (recsOf q).find? (fun e => e.name == y) = some e)
    (hsp : ∀ (K : Frag) (Pt : Addr) (H : Hp) (a : Addr) (ns : List Int), ns.length ≤ n → (∀ z ∈ ns, Builtin.Int.intBits z ≤ 1048576) → Tabs [(Pt, ql)] H → SqL K H a (ns.map V.int) → sp K Pt [.ref a] H (fun v _ => v = .bl true) fun _ _ _ => False)
    (F : ∀ (w : World) (mg : Str → Option Value) (fa : Addr) (h : Heap), (K w.params).In h → h.Ns mainGlobals mg → mg d.name = some (.ref fa) →
      ∃ (fd : FuncData) (c Pt : Addr), PySem.W.tabIn (K w.params) y = some (c, Pt) ∧ (∀ (s : Shared) (u : Value), BindsTo s fd ⟨[u], []⟩ [(x, u)]) ∧
        ∀ base : Heap, (K w.params).In base → base.Ns mainGlobals mg → TabB base mg c Pt → FnOk l.prog w (K w.params) mg base (L2.CX l.prog w) k fa fd [x] (sp (K w.params) Pt)) :
    PySem.W.WalkO q loose XP YP l.row.toRowW d [] (fun f vs => PySem.call f vs) := by
  refine Att.attach_callB hn hdf fun w s₀ s₁ mg mb fa o pm cd doc a vs ns G Y ho hd hcd hmg hobj hints hlen hbits hg => ?_
  have KX := hY w _ Y
  obtain ⟨e, he⟩ := hrec
  obtain ⟨fd, c, Pt, ht, hb, hF⟩ := F w mg fa _ KX G.T.g hmg
  obtain ⟨g1, g2⟩ := PySem.W.tab_of G.T KX he ht
  refine LamX.law_callTs (cs := [(c, Pt)]) KX G.T.g G.T.b G.T.builtins G.T.nolimit hg (fun p hp => ?_) (fun p hp => ?_) (fun p hp => ?_) G.T.bmain hobj hints (Nat.le_trans hlen hn2) hr (fun base hK hN hT => hF base hK hN (hT _ List.mem_cons_self)) hb
    (fun H hH hS => hsp _ Pt H a ns hlen hbits (tabs_one (hH _ List.mem_cons_self)) hS) fun H e s' z => ?_
  · rw [List.mem_singleton.mp hp]
    exact g2
  · rw [List.mem_singleton.mp hp]
    exact no_tab KX (hnt w) g2
  · rw [List.mem_singleton.mp hp]
    exact g1
  · obtain ⟨_, _, _, _, _, _, _, _, _, _, _, _, z⟩ := z
    exact z
end B

namespace B
open PySem PySem.Spec PyProof.Rows L2
open PySem.W (Frag)
/-! ### d.get(k, x), d.setdefault(k, x) -/
section
variable {σ : L2.St} {H : Hp} {Q : VK} {td ty tx : TE} {a b : Addr} {kvs : List (Key × V)} {kts : List (List Key × V)} {z : V} {n : Int} {k : List Key}
def rDg (a : Addr) (Q : VK) (y z : V) (H3 : Hp) : Prop := ∃ o, DGet H3 a y o ∧ Q (o.getD z) H3
def rDg2 (ty tx : TE) (σ : L2.St) (Q : VK) : V → Hp → Prop := fun x H1 => ∃ a, x = .ref a ∧ IsD H1 a ∧ ty σ H1 fun y H2 => tx σ H2 fun z H3 => rDg a Q y z H3
theorem x_dget2 (h : td σ H (rDg2 ty tx σ Q)) : tDGet2 td ty tx σ H Q := h
theorem x_dg2K (hd : H a = some (.dK kvs)) (h : ty σ H fun y H2 => tx σ H2 fun z H3 => rDg a Q y z H3) : rDg2 ty tx σ Q (.ref a) H := ⟨a, rfl, .inl ⟨kvs, .inl hd⟩, h⟩
theorem x_dg2T (hd : H a = some (.dT kts)) (h : ty σ H fun y H2 => tx σ H2 fun z H3 => rDg a Q y z H3) : rDg2 ty tx σ Q (.ref a) H := ⟨a, rfl, .inr ⟨kts, .inl hd⟩, h⟩
theorem x_dgI (hd : H a = some (.dK kvs)) (q : Q ((valV kvs (.inl n)).getD z) H) : rDg a Q (.int n) z H := ⟨_, DGet.k (k := .inl n) hd, q⟩
theorem x_dgT (hd : H a = some (.dT kts)) (hb : H b = some (.tup (k.map kV))) (q : Q ((valV kts k).getD z) H) : rDg a Q (.ref b) z H := ⟨_, DGet.t hd hb, q⟩
def rSd (a : Addr) (Q : VK) (y z : V) (H3 : Hp) : Prop := ∃ (kvs : List (Key × V)) (k : Key), H3 a = some (.dK kvs) ∧ y = kV k ∧ kvs.length < sizeLine ∧ (∀ v, valV kvs k = some v → Q v H3) ∧ (valV kvs k = none → Q z (upd H3 a (.dK (putK kvs k z))))
def rSd2 (ty tx : TE) (σ : L2.St) (Q : VK) : V → Hp → Prop := fun x H1 => ∃ a, x = .ref a ∧ IsD H1 a ∧ ty σ H1 fun y H2 => tx σ H2 fun z H3 => rSd a Q y z H3
theorem x_dsetd (h : td σ H (rSd2 ty tx σ Q)) : tDSetd td ty tx σ H Q := h
theorem x_sd2 (hd : H a = some (.dK kvs)) (h : ty σ H fun y H2 => tx σ H2 fun z H3 => rSd a Q y z H3) : rSd2 ty tx σ Q (.ref a) H := ⟨a, rfl, .inl ⟨kvs, .inl hd⟩, h⟩
theorem x_sdI (hd : H a = some (.dK kvs)) (hz : kvs.length ≤ 1000000) (q1 : ∀ v, valV kvs (.inl n) = some v → Q v H) (q0 : valV kvs (.inl n) = none → ∀ H', Upd H a (.dK (putK kvs (.inl n) z)) H' → Q z H') : rSd a Q (.int n) z H := ⟨kvs, .inl n, hd, rfl, szl hz, q1, fun e => q0 e _ .mk0⟩
/-- d[t] = v, of a dict with tuple keys -/
theorem x_putT {v : V} {nx : Hp → Prop} (hd : H a = some (.dT kts)) (hb : H b = some (.tup (k.map kV))) (hz : kts.length ≤ 1000000) (q : ∀ H', Upd H a (.dT (putK kts k v)) H' → nx H') : rDPut v (.ref a) (.ref b) nx H := ⟨a, _, rfl, DPut.t hd hb (szl hz), q _ .mk0⟩
theorem x_dnewT (h : ∀ p H', H p = none → Ex H H' → H' p = some (.dT []) → Q (.ref p) H') : tDNewT σ H Q := fun p hp => h p _ hp (Evl.Ex.new hp) upd_same
end
end B
namespace B
open PySem PySem.Spec PyProof.Rows L2
section
variable {K : PySem.W.Frag} {H : Hp} {Q : VK} {p : Addr} {xs : List V}
theorem x_isLL (h : SqL K H p xs) (q : Q (.bl true) H) : rIsi K [.ref p, .ty "list"] H Q := x_isi_list (.lst h) q
theorem x_isTT (h : SqT K H p xs) (q : Q (.bl true) H) : rIsi K [.ref p, .ty "tuple"] H Q := x_isi_tuple (.tup h) q
end
end B

namespace B
open PySem PySem.Spec PyProof.Rows L2
open PySem.W (Frag)
/-! ### classes and their methods, by their names -/
/-- the class named c -/
structure IsCls (K : Frag) (mg : Str → Option Value) (c : Str) : Prop where
  at_ : mg c = some (.ref (B.at_ mg c))
  cls : Cls K (B.at_ mg c)
  makes : PySem.W.makesIn K (B.at_ mg c) = true
  kp : PySem.W.keepIn K (.ref (B.at_ mg c)) = true
/-- the method m of the class named c keeps the promise -/
def HasM (P : Program) (w : World) (K : Frag) (mg : Str → Option Value) (base : Heap) (c m : Str) (k : Nat) (ps : List Str) (sp : Sp) : Prop :=
  ∃ (f : Addr) (fd : FuncData), FnOk P w K mg base (L2.CX P w) k f fd ps sp ∧ Meth K (B.at_ mg c) m f ∧ Binds K fd ps []
/-- the def st stands as method m of the class c0; the class c has it -/
def StandsM (K : Frag) (mg : Str → Option Value) (c m qual : Str) (st : Stmt) : Prop := ∃ (f : Addr) (fd : FuncData), Fun K m qual st f fd ∧ Meth K (B.at_ mg c) m f
section
variable {P : Program} {w : World} {K : Frag} {mg : Str → Option Value} {base : Heap}
theorem hasM_of {c m qual : Str} {st : Stmt} {N ps : List Str} {k : Nat} {sp : Sp} (S : StandsM K mg c m qual st) (C : FnScope N ps (defScope st))
    (hb : ∀ (kV doc pm : Value) (an : Option Addr) (cdv ct : Value) (us : List Value), us.length = ps.length → bindArgs (PySem.W.fnOf m qual (defArgs st) (defBody st) (defScope st) .none kV doc pm an cdv ct) ⟨us, []⟩ = pure (ps.zip us))
    (len : ∀ vs H Q E, sp vs H Q E → vs.length = ps.length)
    (hbody : ∀ (f : Addr) (cdv : Value) (A : Around) (outer : List Env) (s : Shared) (H : Hp) (vs : List V) (Q : VK) (E : XK), Room k (A.deeper (envOfC qual (defScope st) s.heap.objs.size f cdv)) → sp vs H Q E →
      ∃ t, PSs (cxOf (L2.CX P w) P w K mg base N qual (defScope st) f cdv A outer s H E) (defBody st) t ∧ t { nx := fun _ H' => Q .non H', rt := Q } (start N vs) H) :
    HasM P w K mg base c m (k + 1) ps sp := by
  obtain ⟨f, fd, F, M⟩ := S
  exact ⟨f, fd, F.okX C len fun cdv A outer s H vs Q E hr h => hbody f cdv A outer s H vs Q E hr h, M, F.binds hb⟩
theorem hasM_ofN {c m qual : Str} {st : Stmt} {N ps : List Str} {k : Nat} {sp : Sp} (S : StandsM K mg c m qual st) (C : FnScope N ps (defScope st))
    (hb : ∀ (kV doc pm : Value) (an : Option Addr) (cdv ct : Value) (us : List Value), us.length = ps.length → bindArgs (PySem.W.fnOf m qual (defArgs st) (defBody st) (defScope st) .none kV doc pm an cdv ct) ⟨us, []⟩ = pure (ps.zip us))
    (len : ∀ vs H Q E, sp vs H Q E → vs.length = ps.length)
    (hbody : ∀ (f : Addr) (cdv : Value) (A : Around) (outer : List Env) (s : Shared) (H : Hp) (vs : List V) (Q : VK) (E : XK), Room k (A.deeper (envOfC qual (defScope st) s.heap.objs.size f cdv)) → sp vs H Q E →
      ∃ t, PSs (cxOf (L2.CX P w) P w K mg base N qual (defScope st) f cdv A outer s H E).nox (defBody st) t ∧ t { nx := fun _ H' => Q .non H', rt := Q } (start N vs) H) :
    HasM P w K mg base c m (k + 1) ps sp := hasM_of S C hb len fun f cdv A outer s H vs Q E hr h => by
  obtain ⟨t, ht, q⟩ := hbody f cdv A outer s H vs Q E hr h
  exact ⟨t, ht.nox, q⟩
end
/-! a family of classes: which of them an object is of is told by the heap -/
/-- S c sp: the class named c, its method's promise -/
def FamM (P : Program) (w : World) (K : Frag) (mg : Str → Option Value) (base : Heap) (m : Str) (k : Nat) (ps : List Str) (S : Str → Sp → Prop) : Prop := ∀ c sp, S c sp → IsCls K mg c ∧ HasM P w K mg base c m k ps sp
def rMethF (mg : Str → Option Value) (m : Str) (S : Str → Sp → Prop) (E : L2.St → XK) (t : TA) (σ : L2.St) (Q : VK) : V → Hp → Prop := fun x H1 => ∃ c sp a dx fs, S c sp ∧ x = .ref a ∧ H1 a = some (.ins (B.at_ mg c) dx fs) ∧ fs.lookup m = none ∧ t σ H1 fun vs H2 => sp (x :: vs) H2 Q (E σ)
def tMethF (mg : Str → Option Value) (m : Str) (S : Str → Sp → Prop) (E : L2.St → XK) (ta : TE) (t : TA) : TE := fun σ H Q => ta σ H (rMethF mg m S E t σ Q)
section
variable {X : Cx} {k j : Nat} {m : Str} {ps : List Str} {S : Str → Sp → Prop} {E : L2.St → XK} {p pos apos : Pos} {e o : Expr} {es : List Expr} {ta : TE} {t : TA}
theorem pe_methF {mg0 : Str → Option Value} {pl : Sem Bool} (he : PE X o ta) (A : FamM X.prog X.w X.K X.mg X.base m j ps S) (hr : Room k X.A) (hx : ∀ σ, PassesAt (L2.CX X.prog X.w) X σ (E σ)) (ha : PA X (e :: es) t) (hj : j ≤ k := by decide) (em : X.mg = mg0 := by rfl)
    (hst : starEach (e :: es) X.env = (false, eval e X.env) :: starEach es X.env := by rfl) (hpl : (backTo pos (starEach es X.env)).any (·.1) = false := by rfl)
    (ht : eval (.Call (.Attribute o m apos) (e :: es) [] pos) X.env = (do
      let vv ← eval o X.env
      standAt apos.atName
      let (ff, fst) ← holding [vv] (getMethod vv m pl)
      callWith pos ff fst (backTo pos (starEach (e :: es) X.env)) (backToKw pos (keywordEach [] X.env))) := by rfl) :
    PE X (.Call (.Attribute o m apos) (e :: es) [] pos) (tMethF mg0 m S E ta t) := by
  subst em
  constructor
  intro pins s σ H Q I hh
  refine PySem.W.methodCall_KW (pl := pl) (thn (he.run pins s σ H _ I hh) fun u s1 z => ?_) ht
  obtain ⟨x, H1, I1, rx, c, sp, a, dx, fs, hS, rfl, ea, l, q⟩ := z
  obtain rfl : u = Value.ref a := rx
  obtain ⟨ic, f, fd, F, M, b⟩ := A c sp hS
  refine getmeth_ok I1 ea ic.cls M l ?_
  refine PySem.W.callWith_K (first := [.ref a]) (h₀ := X.base) I.ok.mod.kin M.kp (thn (ha.run pos pins s1 σ H1 _ I1 q) fun us s2 z2 => ?_) hst hpl
  obtain ⟨vs, H2, I2, r, q2⟩ := z2
  exact ⟨I2.kIn, run_fnS (us := .ref a :: us) (vs := .ref a :: vs) F (hr.mono hj) b (hx σ) I2 (.cons rfl r) q2⟩
theorem pe_methF0 {mg0 : Str → Option Value} {pl : Sem Bool} (he : PE X o ta) (A : FamM X.prog X.w X.K X.mg X.base m j ps S) (hr : Room k X.A) (hx : ∀ σ, PassesAt (L2.CX X.prog X.w) X σ (E σ)) (hj : j ≤ k := by decide) (em : X.mg = mg0 := by rfl)
    (ht : eval (.Call (.Attribute o m apos) [] [] pos) X.env = (do
      let vv ← eval o X.env
      standAt apos.atName
      let (ff, fst) ← holding [vv] (getMethod vv m pl)
      callWith pos ff fst (backTo pos (starEach [] X.env)) (backToKw pos (keywordEach [] X.env))) := by rfl) :
    PE X (.Call (.Attribute o m apos) [] [] pos) (tMethF mg0 m S E ta tNil) := by
  subst em
  constructor
  intro pins s σ H Q I hh
  refine PySem.W.methodCall_KW (pl := pl) (thn (he.run pins s σ H _ I hh) fun u s1 z => ?_) ht
  obtain ⟨x, H1, I1, rx, c, sp, a, dx, fs, hS, rfl, ea, l, q⟩ := z
  obtain rfl : u = Value.ref a := rx
  obtain ⟨ic, f, fd, F, M, b⟩ := A c sp hS
  refine getmeth_ok I1 ea ic.cls M l ?_
  exact PySem.W.callWith_K0 (first := [.ref a]) I1.kIn M.kp (run_fnS (us := [.ref a]) (vs := [.ref a]) F (hr.mono hj) b (hx σ) I1 (.cons rfl .nil) q)
end
/-! a new object -/
def rMakeS (mg : Str → Option Value) (c : Str) (sp : Sp) (E : L2.St → XK) (σ : L2.St) (Q : VK) : List V → Hp → Prop := fun vs H1 => ∀ x dx, H1 x = none → H1 dx = none → dx ≠ x → sp (.ref x :: vs) (upd (upd H1 dx (.own x)) x (.ins (B.at_ mg c) dx [])) (fun v H2 => v = .non ∧ Q (.ref x) H2) (E σ)
def tMakeS (mg : Str → Option Value) (c : Str) (sp : Sp) (E : L2.St → XK) (t : TA) : TE := fun σ H Q => t σ H (rMakeS mg c sp E σ Q)
section
variable {X : Cx} {k j : Nat} {c : Str} {ps : List Str} {sp : Sp} {E : L2.St → XK} {p pos : Pos} {e : Expr} {es : List Expr} {t : TA}
theorem pe_makeS {mg0 : Str → Option Value} (ic : IsCls X.K X.mg c) (h : HasM X.prog X.w X.K X.mg X.base c "__init__" j ps sp) (hr : Room k X.A) (hx : ∀ σ, PassesAt (L2.CX X.prog X.w) X σ (E σ)) (ha : PA X (e :: es) t) (hj : j + 1 ≤ k := by decide) (em : X.mg = mg0 := by rfl) (hg : Gl X c := by rfl)
    (hdb : (c == ("__debug__" : Str)) = false := by decide) (he : starEach (e :: es) X.env = (false, eval e X.env) :: starEach es X.env := by rfl) (hpl : (backTo pos (starEach es X.env)).any (·.1) = false := by rfl) :
    PE X (.Call (.Name c p) (e :: es) [] pos) (tMakeS mg0 c sp E t) := by
  subst em
  obtain ⟨f, fd, F, M, b⟩ := h
  constructor
  intro pins s σ H Q I hh
  refine wpAny_Call_Name_kw (ld_glob I hg ic.at_ ?_ hdb)
  refine PySem.W.callWith_K (h₀ := X.base) I.ok.mod.kin ic.kp (thn (ha.run pos pins s σ H _ I hh) fun us s1 z => ?_) he hpl
  obtain ⟨vs, H1, I1, r, q⟩ := z
  refine ⟨I1.kIn, ?_⟩
  have hq := q (s1.heap.objs.size + 1) s1.heap.objs.size (I1.hok.fresh (Nat.le_succ _)) (I1.hok.fresh (Nat.le_refl _)) (Nat.ne_of_lt (Nat.lt_succ_self _))
  have I2 := Inv.made (C := B.at_ X.mg c) I1
  have r2 : Vals (V.ref (s1.heap.objs.size + 1) :: vs) (Value.ref (s1.heap.objs.size + 1) :: us) := .cons rfl r
  have hl : (Value.ref (s1.heap.objs.size + 1) :: us).length = ps.length := by
    rw [← F.len _ _ _ _ hq]
    exact r2.length.symm
  have hb := b _ (Value.ref (s1.heap.objs.size + 1) :: us) I2.kIn (by rw [List.append_nil]; exact hl)
  rw [List.append_nil] at hb
  refine wpAny_call (make_map (f := f) I1.kIn ic.makes M.at_ (beq_iff_eq.mp M.fn) (codeAny_mono (F.run _ X.stack _ _ ⟨Value.ref (s1.heap.objs.size + 1) :: us, []⟩ _ _ _ (E σ) ((hr.mono hj).make (B.at_ X.mg c) us []) (I2.env0.make (B.at_ X.mg c) us []) hb r2 hq) fun res s' hq' => ?_))
  match res, hq' with
  | .error ev, hq' => exact hx σ pins _ _ ev s' I2 hq'
  | .ok (.ret u), hq' =>
    obtain ⟨v, H', I3, rv, ev, q3⟩ := I2.after hq'
    subst ev
    exact ⟨rv, ⟨V.ref (s1.heap.objs.size + 1), H', I3, rfl, q3⟩⟩
  | .ok .next, hq' => exact False.elim hq'
  | .ok .brk, hq' => exact False.elim hq'
  | .ok .cont, hq' => exact False.elim hq'
/-- outside a try: what is raised is handed on -/
theorem pass0At {X : Cx} (σ : L2.St) : PassesAt (L2.CX X.prog X.w) X σ E0 := fun pins H s e s' I c => passL pins σ H s e s' I c
theorem passUAt {X : Cx} {E : XK} (tk : Takes X (fun cls d _ H => E cls d H)) (σ : L2.St) : PassesAt (L2.CX X.prog X.w) X σ E := fun pins H s e s' I c => passU tk pins σ H s e s' I c
end
section
variable {σ : L2.St} {H : Hp} {Q : VK} {mg : Str → Option Value} {c m : Str} {sp : Sp} {E : L2.St → XK} {t : TA} {ta : TE} {S : Str → Sp → Prop} {a dx : Addr} {fs : List (Str × V)} {vs : List V}
theorem x_makeS (h : t σ H (rMakeS mg c sp E σ Q)) : tMakeS mg c sp E t σ H Q := h
/-- the new object's heap -/
structure Born (mg : Str → Option Value) (c : Str) (H : Hp) (x dx : Addr) (H' : Hp) : Prop where
  ex : Ex H H'
  x0 : H x = none
  d0 : H dx = none
  ne : dx ≠ x
  ins : H' x = some (.ins (B.at_ mg c) dx [])
  own : H' dx = some (.own x)
theorem x_make (h : ∀ x dx H', Born mg c H x dx H' → sp (.ref x :: vs) H' (fun v H2 => v = .non ∧ Q (.ref x) H2) (E σ)) : rMakeS mg c sp E σ Q vs H := fun x dx hx hd ne => h x dx _
  { ex := (Evl.Ex.new hd).trans (Evl.Ex.new (by rw [upd_ne (Ne.symm ne)]; exact hx))
    x0 := hx
    d0 := hd
    ne := ne
    ins := upd_same
    own := by rw [upd_ne ne, upd_same] }
theorem x_methF (h : ta σ H (rMethF mg m S E t σ Q)) : tMethF mg m S E ta t σ H Q := h
theorem x_onM (hS : S c sp) (ha : H a = some (.ins (B.at_ mg c) dx fs)) (hl : fs.lookup m = none) (h : t σ H fun vs H2 => sp (.ref a :: vs) H2 Q (E σ)) : rMethF mg m S E t σ Q (.ref a) H := ⟨c, sp, a, dx, fs, hS, rfl, ha, hl, h⟩
end
end B

namespace B
open PySem PySem.Spec PyProof.Rows L2
open PySem.W (Frag)
open LamX (Tabs ExtN CodeO)
/-- an item by an index in its bounds -/
theorem at_mem {xs : List V} {k : Int} (h0 : 0 ≤ k) (h : k < xs.length) : ∃ v, atI xs k = some v ∧ v ∈ xs := by
  obtain ⟨j, rfl⟩ : ∃ j : Nat, k = (j : Nat) := ⟨k.toNat, by omega⟩
  have hj : j < xs.length := by omega
  exact ⟨xs[j], atI_nat (List.getElem?_eq_getElem hj), List.getElem_mem hj⟩
/-- all are ints of a kind -/
theorem ints_of {p : Int → Prop} : ∀ {zs : List V}, (∀ v ∈ zs, ∃ n, v = .int n ∧ p n) → ∃ ns : List Int, zs = ns.map V.int ∧ ∀ n ∈ ns, p n
  | [], _ => ⟨[], rfl, fun n h => nomatch h⟩
  | z :: zs, h => by
    obtain ⟨n, rfl, hn⟩ := h z List.mem_cons_self
    obtain ⟨ns, rfl, hs⟩ := ints_of fun v hv => h v (List.mem_cons_of_mem _ hv)
    refine ⟨n :: ns, rfl, fun m hm => ?_⟩
    rcases List.mem_cons.mp hm with rfl | hm
    · exact hn
    · exact hs m hm
/-! ### a comprehension over a range, by what holds of the heap -/
section
variable {K : Frag} {σ : L2.St} {H : Hp} {Q : VK} {j : Nat} {te : TE} {vs : List Nat}
theorem x_lcRN {lo : Int} {m : Nat} (Iv : Hp → Prop) (Pe : Int → V → Prop) (hz : m ≤ 1000000) (hw : ∀ x, wipe ((wipe σ vs).set j (some x)) vs = wipe σ vs) (h0 : Iv H) (stab : ∀ H' D ys, H D = none → Iv H' → (H' D = none ∨ ∃ xs, H' D = some (.lst xs)) → Iv (upd H' D (.lst ys)))
    (he : ∀ i, lo ≤ i → i < lo + m → ∀ H' D zs, H D = none → H' D = some (.lst zs) → Iv H' → ∀ Q' : VK, (∀ v H2, Pe i v → Iv H2 → H2 D = some (.lst zs) → Q' v H2) → te ((wipe σ vs).set j (some (.int i))) H' Q')
    (q : ∀ D H2 (zs : List V), H D = none → Iv H2 → H2 D = some (.lst zs) → zs.length = m → (∀ (k : Nat) v, zs[k]? = some v → Pe (lo + (k : Nat)) v) → Q (.ref D) H2) :
    LcRun (gName j) tYes te vs σ Q (Itr lo m) H := by
  intro Dl hD
  refine lc_range (fun k H' => Iv H' ∧ ∃ zs : List V, H' Dl = some (.lst zs) ∧ zs.length = k ∧ ∀ (i : Nat) v, zs[i]? = some v → Pe (lo + (i : Nat)) v)
    ⟨stab H Dl [] hD h0 (.inl hD), [], by rw [upd_same], rfl, fun i v h => by simp at h⟩ (fun k H' hk pp => ?_) fun H' pp => ?_
  · obtain ⟨e1, zs, hzs, hlen, hall⟩ := pp
    refine ⟨hw _, ?_⟩
    refine x_true (B := True) ?_
    refine he (lo + (k : Nat)) (by omega) (by omega) H' Dl zs hD hzs e1 _ fun v H2 hv e2 g2 => ?_
    refine ⟨_, g2, by rw [hlen]; exact szl (by omega), stab H2 Dl _ hD e2 (.inr ⟨_, g2⟩), zs ++ [v], by rw [upd_same], by rw [List.length_append, hlen]; rfl, fun i y hi => ?_⟩
    by_cases h : i < zs.length
    · rw [List.getElem?_append_left h] at hi
      exact hall i y hi
    · have h2 := (List.getElem?_eq_some_iff.mp hi).1
      rw [List.length_append, List.length_singleton] at h2
      have h3 : i = zs.length := by omega
      subst h3
      rw [List.getElem?_append_right (Nat.le_refl _), Nat.sub_self] at hi
      cases hi
      rw [hlen]
      exact hv
  · obtain ⟨e1, zs, hzs, hlen, hall⟩ := pp
    exact q Dl H' zs hD e1 hzs hlen hall
end
theorem updOf {H : Hp} {l : Addr} {o : HO} : Upd H l o (upd H l o) := .mk0
/-- tables and what stood -/
def Grown (T : List (Addr × Str)) (H H' : Hp) : Prop := ExtN H H' ∧ Tabs T H'
theorem Grown.refl {T : List (Addr × Str)} {H : Hp} (t : Tabs T H) : Grown T H H := ⟨LamX.ExtN.refl _, t⟩
theorem Grown.trans {T : List (Addr × Str)} {H H' H2 : Hp} (a : Grown T H H') (b : Grown T H' H2) : Grown T H H2 := ⟨LamX.ExtN.trans a.1 b.1, b.2⟩
theorem Grown.ex {T : List (Addr × Str)} {H H' H2 : Hp} (a : Grown T H H') (b : Ex H' H2) : Grown T H H2 := ⟨LamX.ExtN.trans a.1 (ExtN.ex b), LamX.Tabs.ext a.2 b⟩
theorem Grown.updF {T : List (Addr × Str)} {H H' : Hp} {D : Addr} {ys : List V} (a : Grown T H H') (hD : ∃ Hk, ExtN H Hk ∧ Hk D = none) (h : H' D = none ∨ ∃ xs, H' D = some (.lst xs)) : Grown T H (L2.upd H' D (.lst ys)) := by
  refine ⟨B.ExtN.upd a.1 updOf hD, ?_⟩
  rcases h with h | ⟨xs, h⟩
  · exact LamX.Tabs.ext a.2 (Evl.Ex.new h)
  · exact B.Tabs.updL a.2 updOf h
theorem Grown.upd {T : List (Addr × Str)} {H H' : Hp} {D : Addr} {ys : List V} (a : Grown T H H') (hD : H D = none) (h : H' D = none ∨ ∃ xs, H' D = some (.lst xs)) : Grown T H (L2.upd H' D (.lst ys)) := a.updF ⟨H, LamX.ExtN.refl _, hD⟩ h
/-! ### lists of texts compared -/
theorem eqv_strs : ∀ (as bs : List Str), PyData.eqvAll (as.map PyData.str) (bs.map PyData.str) = decide (as = bs)
  | [], [] => by simp [PyData.eqvAll]
  | [], _ :: _ => by simp [PyData.eqvAll]
  | _ :: _, [] => by simp [PyData.eqvAll]
  | a :: as, b :: bs => by
    show (PyData.eqv (.str a) (.str b) && PyData.eqvAll (as.map PyData.str) (bs.map PyData.str)) = _
    rw [eqv_strs as bs]
    by_cases e1 : a = b <;> by_cases e2 : as = bs <;> simp [e1, e2, PyData.eqv]
theorem dp_strs {K : Frag} {H : Hp} : ∀ as : List Str, DpAll K H (as.map V.str) (as.map PyData.str)
  | [] => .nil
  | a :: as => .cons (.str a) (dp_strs as)
theorem can_strs : ∀ as : List Str, (∀ s ∈ as, PyData.strOk s = true) → PyData.canLayAll0 (as.map PyData.str) = true ∧ PyData.depthAll (as.map PyData.str) ≤ 1
  | [], _ => by decide
  | a :: as, ok => by
    obtain ⟨h1, h2⟩ := can_strs as fun s hs => ok s (List.mem_cons_of_mem _ hs)
    have h3 := ok a List.mem_cons_self
    simp_all [PyData.canLayAll0, PyData.canLay0, PyData.depthAll, PyData.depth]
theorem shaped_strs {as : List Str} (ok : ∀ s ∈ as, PyData.strOk s = true) : SeqAt.shaped (.list (as.map PyData.str)) = true := by
  obtain ⟨h1, h2⟩ := can_strs as ok
  simp only [SeqAt.shaped, PyData.canLay0, PyData.depth, h1, Bool.true_and, decide_eq_true_eq]
  exact decide_eq_true (by omega)
section
variable {K : Frag} {H : Hp} {Q : VK} {a b : Addr} {ss ts : List Str}
theorem x_eqS (h1 : SqL K H a (ss.map V.str)) (h2 : SqL K H b (ts.map V.str)) (o1 : ∀ s ∈ ss, PyData.strOk s = true) (o2 : ∀ s ∈ ts, PyData.strOk s = true) (q : Q (.bl (decide (ss = ts))) H) : rEqD K (.ref a) (.ref b) H Q :=
  ⟨_, _, .lst h1 (dp_strs ss), .lst h2 (dp_strs ts), shaped_strs o1, shaped_strs o2, by rw [show PyData.eqv (.list (ss.map PyData.str)) (.list (ts.map PyData.str)) = PyData.eqvAll (ss.map PyData.str) (ts.map PyData.str) from by simp only [PyData.eqv], eqv_strs]; exact q⟩
theorem x_neS (h1 : SqL K H a (ss.map V.str)) (h2 : SqL K H b (ts.map V.str)) (o1 : ∀ s ∈ ss, PyData.strOk s = true) (o2 : ∀ s ∈ ts, PyData.strOk s = true) (q : Q (.bl (!decide (ss = ts))) H) : rNeD K (.ref a) (.ref b) H Q :=
  ⟨_, _, .lst h1 (dp_strs ss), .lst h2 (dp_strs ts), shaped_strs o1, shaped_strs o2, by rw [show PyData.eqv (.list (ss.map PyData.str)) (.list (ts.map PyData.str)) = PyData.eqvAll (ss.map PyData.str) (ts.map PyData.str) from by simp only [PyData.eqv], eqv_strs]; exact q⟩
end
/-! ### sep.join(xs) -/
section
variable {K : Frag} {σ : L2.St} {H : Hp} {Q : VK} {to te : TE} {p : Addr} {a : Str} {ys : List Str}
def rJoin (K : Frag) : V → List V → Hp → VK → Prop := fun x xs H Q => ∃ a p, ∃ ys : List Str, x = .str a ∧ xs = [.ref p] ∧ (SqL K H p (ys.map V.str) ∨ SqT K H p (ys.map V.str)) ∧ (ys.map (·.length)).sum + ys.length * a.length ≤ 16777216 ∧ Q (.str (Txt.join a ys)) H
def rM1 (r : V → List V → Hp → VK → Prop) (te : TE) (σ : L2.St) (Q : VK) : V → Hp → Prop := fun x H1 => (∃ a, x = .str a) ∧ te σ H1 fun y H2 => r x [y] H2 Q
theorem pe_join {X : Cx} {o e : Expr} {apos pos : Pos} (ho : PE X o to) (he : PE X e te) (hs : starEach [e] X.env = [(false, eval e X.env)] := by rfl) (hb : attributeBase o "join" X.env (eval o X.env) = eval o X.env := by rfl) (hl : (apos.endLine == pos.line) = true := by rfl) : PE X (.Call (.Attribute o "join" apos) [e] [] pos) (tM1 (rJoin X.K) to te) := L2.pe_join ho he hs hb hl
theorem x_M1 {r : V → List V → Hp → VK → Prop} (h : to σ H (rM1 r te σ Q)) : tM1 r to te σ H Q := h
theorem x_onS {r : V → List V → Hp → VK → Prop} (h : te σ H fun y H2 => r (.str a) [y] H2 Q) : rM1 r te σ Q (.str a) H := ⟨⟨a, rfl⟩, h⟩
theorem x_joinL (h : SqL K H p (ys.map V.str)) (hz : (ys.map (·.length)).sum + ys.length * a.length ≤ 16777216) (q : Q (.str (Txt.join a ys)) H) : rJoin K (.str a) [.ref p] H Q := ⟨a, p, ys, rfl, rfl, .inl h, hz, q⟩
end
end B

namespace B
open PySem PySem.Spec PyProof.Rows L2
open LamX (Tabs ExtN)
/-! ### range(n) as a value -/
def rRng1 : List V → Hp → VK → Prop := fun vs H Q => ∃ j, vs = [V.int j] ∧ ∀ p, H p = none → Q (.ref p) (L2.upd H p (.rng 0 j))
theorem call_rng1 {X : Cx} : CallR X (.type "range") rRng1 := by
  intro pins s σ H vs us Q I r h
  obtain ⟨j, rfl, q⟩ := h
  obtain ⟨u1, rfl, ri⟩ := vals1 r
  obtain ⟨t, rfl⟩ := ri
  refine call_range_1 ⟨.ref s.heap.objs.size, L2.upd H s.heap.objs.size (.rng 0 j), I.laid (t' := s.toks + 1 + 1) (fun b o e => Heap.get?_push_of_some _ e) (Nat.le_refl _) ?_, rfl, q _ (I.hok.fresh (Nat.le_refl _))⟩
  exact ⟨s.toks, t, s.toks + 1, Heap.get?_push_size _ rfl⟩
theorem x_rng1V {H : Hp} {Q : VK} {j : Int} (q : ∀ p H', H p = none → Evl.Ex H H' → H' p = some (.rng 0 j) → Q (.ref p) H') : rRng1 [.int j] H Q := ⟨j, rfl, fun p hp => q p _ hp (Evl.Ex.new hp) upd_same⟩
/-! ### len(set(xs)) -/
theorem nodup_le' : ∀ {l m : List Int}, l.Nodup → (∀ x ∈ l, x ∈ m) → l.length ≤ m.length
  | [], m, _, _ => Nat.zero_le _
  | a :: l, m, h, s => by
    obtain ⟨h1, h2⟩ := List.nodup_cons.mp h
    have ha := s a List.mem_cons_self
    have := nodup_le' (m := m.erase a) h2 fun x hx => by
      have hne : x ≠ a := fun z => h1 (z ▸ hx)
      exact (List.mem_erase_of_ne hne).mpr (s x (List.mem_cons_of_mem _ hx))
    rw [List.length_erase_of_mem ha] at this
    have := List.length_pos_of_mem ha
    rw [List.length_cons]
    omega
theorem nodup_of_count : ∀ {ns L : List Int}, L.Nodup → (∀ x ∈ L, x ∈ ns) → ns.length ≤ L.length → ns.Nodup
  | [], _, _, _, _ => List.nodup_nil
  | a :: t, L, hL, hs, hl => by
    have key : ∀ {M : List Int}, M.Nodup → (∀ x ∈ M, x ∈ t) → M.length ≤ t.length := fun h s => nodup_le' h s
    rw [List.length_cons] at hl
    by_cases ha : a ∈ L
    · have hE : (L.erase a).Nodup := hL.erase a
      have hm : ∀ x ∈ L.erase a, x ∈ t := fun x hx => by
        have h2 := (List.Nodup.mem_erase_iff hL).mp hx
        rcases List.mem_cons.mp (hs x h2.2) with z | z
        · exact absurd z h2.1
        · exact z
      have hlen := List.length_erase_of_mem ha
      refine List.nodup_cons.mpr ⟨fun at_ => ?_, nodup_of_count hE hm (by omega)⟩
      have := key hL fun x hx => by
        rcases List.mem_cons.mp (hs x hx) with z | z
        · rw [z]; exact at_
        · exact z
      omega
    · have := key hL fun x hx => by
        rcases List.mem_cons.mp (hs x hx) with z | z
        · rw [z] at hx; exact absurd hx ha
        · exact z
      omega
theorem step_nodup {l : List Int} {v : Int} (h : l.Nodup) : (step_dedup l v).Nodup := by
  unfold step_dedup
  split
  · exact h
  · next c =>
    refine List.nodup_append.mpr ⟨h, List.nodup_cons.mpr ⟨nofun, List.nodup_nil⟩, fun a ha b hb => ?_⟩
    rw [List.mem_singleton.mp hb]
    intro z
    subst z
    exact c (List.any_eq_true.mpr ⟨a, ha, beq_self_eq_true a⟩)
theorem met_nodup (val : Nat → Int) : ∀ i, (firstMet val i).Nodup
  | 0 => List.nodup_nil
  | i + 1 => by
    rw [firstMet_succ]
    exact step_nodup (met_nodup val i)
theorem met_mem (ns : List Int) : ∀ i, i ≤ ns.length → ∀ x ∈ firstMet (fun i => ns.getD i 0) i, x ∈ ns
  | 0, _, x, h => by cases h
  | i + 1, hi, x, h => by
    rw [firstMet_succ] at h
    unfold step_dedup at h
    split at h
    · exact met_mem ns i (by omega) x h
    · rcases List.mem_append.mp h with h | h
      · exact met_mem ns i (by omega) x h
      · rw [List.mem_singleton.mp h, List.getD_eq_getElem?_getD, List.getElem?_eq_getElem (by omega : i < ns.length)]
        exact List.getElem_mem _
theorem met_count (ns : List Int) : (firstMet (fun i => ns.getD i 0) ns.length).length = ns.length ↔ ns.Nodup := by
  constructor
  · intro h
    exact nodup_of_count (met_nodup _ _) (met_mem ns _ (Nat.le_refl _)) (by omega)
  · intro h
    have le := firstMet_length_le (fun i => ns.getD i 0) ns.length
    have ge := nodup_le' (m := firstMet (fun i => ns.getD i 0) ns.length) h fun x hx => by
      have e := firstMet_any (fun i => ns.getD i 0) ns.length x
      have t : ((List.range ns.length).map fun i => ns.getD i 0).any (· == x) = true := by
        obtain ⟨i, hi, rfl⟩ := List.getElem_of_mem hx
        refine List.any_eq_true.mpr ⟨ns[i], List.mem_map.mpr ⟨i, List.mem_range.mpr hi, ?_⟩, beq_self_eq_true _⟩
        rw [List.getD_eq_getElem?_getD, List.getElem?_eq_getElem hi]
        rfl
      rw [t] at e
      obtain ⟨y, hy, ey⟩ := List.any_eq_true.mp e
      rw [← eq_of_beq ey]
      exact hy
    omega
def tLenSetQ (K : PySem.W.Frag) (ta : TE) : TE := fun σ H Q => ta σ H fun x H1 => ∃ (l : Addr) (ns : List Int), x = .ref l ∧ Sq K H1 l (ns.map V.int) ∧ ns.length ≤ 4000 ∧ ∀ m : Nat, (m = ns.length ↔ ns.Nodup) → m ≤ ns.length → Q (.int (m : Nat)) H1
theorem pe_lenSetQ {X : Cx} {a : Expr} {ta : TE} {p p2 q pos : Pos} (hc : X.calm = true) (hg : Gl X "len") (hm : X.mg "len" = none) (hg2 : Gl X "set") (hm2 : X.mg "set" = none) (ha : PE X a ta)
    (na : starEach [a] X.env = (false, eval a X.env) :: starEach [] X.env := by rfl) : PE X (.Call (.Name "len" p) [.Call (.Name "set" p2) [a] [] q] [] pos) (tLenSetQ X.K ta) := by
  refine ⟨fun pins s σ H Q I h => ?_⟩
  refine Call_ (ld_blt I hg hm PySem.boot_len ?_)
  refine PyProof.Rows.callWith_builtin1 (PyProof.Rows.args_cons ?_ rfl) rfl rfl
  refine Call_ (ld_blt I hg2 hm2 PyProof.Rows.boot_set ?_)
  refine PyProof.Rows.callWith_type1 (PyProof.Rows.args_cons (thn (ha.run pins s σ H _ I h) fun v s1 ⟨x, H1, I1, r1, q1⟩ => PyProof.Rows.args_nil ?_) na) na rfl
  obtain ⟨l, ns, rfl, hq, h1, q1⟩ := q1
  cases r1
  rcases hq with hq | hq
  · obtain ⟨its, r, pl, hz⟩ := I1.list hq
    have hl : its.toArray.size = ns.length := by rw [List.size_toArray, ← r.length, List.length_map]
    refine call_set_list (I1.ok.hd hc) pl.isList (ns := ns) (by simpa using r.ints) (by unfold scanBound; omega) fun h' tk hS hk => ?_
    rw [hl] at hS
    refine PyProof.Rows.args_nil ?_
    obtain ⟨o, es, ep, t, ho, hex, hd, _, _, _, hf, hn⟩ := hS
    have I2 : Inv X pins σ H1 { s1 with heap := h', toks := tk } := I1.kept fun b o e => hk b o (Heap.lt_size e) e
    have le := firstMet_length_le (fun i => ns.getD i 0) ns.length
    refine call_len_set ho hex hd hf (by rw [hn] <;> omega) ⟨.int es.size, H1, I2.tok _, ⟨_, rfl⟩, q1 _ (by rw [hn]; exact met_count ns) (by rw [hn]; exact le)⟩
  · obtain ⟨its, r, pt, hz⟩ := I1.tuple hq
    refine call_set_tupI ns (I1.ok.hd hc) (show s1.heap.IsTuple l its.toArray from pt) (by simpa using r.ints) (by unfold scanBound; omega) fun h' tk c R1 hcn k => ?_
    refine PyProof.Rows.args_nil ?_
    obtain ⟨o, es, ep, t, ho, hex, hd, g, nd, hm2, hb, hf, hn, hr, hl2⟩ := R1
    have I2 : Inv X pins σ H1 { s1 with heap := h', toks := tk } := I1.kept fun b o e => k b o e
    have mem : ∀ x, x ∈ es.toList.map keyOf ↔ x ∈ ns := fun x => (hm2 x).symm.trans (by simp)
    have len : (es.toList.map keyOf).length = c := by rw [List.length_map, Array.length_toList, hn]
    refine call_len_set ho hex hd hf (by rw [hn] <;> omega) ⟨.int es.size, H1, I2.tok _, ⟨_, rfl⟩, q1 _ ?_ (by omega)⟩
    rw [hn]
    constructor
    · intro e
      exact nodup_of_count nd (fun x hx => (mem x).mp hx) (by omega)
    · intro hnd
      have := nodup_le' hnd fun x hx => (mem x).mpr hx
      omega
theorem x_lenSetQ {K : PySem.W.Frag} {ta : TE} {σ : L2.St} {H : Hp} {Q : VK} (h : ta σ H fun x H1 => ∃ (l : Addr) (ns : List Int), x = .ref l ∧ Sq K H1 l (ns.map V.int) ∧ ns.length ≤ 4000 ∧ ∀ m : Nat, (m = ns.length ↔ ns.Nodup) → m ≤ ns.length → Q (.int (m : Nat)) H1) : tLenSetQ K ta σ H Q := h
end B

namespace B
open PySem PySem.Spec PyProof.Rows L2
open PySem.W (Frag)
/-! ### xs += ys, of a name -/
theorem ip_ext {X : Cx} : PIp X .Add L2.rExt2 := fun pins s σ H x y v u Q I r1 r2 h => iop_ext pins s σ H x y v u Q I r1 r2 h
theorem x_ext {H : Hp} {Q : VK} {l b : Addr} {xs zs : List V} (h1 : H l = some (.lst xs)) (h2 : H b = some (.lst zs)) (hz : xs.length + zs.length ≤ 1000000) (q : ∀ H', Upd H l (.lst (xs ++ zs)) H' → Q (.ref l) H') : rExt2 (.ref l) (.ref b) H Q :=
  ⟨l, b, xs, zs, rfl, rfl, h1, h2, sz hz, q _ .mk0⟩
/-! ### dict(zip(xs, range(a, b))) -/
section
variable {prog : Program} {w : World} {A : Around} {E : Value → Shared → Prop} {s : Shared}
/-- what a range draws -/
theorem rng_draws (hh : A.handled = none) (it : Addr) (a : Int) (n : Nat) : Draws prog w A it [it] n (fun i v => ∃ t, v = .int (a + (i : Nat)) t) (fun i h => IsRangeIter h it (a + (i : Nat)) ((n : Int) - (i : Nat)) 1) where
  live := fun i h st => ⟨_, st⟩
  frame := fun i h h' st hk => hk it (by simp) _ st
  item := fun i s Q E hi st hQ => by
    unfold Builtin.SmallTypes.nextOf
    refine wpAny_bind (CpRep.range_item st (by omega) fun h' hit hs => wpAny_pure ?_)
    refine hQ _ h' _ ⟨_, rfl⟩ ?_ hs
    have e1 : a + (i : Nat) + 1 = a + ((i + 1 : Nat) : Int) := by omega
    have e2 : (n : Int) - (i : Nat) - 1 = (n : Int) - ((i + 1 : Nat) : Int) := by omega
    rw [← e1, ← e2]
    exact hit
  done := fun s Q E st hE => by
    unfold Builtin.SmallTypes.nextOf
    refine wpAny_bind (CpRep.range_end hh st (by omega) fun e h' he hx => ?_)
    obtain ⟨a, o, fs, rfl, h1, h2, _⟩ := he
    exact hE h' a hx ⟨_, h1, h2⟩
/-- the next item of a zip whose last tuple is still out -/
theorem heldD_item {z TI TO T i1 i2 : Addr} {f : Bool} {oT : Obj} {fp1 fp2 : List Addr} {n1 n2 i : Nat} {P1 P2 : Nat → Value → Prop} {St1 St2 : Nat → Heap → Prop} {Q : Option Value → Shared → Prop} (S : ZipSep2 z TI TO i1 i2 fp1 fp2)
    (D1 : Draws prog w A.in1 i1 fp1 n1 P1 St1) (D2 : Draws prog w A.in1 i2 fp2 n2 P2 St2) (zs : IsZipHeld s.heap z TI TO T f) (tt : s.heap.get? T = some oT) (ti : IsPair s.heap TI (.ref i1) (.ref i2)) (s1 : St1 i s.heap) (s2 : St2 i s.heap) (l1 : i < n1) (l2 : i < n2)
    (hQ : ∀ x y h' tk, P1 i x → P2 i y → IsZipHeld h' z TI TO T true → St1 (i + 1) h' → St2 (i + 1) h' → IsPair h' s.heap.objs.size x y → (∀ c o, c ≠ z → c ≠ i1 → c ≠ i2 → s.heap.get? c = some o → h'.get? c = some o) → Q (some (.ref s.heap.objs.size)) { s with heap := h', toks := tk }) :
    wpAny (model prog w) A (pyNext (.ref z)) Q E s := by
  have ty : s.TypeIs (.ref z) "zip" := ⟨_, zs, rfl⟩
  unfold pyNext
  refine wpAny_bind (wpAny_attempt (wpAny_callSpecial?_slot (name := Str.ofString "__next__") ty F.slot_zip_next (wpAny_call_entry F.slot_zip_next ty F.entry_zip_next ?_ (F.args_zip_next_1 _))))
  obtain ⟨hp, g, d, tk0, os⟩ := s
  show wpAny _ _ (field (.ref z) 2 >>= _) _ _ _; refine wpAny_bind (wpAny_field zs rfl (x := .bool false) rfl ?_)
  show wpAny _ _ (field (.ref z) 3 >>= _) _ _ _; refine wpAny_bind (wpAny_field zs rfl (x := .ref TI) rfl ?_)
  refine wpAny_bind (wpAny_seqItems ti rfl ?_); show wpAny _ _ (Builtin.SmallTypes.ownedTupleIsFree (.ref z) >>= _) _ _ _
  refine wpAny_bind (wpAny_tupleHeld_zip zs tt fun ha za ka => ?_)
  replace ka : Heap.SameBut z hp ha := ka
  simp only [Bool.false_eq_true, if_false]; refine wpAny_bind ?_; rw [← Array.forIn_toList]
  simp only [List.forIn_cons, List.forIn_nil]; refine wpAny_bind (wpAny_bind (wpAny_holding ?_)); show wpAny _ _ (Builtin.SmallTypes.nextOf (.ref i1) >>= _) _ _ ⟨ha, g, d, tk0, os⟩
  refine wpAny_bind (D1.item i _ _ _ l1 (D1.over s1 ka S.zf1) fun x hb tk1 px sb kb => wpAny_pure (wpAny_pure ?_))
  replace kb : Heap.SameBut i1 ha hb := kb
  refine wpAny_bind (wpAny_bind (wpAny_holding ?_)); show wpAny _ _ (Builtin.SmallTypes.nextOf (.ref i2) >>= _) _ _ ⟨hb, g, d, tk1, os⟩
  refine wpAny_bind (D2.item i _ _ _ l2 (D2.over (D2.over s2 ka S.zf2) kb S.sep1_2) fun y hc tk2 py sc kc => wpAny_pure (wpAny_pure (wpAny_pure ?_)))
  replace kc : Heap.SameBut i2 hb hc := kc
  show wpAny _ _ (newTuple [x, y] >>= _) _ _ _; refine wpAny_bind (wpAny_newTuple ?_)
  have sz : hc.objs.size = hp.objs.size := by rw [kc.1, kb.1, ka.1]
  have zc : IsZipHeld hc z TI TO T true := kc.extBut _ _ S.zi2 (kb.extBut _ _ S.zi1 za)
  have up : ∀ c o, c ≠ z → c ≠ i1 → c ≠ i2 → hp.get? c = some o → hc.get? c = some o := fun c o c1 c2 c3 e => kc.extBut _ _ c3 (kb.extBut _ _ c2 (ka.extBut _ _ c1 e))
  refine wpAny_pure ⟨_, rfl, wpAny_pure ?_⟩
  have pr : IsPair (hc.push { cls := .type "tuple", data := .seq #[x, y] }) hc.objs.size x y := Heap.get?_push_size _ rfl
  rw [sz] at pr
  show Q (some (.ref hc.objs.size)) _
  rw [sz]
  exact hQ x y _ tk2 px py (Heap.get?_push_of_some _ zc) (D1.frame _ _ _ (D1.over sb kc S.sep2_1) fun b _ o e => Heap.get?_push_of_some _ e) (D2.frame _ _ _ sc fun b _ o e => Heap.get?_push_of_some _ e) pr fun c o c1 c2 c3 e => Heap.get?_push_of_some _ (up c o c1 c2 c3 e)
/-- its end -/
theorem heldD_end {z TI TO T i1 i2 : Addr} {f : Bool} {oT : Obj} {fp1 fp2 : List Addr} {n1 : Nat} {P1 : Nat → Value → Prop} {St1 : Nat → Heap → Prop} {Q : Option Value → Shared → Prop} (S : ZipSep2 z TI TO i1 i2 fp1 fp2)
    (D1 : Draws prog w A.in1 i1 fp1 n1 P1 St1) (zs : IsZipHeld s.heap z TI TO T f) (tt : s.heap.get? T = some oT) (ti : IsPair s.heap TI (.ref i1) (.ref i2)) (s1 : St1 n1 s.heap)
    (hQ : ∀ h', (∀ c o, c ≠ z → c ≠ i1 → c ≠ i2 → s.heap.get? c = some o → h'.get? c = some o) → Q none { s with heap := h' }) :
    wpAny (model prog w) A (pyNext (.ref z)) Q E s := by
  have ty : s.TypeIs (.ref z) "zip" := ⟨_, zs, rfl⟩
  unfold pyNext
  refine wpAny_bind (wpAny_attempt (wpAny_callSpecial?_slot (name := Str.ofString "__next__") ty F.slot_zip_next (wpAny_call_entry F.slot_zip_next ty F.entry_zip_next ?_ (F.args_zip_next_1 _))))
  obtain ⟨hp, g, d, tk0, os⟩ := s
  show wpAny _ _ (field (.ref z) 2 >>= _) _ _ _; refine wpAny_bind (wpAny_field zs rfl (x := .bool false) rfl ?_)
  show wpAny _ _ (field (.ref z) 3 >>= _) _ _ _; refine wpAny_bind (wpAny_field zs rfl (x := .ref TI) rfl ?_)
  refine wpAny_bind (wpAny_seqItems ti rfl ?_); show wpAny _ _ (Builtin.SmallTypes.ownedTupleIsFree (.ref z) >>= _) _ _ _
  refine wpAny_bind (wpAny_tupleHeld_zip zs tt fun ha za ka => ?_)
  replace ka : Heap.SameBut z hp ha := ka
  simp only [Bool.false_eq_true, if_false]; refine wpAny_bind ?_; rw [← Array.forIn_toList]
  simp only [List.forIn_cons, List.forIn_nil]; refine wpAny_bind (wpAny_bind (wpAny_holding ?_)); show wpAny _ _ (Builtin.SmallTypes.nextOf (.ref i1) >>= _) _ _ ⟨ha, g, d, tk0, os⟩
  refine wpAny_bind (D1.done ⟨ha, g, d, tk0, os⟩ _ _ (D1.over s1 ka S.zf1) fun q e hq he => ?_)
  obtain ⟨oe, hoe, hce⟩ := he
  refine wpAny_bind (wpAny_isInstance (T := "StopIteration") (b := true) ⟨oe, hoe, hce⟩ isSubtype_stop (wpAny_pure (hQ q fun c o c1 c2 _ e => ?_)))
  exact hq _ _ c2 (ka.extBut _ _ c1 e)
theorem sep_new (m l : Nat) (h : l < m) : ZipSep2 (m + 4 : Nat) (m + 2 : Nat) (m + 3 : Nat) m (m + 1 : Nat) [m, l] [(m + 1 : Nat)] where
  TIz := Nat.ne_of_lt (by omega)
  TOz := Nat.ne_of_lt (by omega)
  TITO := Nat.ne_of_lt (by omega)
  TIi1 := Nat.ne_of_gt (by omega)
  mem1 := List.mem_cons_self
  zf1 := fun x => by
    have x : (m + 4 : Nat) = m ∨ (m + 4 : Nat) = l := by simpa using x
    omega
  Tf1 := fun x => by
    have x : (m + 3 : Nat) = m ∨ (m + 3 : Nat) = l := by simpa using x
    omega
  TIi2 := Nat.ne_of_gt (by omega)
  mem2 := List.mem_cons_self
  zf2 := fun x => by
    have x : (m + 4 : Nat) = m + 1 := by simpa using x
    omega
  Tf2 := fun x => by
    have x : (m + 3 : Nat) = m + 1 := by simpa using x
    omega
  sep1_2 := fun x => by
    have x : (m : Nat) = m + 1 := by simpa using x
    omega
  sep2_1 := fun x => by
    have x : (m + 1 : Nat) = m ∨ (m + 1 : Nat) = l := by simpa using x
    omega
/-- zip over a list and a range, as dict()'s argument -/
theorem zipR_arg (z TI TO i1 i2 l : Addr) (S : ZipSep2 z TI TO i1 i2 [i1, l] [i2]) (hl : l ≠ i1) (xs : Array Value) (a : Int) :
    PairArg prog w "zip" z [z, TI, TO, i1, i2, l] [z, TO, i1, i2] xs.size (fun i k v => xs[i]? = some k ∧ ∃ t, v = .int (a + (i : Nat)) t)
      (fun h => IsZip h z TI TO .none ∧ IsPair h TI (.ref i1) (.ref i2) ∧ (∃ u v, IsPair h TO u v) ∧ (h.IsListIter i1 l 0 ∧ h.IsList l xs) ∧ IsRangeIter h i2 (a + ((0 : Nat) : Int)) ((xs.size : Int) - ((0 : Nat) : Int)) 1) where
  type := fun sh ok => ⟨_, ok.1, rfl⟩
  notDict := by decide
  keep := fun h h' ok hk => by
    obtain ⟨h1, h2, ⟨u, v, h3⟩, ⟨h4, h5⟩, h6⟩ := ok
    exact ⟨hk _ _ h1, hk _ _ h2, ⟨u, v, hk _ _ h3⟩, ⟨h4.at fun o e => hk _ o e, h5.at fun o e => hk _ o e⟩, hk _ _ h6⟩
  there := fun h ok b hb => by
    obtain ⟨h1, h2, ⟨u, v, h3⟩, ⟨⟨o4, h4, _⟩, ⟨o5, h5, _⟩⟩, h6⟩ := ok
    simp only [List.mem_cons, List.not_mem_nil, or_false] at hb
    rcases hb with rfl | rfl | rfl | rfl | rfl | rfl
    · exact ⟨_, h1⟩
    · exact ⟨_, h2⟩
    · exact ⟨_, h3⟩
    · exact ⟨_, h4⟩
    · exact ⟨_, h6⟩
    · exact ⟨_, h5⟩
  sub := fun b hb => by
    simp only [List.mem_cons, List.not_mem_nil, or_false] at hb ⊢
    rcases hb with rfl | rfl | rfl | rfl <;> simp
  noKeys := fun Ar sh Q E hn ok k => getAttrOr_miss_zip ok.1 rfl rfl rfl zip_no_keys (by decide +kernel) hn k
  iter := fun Ar sh d Q E hn ok hd hdf k => by
    obtain ⟨h1, h2, ⟨u, v, h3⟩, h4, h6⟩ := ok
    simp only [List.mem_cons, List.not_mem_nil, or_false, not_or] at hdf
    obtain ⟨dz, dTI, dTO, di1, di2, dl⟩ := hdf
    have D1 := Draws.list (prog := prog) (w := w) (A := Ar.in1) hn i1 l hl xs
    have D2 := rng_draws (prog := prog) (w := w) (A := Ar.in1) hn i2 a xs.size
    refine wpAny_pyIter_zip h1 (k z [z, TO, i1, i2] (fun i h => IsPair h TI (.ref i1) (.ref i2) ∧ (h.IsListIter i1 l i ∧ h.IsList l xs) ∧ IsRangeIter h i2 (a + (i : Nat)) ((xs.size : Int) - (i : Nat)) 1 ∧
      ((IsZip h z TI TO .none ∧ ∃ u v, IsPair h TO u v) ∨ ∃ T f oT, IsZipHeld h z TI TO T f ∧ h.get? T = some oT ∧ T ≠ z ∧ T ≠ i1 ∧ T ≠ i2 ∧ T ≠ d)) sh.heap sh.toks ?_
      ⟨h2, h4, h6, .inl ⟨h1, u, v, h3⟩⟩ (fun _ _ e => e) fun b hb => .inl hb)
    exact {
      off := fun hm => by
        simp only [List.mem_cons, List.not_mem_nil, or_false] at hm
        rcases hm with e | e | e | e
        · exact dz e
        · exact dTO e
        · exact di1 e
        · exact di2 e
      frame := fun i ha hb st hk => by
        obtain ⟨g2, ⟨g4, g5⟩, g6, gz⟩ := st
        refine ⟨hk _ _ (Ne.symm dTI) g2, ⟨g4.at fun o e => hk _ o (Ne.symm di1) e, g5.at fun o e => hk _ o (Ne.symm dl) e⟩, hk _ _ (Ne.symm di2) g6, ?_⟩
        rcases gz with ⟨gz, u, v, gO⟩ | ⟨T, f, oT, gz, gT, r1, r2, r3, r4⟩
        · exact .inl ⟨hk _ _ (Ne.symm dz) gz, u, v, hk _ _ (Ne.symm dTO) gO⟩
        · exact .inr ⟨T, f, oT, hk _ _ (Ne.symm dz) gz, hk _ _ r4 gT, r1, r2, r3, r4⟩
      item := fun i s1 Q1 E1 hi st hds hQ => by
        obtain ⟨g2, g45, g6, gz⟩ := st
        have lt : ∀ {c o}, s1.heap.get? c = some o → s1.heap.objs.size ≠ c := fun e => Nat.ne_of_gt (Heap.lt_size e)
        have n1 : s1.heap.objs.size ≠ i1 := let ⟨_, e, _⟩ := g45.1; lt e
        have n2 : s1.heap.objs.size ≠ i2 := lt g6
        rcases gz with ⟨gz, u, v, gO⟩ | ⟨T, f, oT, gz, gT, r1, r2, r3, r4⟩
        · refine wpAny_pyNext_zipD2_item S D1 D2 gz g2 gO g45 g6 hi hi fun x y h' tk px py b1 _ b3 b4 b5 _ hk => ?_
          exact hQ s1.heap.objs.size _ _ h' tk ⟨px, py⟩ (.inl ⟨_, b5, rfl, _, rfl⟩) ⟨hk _ _ S.TIz S.TITO S.TIi1 S.TIi2 g2, b3, b4, .inr ⟨s1.heap.objs.size, false, _, b1, b5, lt gz, n1, n2, Nat.ne_of_gt hds⟩⟩
            fun c o hc e => hk c o (fun x => hc (by simp [x])) (fun x => hc (by simp [x])) (fun x => hc (by simp [x])) (fun x => hc (by simp [x])) e
        · refine heldD_item S D1 D2 gz gT g2 g45 g6 hi hi fun x y h' tk px py b1 b3 b4 b5 hk => ?_
          exact hQ s1.heap.objs.size _ _ h' tk ⟨px, py⟩ (.inl ⟨_, b5, rfl, _, rfl⟩) ⟨hk _ _ S.TIz S.TIi1 S.TIi2 g2, b3, b4, .inr ⟨T, true, oT, b1, hk _ _ r1 r2 r3 gT, r1, r2, r3, r4⟩⟩
            fun c o hc e => hk c o (fun x => hc (by simp [x])) (fun x => hc (by simp [x])) (fun x => hc (by simp [x])) e
      done := fun s1 Q1 E1 st hQ => by
        obtain ⟨g2, g45, g6, gz⟩ := st
        rcases gz with ⟨gz, u, v, gO⟩ | ⟨T, f, oT, gz, gT, r1, r2, r3, r4⟩
        · refine wpAny_pyNext_zipD2_end S D1 D2 gz g2 gO g45 g6 (Nat.le_refl _) (Nat.le_refl _) (.inl rfl) fun h' tk hk => hQ h' tk fun c o hc e => ?_
          exact hk c o (fun x => hc (by simp [x])) (fun x => hc (by simp [x])) (fun x => hc (by simp [x])) (fun x => hc (by simp [x])) e
        · refine heldD_end S D1 gz gT g2 g45 fun h' hk => hQ h' s1.toks fun c o hc e => ?_
          exact hk c o (fun x => hc (by simp [x])) (fun x => hc (by simp [x])) (fun x => hc (by simp [x])) e }
/-- how a range begins -/
theorem begins_rng (r : Addr) {a b : Int} {t u v : Tok} (h : Builtin.Range.small a b 1 = true) : Begins (.ref r) { cls := .type "range_iterator", data := .fields #[rawInt a, rawInt (Builtin.Range.rangeSize a b 1), rawInt 1] } fun h => IsRange h r a b 1 t u v where
  iter := fun p w A E s Q hr k => wpAny_pyIter_range hr h k
  keeps := fun h h' x hk => hk _ _ x
  free := rfl
end
/-- ks with the numbers from a on -/
def numbered (a : Int) (ks : List Int) : List (Key × V) := ks.zipIdx.map fun p => (.inl p.1, .int (a + ((p.2 : Nat) : Int)))
theorem numbered_at (a : Int) (ks : List Int) (i : Nat) : (numbered a ks)[i]? = ks[i]?.map fun k => (Sum.inl k, V.int (a + (i : Nat))) := by
  unfold numbered
  rw [List.getElem?_map, List.getElem?_zipIdx]
  cases ks[i]? with
  | none => rfl
  | some k => simp
theorem mergeK_take (kvs : List (Key × V)) (i : Nat) (kv : Key × V) (h : kvs[i]? = some kv) : mergeK [] (kvs.take (i + 1)) = putK (mergeK [] (kvs.take i)) kv.1 kv.2 := by
  unfold mergeK
  rw [take_snoc h, List.foldl_append]
  rfl
def tDictZip (K : Frag) (te : TE) (tg : L2.St → Hp → (Int → Int → Hp → Prop) → Prop) : TE := fun σ H Q => te σ H fun x H1 => tg σ H1 fun a b H2 => ∃ (l : Addr) (ks : List Int), x = .ref l ∧ SqL K H2 l (ks.map V.int) ∧ RgOk a b ∧ (b - a).toNat = ks.length ∧ ks.length ≤ 1000000 ∧
  ∀ d, H2 d = none → Q (.ref d) (upd H2 d (.dK (mergeK [] (numbered a ks))))
theorem pe_dictZip {X : Cx} {e er : Expr} {te : TE} {tg : L2.St → Hp → (Int → Int → Hp → Prop) → Prop} {p p2 p3 pos : Pos} (hc : X.calm = true) (hg : Gl X "dict") (hm : X.mg "dict" = none) (hg2 : Gl X "zip") (hm2 : X.mg "zip" = none) (he : PE X e te) (hr : PRg X er tg)
    (na : starEach [e, er] X.env = (false, eval e X.env) :: starEach [er] X.env := by rfl) (nb : starEach [er] X.env = (false, eval er X.env) :: starEach [] X.env := by rfl) (hp : (backTo p3 (starEach [er] X.env)).any (·.1) = false := by rfl) :
    PE X (.Call (.Name "dict" p) [.Call (.Name "zip" p2) [e, er] [] p3] [] pos) (tDictZip X.K te tg) := by
  refine ⟨fun pins s σ H Q I h => ?_⟩
  refine Call_ (ld_blt I hg hm PyProof.Rows.boot_dict ?_)
  refine PyProof.Rows.callWith_type1 (PyProof.Rows.args_cons ?_ rfl) rfl rfl
  refine Call_ (ld_blt I hg2 hm2 PyProof.Rows.boot_zip ?_)
  refine PyProof.Rows.callWith_type1 (PyProof.Rows.args_cons (thn (he.run pins s σ H _ I h) fun v s1 ⟨x, H1, I1, r1, q1⟩ => PyProof.Rows.args_cons (thn (hr pins s1 σ H1 _ I1 q1) fun u s2 ⟨r, a, b, t, t', t'', H2, eu, hrng, I2, q2⟩ => PyProof.Rows.args_nil ?_) nb) na) na hp
  obtain ⟨l, ks, rfl, hl, ⟨b1, b2, b3, b4, b5⟩, hn, hz, q⟩ := q2
  cases r1
  subst eu
  obtain ⟨its, rv, pl, hsz⟩ := I2.list hl
  have len : its.toArray.size = ks.length := by rw [List.size_toArray, ← rv.length, List.length_map]
  have rs : Builtin.Range.rangeSize a b 1 = (its.toArray.size : Int) := by rw [rangeSize_nat a b, hn, len]
  refine zip_begins2 (begins_list l its.toArray) (begins_rng r (small_one b1 b2 b3 b4)) pl.isList hrng fun h' z1 z2 z3 z4 z5 z6 zk => ?_
  have I3 : Inv X pins σ H2 { s2 with heap := h' } := I2.kept fun b o e => zk b o e
  refine PyProof.Rows.args_nil ?_
  obtain ⟨ol, hol, clo, n0, dol⟩ := pl.isList
  have llt : l < s2.heap.objs.size := Heap.lt_size hol
  have S : ZipSep2 (s2.heap.objs.size + 4) (s2.heap.objs.size + 2) (s2.heap.objs.size + 3) s2.heap.objs.size (s2.heap.objs.size + 1) [s2.heap.objs.size, l] [s2.heap.objs.size + 1] := by
    exact sep_new _ _ llt
  have P := zipR_arg (prog := X.prog) (w := X.w) _ _ _ _ _ l S (Nat.ne_of_lt llt) its.toArray a
  have hnum : (numbered a ks).length = its.toArray.size := by unfold numbered; rw [List.length_map, List.length_zipIdx, len]
  refine call_dict_arg P ⟨z1, z2, ⟨_, _, z3⟩, ⟨⟨_, z4, rfl, rfl⟩, ⟨ol, zk _ _ hol, clo, n0, dol⟩⟩, by rw [rs] at z5; show h'.get? _ = _; rw [z5]; simp⟩ fun s3 e3 hdf ok3 => ?_
  subst e3
  have hh : X.A.handled = none := I.ok.hd hc
  refine updateFrom_arg (A := X.A.in1) (Tab := fun i g => ∃ rs : List (Key × Value), KV (mergeK [] ((numbered a ks).take i)) rs ∧ g.DictOf (mixKind X.prog X.w) h'.objs.size rs) P .none hh ok3 hdf ⟨[], .nil, Heap.DictOf.new h'⟩
    (fun i g ⟨rs, _, tb⟩ => tb.lt_size) (fun i g g' wr' hd _ ⟨rs, r, tb⟩ hk => ⟨rs, r, tb.at' fun o e => hk _ o hd e⟩) ?_ ?_
  · rintro i k v s' Q' E' hi ⟨hk, t2, hv⟩ ⟨rs, rel, tb⟩ _ hQ
    obtain ⟨n, hkn⟩ : ∃ n, ks[i]? = some n := ⟨_, List.getElem?_eq_getElem (by omega)⟩
    obtain ⟨u, hu, ru⟩ := rv.get (i := i) (x := .int n) (by rw [List.getElem?_map, hkn]; rfl)
    have eu : k = u := by
      have : its[i]? = some k := by simpa using hk
      rw [hu] at this
      exact (Option.some.inj this).symm
    subst eu
    have lm : (mergeK [] ((numbered a ks).take i)).length ≤ sizeLine := by
      have h1 := length_mergeK ((numbered a ks).take i) []
      rw [List.length_nil, List.length_take] at h1
      rw [sizeLine_eq]
      omega
    refine wpAny_dictSet_pairs (k := (Sum.inl n : Key)) (hsz := by rw [← rel.length]; exact lm) (kV_is (k := .inl n) ru) tb fun g hm2 hs => hQ g _ ⟨_, ?_, hm2⟩ hs
    rw [mergeK_take _ i (.inl n, .int (a + (i : Nat))) (by rw [numbered_at, hkn]; rfl)]
    exact rel.put (.inl n) ⟨t2, hv⟩
  · rintro g tk ⟨rs, rel, tb⟩ hk
    rw [List.take_of_length_le (by omega)] at rel
    have keep : ∀ b o, s2.heap.get? b = some o → g.get? b = some o := fun b o e => by
      have lt := Heap.lt_size e
      have key : ∀ k : Nat, b ≠ s2.heap.objs.size + k := fun k => Nat.ne_of_lt (Nat.lt_of_lt_of_le lt (Nat.le_add_right _ _))
      refine hk b o (fun x => key 5 (x.trans z6)) (fun x => ?_) (Heap.get?_push_of_some _ (zk b o e))
      simp only [List.mem_cons, List.not_mem_nil, or_false] at x
      rcases x with x | x | x | x
      · exact key 4 x
      · exact key 3 x
      · exact key 0 x
      · exact key 1 x
    have hn2 := I3.hok.fresh (Nat.le_refl h'.objs.size)
    have lm : (mergeK [] (numbered a ks)).length ≤ sizeLine := by
      have h1 := length_mergeK (numbered a ks) []
      rw [List.length_nil] at h1
      rw [sizeLine_eq]
      omega
    have new : ObjOk X.prog X.w (upd H2 h'.objs.size (.dK (mergeK [] (numbered a ks)))) g h'.objs.size (.dK (mergeK [] (numbered a ks))) := dk_new lm (beq_eq_false_iff_ne.mpr (Nat.ne_of_gt I3.big)) rel tb
    exact ⟨rfl, .ref h'.objs.size, upd H2 h'.objs.size (.dK (mergeK [] (numbered a ks))), I2.laid (t' := tk) keep (by rw [z6]; exact Nat.le_add_right _ _) new, rfl, q _ hn2⟩
def rDictZip (K : Frag) (Q : VK) (x : V) : Int → Int → Hp → Prop := fun a b H2 => ∃ (l : Addr) (ks : List Int), x = .ref l ∧ SqL K H2 l (ks.map V.int) ∧ RgOk a b ∧ (b - a).toNat = ks.length ∧ ks.length ≤ 1000000 ∧ ∀ d, H2 d = none → Q (.ref d) (upd H2 d (.dK (mergeK [] (numbered a ks))))
theorem x_dictZip {K : Frag} {σ : L2.St} {H : Hp} {Q : VK} {te : TE} {tg : L2.St → Hp → (Int → Int → Hp → Prop) → Prop} (h : te σ H fun x H1 => tg σ H1 (rDictZip K Q x)) : tDictZip K te tg σ H Q := h
theorem x_zipped {K : Frag} {H : Hp} {Q : VK} {l : Addr} {ks : List Int} {b : Int} (hl : SqL K H l (ks.map V.int)) (hb : b = ks.length + 1) (hz : ks.length ≤ 1000000) (q : ∀ d H3, H d = none → Ex H H3 → H3 d = some (.dK (mergeK [] (numbered 1 ks))) → Q (.ref d) H3) : rDictZip K Q (.ref l) 1 b H := by
  subst hb
  exact ⟨l, ks, rfl, hl, ⟨by omega, by omega, by omega, by omega, by omega⟩, by omega, hz, x_new q⟩
theorem numbered_get {a : Int} {ks : List Int} (hn : ks.Nodup) : ∀ (n : Nat), n ≤ ks.length → ∀ (i : Nat) (k : Int), ks[i]? = some k → valV (mergeK [] ((numbered a ks).take n)) (.inl k) = if i < n then some (.int (a + (i : Nat))) else none
  | 0, _, i, k, h => by
    rw [List.take_zero, if_neg (Nat.not_lt_zero i)]
    rfl
  | n + 1, hl, i, k, h => by
    obtain ⟨kn, hkn⟩ : ∃ kn, ks[n]? = some kn := ⟨_, List.getElem?_eq_getElem (by omega)⟩
    rw [mergeK_take _ n (.inl kn, .int (a + (n : Nat))) (by rw [numbered_at, hkn]; rfl), valV_put, numbered_get hn n (by omega) i k h]
    by_cases e : k = kn
    · subst e
      have : i = n := by
        obtain ⟨h1, e1⟩ := List.getElem?_eq_some_iff.mp h
        obtain ⟨h2, e2⟩ := List.getElem?_eq_some_iff.mp hkn
        have pw := List.pairwise_iff_getElem.mp hn
        rcases Nat.lt_trichotomy i n with c | c | c
        · exact absurd (e1.trans e2.symm) (pw _ _ h1 h2 c)
        · exact c
        · exact absurd (e2.trans e1.symm) (pw _ _ h2 h1 c)
      subst this
      rw [if_pos rfl, if_pos (Nat.lt_succ_self _)]
    · have ne : ¬ (Sum.inl k : Key) = .inl kn := fun z => e (Sum.inl.inj z)
      have : i ≠ n := fun z => by
        rw [z, hkn] at h
        exact e (Option.some.inj h).symm
      rw [if_neg ne]
      by_cases c : i < n
      · rw [if_pos c, if_pos (by omega)]
      · rw [if_neg c, if_neg (by omega)]
theorem numbered_all {a : Int} {ks : List Int} (hn : ks.Nodup) {i : Nat} {k : Int} (h : ks[i]? = some k) : valV (mergeK [] (numbered a ks)) (.inl k) = some (.int (a + (i : Nat))) := by
  have := numbered_get (a := a) hn ks.length (Nat.le_refl _) i k h
  rw [if_pos (List.getElem?_eq_some_iff.mp h).1, List.take_of_length_le (by unfold numbered; rw [List.length_map, List.length_zipIdx]; exact Nat.le_refl _)] at this
  exact this
/-- [[] for .. in range(m)] -/
theorem x_lcNew {σ : L2.St} {H : Hp} {Q : VK} {j : Nat} {vs : List Nat} {lo : Int} {m : Nat} (hz : m ≤ 1000000) (hw : ∀ x, wipe ((wipe σ vs).set j (some x)) vs = wipe σ vs)
    (q : ∀ D H2 (rs : List Addr), H D = none → Ex H H2 → H2 D = some (.lst (rs.map V.ref)) → rs.length = m → rs.Nodup → (∀ r ∈ rs, H r = none ∧ r ≠ D ∧ H2 r = some (.lst [])) → Q (.ref D) H2) :
    LcRun (gName j) tYes (tLst tNil) vs σ Q (Itr lo m) H := by
  intro Dl hD
  refine lc_range (fun k H' => Ex H H' ∧ ∃ rs : List Addr, H' Dl = some (.lst (rs.map V.ref)) ∧ rs.length = k ∧ rs.Nodup ∧ ∀ r ∈ rs, H r = none ∧ r ≠ Dl ∧ H' r = some (.lst []))
    ⟨Evl.Ex.new hD, [], by rw [upd_same]; rfl, rfl, List.nodup_nil, fun r h => nomatch h⟩ (fun k H' hk pp => ?_) fun H' pp => ?_
  · obtain ⟨e1, rs, hrs, hlen, nd, hall⟩ := pp
    refine ⟨hw _, ?_⟩
    refine x_true (B := True) ?_
    refine x_true ?_
    refine x_lst ?_
    refine x_nil ?_
    refine x_mkL (by simp) fun p H2 p0 e2 hp => ?_
    have pD : p ≠ Dl := Ne.symm (ne_of_none hrs p0)
    refine ⟨_, e2 _ _ hrs, by rw [List.length_map, hlen]; exact szl (by omega), Evl.Ex.mut (e1.trans e2) hD, rs ++ [p], by rw [upd_same, List.map_append]; rfl, by rw [List.length_append, hlen]; rfl, ?_, fun r hr => ?_⟩
    · rw [List.nodup_append]
      refine ⟨nd, by simp, fun x hx y hy z => ?_⟩
      rw [List.mem_singleton.mp hy] at z
      subst z
      exact absurd p0 (by rw [(hall _ hx).2.2]; nofun)
    · rcases List.mem_append.mp hr with hr | hr
      · obtain ⟨h1, h2, h3⟩ := hall r hr
        exact ⟨h1, h2, by rw [upd_ne h2]; exact e2 _ _ h3⟩
      · rw [List.mem_singleton.mp hr]
        exact ⟨exn e1 p0, pD, by rw [upd_ne pD]; exact hp⟩
  · obtain ⟨e1, rs, hrs, hlen, nd, hall⟩ := pp
    exact q Dl H' rs hD e1 hrs hlen nd hall
end B

namespace My
open PySem PySem.Spec PyProof.Rows L2 B
/-! ### the steps' rows -/
local macro_rules | `(tactic| walk_at "hx") => `(tactic| first
  | assumption
  | exact Evl.Ex.refl _
  | exact Upd.same (by assumption)
  | ((with_reducible refine' exg (by assumption) ?k1); (case k1 => walk_at "hx"))
  | ((with_reducible refine' Upd.get (by assumption) (by walk_at "ne") ?k1); (case k1 => walk_at "hx"))
  | ((with_reducible refine' Evl.Ex.trans ?k1 (by assumption)); (case k1 => walk_at "hx"))
  | ((with_reducible refine' Upd.ex (by assumption) ?k1 (by first | assumption | exact exn (by assumption) (by assumption))); (case k1 => walk_at "hx"))
  | ((with_reducible refine' Sq.l ?k1); (case k1 => walk_at "hx"))
  | ((with_reducible refine' Sq.t ?k1); (case k1 => walk_at "hx"))
  | ((with_reducible refine' Or.inl ?k1); (case k1 => walk_at "hx"))
  | ((with_reducible refine' Or.inr ?k1); (case k1 => walk_at "hx"))
  | ((with_reducible refine' Evl.sq_of ?k1); (case k1 => walk_at "hx"))
  | ((with_reducible refine' Evl.st_of ?k1); (case k1 => walk_at "hx"))
  | ((with_reducible refine' Evl.ex_l (by assumption) ?k1); (case k1 => walk_at "hx"))
  | ((with_reducible refine' Evl.ex_t (by assumption) ?k1); (case k1 => walk_at "hx"))
  | ((with_reducible refine' Sq.ex (by assumption) ?k1); (case k1 => walk_at "hx"))
  | ((with_reducible refine' Wishes.ex (by assumption) ?k1); (case k1 => walk_at "hx")))
local macro_rules | `(tactic| walk_at "ne") => `(tactic| first
  | assumption
  | exact Ne.symm (by assumption)
  | exact ne_of_none (by assumption) (by assumption)
  | exact Ne.symm (ne_of_none (by assumption) (by assumption)))
local macro_rules | `(tactic| walk_at "goa") => `(tactic| first
  | with_reducible refine x_nx ?_
  | with_reducible refine x_seq ?_
  | with_reducible refine x_next ?_
  | with_reducible refine x_rt ?_
  | with_reducible refine x_asg ?_
  | with_reducible refine x_ret ?_
  | with_reducible refine x_gName ?_
  | with_reducible refine x_ifS ?_
  | with_reducible refine B.x_wt ?_
  | with_reducible refine x_drop ?_
  | ((with_reducible refine' x_var ?k1 ?_); (case k1 => exact rfl))
  | with_reducible refine x_c ?_
  | with_reducible refine x_op ?_
  | with_reducible refine x_tup ?_
  | with_reducible refine x_lst ?_
  | with_reducible refine x_for ?_
  | with_reducible refine x_lc ?_
  | with_reducible refine x_iList ?_
  | with_reducible refine x_iTup ?_
  | with_reducible refine x_iZip ?_
  | with_reducible refine x_iRng3 ?_
  | with_reducible refine x_iEnum ?_
  | with_reducible refine x_augS ?_
  | with_reducible refine x_isB ?_
  | with_reducible refine x_revL ?_
  | with_reducible refine x_iRng1 ?_
  | with_reducible refine x_iRng2 ?_
  | with_reducible refine x_un ?_
  | with_reducible refine x_rI0 ?_
  | ((with_reducible refine x_rEq ?k1 ?_); (case k1 => exact rfl))
  | ((with_reducible refine x_rNe ?k1 ?_); (case k1 => exact rfl))
  | with_reducible refine x_rU ?_
  | with_reducible refine x_nil ?_
  | with_reducible refine x_cons ?_
  | with_reducible refine x_CB ?_
  | with_reducible refine x_call ?_
  | with_reducible refine x_test ?_
  | with_reducible refine x_B ?_
  | with_reducible refine x_bl ?_
  | with_reducible refine x_and ?_
  | with_reducible refine x_or ?_
  | with_reducible refine x_not ?_
  | with_reducible refine x_andV ?_
  | with_reducible refine x_orV ?_
  | with_reducible refine x_notV ?_
  | with_reducible refine x_blV ?_
  | with_reducible refine x_if ?_
  | with_reducible refine x_isN ?_
  | with_reducible refine x_notN ?_
  | with_reducible refine x_BM ?_
  | with_reducible refine x_BM0 ?_
  | with_reducible refine x_asgG ?_
  | with_reducible refine x_gSub ?_
  | with_reducible refine x_dIn ?_
  | with_reducible refine x_dNotIn ?_
  | with_reducible refine x_dGet ?_
  | with_reducible refine x_dPut ?_
  | with_reducible refine x_lstRg ?_
  | with_reducible refine x_rg1 ?_
  | with_reducible refine x_rg2 ?_
  | with_reducible refine x_CKw ?_
  | with_reducible refine x_sl ?_
  | with_reducible refine x_noPart ?_
  | with_reducible refine x_part ?_
  | with_reducible refine x_partI ?_
  | ((with_reducible refine' x_aug ?k1 ?_); (case k1 => exact rfl))
  | with_reducible refine x_ipI ?_
  | ((with_reducible refine' x_onL ?k1 ?_); (case k1 => walk_at "hx"))
  | ((with_reducible refine' x_onL0 ?k1 ?_); (case k1 => walk_at "hx"))
  | ((with_reducible refine' x_len ?k1 ?_); (case k1 => walk_at "hx"))
  | ((with_reducible refine' x_inI ?k1 ?_); (case k1 => walk_at "hx"))
  | ((with_reducible refine' x_inS ?k1 ?_); (case k1 => walk_at "hx"))
  | ((with_reducible refine' x_notInI ?k1 ?_); (case k1 => walk_at "hx"))
  | ((with_reducible refine' x_notInS ?k1 ?_); (case k1 => walk_at "hx"))
  | with_reducible refine x_brk ?_
  | with_reducible refine x_cont ?_
  | with_reducible refine x_true ?_
  | with_reducible refine x_false ?_)
local macro_rules | `(tactic| walk_at "go") => `(tactic| repeat walk_at "goa")


local macro_rules | `(tactic| walk_at "hx") => `(tactic| first
  | ((with_reducible refine' B.exgN (by assumption) ?k1 ?k2); (case k1 => walk_at "hx"); (case k2 => exact fun ps z => by cases z))
  | ((with_reducible refine' B.SqL.exN (by assumption) ?k1); (case k1 => walk_at "hx"))
  | ((with_reducible refine' B.SqT.exN (by assumption) ?k1); (case k1 => walk_at "hx"))
  | ((with_reducible refine' B.Sq.exN (by assumption) ?k1); (case k1 => walk_at "hx"))
  | ((with_reducible refine' LamX.ExtN.trans ?k1 (by assumption)); (case k1 => walk_at "hx"))
  | ((with_reducible refine' LamX.ExtN.trans ?k1 (B.ExtN.ex (by assumption))); (case k1 => walk_at "hx"))
  | exact LamX.ExtN.refl _)
local macro_rules | `(tactic| walk_at "tb") => `(tactic| first
  | assumption
  | ((with_reducible refine' B.Tabs.ex ?k1 (by assumption)); (case k1 => walk_at "tb"))
  | ((with_reducible refine' B.Tabs.updL ?k1 (by assumption) ?k2); (case k1 => walk_at "tb"); (case k2 => walk_at "hx")))
local macro_rules | `(tactic| walk_at "goa") => `(tactic| with_reducible refine B.x_iEnumQ ?_)
local macro_rules | `(tactic| walk_at "goa") => `(tactic| with_reducible refine B.x_sortLam ?_)
local macro_rules | `(tactic| walk_at "goa") => `(tactic| with_reducible refine B.x_chain ?_)
local macro_rules | `(tactic| walk_at "goa") => `(tactic| with_reducible refine B.x_ntrue ?_)
local macro_rules | `(tactic| walk_at "goa") => `(tactic| with_reducible refine B.x_nfalse ?_)

local macro_rules | `(tactic| walk_at "goa") => `(tactic| with_reducible refine B.x_dget2 ?_)
local macro_rules | `(tactic| walk_at "goa") => `(tactic| with_reducible refine B.x_dsetd ?_)
local macro_rules | `(tactic| walk_at "goa") => `(tactic| ((with_reducible refine' B.x_dg2K ?k1 ?_); (case k1 => walk_at "hx")))
local macro_rules | `(tactic| walk_at "goa") => `(tactic| ((with_reducible refine' B.x_dg2T ?k1 ?_); (case k1 => walk_at "hx")))
local macro_rules | `(tactic| walk_at "goa") => `(tactic| ((with_reducible refine' B.x_sd2 ?k1 ?_); (case k1 => walk_at "hx")))

def top (i : Nat) : Stmt := PySem.Challenge.pw_berthrow_k10_whole_rows_of_trees.main.body.getD i (.Pass ⟨0, 0, 0, 0⟩)
abbrev s_is_number : Stmt := top 10
abbrev n_is_number : List Str := ["thing", "least", "most"]
theorem sc_is_number : FnScope n_is_number ["thing", "least", "most"] (defScope s_is_number) := ⟨rfl, rfl, rfl, by decide +kernel, rfl, by decide +kernel, by decide +kernel⟩
abbrev s_need_quay : Stmt := top 11
abbrev n_need_quay : List Str := ["berths"]
theorem sc_need_quay : FnScope n_need_quay ["berths"] (defScope s_need_quay) := ⟨rfl, rfl, rfl, by decide +kernel, rfl, by decide +kernel, by decide +kernel⟩
abbrev s_need_wishes : Stmt := top 12
abbrev n_need_wishes : List Str := ["berths", "wishes", "wish"]
theorem sc_need_wishes : FnScope n_need_wishes ["berths", "wishes"] (defScope s_need_wishes) := ⟨rfl, rfl, rfl, by decide +kernel, rfl, by decide +kernel, by decide +kernel⟩
abbrev s_crowded : Stmt := top 13
abbrev n_crowded : List Str := ["berths", "wishes", "wishing", "wish", "many", "berth"]
theorem sc_crowded : FnScope n_crowded ["berths", "wishes"] (defScope s_crowded) := ⟨rfl, rfl, rfl, by decide +kernel, rfl, by decide +kernel, by decide +kernel⟩
abbrev s_is_good : Stmt := top 14
abbrev n_is_good : List Str := ["berths", "wishes"]
theorem sc_is_good : FnScope n_is_good ["berths", "wishes"] (defScope s_is_good) := ⟨rfl, rfl, rfl, by decide +kernel, rfl, by decide +kernel, by decide +kernel⟩
abbrev s_need_full : Stmt := top 16
abbrev n_need_full : List Str := ["wishes"]
theorem sc_need_full : FnScope n_need_full ["wishes"] (defScope s_need_full) := ⟨rfl, rfl, rfl, by decide +kernel, rfl, by decide +kernel, by decide +kernel⟩
abbrev s_tree_of : Stmt := top 17
abbrev n_tree_of : List Str := ["wishes", "below", "turn", "ship", "wish", "above", "met", "place", "knots", "knot"]
theorem sc_tree_of : FnScope n_tree_of ["wishes"] (defScope s_tree_of) := ⟨rfl, rfl, rfl, by decide +kernel, rfl, by decide +kernel, by decide +kernel⟩
abbrev s_met_in : Stmt := top 18
abbrev n_met_in : List Str := ["tree", "below", "place", "knot", "met", "at"]
theorem sc_met_in : FnScope n_met_in ["tree"] (defScope s_met_in) := ⟨rfl, rfl, rfl, by decide +kernel, rfl, by decide +kernel, by decide +kernel⟩
abbrev s_wishes_of : Stmt := top 19
abbrev n_wishes_of : List Str := ["tree", "knot", "met", "places"]
theorem sc_wishes_of : FnScope n_wishes_of ["tree"] (defScope s_wishes_of) := ⟨rfl, rfl, rfl, by decide +kernel, rfl, by decide +kernel, by decide +kernel⟩
abbrev s__law_cell_at : Stmt := top 21
abbrev n__law_cell_at : List Str := ["_law_script", "_law_k"]
theorem sc__law_cell_at : FnScope n__law_cell_at ["_law_script", "_law_k"] (defScope s__law_cell_at) := ⟨rfl, rfl, rfl, by decide +kernel, rfl, by decide +kernel, by decide +kernel⟩
abbrev s__law_mix : Stmt := top 22
abbrev n__law_mix : List Str := ["_law_state", "_law_cell"]
theorem sc__law_mix : FnScope n__law_mix ["_law_state", "_law_cell"] (defScope s__law_mix) := ⟨rfl, rfl, rfl, by decide +kernel, rfl, by decide +kernel, by decide +kernel⟩
abbrev s__law_order : Stmt := top 23
abbrev n__law_order : List Str := ["_law_script", "_law_many", "_law_first", "_law_state", "_law_some", "_law_order_here", "_law_turn"]
theorem sc__law_order : FnScope n__law_order ["_law_script", "_law_many", "_law_first"] (defScope s__law_order) := ⟨rfl, rfl, rfl, by decide +kernel, rfl, by decide +kernel, by decide +kernel⟩
abbrev s__law_drawn : Stmt := top 24
abbrev n__law_drawn : List Str := ["_law_script", "_law_first", "_law_cell", "_law_many", "_law_order_here", "_law_state", "_law_above", "_law_met", "_law_ship"]
theorem sc__law_drawn : FnScope n__law_drawn ["_law_script", "_law_first"] (defScope s__law_drawn) := ⟨rfl, rfl, rfl, by decide +kernel, rfl, by decide +kernel, by decide +kernel⟩
abbrev s__law_hangs : Stmt := top 25
abbrev n__law_hangs : List Str := ["_law_tree", "_law_knot", "_law_at", "_law_steps"]
theorem sc__law_hangs : FnScope n__law_hangs ["_law_tree"] (defScope s__law_hangs) := ⟨rfl, rfl, rfl, by decide +kernel, rfl, by decide +kernel, by decide +kernel⟩
abbrev s__law_word : Stmt := top 26
abbrev n__law_word : List Str := ["_law_act", "_law_thing", "_law_caught", "e", "_law_kinds"]
theorem sc__law_word : FnScope n__law_word ["_law_act", "_law_thing"] (defScope s__law_word) := ⟨rfl, rfl, rfl, by decide +kernel, rfl, by decide +kernel, by decide +kernel⟩
abbrev s_law : Stmt := top 27
abbrev n_law : List Str := ["_law_script", "_law_k", "_law_tree", "_law_row", "_law_cell", "_law_at", "_law_bent", "_law_odd", "_law_bad", "_law_thing"]
theorem sc_law : FnScope n_law ["_law_script"] (defScope s_law) := ⟨rfl, rfl, rfl, by decide +kernel, rfl, by decide +kernel, by decide +kernel⟩
structure Nms (K : PySem.W.Frag) (mg : Str → Option Value) : Prop where
  n_len : mg "len" = none
  n_isinstance : mg "isinstance" = none
  n_min : mg "min" = none
  n_max : mg "max" = none
  n_range : mg "range" = none
  n_enumerate : mg "enumerate" = none
  n_zip : mg "zip" = none
  n_all : mg "all" = none
  n_int : mg "int" = none
  n_bool : mg "bool" = none
  n_list : mg "list" = none
  n_tuple : mg "tuple" = none
  n_dict : mg "dict" = none
  n_ValueError : mg "ValueError" = none
  c_MOST : B.Const mg "MOST" (.int 400)
  x_NoQuay : B.Err K mg "NoQuay"
  x_NoWishes : B.Err K mg "NoWishes"
  x_NoTree : B.Err K mg "NoTree"
  m_tree_of : mg "tree_of" = some (.ref (B.at_ mg "tree_of"))
  m_wishes_of : mg "wishes_of" = some (.ref (B.at_ mg "wishes_of"))
  m_BerthError : mg "BerthError" = some (.ref (B.at_ mg "BerthError"))
  m_NoCount : mg "NoCount" = some (.ref (B.at_ mg "NoCount"))
  m_NoOrder : mg "NoOrder" = some (.ref (B.at_ mg "NoOrder"))
  m_NoQuay : mg "NoQuay" = some (.ref (B.at_ mg "NoQuay"))
  m_TooMany : mg "TooMany" = some (.ref (B.at_ mg "TooMany"))
  m_NoTree : mg "NoTree" = some (.ref (B.at_ mg "NoTree"))
  m_NoWishes : mg "NoWishes" = some (.ref (B.at_ mg "NoWishes"))
  k_NoTree : ExcC K (B.at_ mg "NoTree")
  e_NoTree : PySem.W.exmOne K (.ref (B.at_ mg "NoTree")) (.ref (B.at_ mg "BerthError")) = some true
  k_NoWishes : ExcC K (B.at_ mg "NoWishes")
  e_NoWishes : PySem.W.exmOne K (.ref (B.at_ mg "NoWishes")) (.ref (B.at_ mg "BerthError")) = some true
  i_NoTree_NoCount : PySem.W.kitOne K (.ref (B.at_ mg "NoTree")) (.ref (B.at_ mg "NoCount")) = some false
  i_NoTree_NoOrder : PySem.W.kitOne K (.ref (B.at_ mg "NoTree")) (.ref (B.at_ mg "NoOrder")) = some false
  i_NoTree_NoQuay : PySem.W.kitOne K (.ref (B.at_ mg "NoTree")) (.ref (B.at_ mg "NoQuay")) = some false
  i_NoTree_TooMany : PySem.W.kitOne K (.ref (B.at_ mg "NoTree")) (.ref (B.at_ mg "TooMany")) = some false
  i_NoTree_NoTree : PySem.W.kitOne K (.ref (B.at_ mg "NoTree")) (.ref (B.at_ mg "NoTree")) = some true
  i_NoTree_NoWishes : PySem.W.kitOne K (.ref (B.at_ mg "NoTree")) (.ref (B.at_ mg "NoWishes")) = some false
  i_NoWishes_NoCount : PySem.W.kitOne K (.ref (B.at_ mg "NoWishes")) (.ref (B.at_ mg "NoCount")) = some false
  i_NoWishes_NoOrder : PySem.W.kitOne K (.ref (B.at_ mg "NoWishes")) (.ref (B.at_ mg "NoOrder")) = some false
  i_NoWishes_NoQuay : PySem.W.kitOne K (.ref (B.at_ mg "NoWishes")) (.ref (B.at_ mg "NoQuay")) = some false
  i_NoWishes_TooMany : PySem.W.kitOne K (.ref (B.at_ mg "NoWishes")) (.ref (B.at_ mg "TooMany")) = some false
  i_NoWishes_NoTree : PySem.W.kitOne K (.ref (B.at_ mg "NoWishes")) (.ref (B.at_ mg "NoTree")) = some false
  i_NoWishes_NoWishes : PySem.W.kitOne K (.ref (B.at_ mg "NoWishes")) (.ref (B.at_ mg "NoWishes")) = some true
  i_none_NoCount : PySem.W.kitOne K (.type "NoneType") (.ref (B.at_ mg "NoCount")) = some false
  i_none_NoOrder : PySem.W.kitOne K (.type "NoneType") (.ref (B.at_ mg "NoOrder")) = some false
  i_none_NoQuay : PySem.W.kitOne K (.type "NoneType") (.ref (B.at_ mg "NoQuay")) = some false
  i_none_TooMany : PySem.W.kitOne K (.type "NoneType") (.ref (B.at_ mg "TooMany")) = some false
  i_none_NoTree : PySem.W.kitOne K (.type "NoneType") (.ref (B.at_ mg "NoTree")) = some false
  i_none_NoWishes : PySem.W.kitOne K (.type "NoneType") (.ref (B.at_ mg "NoWishes")) = some false
/-! ### promises of the program: numbers, quays, wishes -/
open PySem PySem.Spec PyProof.Rows L2 B
/-- an exception of the class x leaves -/
def Bad (mg : Str → Option Value) (x : Str) (H : Hp) (E : XK) : Prop := ∀ (C : Addr) (H' : Hp), mg x = some (.ref C) → Ex H H' → E (.ref C) none H'
theorem Bad.ex {mg : Str → Option Value} {x : Str} {H H' : Hp} {E : XK} (e : Ex H H') (b : Bad mg x H E) : Bad mg x H' E := fun C H2 m e2 => b C H2 m (e.trans e2)
def sp_is_number (K : PySem.W.Frag) : Sp := fun vs H Q _ => ∃ x s lo hi, vs = [x, .int lo, .int hi] ∧ Kind K H x s ∧ Q (.bl (inB x lo hi)) H
def sp_need_quay (K : PySem.W.Frag) (mg : Str → Option Value) : Sp := fun vs H Q E => ∃ b s, vs = [b] ∧ Kind K H b s ∧ (inB b 1 400 = true → Q .non H) ∧ (inB b 1 400 = false → Bad mg "NoQuay" H E)
/-- x is wishes for n berths: their numbers -/
def Wishes (K : PySem.W.Frag) (H : Hp) (x : V) (n : Int) (ns : List Int) : Prop := ∃ a, x = .ref a ∧ Sq K H a (ns.map V.int) ∧ ns.length ≤ 400 ∧ ∀ w ∈ ns, 1 ≤ w ∧ w ≤ n
theorem Wishes.ex {K : PySem.W.Frag} {H H' : Hp} {x : V} {n : Int} {ns : List Int} (e : Ex H H') (h : Wishes K H x n ns) : Wishes K H' x n ns := by
  obtain ⟨a, h1, h2, h3⟩ := h
  exact ⟨a, h1, h2.ex e, h3⟩
/-- x is something else: no list or tuple, too long, or with something that is no berth -/
def NoW (K : PySem.W.Frag) (H : Hp) (x : V) (n : Int) : Prop := (∃ s, Kind K H x s ∧ s ≠ .lst ∧ s ≠ .tup) ∨ ∃ a xs, x = .ref a ∧ Sq K H a xs ∧ (400 < xs.length ∨ (xs.length ≤ 400 ∧ (∀ y ∈ xs, ∃ s, Kind K H y s) ∧ ∃ y ∈ xs, inB y 1 n = false))
theorem NoW.ex {K : PySem.W.Frag} {H H' : Hp} {x : V} {n : Int} (e : Ex H H') (h : NoW K H x n) : NoW K H' x n := by
  rcases h with ⟨s, h1, h2⟩ | ⟨a, xs, h1, h2, h3⟩
  · exact .inl ⟨s, h1.ex e, h2⟩
  · refine .inr ⟨a, xs, h1, h2.ex e, ?_⟩
    rcases h3 with h3 | ⟨h3, h4, h5⟩
    · exact .inl h3
    · exact .inr ⟨h3, fun y hy => by obtain ⟨s, q⟩ := h4 y hy; exact ⟨s, q.ex e⟩, h5⟩
/-- how wishes for a quay are met: refused as no quay, as no wishes, or good for n berths, with what is then due -/
def Asked (K : PySem.W.Frag) (mg : Str → Option Value) (H : Hp) (E : XK) (b x : V) (due : Int → List Int → Prop) : Prop :=
  (∃ s, Kind K H b s ∧ inB b 1 400 = false ∧ Bad mg "NoQuay" H E) ∨ ∃ n, b = .int n ∧ 1 ≤ n ∧ n ≤ 400 ∧ ((NoW K H x n ∧ Bad mg "NoWishes" H E) ∨ ∃ ns, Wishes K H x n ns ∧ due n ns)
def sp_need_wishes (K : PySem.W.Frag) (mg : Str → Option Value) : Sp := fun vs H Q E => ∃ b x, vs = [b, x] ∧ Asked K mg H E b x fun _ _ => ∀ H', Ex H H' → Q .non H'
theorem Asked.len {K : PySem.W.Frag} {mg : Str → Option Value} {H : Hp} {E : XK} {vs : List V} {due : V → V → Int → List Int → Prop} (h : ∃ b x, vs = [b, x] ∧ Asked K mg H E b x (due b x)) : vs.length = 2 := by
  obtain ⟨b, x, rfl, _⟩ := h
  rfl

theorem has_is_number {P : Program} {w : World} {K : PySem.W.Frag} {mg : Str → Option Value} {base : Heap}  (S : B.Stands K mg "is_number" s_is_number) (N : Nms K mg)  : B.Has P w K mg base "is_number" 1 ["thing", "least", "most"] (sp_is_number K) := by
  refine B.has_ofN S sc_is_number (fun _ _ _ _ _ _ us hl => match us, hl with | [_, _, _], _ => rfl) (fun vs H Q E h => ?_)
    (fun f cdv A outer s H vs Q E hr h => ⟨_, (pss_one (ps_ret (pe_and (pe_callB (r := rIsi K) call_isi (by rfl) N.n_isinstance B.boot_isinstance (pa_cons (pv 0) (pa_cons (pe_bltn (v := .ty "int") (by rfl) N.n_int B.boot_int rfl) pa_nil))) (pe_and (pe_not (pe_callB (r := rIsi K) call_isi (by rfl) N.n_isinstance B.boot_isinstance (pa_cons (pv 0) (pa_cons (pe_bltn (v := .ty "bool") (by rfl) N.n_bool B.boot_bool rfl) pa_nil)))) (pe_and (pe_cmpR op_le (pv 1) (pv 0) (nomark _)) (pe_one (pe_cmpR op_le (pv 0) (pv 2) (nomark _)))))))), ?_⟩)
  · obtain ⟨x, s, lo, hi, rfl, _⟩ := h
    rfl
  · obtain ⟨x, s, lo, hi, rfl, k, q⟩ := h
    walk_at "go"
    have no : s.isA "int" = false → inB x lo hi = false := by intro e; cases k <;> first | rfl | (exact absurd e (by decide))
    have bo : s.isA "bool" = true → inB x lo hi = false := by intro e; cases k <;> first | rfl | (exact absurd e (by decide))
    have yes : s.isA "int" = true → s.isA "bool" = false → ∃ i, x = .int i := by
      intro e e2
      cases k <;> first | exact ⟨_, rfl⟩ | (exact absurd e (by decide)) | (exact absurd e2 (by decide))
    refine x_isi_int k ?_
    walk_at "go"
    refine x_b (fun e => ?_) (fun e => ?_)
    · walk_at "go"
      refine x_isi_bool k ?_
      walk_at "go"
      refine x_bN (fun e2 => ?_) (fun e2 => ?_)
      · obtain ⟨i, rfl⟩ := yes e e2
        walk_at "go"
        refine x_dec (fun c => ?_) (fun c => ?_)
        · walk_at "go"
          rw [show inB (.int i) lo hi = decide (i ≤ hi) from by simp [inB, c]] at q
          exact q
        · walk_at "go"
          rw [show inB (.int i) lo hi = false from by simp [inB, c]] at q
          exact q
      · rw [bo e2] at q
        exact q
    · rw [no e] at q
      exact q

theorem has_need_quay {P : Program} {w : World} {K : PySem.W.Frag} {mg : Str → Option Value} {base : Heap}  (S : B.Stands K mg "need_quay" s_need_quay) (N : Nms K mg) (h_is_number : B.Has P w K mg base "is_number" 1 ["thing", "least", "most"] (sp_is_number K)) : B.Has P w K mg base "need_quay" 2 ["berths"] (sp_need_quay K mg) := by
  refine B.has_of S sc_need_quay (fun _ _ _ _ _ _ us hl => match us, hl with | [_], _ => rfl) (fun vs H Q E h => ?_)
    (fun f cdv A outer s H vs Q E hr h => ⟨_, (pss_one (ps_if (pt_not (pt_val (B.pe_has h_is_number hr B.passL (pa_cons (pv 0) (pa_cons pe_int (pa_cons (B.pe_const N.c_MOST) pa_nil)))))) (pss_one (ps_raise rfl (takes_of rfl rfl rfl rfl) (B.pmk N.x_NoQuay))) pss_nil)), ?_⟩)
  · obtain ⟨b, s, rfl, _⟩ := h
    rfl
  · obtain ⟨b, s, rfl, k, q1, q2⟩ := h
    walk_at "go"
    refine ⟨b, s, 1, 400, rfl, k, ?_⟩
    walk_at "go"
    refine x_bN (fun e => ?_) (fun e => ?_)
    · walk_at "go"
      exact fun C m => q2 e C H m (Evl.Ex.refl H)
    · walk_at "go"
      exact q1 e

theorem is_lt {s : KS} : (s.isA "list" || s.isA "tuple") = true ↔ s = .lst ∨ s = .tup := by cases s <;> decide
theorem sq_kind {K : PySem.W.Frag} {H : Hp} {a : Addr} {xs : List V} (h : Sq K H a xs) : ∃ s, Kind K H (.ref a) s ∧ (s = .lst ∨ s = .tup) := by
  rcases h with h | h
  · exact ⟨_, .lst h, .inl rfl⟩
  · exact ⟨_, .tup h, .inr rfl⟩
theorem inB_int {n m : Int} {ns : List Int} (h : ∀ w ∈ ns, 1 ≤ w ∧ w ≤ n) : ∀ y ∈ ns.map V.int, inB y 1 n = true := fun y hy => by
  obtain ⟨w, hw, rfl⟩ := List.mem_map.mp hy
  simp [inB, h w hw]
theorem has_need_wishes {P : Program} {w : World} {K : PySem.W.Frag} {mg : Str → Option Value} {base : Heap}  (S : B.Stands K mg "need_wishes" s_need_wishes) (N : Nms K mg) (h_need_quay : B.Has P w K mg base "need_quay" 2 ["berths"] (sp_need_quay K mg)) (h_is_number : B.Has P w K mg base "is_number" 1 ["thing", "least", "most"] (sp_is_number K)) : B.Has P w K mg base "need_wishes" 3 ["berths", "wishes"] (sp_need_wishes K mg) := by
  refine B.has_of S sc_need_wishes (fun _ _ _ _ _ _ us hl => match us, hl with | [_, _], _ => rfl) (fun vs H Q E h => ?_)
    (fun f cdv A outer s H vs Q E hr h => ⟨_, (pss_cons (ps_expr (B.pe_has h_need_quay hr (B.passU (takes_of rfl rfl rfl rfl)) (pa_cons (pv 0) pa_nil)))
    (pss_cons (ps_if (PW.pt (pw_or (pt_not (pt_val (pe_callB (r := rIsiT K) call_isiT (by rfl) N.n_isinstance B.boot_isinstance (pa_cons (pv 1) (pa_cons (pe_tup (pa_cons (pe_bltn (v := .ty "list") (by rfl) N.n_list B.boot_list rfl) (pa_cons (pe_bltn (v := .ty "tuple") (by rfl) N.n_tuple B.boot_tuple rfl) pa_nil))) pa_nil))))) (pw_or1 (pt_cmpR op_gt (pe_callB (r := B.rLen K) B.call_len (by rfl) N.n_len PySem.boot_len (pa_cons (pv 1) pa_nil)) (B.pe_const N.c_MOST) (nomark _))))) (pss_one (ps_raise rfl (takes_of rfl rfl rfl rfl) (B.pmk N.x_NoWishes))) pss_nil)
    (pss_one (ps_for (passes_of rfl) rfl (B.pi_sq (pv 1)) (pg_name (i := 2) sc_need_wishes.nd rfl (by first | exact Or.inl rfl | exact Or.inr rfl)) (pss_one (ps_if (pt_not (pt_val (B.pe_has h_is_number hr B.passL (pa_cons (pv 2) (pa_cons pe_int (pa_cons (pv 0) pa_nil)))))) (pss_one (ps_raise rfl (takes_of rfl rfl rfl rfl) (B.pmk N.x_NoWishes))) pss_nil)))))), ?_⟩)
  · exact Asked.len h
  · obtain ⟨b, x, rfl, h⟩ := h
    walk_at "go"
    rcases h with ⟨s, k, e, bad⟩ | ⟨n, rfl, n1, n2, h⟩
    · exact ⟨b, s, rfl, k, fun e2 => absurd (e.symm.trans e2) (by decide), fun _ => bad⟩
    refine ⟨.int n, .int, rfl, .int n, fun _ => ?_, fun e => absurd e (by simp [inB, n1, n2])⟩
    walk_at "go"
    refine x_mkT (by simp) fun p H1 hp e1 h1 => ?_
    walk_at "go"
    have main : ∃ s, Kind K H x s ∧ ((¬ (s = .lst ∨ s = .tup) ∧ Bad mg "NoWishes" H E) ∨ ((s = .lst ∨ s = .tup) ∧ ∃ a xs, x = .ref a ∧ Sq K H a xs ∧ ((400 < xs.length ∧ Bad mg "NoWishes" H E) ∨
        (xs.length ≤ 400 ∧ (∀ y ∈ xs, ∃ s, Kind K H y s) ∧ (((∃ y ∈ xs, inB y 1 n = false) ∧ Bad mg "NoWishes" H E) ∨ ((∀ y ∈ xs, inB y 1 n = true) ∧ ∀ H', Ex H H' → Q .non H')))))) := by
      rcases h with ⟨h, bad⟩ | ⟨ns, ⟨a, rfl, q, hl, hw⟩, due⟩
      · rcases h with ⟨s, h1, h2, h3⟩ | ⟨a, xs, rfl, q, h3⟩
        · exact ⟨s, h1, .inl ⟨fun z => z.elim h2 h3, bad⟩⟩
        · obtain ⟨s, k, hs⟩ := sq_kind q
          refine ⟨s, k, .inr ⟨hs, a, xs, rfl, q, ?_⟩⟩
          rcases h3 with h3 | ⟨h3, h4, h5⟩
          · exact .inl ⟨h3, bad⟩
          · exact .inr ⟨h3, h4, .inl ⟨h5, bad⟩⟩
      · obtain ⟨s, k, hs⟩ := sq_kind q
        refine ⟨s, k, .inr ⟨hs, a, _, rfl, q, .inr ⟨by rw [List.length_map]; exact hl, fun y hy => ?_, .inr ⟨inB_int (m := n) hw, due⟩⟩⟩⟩
        obtain ⟨w, _, rfl⟩ := List.mem_map.mp hy
        exact ⟨_, .int w⟩
    obtain ⟨s, k, h⟩ := main
    refine x_isiLT (k.ex e1) h1 ?_
    walk_at "go"
    refine x_bN (fun e => ?_) (fun e => ?_)
    · -- no list, no tuple
      walk_at "go"
      rcases h with ⟨_, bad⟩ | ⟨hs, _⟩
      · exact fun C m => bad C H1 m e1
      · rw [is_lt.mpr hs] at e
        cases e
    rcases h with ⟨hs, _⟩ | ⟨_, a, xs, rfl, hq, h⟩
    · exact absurd (is_lt.mp e) hs
    walk_at "go"
    refine x_dec (fun c => ?_) (fun c => ?_)
    · walk_at "go"
      rcases h with ⟨_, bad⟩ | ⟨hl, _⟩
      · exact fun C m => bad C H1 m e1
      · omega
    rcases h with ⟨hl, _⟩ | ⟨hl, hk, h⟩
    · omega
    walk_at "go"
    refine x_forQ (H0 := H) (a := a) xs (fun y => y) rfl (by rw [List.map_id']; exact hq) (fun pre σ' H' => (∃ v, σ' = [some (.int n), some (.ref a), v]) ∧ Ex H H' ∧ ∀ y ∈ pre, inB y 1 n = true) ⟨⟨_, rfl⟩, e1, fun y hy => nomatch hy⟩ (fun pre σ' H' _ p => p.2.1) (fun pre y post σ' H' ea p => ?_) (fun σ' H' p => ?_)
    · obtain ⟨⟨v, rfl⟩, e2, hp⟩ := p
      obtain ⟨s, ky⟩ := hk y (by rw [ea]; simp)
      walk_at "go"
      refine ⟨y, s, 1, n, rfl, ky.ex e2, ?_⟩
      walk_at "go"
      refine x_bN (fun c => ?_) (fun c => ?_)
      · walk_at "go"
        rcases h with ⟨_, bad⟩ | ⟨hg, _⟩
        · exact fun C m => bad C H' m e2
        · rw [hg y (by rw [ea]; simp)] at c
          cases c
      · walk_at "go"
        refine ⟨⟨_, rfl⟩, e2, fun z hz => ?_⟩
        rcases List.mem_append.mp hz with hz | hz
        · exact hp z hz
        · rw [List.mem_singleton.mp hz]
          exact c
    · obtain ⟨_, e2, hp⟩ := p
      rcases h with ⟨⟨y, hy, e3⟩, _⟩ | ⟨_, q⟩
      · rw [hp y hy] at e3
        cases e3
      · exact q H' e2
theorem Asked.imp {K : PySem.W.Frag} {mg : Str → Option Value} {H : Hp} {E : XK} {b x : V} {due due' : Int → List Int → Prop} (h : Asked K mg H E b x due) (f : ∀ n ns, b = .int n → 1 ≤ n → n ≤ 400 → Wishes K H x n ns → due n ns → due' n ns) : Asked K mg H E b x due' := by
  rcases h with h | ⟨n, rfl, n1, n2, h⟩
  · exact .inl h
  · refine .inr ⟨n, rfl, n1, n2, ?_⟩
    rcases h with h | ⟨ns, h, d⟩
    · exact .inl h
    · exact .inr ⟨ns, h, f n ns rfl n1 n2 h d⟩
theorem Asked.ok {K : PySem.W.Frag} {mg : Str → Option Value} {H : Hp} {E : XK} {n : Int} {x : V} {ns : List Int} {due : Int → List Int → Prop} (n1 : 1 ≤ n) (n2 : n ≤ 400) (h : Wishes K H x n ns) (d : due n ns) : Asked K mg H E (.int n) x due :=
  .inr ⟨n, rfl, n1, n2, .inr ⟨ns, h, d⟩⟩

/-! ### where ships lie: the plain law -/
/-- the berths that are taken -/
def occ (st : List (Option Int)) : List Int := st.filterMap id
/-- the first free berth at or beyond a wish -/
def firstFree (n : Int) (held : List Int) (w : Int) : Option Int := (irange w (n + 1)).find? fun b => !held.contains b
def placeStep (n : Int) (st : List (Option Int)) (w : Int) : List (Option Int) := st ++ [firstFree n (occ st) w]
def place (n : Int) (ns : List Int) : List (Option Int) := ns.foldl (placeStep n) []
theorem place_snoc (n : Int) (ns : List Int) (w : Int) : place n (ns ++ [w]) = placeStep n (place n ns) w := by
  unfold place
  rw [List.foldl_append]
  rfl
theorem place_length (n : Int) : ∀ ns : List Int, (place n ns).length = ns.length := by
  have h : ∀ (ns : List Int) st, (ns.foldl (placeStep n) st).length = st.length + ns.length := by
    intro ns
    induction ns with
    | nil => intro st; rfl
    | cons w ns ih =>
      intro st
      rw [List.foldl_cons, ih, List.length_cons]
      show (st ++ [_]).length + ns.length = _
      rw [List.length_append, List.length_singleton]
      omega
  intro ns
  unfold place
  rw [h ns []]
  exact Nat.zero_add _
theorem irange_succ {lo hi : Int} (h : lo < hi) : irange lo hi = lo :: irange (lo + 1) hi := by
  unfold irange
  have e : (hi - lo).toNat = (hi - (lo + 1)).toNat + 1 := by omega
  rw [e, List.range_succ_eq_map, List.map_cons, List.map_map]
  congr 1
  · show lo + ((0 : Nat) : Int) = lo
    omega
  · apply List.map_congr_left
    intro k _
    show lo + ((k + 1 : Nat) : Int) = lo + 1 + (k : Int)
    omega
theorem irange_nil {lo hi : Int} (h : hi ≤ lo) : irange lo hi = [] := by
  unfold irange
  have e : (hi - lo).toNat = 0 := by omega
  rw [e]
  rfl
theorem firstFree_skip {n w : Int} {held : List Int} (hw : w ≤ n) (h : w ∈ held) : firstFree n held w = firstFree n held (w + 1) := by
  unfold firstFree
  rw [irange_succ (by omega), List.find?_cons]
  simp [h]
theorem firstFree_here {n w : Int} {held : List Int} (hw : w ≤ n) (h : w ∉ held) : firstFree n held w = some w := by
  unfold firstFree
  rw [irange_succ (by omega), List.find?_cons]
  simp [h]
theorem firstFree_none {n w : Int} {held : List Int} (hw : n < w) : firstFree n held w = none := by
  unfold firstFree
  rw [irange_nil (by omega)]
  rfl
theorem firstFree_some {n w b : Int} {held : List Int} (h : firstFree n held w = some b) : w ≤ b ∧ b ≤ n ∧ b ∉ held := by
  unfold firstFree at h
  have h1 := List.mem_of_find?_eq_some h
  have h2 := List.find?_some h
  rw [mem_irange] at h1
  refine ⟨h1.1, by omega, ?_⟩
  simpa using h2
theorem occ_snoc (st : List (Option Int)) (o : Option Int) : occ (st ++ [o]) = occ st ++ o.toList := by
  unfold occ
  rw [List.filterMap_append]
  cases o <;> rfl
theorem occ_place {n : Int} {ns : List Int} (hw : ∀ w ∈ ns, 1 ≤ w) : ∀ b ∈ occ (place n ns), 1 ≤ b ∧ b ≤ n := by
  have h : ∀ (ns : List Int) st, (∀ w ∈ ns, 1 ≤ w) → (∀ b ∈ occ st, 1 ≤ b ∧ b ≤ n) → ∀ b ∈ occ (ns.foldl (placeStep n) st), 1 ≤ b ∧ b ≤ n := by
    intro ns
    induction ns with
    | nil => intro st _ h; exact h
    | cons w ns ih =>
      intro st hw hst
      rw [List.foldl_cons]
      refine ih _ (fun v hv => hw v (List.mem_cons_of_mem _ hv)) fun b hb => ?_
      have hb : b ∈ occ (st ++ [firstFree n (occ st) w]) := hb
      rw [occ_snoc] at hb
      rcases List.mem_append.mp hb with hb | hb
      · exact hst b hb
      · cases e : firstFree n (occ st) w with
        | none => rw [e] at hb; cases hb
        | some c =>
          rw [e] at hb
          have hb : b ∈ [c] := hb
          rw [List.mem_singleton.mp hb]
          obtain ⟨h1, h2, _⟩ := firstFree_some e
          have := hw w List.mem_cons_self
          omega
  exact h ns [] hw fun b hb => nomatch hb
/-- the dict of the berths taken -/
def heldD (held : List Int) : List (Key × V) := held.map fun b => (Sum.inl b, V.bl true)
theorem heldD_get (held : List Int) (b : Int) : valV (heldD held) (.inl b) = if b ∈ held then some (.bl true) else none := by
  unfold valV heldD
  induction held with
  | nil => rfl
  | cons c cs ih =>
    rw [List.map_cons, List.find?_cons]
    by_cases e : c = b
    · subst e
      simp
    · have e1 : decide ((Sum.inl c : Key) = Sum.inl b) = false := decide_eq_false fun z => e (Sum.inl.inj z)
      rw [e1]
      simp only [List.mem_cons, show ¬ b = c from fun z => e z.symm, false_or]
      exact ih
theorem heldD_put {held : List Int} {b : Int} (h : b ∉ held) : putK (heldD held) (.inl b) (.bl true) = heldD (held ++ [b]) := by
  rw [putK_new _ (by rw [heldD_get, if_neg h])]
  unfold heldD
  rw [List.map_append]
  rfl
theorem occ_le (st : List (Option Int)) : (occ st).length ≤ st.length := List.length_filterMap_le _ _


theorem irange_sorted (lo hi : Int) : (irange lo hi).Pairwise (· < ·) := by
  unfold irange
  rw [List.pairwise_map]
  exact List.pairwise_lt_range.imp fun h => by omega
/-! ### counting -/
def cntGe (ns : List Int) (b : Int) : Nat := ns.countP fun w => decide (b ≤ w)
theorem cntGe_snoc (ns : List Int) (w b : Int) : cntGe (ns ++ [w]) b = cntGe ns b + if b ≤ w then 1 else 0 := by
  unfold cntGe
  rw [List.countP_append]
  congr 1
  by_cases h : b ≤ w <;> simp [h]
/-- the pigeonhole -/
theorem nodup_le : ∀ {l m : List Int}, l.Nodup → (∀ x ∈ l, x ∈ m) → l.length ≤ m.length
  | [], _, _, _ => Nat.zero_le _
  | a :: l, m, hn, h => by
    rw [List.nodup_cons] at hn
    have ha : a ∈ m := h a List.mem_cons_self
    have h2 : l.length ≤ (m.erase a).length := nodup_le hn.2 fun x hx => by
      have hne : x ≠ a := fun z => hn.1 (z ▸ hx)
      exact (List.mem_erase_of_ne hne).mpr (h x (List.mem_cons_of_mem _ hx))
    rw [List.length_erase_of_mem ha] at h2
    have : 0 < m.length := List.length_pos_of_mem ha
    rw [List.length_cons]
    omega
theorem irange_nodup (lo hi : Int) : (irange lo hi).Nodup := (irange_sorted lo hi).imp fun h => Int.ne_of_lt h
/-! ### what place does -/
theorem occ_mono (n : Int) (ns : List Int) (w : Int) : ∀ b ∈ occ (place n ns), b ∈ occ (place n (ns ++ [w])) := fun b hb => by
  rw [place_snoc]
  unfold placeStep
  rw [occ_snoc]
  exact List.mem_append_left _ hb
theorem snoc_ind {α : Type} {P : List α → Prop} (h0 : P []) (h1 : ∀ l a, P l → P (l ++ [a])) : ∀ l, P l := fun l => by
  have h : ∀ m : List α, P m.reverse := by
    intro m
    induction m with
    | nil => exact h0
    | cons a m ih =>
      rw [List.reverse_cons]
      exact h1 _ _ ih
  have := h l.reverse
  rw [List.reverse_reverse] at this
  exact this
theorem occ_nodup (n : Int) : ∀ ns, (occ (place n ns)).Nodup := by
  refine snoc_ind (by exact List.nodup_nil) fun ns w ih => ?_
  rw [place_snoc]
  unfold placeStep
  rw [occ_snoc]
  cases e : firstFree n (occ (place n ns)) w with
  | none => simpa using ih
  | some b =>
    obtain ⟨_, _, hb⟩ := firstFree_some e
    show (occ (place n ns) ++ [b]).Nodup
    rw [List.nodup_append]
    refine ⟨ih, by simp, ?_⟩
    intro x hx y hy z
    rw [List.mem_singleton.mp hy] at z
    exact hb (z ▸ hx)
theorem firstFree_all : ∀ (k : Nat) {n w : Int} {held : List Int}, (n + 1 - w).toNat = k → firstFree n held w = none → ∀ y, w ≤ y → y ≤ n → y ∈ held
  | 0, n, w, held, e, _, y, h1, h2 => by omega
  | k + 1, n, w, held, e, h, y, h1, h2 => by
    by_cases hw : w ∈ held
    · by_cases hy : y = w
      · rw [hy]; exact hw
      · rw [firstFree_skip (by omega) hw] at h
        exact firstFree_all k (by omega) h y (by omega) h2
    · rw [firstFree_here (by omega) hw] at h
      cases h
theorem firstFree_gap : ∀ (k : Nat) {n w b : Int} {held : List Int}, (n + 1 - w).toNat = k → firstFree n held w = some b → ∀ y, w ≤ y → y < b → y ∈ held
  | 0, n, w, b, held, e, h, y, h1, h2 => by
    rw [firstFree_none (by omega)] at h
    cases h
  | k + 1, n, w, b, held, e, h, y, h1, h2 => by
    by_cases hw : w ∈ held
    · by_cases hy : y = w
      · rw [hy]; exact hw
      · rw [firstFree_skip (by omega) hw] at h
        exact firstFree_gap k (by omega) h y (by omega) h2
    · rw [firstFree_here (by omega) hw] at h
      cases h
      omega
/-- a ship that lies: its wish, and no free berth between -/
theorem place_at (n : Int) : ∀ (ns : List Int) (k : Nat) (c : Int), (place n ns)[k]? = some (some c) → ∃ w, ns[k]? = some w ∧ w ≤ c ∧ c ≤ n ∧ ∀ y, w ≤ y → y < c → y ∈ occ (place n ns) := by
  refine snoc_ind (fun k c h => by simp [place] at h) fun ns w ih k c h => ?_
  have hl := place_length n ns
  rw [place_snoc] at h
  unfold placeStep at h
  by_cases hk : k < ns.length
  · rw [List.getElem?_append_left (by omega)] at h
    obtain ⟨v, h1, h2, h3, h4⟩ := ih k c h
    exact ⟨v, by rw [List.getElem?_append_left hk]; exact h1, h2, h3, fun y y1 y2 => occ_mono n ns w y (h4 y y1 y2)⟩
  · rw [List.getElem?_append_right (by omega)] at h
    have hk2 : k = ns.length := by
      have := (List.getElem?_eq_some_iff.mp h).1
      simp at this
      omega
    subst hk2
    rw [hl] at h
    simp at h
    obtain ⟨h1, h2, _⟩ := firstFree_some h
    exact ⟨w, by simp, h1, h2, fun y y1 y2 => occ_mono n ns w y (firstFree_gap _ rfl h y y1 y2)⟩
theorem place_away (n : Int) : ∀ (ns : List Int) (k : Nat), (place n ns)[k]? = some none → ∃ w, ns[k]? = some w ∧ ∀ y, w ≤ y → y ≤ n → y ∈ occ (place n ns) := by
  refine snoc_ind (fun k h => by simp [place] at h) fun ns w ih k h => ?_
  have hl := place_length n ns
  rw [place_snoc] at h
  unfold placeStep at h
  by_cases hk : k < ns.length
  · rw [List.getElem?_append_left (by omega)] at h
    obtain ⟨v, h1, h2⟩ := ih k h
    exact ⟨v, by rw [List.getElem?_append_left hk]; exact h1, fun y y1 y2 => occ_mono n ns w y (h2 y y1 y2)⟩
  · rw [List.getElem?_append_right (by omega)] at h
    have hk2 : k = ns.length := by
      have := (List.getElem?_eq_some_iff.mp h).1
      simp at this
      omega
    subst hk2
    rw [hl] at h
    simp at h
    exact ⟨w, by simp, fun y y1 y2 => occ_mono n ns w y (firstFree_all _ rfl h y y1 y2)⟩
/-- counting along two rows: of each ship that lies in P its wish is in P' -/
theorem cnt_le {P P' : Int → Bool} : ∀ {st : List (Option Int)} {ns : List Int}, (∀ (k : Nat) (c : Int), st[k]? = some (some c) → P c = true → ∃ w, ns[k]? = some w ∧ P' w = true) → (occ st).countP P ≤ ns.countP P'
  | [], _, _ => Nat.zero_le _
  | o :: st, [], h => by
    have : (occ (o :: st)).countP P = 0 := by
      rw [List.countP_eq_zero]
      intro c hc
      unfold occ at hc
      rw [List.mem_filterMap] at hc
      obtain ⟨o', ho, rfl⟩ := hc
      obtain ⟨k, hk⟩ := List.getElem?_of_mem ho
      intro hp
      obtain ⟨w, hw, _⟩ := h k c hk hp
      simp at hw
    omega
  | o :: st, w :: ns, h => by
    have ih : (occ st).countP P ≤ ns.countP P' := cnt_le fun k c hk hp => by
      obtain ⟨v, h1, h2⟩ := h (k + 1) c hk hp
      exact ⟨v, h1, h2⟩
    cases o with
    | none =>
      show (occ st).countP P ≤ _
      rw [List.countP_cons]
      omega
    | some c =>
      show (c :: occ st).countP P ≤ _
      rw [List.countP_cons, List.countP_cons]
      by_cases hp : P c = true
      · obtain ⟨v, h1, h2⟩ := h 0 c rfl hp
        cases h1
        rw [if_pos hp, if_pos h2]
        omega
      · rw [if_neg hp]
        omega
/-- each wish in P belongs to a ship that lies in P' -/
theorem cnt_ge {P P' : Int → Bool} : ∀ {st : List (Option Int)} {ns : List Int}, (∀ (k : Nat) (w : Int), ns[k]? = some w → P w = true → ∃ c, st[k]? = some (some c) ∧ P' c = true) → ns.countP P ≤ (occ st).countP P'
  | _, [], _ => Nat.zero_le _
  | [], w :: ns, h => by
    have : (w :: ns).countP P = 0 := by
      rw [List.countP_eq_zero]
      intro v hv hp
      obtain ⟨k, hk⟩ := List.getElem?_of_mem hv
      obtain ⟨c, hc, _⟩ := h k v hk hp
      simp at hc
    omega
  | o :: st, w :: ns, h => by
    have ih : ns.countP P ≤ (occ st).countP P' := cnt_ge fun k v hk hp => by
      obtain ⟨c, h1, h2⟩ := h (k + 1) v hk hp
      exact ⟨c, h1, h2⟩
    by_cases hp : P w = true
    · obtain ⟨c, h1, h2⟩ := h 0 w rfl hp
      cases h1
      show _ ≤ (c :: occ st).countP P'
      rw [List.countP_cons, List.countP_cons, if_pos hp, if_pos h2]
      omega
    · rw [List.countP_cons, if_neg hp]
      cases o with
      | none => exact ih
      | some c =>
        show _ ≤ (c :: occ st).countP P'
        rw [List.countP_cons]
        omega
/-- the start of the row of taken berths that b is in -/
theorem row_start {held : List Int} : ∀ (k : Nat) (w n : Int), w.toNat = k → 1 ≤ w → (∀ y, w ≤ y → y ≤ n → y ∈ held) → ∃ a, 1 ≤ a ∧ a ≤ w ∧ (∀ y, a ≤ y → y ≤ n → y ∈ held) ∧ (a = 1 ∨ a - 1 ∉ held)
  | 0, w, n, e, h1, _ => by omega
  | k + 1, w, n, e, h1, h => by
    by_cases hw : w = 1
    · exact ⟨w, h1, Int.le_refl _, h, .inl hw⟩
    · by_cases hm : w - 1 ∈ held
      · obtain ⟨a, a1, a2, a3, a4⟩ := row_start k (w - 1) n (by omega) (by omega) fun y y1 y2 => by
          by_cases hy : y = w - 1
          · rw [hy]; exact hm
          · exact h y (by omega) y2
        exact ⟨a, a1, by omega, a3, a4⟩
      · exact ⟨w, h1, Int.le_refl _, h, .inr hm⟩
theorem countP_range_le {l : List Int} (hn : l.Nodup) (a b : Int) : l.countP (fun w => decide (a ≤ w) && decide (w ≤ b)) ≤ (b + 1 - a).toNat := by
  rw [List.countP_eq_length_filter, ← irange_len a (b + 1)]
  refine nodup_le (hn.filter _) fun x hx => ?_
  rw [List.mem_filter] at hx
  simp at hx
  rw [mem_irange]
  omega
theorem countP_range_ge {l : List Int} (a b : Int) (h : ∀ y, a ≤ y → y ≤ b → y ∈ l) : (b + 1 - a).toNat ≤ l.countP (fun w => decide (a ≤ w) && decide (w ≤ b)) := by
  rw [List.countP_eq_length_filter, ← irange_len a (b + 1)]
  refine nodup_le (irange_nodup _ _) fun x hx => ?_
  rw [mem_irange] at hx
  rw [List.mem_filter]
  refine ⟨h x hx.1 (by omega), ?_⟩
  simp
  omega
theorem countP_same {l : List Int} {P P' : Int → Bool} (h : ∀ x ∈ l, P x = P' x) : l.countP P = l.countP P' := by
  apply List.countP_congr
  intro x hx
  rw [h x hx]
/-! ### good wishes -/
def Good (n : Int) (ns : List Int) : Prop := ∀ b, 1 ≤ b → b ≤ n → (cntGe ns b : Int) ≤ n + 1 - b
theorem good_of_lie {n : Int} {ns : List Int} (hw : ∀ w ∈ ns, 1 ≤ w ∧ w ≤ n) (h : ∀ o ∈ place n ns, o ≠ none) : Good n ns := fun b b1 b2 => by
  have h1 : ns.countP (fun w => decide (b ≤ w)) ≤ (occ (place n ns)).countP (fun c => decide (b ≤ c) && decide (c ≤ n)) := by
    refine cnt_ge fun k w hk hp => ?_
    have hl := place_length n ns
    have hk' : k < (place n ns).length := by rw [hl]; exact (List.getElem?_eq_some_iff.mp hk).1
    cases e : (place n ns)[k]'hk' with
    | none => exact absurd e (h _ (List.getElem_mem hk'))
    | some c =>
      have e2 : (place n ns)[k]? = some (some c) := by rw [List.getElem?_eq_getElem hk', e]
      obtain ⟨v, h1, h2, h3, _⟩ := place_at n ns k c e2
      rw [hk] at h1
      cases h1
      refine ⟨c, e2, ?_⟩
      simp at hp ⊢
      omega
  have h2 := countP_range_le (occ_nodup n ns) b n
  unfold cntGe
  omega
theorem lie_of_good {n : Int} {ns : List Int} (hw : ∀ w ∈ ns, 1 ≤ w ∧ w ≤ n) (g : Good n ns) : ∀ o ∈ place n ns, o ≠ none := by
  intro o ho e
  subst e
  obtain ⟨k, hk⟩ := List.getElem?_of_mem ho
  obtain ⟨w, h1, h2⟩ := place_away n ns k hk
  have w1 := hw w (List.mem_of_getElem? h1)
  obtain ⟨a, a1, a2, a3, a4⟩ := row_start _ w n rfl w1.1 h2
  have ob := occ_place (n := n) (ns := ns) fun v hv => (hw v hv).1
  -- the berths from a on are all taken, by ships that wish them: and one more wishes so
  have c1 := countP_range_ge a n a3
  have c2 : (occ (place n ns)).countP (fun c => decide (a ≤ c) && decide (c ≤ n)) ≤ (ns.eraseIdx k).countP (fun v => decide (a ≤ v)) := by
    have hlen := place_length n ns
    have kl : k < ns.length := (List.getElem?_eq_some_iff.mp h1).1
    have e1 : occ (place n ns) = occ ((place n ns).eraseIdx k) := by
      have kp : k < (place n ns).length := by omega
      have es := split_at hk
      rw [List.eraseIdx_eq_take_drop_succ]
      conv => lhs; rw [es]
      unfold occ
      rw [List.filterMap_append, List.filterMap_append]
      rfl
    rw [e1]
    refine cnt_le fun j c hj hp => ?_
    have hj2 : (place n ns)[if j < k then j else j + 1]? = some (some c) := by
      rw [List.getElem?_eraseIdx] at hj
      split <;> simp_all
    obtain ⟨v, v1, v2, v3, v4⟩ := place_at n ns _ c hj2
    refine ⟨v, ?_, ?_⟩
    · rw [List.getElem?_eraseIdx]
      split <;> simp_all
    · simp at hp ⊢
      refine Classical.byContradiction fun z => ?_
      rcases a4 with a4 | a4
      · have := (hw v (List.mem_of_getElem? v1)).1
        omega
      · exact a4 (v4 (a - 1) (by omega) (by omega))
  have c3 : (ns.eraseIdx k).countP (fun v => decide (a ≤ v)) + 1 ≤ cntGe ns a := by
    have es := split_at h1
    unfold cntGe
    rw [List.eraseIdx_eq_take_drop_succ]
    conv => rhs; rw [es]
    rw [List.countP_append, List.countP_append, List.countP_cons, if_pos (by simp; omega)]
    omega
  have := g a a1 (by omega)
  omega

def SortOf (ms ns : List Int) : Prop := ms.Perm ns ∧ ms.Pairwise (· ≤ ·)
/-! ### good wishes by their order -/
def GoodS (n : Int) (ms : List Int) : Prop := ∀ (i : Nat) (v : Int), ms[i]? = some v → v ≤ n - ms.length + i + 1
theorem cntGe_perm {ms ns : List Int} (h : ms.Perm ns) (b : Int) : cntGe ms b = cntGe ns b := h.countP_eq _
theorem sorted_ge {ms : List Int} (hs : ms.Pairwise (· ≤ ·)) {i : Nat} {v b : Int} (h : ms[i]? = some v) (hb : b ≤ v) : ms.length - i ≤ cntGe ms b := by
  have es := split_at h
  have hi : i < ms.length := (List.getElem?_eq_some_iff.mp h).1
  unfold cntGe
  rw [es] at hs
  rw [List.pairwise_append] at hs
  obtain ⟨_, h2, _⟩ := hs
  rw [List.pairwise_cons] at h2
  conv => rhs; rw [es]
  rw [List.countP_append]
  have h3 : (v :: ms.drop (i + 1)).countP (fun w => decide (b ≤ w)) = (v :: ms.drop (i + 1)).length := by
    rw [List.countP_eq_length]
    intro x hx
    rcases List.mem_cons.mp hx with rfl | hx
    · simp [hb]
    · have := h2.1 x hx
      simp
      omega
  rw [h3, List.length_cons, List.length_drop]
  omega
theorem sorted_lt {ms : List Int} (hs : ms.Pairwise (· ≤ ·)) {i : Nat} {v b : Int} (h : ms[i]? = some v) (hb : v < b) : cntGe ms b + i + 1 ≤ ms.length := by
  have es := split_at h
  have hi : i < ms.length := (List.getElem?_eq_some_iff.mp h).1
  unfold cntGe
  rw [es] at hs
  rw [List.pairwise_append] at hs
  obtain ⟨_, _, h3⟩ := hs
  conv => lhs; rw [es]
  rw [List.countP_append, List.countP_cons, if_neg (by simp; omega)]
  have h4 : (ms.take i).countP (fun w => decide (b ≤ w)) = 0 := by
    rw [List.countP_eq_zero]
    intro x hx
    have := h3 x hx v List.mem_cons_self
    simp
    omega
  have h5 := List.countP_le_length (p := fun w => decide (b ≤ w)) (l := ms.drop (i + 1))
  rw [List.length_drop] at h5
  omega
theorem good_sorted {n : Int} {ms ns : List Int} (h : SortOf ms ns) (hw : ∀ w ∈ ns, 1 ≤ w ∧ w ≤ n) : Good n ns ↔ GoodS n ms := by
  obtain ⟨hp, hs⟩ := h
  constructor
  · intro g i v hv
    refine Classical.byContradiction fun z => ?_
    have hi : i < ms.length := (List.getElem?_eq_some_iff.mp hv).1
    have h1 := sorted_ge hs hv (Int.le_refl v)
    have vw := hw v (hp.mem_iff.mp (List.mem_of_getElem? hv))
    have h2 := g v vw.1 vw.2
    rw [← cntGe_perm hp] at h2
    omega
  · intro g b b1 b2
    refine Classical.byContradiction fun z => ?_
    rw [← cntGe_perm hp] at z
    have hc : cntGe ms b ≤ ms.length := List.countP_le_length
    have hi : ms.length - cntGe ms b < ms.length := by omega
    have hv := List.getElem?_eq_getElem hi
    have h1 := g _ _ hv
    by_cases hb : ms[ms.length - cntGe ms b] < b
    · have := sorted_lt hs hv hb
      omega
    · omega
/-- the last berth from which on more wish than there are -/
def IsCrowded (n : Int) (ns : List Int) : Option Int → Prop
  | none => Good n ns
  | some c => 1 ≤ c ∧ c ≤ n ∧ n + 1 - c < (cntGe ns c : Int) ∧ ∀ b, c < b → b ≤ n → (cntGe ns b : Int) ≤ n + 1 - b
theorem crowded_same {n : Int} {ns : List Int} : ∀ {o o' : Option Int}, IsCrowded n ns o → IsCrowded n ns o' → o = o'
  | none, none, _, _ => rfl
  | none, some c, g, ⟨h1, h2, h3, _⟩ => absurd (g c h1 h2) (by omega)
  | some c, none, ⟨h1, h2, h3, _⟩, g => absurd (g c h1 h2) (by omega)
  | some c, some d, ⟨h1, h2, h3, h4⟩, ⟨g1, g2, g3, g4⟩ => by
    rcases Int.lt_trichotomy c d with h | h | h
    · exact absurd (h4 d h g2) (by omega)
    · rw [h]
    · exact absurd (g4 c h h2) (by omega)
theorem crowded_good {n : Int} {ns : List Int} {o : Option Int} (h : IsCrowded n ns o) : o = none ↔ Good n ns := by
  cases o with
  | none => exact ⟨fun _ => h, fun _ => rfl⟩
  | some c =>
    obtain ⟨h1, h2, h3, _⟩ := h
    exact ⟨fun z => (nomatch z), fun g => absurd (g c h1 h2) (by omega)⟩
theorem good_low {n : Int} {ns : List Int} (hl : (ns.length : Int) ≤ n) (h : ∀ (i : Nat) (v : Int), ns[i]? = some v → v ≤ i + 1) : Good n ns := fun b b1 b2 => by
  unfold cntGe
  have e : ns = ns.take (b - 1).toNat ++ ns.drop (b - 1).toNat := (List.take_append_drop _ _).symm
  rw [e, List.countP_append]
  have h1 : (ns.take (b - 1).toNat).countP (fun w => decide (b ≤ w)) = 0 := by
    rw [List.countP_eq_zero]
    intro x hx
    obtain ⟨i, hi⟩ := List.getElem?_of_mem hx
    rw [List.getElem?_take] at hi
    split at hi
    · have := h i x hi
      simp
      omega
    · cases hi
  have h2 := List.countP_le_length (p := fun w => decide (b ≤ w)) (l := ns.drop (b - 1).toNat)
  rw [List.length_drop] at h2
  omega
/-- how many wish just a berth: the program's table -/
def tally (n : Int) (ns : List Int) : List Int := (irange 0 (n + 1)).map fun k => (ns.countP (fun w => decide (w = k)) : Int)
theorem tally_len (n : Int) (ns : List Int) : (tally n ns).length = (n + 1).toNat := by
  unfold tally
  rw [List.length_map, irange_len]
  omega
theorem tally_at {n k : Int} (ns : List Int) (h0 : 0 ≤ k) (h1 : k ≤ n) : (tally n ns)[k.toNat]? = some (ns.countP (fun w => decide (w = k)) : Int) := by
  unfold tally
  rw [List.getElem?_map, irange_at (by omega)]
  show some (((ns.countP fun w => decide (w = 0 + ((k.toNat : Nat) : Int))) : Nat) : Int) = _
  rw [show (0 : Int) + ((k.toNat : Nat) : Int) = k from by omega]
theorem tally_snoc {n w : Int} (ns : List Int) (h0 : 0 ≤ w) (h1 : w ≤ n) : (tally n ns).set w.toNat ((ns.countP (fun v => decide (v = w)) : Int) + 1) = tally n (ns ++ [w]) := by
  apply List.ext_getElem?
  intro i
  by_cases hi : i < (n + 1).toNat
  · have e : ∀ ms, (tally n ms)[i]? = some (ms.countP (fun v => decide (v = (i : Int))) : Int) := fun ms => by
      have := tally_at (n := n) (k := (i : Int)) ms (by omega) (by omega)
      simpa using this
    by_cases hw : w.toNat = i
    · have ew : w = (i : Int) := by omega
      rw [List.getElem?_set, if_pos hw, if_pos (by rw [tally_len]; omega), e, List.countP_append]
      subst ew
      simp
    · rw [List.getElem?_set, if_neg hw, e, e, List.countP_append]
      have ew : ¬ w = (i : Int) := by omega
      simp [ew]
  · rw [List.getElem?_eq_none (by rw [List.length_set, tally_len]; omega), List.getElem?_eq_none (by rw [tally_len]; omega)]
theorem tally_nil (n : Int) (h : 0 ≤ n) : tally n [] = List.replicate (n + 1).toNat 0 := by
  unfold tally
  rw [List.eq_replicate_iff]
  constructor
  · rw [List.length_map, irange_len]
    omega
  · intro x hx
    obtain ⟨k, _, rfl⟩ := List.mem_map.mp hx
    rfl
theorem cntGe_succ (ns : List Int) (b : Int) : cntGe ns b = cntGe ns (b + 1) + ns.countP (fun w => decide (w = b)) := by
  unfold cntGe
  induction ns with
  | nil => rfl
  | cons w ns ih =>
    rw [List.countP_cons, List.countP_cons, List.countP_cons, ih]
    rcases Int.lt_trichotomy w b with h | h | h
    · rw [if_neg (by simp; omega), if_neg (by simp; omega), if_neg (by simp; omega)]
      omega
    · rw [if_pos (by simp; omega), if_neg (by simp; omega), if_pos (by simp; omega)]
      omega
    · rw [if_pos (by simp; omega), if_pos (by simp; omega), if_neg (by simp; omega)]
      omega
theorem cntGe_top {n : Int} {ns : List Int} (hw : ∀ w ∈ ns, w ≤ n) : cntGe ns (n + 1) = 0 := by
  unfold cntGe
  rw [List.countP_eq_zero]
  intro w h
  have := hw w h
  simp
  omega

/-! ### crowded, is_good -/
def sp_crowded (K : PySem.W.Frag) (mg : Str → Option Value) : Sp := fun vs H Q E => ∃ b x, vs = [b, x] ∧ Asked K mg H E b x fun n ns => ∀ o H', IsCrowded n ns o → Ex H H' → Q (optV o) H'
theorem has_crowded {P : Program} {w : World} {K : PySem.W.Frag} {mg : Str → Option Value} {base : Heap}  (S : B.Stands K mg "crowded" s_crowded) (N : Nms K mg) (h_need_wishes : B.Has P w K mg base "need_wishes" 3 ["berths", "wishes"] (sp_need_wishes K mg)) : B.Has P w K mg base "crowded" 4 ["berths", "wishes"] (sp_crowded K mg) := by
  refine B.has_of S sc_crowded (fun _ _ _ _ _ _ us hl => match us, hl with | [_, _], _ => rfl) (fun vs H Q E h => ?_)
    (fun f cdv A outer s H vs Q E hr h => ⟨_, (pss_cons (ps_expr (B.pe_has h_need_wishes hr (B.passU (takes_of rfl rfl rfl rfl)) (pa_cons (pv 0) (pa_cons (pv 1) pa_nil))))
    (pss_cons (ps_set (i := 2) sc_crowded.nd rfl (by first | exact Or.inl rfl | exact Or.inr rfl) (pe_op op_rep (pe_lst (pa_cons pe_int pa_nil)) (pe_op op_add (pv 0) pe_int)))
    (pss_cons (ps_for (passes_of rfl) rfl (B.pi_sq (pv 1)) (pg_name (i := 3) sc_crowded.nd rfl (by first | exact Or.inl rfl | exact Or.inr rfl)) (pss_one (B.ps_augL (pv 2) (pv 3) pe_int ip_add)))
    (pss_cons (ps_set (i := 4) sc_crowded.nd rfl (by first | exact Or.inl rfl | exact Or.inr rfl) pe_int)
    (pss_cons (ps_for (passes_of rfl) rfl (pi_range3 rfl N.n_range (pa_cons (pv 0) (pa_cons pe_int (pa_cons (pe_un un_neg pe_int) pa_nil)))) (pg_name (i := 5) sc_crowded.nd rfl (by first | exact Or.inl rfl | exact Or.inr rfl)) (pss_cons (ps_aug (i := 4) sc_crowded.nd rfl (by first | exact Or.inl rfl | exact Or.inr rfl) (pe_ix (r := rIxL K) ix_list (pv 2) (pv 5) (fun _ _ => rfl)) ip_add)
    (pss_one (ps_if (pt_cmpR op_gt (pv 4) (pe_op op_sub (pe_op op_add (pv 0) pe_int) (pv 5)) (nomark _)) (pss_one (ps_ret (pv 5))) pss_nil))))
    (pss_one (ps_ret pe_non))))))), ?_⟩)
  · exact Asked.len h
  · obtain ⟨b, x, rfl, h⟩ := h
    walk_at "go"
    refine ⟨b, x, rfl, h.imp fun n ns eb n1 n2 hns due H1 e1 => ?_⟩
    obtain ⟨a, rfl, hq, hl, hw⟩ := hns
    subst eb
    walk_at "go"
    refine x_mkL (by simp) fun z H2 z0 e2 hz => ?_
    walk_at "go"
    refine x_rep (n := n + 1) hz (by omega) (by omega) (by simp) fun t H3 t0 e3 ht => ?_
    have ht : H3 t = some (.lst ((tally n []).map V.int)) := by
      rw [ht, tally_nil n (by omega)]
      simp [List.flatten_replicate_singleton]
    walk_at "go"
    have tn : H t = none := exn e1 (exn e2 t0)
    refine x_forQ (H0 := H) (a := a) ns V.int rfl hq (fun pre σ' H' => (∃ v, σ' = [some (.int n), some (.ref a), some (.ref t), v, none, none]) ∧ Ex H H' ∧ H' t = some (.lst ((tally n pre).map V.int)))
      ⟨⟨_, rfl⟩, by walk_at "hx", ht⟩ (fun pre σ' H' _ p => p.2.1) (fun pre w post σ' H' ea p => ?_) (fun σ' H' p => ?_)
    · obtain ⟨⟨v, rfl⟩, ex, ht'⟩ := p
      have w1 : 1 ≤ w ∧ w ≤ n := hw w (by rw [ea]; simp)
      obtain ⟨k, rfl⟩ : ∃ k : Nat, w = (k : Nat) := ⟨w.toNat, by omega⟩
      walk_at "go"
      have hk := tally_at (n := n) (k := (k : Int)) pre (by omega) (by omega)
      refine x_getN (v := .int (pre.countP (fun v => decide (v = (k : Int))) : Int)) (by walk_at "hx") (by rw [List.getElem?_map, show k = ((k : Int)).toNat from by simp, hk]; rfl) ?_
      walk_at "go"
      refine x_setC ht' (by rw [List.length_map, tally_len]; omega) fun H4 u4 => ?_
      walk_at "go"
      refine ⟨⟨_, rfl⟩, by walk_at "hx", ?_⟩
      have es := tally_snoc (n := n) (w := (k : Int)) pre (by omega) (by omega)
      rw [← es, List.map_set]
      simp only [Int.toNat_natCast]
      exact u4.same
    · obtain ⟨⟨v, rfl⟩, ex, ht'⟩ := p
      walk_at "go"
      refine x_down (by omega) (by decide) ?_
      refine x_forC (fun k σ' H' => (∃ v', σ' = [some (.int n), some (.ref a), some (.ref t), v, some (.int (cntGe ns (n + 1 - k) : Int)), v']) ∧ Ex H H' ∧ H' t = some (.lst ((tally n ns).map V.int)) ∧ (k : Int) ≤ n ∧ ∀ c, n - k < c → c ≤ n → (cntGe ns c : Int) ≤ n + 1 - c)
        ⟨⟨_, by rw [show n + 1 - ((0 : Nat) : Int) = n + 1 from by omega, cntGe_top fun w h => (hw w h).2]; rfl⟩, ex, ht', by omega, fun c c1 c2 => by omega⟩ (fun k σ' H' hk p => ?_) (fun σ' H' p => ?_)
      · obtain ⟨⟨v', rfl⟩, ex, ht', k2, hc⟩ := p
        have kn : (k : Int) < n := by omega
        obtain ⟨c, hcn⟩ : ∃ c : Nat, n + (k : Int) * -1 = (c : Nat) := ⟨(n - k).toNat, by omega⟩
        have hcn' : n - k = (c : Int) := by omega
        rw [hcn]
        walk_at "go"
        have hk2 := tally_at (n := n) (k := (c : Int)) ns (by omega) (by omega)
        refine x_ixL (v := .int (ns.countP (fun v => decide (v = (c : Int))) : Int)) (by walk_at "hx") (atI_nat (by rw [List.getElem?_map, show c = ((c : Int)).toNat from by simp, hk2]; rfl)) ?_
        walk_at "go"
        have ec : (cntGe ns (n + 1 - k) : Int) + (ns.countP (fun v => decide (v = (c : Int))) : Int) = (cntGe ns (c : Int) : Int) := by
          have := cntGe_succ ns (c : Int)
          rw [show (c : Int) + 1 = n + 1 - k from by omega] at this
          omega
        rw [ec]
        refine x_dec (fun hb => ?_) (fun hb => ?_)
        · walk_at "go"
          exact due (some (c : Int)) H' ⟨by omega, by omega, by omega, fun b b1 b2 => hc b (by omega) b2⟩ ex
        · walk_at "go"
          refine ⟨⟨_, by rw [show n + 1 - ((k + 1 : Nat) : Int) = (c : Int) from by omega]; rfl⟩, ex, ht', by omega, fun b b1 b2 => ?_⟩
          by_cases e : b = (c : Int)
          · subst e
            omega
          · exact hc b (by omega) b2
      · obtain ⟨⟨v', rfl⟩, ex, ht', k2, hc⟩ := p
        walk_at "go"
        exact due none H' (fun b b1 b2 => hc b (by omega) b2) ex
def sp_is_good (K : PySem.W.Frag) (mg : Str → Option Value) : Sp := fun vs H Q E => ∃ b x, vs = [b, x] ∧ Asked K mg H E b x fun n ns => ∀ (g : Bool) H', (g = true ↔ Good n ns) → Ex H H' → Q (.bl g) H'
theorem has_is_good {P : Program} {w : World} {K : PySem.W.Frag} {mg : Str → Option Value} {base : Heap}  (S : B.Stands K mg "is_good" s_is_good) (N : Nms K mg) (h_crowded : B.Has P w K mg base "crowded" 4 ["berths", "wishes"] (sp_crowded K mg)) : B.Has P w K mg base "is_good" 5 ["berths", "wishes"] (sp_is_good K mg) := by
  refine B.has_of S sc_is_good (fun _ _ _ _ _ _ us hl => match us, hl with | [_, _], _ => rfl) (fun vs H Q E h => ?_)
    (fun f cdv A outer s H vs Q E hr h => ⟨_, (pss_one (ps_ret (pe_cmp (pc_isN (B.pe_has h_crowded hr (B.passU (takes_of rfl rfl rfl rfl)) (pa_cons (pv 0) (pa_cons (pv 1) pa_nil)))) rfl))), ?_⟩)
  · exact Asked.len h
  · obtain ⟨b, x, rfl, h⟩ := h
    walk_at "go"
    refine ⟨b, x, rfl, h.imp fun n ns eb n1 n2 hns due o H1 ho e1 => ?_⟩
    walk_at "go"
    refine due _ H1 ?_ e1
    rw [← crowded_good ho]
    cases o <;> simp [optV]

/-! ### a round quay: the plain law -/
/-- the next berth round -/
def suc (n b : Int) : Int := b % n + 1
/-- going round from b, at most k steps -/
def rfree (n : Int) (held : List Int) : Nat → Int → Int
  | 0, b => b
  | k + 1, b => if b ∈ held then rfree n held k (suc n b) else b
def placeR (n : Int) (ns : List Int) : List Int := ns.foldl (fun acc w => acc ++ [rfree n acc n.toNat w]) []
theorem placeR_snoc (n : Int) (ns : List Int) (w : Int) : placeR n (ns ++ [w]) = placeR n ns ++ [rfree n (placeR n ns) n.toNat w] := by
  unfold placeR
  rw [List.foldl_append]
  rfl
theorem placeR_len (n : Int) (ns : List Int) : (placeR n ns).length = ns.length := by
  induction ns using snoc_ind with
  | h0 => rfl
  | h1 l a ih => rw [placeR_snoc, List.length_append, List.length_append, ih, List.length_singleton, List.length_singleton]
theorem suc_in {n b : Int} (n1 : 1 ≤ n) : 1 ≤ suc n b ∧ suc n b ≤ n := by
  unfold suc
  have h1 := Int.emod_nonneg b (show n ≠ 0 by omega)
  have h2 := Int.emod_lt_of_pos b (show 0 < n by omega)
  omega
/-- the berth j steps round from w -/
def at_ (n w : Int) (j : Nat) : Int := (w - 1 + j) % n + 1
theorem at_in {n w : Int} (n1 : 1 ≤ n) (j : Nat) : 1 ≤ at_ n w j ∧ at_ n w j ≤ n := by
  unfold at_
  have h1 := Int.emod_nonneg (w - 1 + j) (show n ≠ 0 by omega)
  have h2 := Int.emod_lt_of_pos (w - 1 + j) (show 0 < n by omega)
  omega
theorem at_zero {n w : Int} (w1 : 1 ≤ w ∧ w ≤ n) : at_ n w 0 = w := by
  unfold at_
  rw [Int.emod_eq_of_lt (by omega) (by omega)]
  omega
theorem suc_at (n w : Int) (j : Nat) : suc n (at_ n w j) = at_ n w (j + 1) := by
  unfold suc at_
  rw [Int.emod_add_emod]
  congr 2
  omega
theorem rfree_at {n : Int} {held : List Int} {w : Int} {k : Nat} (hk : at_ n w k ∉ held) : ∀ (m j : Nat), j ≤ k → k ≤ j + m → (∀ i, j ≤ i → i < k → at_ n w i ∈ held) → rfree n held m (at_ n w j) = at_ n w k
  | 0, j, h1, h2, _ => by
    have : j = k := by omega
    subst this
    rfl
  | m + 1, j, h1, h2, h => by
    by_cases e : j = k
    · subst e
      exact if_neg hk
    · have hj : at_ n w j ∈ held := h j (Nat.le_refl _) (by omega)
      show (if at_ n w j ∈ held then rfree n held m (suc n (at_ n w j)) else at_ n w j) = _
      rw [if_pos hj, suc_at]
      exact rfree_at hk m (j + 1) (by omega) (by omega) fun i h3 h4 => h i (by omega) h4
theorem least_of {p : Nat → Prop} (hp : ∃ k, p k) : ∃ k, p k ∧ ∀ j, j < k → ¬ p j := by
  obtain ⟨k, hk⟩ := hp
  induction k using Nat.strongRecOn with
  | _ k ih =>
    by_cases h : ∃ j, j < k ∧ p j
    · obtain ⟨j, h1, h2⟩ := h
      exact ih j h1 h2
    · exact ⟨k, hk, fun j h1 h2 => h ⟨j, h1, h2⟩⟩
theorem at_covers {n w y : Int} (w1 : 1 ≤ w ∧ w ≤ n) (y1 : 1 ≤ y ∧ y ≤ n) : ∃ j : Nat, (j : Int) < n ∧ at_ n w j = y := by
  refine ⟨((y - w) % n).toNat, ?_, ?_⟩
  · have h1 := Int.emod_nonneg (y - w) (show n ≠ 0 by omega)
    have h2 := Int.emod_lt_of_pos (y - w) (show 0 < n by omega)
    omega
  · have h1 := Int.emod_nonneg (y - w) (show n ≠ 0 by omega)
    unfold at_
    rw [Int.toNat_of_nonneg h1, Int.add_emod_emod, show w - 1 + (y - w) = y - 1 from by omega, Int.emod_eq_of_lt (by omega) (by omega)]
    omega
/-- some berth is free: the first one on the way round -/
theorem rfree_ends {n w : Int} {held : List Int} (w1 : 1 ≤ w ∧ w ≤ n) (hl : (held.length : Int) < n) : ∃ k : Nat, (k : Int) < n ∧ at_ n w k ∉ held ∧ ∀ j, j < k → at_ n w j ∈ held := by
  have h : ∃ k : Nat, (k : Int) < n ∧ at_ n w k ∉ held := by
    refine Classical.byContradiction fun z => ?_
    have all : ∀ y ∈ irange 1 (n + 1), y ∈ held := fun y hy => by
      have := mem_irange.mp hy
      obtain ⟨j, h1, h2⟩ := at_covers w1 (y := y) ⟨by omega, by omega⟩
      refine Classical.byContradiction fun c => z ⟨j, h1, ?_⟩
      rw [h2]
      exact c
    have := nodup_le (irange_nodup 1 (n + 1)) all
    rw [irange_len] at this
    omega
  obtain ⟨k, ⟨h1, h2⟩, h3⟩ := least_of h
  exact ⟨k, h1, h2, fun j hj => Classical.byContradiction fun c => h3 j hj ⟨by omega, c⟩⟩
theorem rfree_is {n w : Int} {held : List Int} {k : Nat} (w1 : 1 ≤ w ∧ w ≤ n) (h1 : (k : Int) < n) (h2 : at_ n w k ∉ held) (h3 : ∀ j, j < k → at_ n w j ∈ held) : rfree n held n.toNat w = at_ n w k := by
  have := rfree_at h2 n.toNat 0 (Nat.zero_le _) (by omega) fun i _ hi => h3 i hi
  rw [at_zero w1] at this
  exact this
theorem rfree_free {n w : Int} {held : List Int} (w1 : 1 ≤ w ∧ w ≤ n) (hl : (held.length : Int) < n) : rfree n held n.toNat w ∉ held ∧ 1 ≤ rfree n held n.toNat w ∧ rfree n held n.toNat w ≤ n := by
  obtain ⟨k, h1, h2, h3⟩ := rfree_ends w1 hl
  rw [rfree_is w1 h1 h2 h3]
  exact ⟨h2, at_in (by omega) k⟩
theorem placeR_ok {n : Int} (ns : List Int) : (∀ w ∈ ns, 1 ≤ w ∧ w ≤ n) → (ns.length : Int) ≤ n → (placeR n ns).Nodup ∧ ∀ b ∈ placeR n ns, 1 ≤ b ∧ b ≤ n := by
  induction ns using snoc_ind with
  | h0 => exact fun _ _ => ⟨List.nodup_nil, fun b hb => nomatch hb⟩
  | h1 l a ih =>
    intro hw hl
    rw [List.length_append, List.length_singleton] at hl
    obtain ⟨i1, i2⟩ := ih (fun w h => hw w (List.mem_append_left _ h)) (by omega)
    obtain ⟨f1, f2⟩ := rfree_free (held := placeR n l) (hw a (by simp)) (by rw [placeR_len]; omega)
    rw [placeR_snoc]
    refine ⟨?_, fun b hb => ?_⟩
    · rw [List.nodup_append]
      refine ⟨i1, by simp, fun x hx y hy => ?_⟩
      obtain rfl : y = _ := by simpa using hy
      exact fun e => f1 (e ▸ hx)
    · rcases List.mem_append.mp hb with hb | hb
      · exact i2 b hb
      · obtain rfl : b = _ := by simpa using hb
        exact f2
/-! turned -/
def tn (n by_ b : Int) : Int := (b - 1 + by_) % n + 1
theorem tn_in {n by_ b : Int} (n1 : 1 ≤ n) : 1 ≤ tn n by_ b ∧ tn n by_ b ≤ n := by
  unfold tn
  have h1 := Int.emod_nonneg (b - 1 + by_) (show n ≠ 0 by omega)
  have h2 := Int.emod_lt_of_pos (b - 1 + by_) (show 0 < n by omega)
  omega
theorem tn_suc (n by_ b : Int) : tn n by_ (suc n b) = suc n (tn n by_ b) := by
  unfold tn suc
  rw [show b % n + 1 - 1 + by_ = b % n + by_ from by omega, Int.emod_add_emod, Int.emod_add_emod]
  congr 2
  omega
theorem mod_inj {n a b : Int} (h : (a - b) % n = 0) (h1 : a - b < n) (h2 : b - a < n) : a = b := by
  have d := Int.dvd_of_emod_eq_zero h
  rcases (by omega : a = b ∨ 0 < a - b ∨ 0 < b - a) with e | e | e
  · exact e
  · have := Int.le_of_dvd e d
    omega
  · have d2 : n ∣ b - a := by
      obtain ⟨c, hc⟩ := d
      exact ⟨-c, by rw [Int.mul_neg]; omega⟩
    have := Int.le_of_dvd e d2
    omega
theorem tn_inj {n by_ a b : Int} (ha : 1 ≤ a ∧ a ≤ n) (hb : 1 ≤ b ∧ b ≤ n) (h : tn n by_ a = tn n by_ b) : a = b := by
  unfold tn at h
  have h1 : (a - 1 + by_) % n = (b - 1 + by_) % n := by omega
  have h2 := Int.emod_eq_emod_iff_emod_sub_eq_zero.mp h1
  rw [show a - 1 + by_ - (b - 1 + by_) = a - b from by omega] at h2
  exact mod_inj h2 (by omega) (by omega)
theorem tn_onto {n by_ y : Int} (hy : 1 ≤ y ∧ y ≤ n) : ∃ b, (1 ≤ b ∧ b ≤ n) ∧ tn n by_ b = y := by
  refine ⟨tn n (-by_) y, tn_in (by omega), ?_⟩
  unfold tn
  rw [show (y - 1 + -by_) % n + 1 - 1 + by_ = (y - 1 + -by_) % n + by_ from by omega, Int.emod_add_emod, show y - 1 + -by_ + by_ = y - 1 from by omega, Int.emod_eq_of_lt (by omega) (by omega)]
  omega
theorem tn_mem {n by_ b : Int} {held : List Int} (hh : ∀ c ∈ held, 1 ≤ c ∧ c ≤ n) (hb : 1 ≤ b ∧ b ≤ n) : tn n by_ b ∈ held.map (tn n by_) ↔ b ∈ held := by
  rw [List.mem_map]
  constructor
  · rintro ⟨c, h1, h2⟩
    rw [← tn_inj (hh c h1) hb h2]
    exact h1
  · exact fun h => ⟨b, h, rfl⟩
theorem rfree_tn {n by_ : Int} {held : List Int} (n1 : 1 ≤ n) (hh : ∀ c ∈ held, 1 ≤ c ∧ c ≤ n) : ∀ (k : Nat) (b : Int), 1 ≤ b ∧ b ≤ n → rfree n (held.map (tn n by_)) k (tn n by_ b) = tn n by_ (rfree n held k b)
  | 0, _, _ => rfl
  | k + 1, b, hb => by
    show (if tn n by_ b ∈ held.map (tn n by_) then rfree n (held.map (tn n by_)) k (suc n (tn n by_ b)) else tn n by_ b) = tn n by_ (if b ∈ held then rfree n held k (suc n b) else b)
    by_cases c : b ∈ held
    · rw [if_pos c, if_pos ((tn_mem hh hb).mpr c), ← tn_suc]
      exact rfree_tn n1 hh k _ (suc_in n1)
    · rw [if_neg c, if_neg fun z => c ((tn_mem hh hb).mp z)]
theorem placeR_tn {n by_ : Int} (n1 : 1 ≤ n) (ns : List Int) : (∀ w ∈ ns, 1 ≤ w ∧ w ≤ n) → (ns.length : Int) ≤ n → placeR n (ns.map (tn n by_)) = (placeR n ns).map (tn n by_) := by
  induction ns using snoc_ind with
  | h0 => exact fun _ _ => rfl
  | h1 l a ih =>
    intro hw hl
    rw [List.length_append, List.length_singleton] at hl
    have hw' : ∀ w ∈ l, 1 ≤ w ∧ w ≤ n := fun w h => hw w (List.mem_append_left _ h)
    have i1 := ih hw' (by omega)
    rw [List.map_append, List.map_cons, List.map_nil, placeR_snoc, placeR_snoc, List.map_append, i1, rfree_tn n1 (placeR_ok l hw' (by omega)).2 _ _ (hw a (by simp))]
    rfl
/-- the berths that are left -/
def leftR (n : Int) (ns : List Int) : List Int := (irange 1 (n + 1)).filter fun b => !decide (b ∈ placeR n ns)
theorem mem_leftR {n b : Int} {ns : List Int} : b ∈ leftR n ns ↔ (1 ≤ b ∧ b ≤ n) ∧ b ∉ placeR n ns := by
  unfold leftR
  rw [List.mem_filter, mem_irange]
  simp
  omega
theorem leftR_sorted (n : Int) (ns : List Int) : (leftR n ns).Pairwise (· < ·) := (irange_sorted _ _).filter _
theorem leftR_len {n : Int} (n2 : n ≤ 400) (ns : List Int) : (leftR n ns).length ≤ 400 := by
  unfold leftR
  refine Nat.le_trans (List.length_filter_le _ _) ?_
  rw [irange_len]
  omega
theorem nodup_map_on {α β : Type} {f : α → β} : ∀ {l : List α}, l.Nodup → (∀ a ∈ l, ∀ b ∈ l, f a = f b → a = b) → (l.map f).Nodup
  | [], _, _ => List.nodup_nil
  | a :: l, h, hf => by
    rw [List.nodup_cons] at h
    rw [List.map_cons, List.nodup_cons]
    refine ⟨fun z => ?_, nodup_map_on h.2 fun x hx y hy => hf x (List.mem_cons_of_mem _ hx) y (List.mem_cons_of_mem _ hy)⟩
    obtain ⟨b, hb, e⟩ := List.mem_map.mp z
    have := hf b (List.mem_cons_of_mem _ hb) a List.mem_cons_self e
    subst this
    exact h.1 hb
theorem leftR_tn {n by_ : Int} {ns : List Int} (n1 : 1 ≤ n) (hw : ∀ w ∈ ns, 1 ≤ w ∧ w ≤ n) (hl : (ns.length : Int) ≤ n) : (leftR n (ns.map (tn n by_))).Perm ((leftR n ns).map (tn n by_)) := by
  have lin : ∀ a ∈ leftR n ns, 1 ≤ a ∧ a ≤ n := fun a ha => (mem_leftR.mp ha).1
  have nd : ∀ ms, (leftR n ms).Nodup := fun ms => (leftR_sorted n ms).imp fun h => Int.ne_of_lt h
  rw [List.perm_ext_iff_of_nodup (nd _) (nodup_map_on (nd _) fun a ha b hb e => tn_inj (lin a ha) (lin b hb) e)]
  intro y
  have pin := (placeR_ok ns hw hl).2
  rw [mem_leftR, placeR_tn n1 ns hw hl]
  constructor
  · rintro ⟨y1, y2⟩
    obtain ⟨b, b1, rfl⟩ := tn_onto (by_ := by_) y1
    exact List.mem_map.mpr ⟨b, mem_leftR.mpr ⟨b1, fun z => y2 ((tn_mem pin b1).mpr z)⟩, rfl⟩
  · intro hy
    obtain ⟨b, hb, rfl⟩ := List.mem_map.mp hy
    obtain ⟨b1, b2⟩ := mem_leftR.mp hb
    exact ⟨tn_in n1, fun z => b2 ((tn_mem pin b1).mp z)⟩
/-- the dict of the ships by their berths -/
def heldR (bs : List Int) : List (Key × V) := bs.mapIdx fun i b => (Sum.inl b, V.int (i : Nat))
theorem heldR_snoc (bs : List Int) (b : Int) : heldR (bs ++ [b]) = heldR bs ++ [(Sum.inl b, V.int (bs.length : Nat))] := by
  unfold heldR
  rw [List.mapIdx_append]
  simp
theorem heldR_keys (bs : List Int) : (heldR bs).map (·.1) = bs.map Sum.inl := by
  induction bs using snoc_ind with
  | h0 => rfl
  | h1 l a ih => rw [heldR_snoc, List.map_append, ih, List.map_append]; rfl
theorem heldR_some (bs : List Int) (b : Int) : (valV (heldR bs) (.inl b)).isSome = decide (b ∈ bs) := by
  rw [← valV_any]
  have : ((heldR bs).any fun kv => decide (kv.1 = Sum.inl b)) = ((heldR bs).map (·.1)).any fun k => decide (k = Sum.inl b) := by
    rw [List.any_map]
    rfl
  rw [this, heldR_keys, List.any_map, Bool.eq_iff_iff, List.any_eq_true, decide_eq_true_eq]
  constructor
  · rintro ⟨x, hx, e⟩
    have := Sum.inl.inj (of_decide_eq_true e)
    rw [← this]
    exact hx
  · exact fun h => ⟨b, h, by simp⟩
theorem heldR_put {bs : List Int} {b : Int} (h : b ∉ bs) : putK (heldR bs) (.inl b) (.int (bs.length : Nat)) = heldR (bs ++ [b]) := by
  rw [heldR_snoc]
  refine putK_new _ ?_
  have := heldR_some bs b
  rw [decide_eq_false h] at this
  cases e : valV (heldR bs) (.inl b) with
  | none => rfl
  | some v => rw [e] at this; cases this
theorem heldR_get : ∀ {bs : List Int} {i : Nat} {b : Int}, bs.Nodup → bs[i]? = some b → valV (heldR bs) (.inl b) = some (.int (i : Nat)) := by
  intro bs
  induction bs using snoc_ind with
  | h0 => intro i b _ h; simp at h
  | h1 l a ih =>
    intro i b nd h
    rw [List.nodup_append] at nd
    obtain ⟨n1, _, n2⟩ := nd
    rw [heldR_snoc]
    have app : ∀ (xs ys : List (Key × V)) (k : Key), valV (xs ++ ys) k = (valV xs k).or (valV ys k) := by
      intro xs ys k
      unfold valV
      rw [List.find?_append]
      cases List.find? (fun kv => decide (kv.1 = k)) xs <;> rfl
    rw [app]
    by_cases c : i < l.length
    · rw [List.getElem?_append_left c] at h
      rw [ih n1 h]
      rfl
    · have h5 := (List.getElem?_eq_some_iff.mp h).1
      rw [List.length_append, List.length_singleton] at h5
      have h6 : i = l.length := by omega
      subst h6
      rw [List.getElem?_append_right (Nat.le_refl _), Nat.sub_self] at h
      cases h
      have : valV (heldR l) (.inl a) = none := by
        have := heldR_some l a
        rw [decide_eq_false fun z => n2 a z a (by simp) rfl] at this
        cases e : valV (heldR l) (.inl a) with
        | none => rfl
        | some v => rw [e] at this; cases this
      rw [this]
      unfold valV
      simp
/-- sorted by their places, the items stand as they stood -/
theorem sort_places {bs ms : List Int} {key : Int → Int} (nd : bs.Nodup) (hk : ∀ (i : Nat) b, bs[i]? = some b → key b = i) (hp : ms.Perm bs) (hs : ms.Pairwise fun a b => key a ≤ key b) : ms = bs := by
  have bsort : bs.Pairwise fun a b => key a ≤ key b := by
    rw [List.pairwise_iff_getElem]
    intro i j hi hj hij
    rw [hk i _ (List.getElem?_eq_getElem hi), hk j _ (List.getElem?_eq_getElem hj)]
    omega
  refine List.Perm.eq_of_pairwise (le := fun a b => key a ≤ key b) (fun a b ha hb h1 h2 => ?_) hs bsort hp
  obtain ⟨i, hi⟩ := List.getElem?_of_mem (hp.mem_iff.mp ha)
  obtain ⟨j, hj⟩ := List.getElem?_of_mem hb
  rw [hk i a hi, hk j b hj] at h1 h2
  have : i = j := by omega
  subst this
  rw [hi] at hj
  exact Option.some.inj hj

/-! ### one ship fewer than berths on a round quay -/
theorem left_len {n : Int} {ns : List Int} (n1 : 1 ≤ n) (hw : ∀ w ∈ ns, 1 ≤ w ∧ w ≤ n) (hl : (ns.length : Int) ≤ n) : ((leftR n ns).length : Int) = n - ns.length := by
  obtain ⟨nd, pin⟩ := placeR_ok ns hw hl
  have ld : (leftR n ns).Nodup := (leftR_sorted n ns).imp fun h => Int.ne_of_lt h
  have hp : (placeR n ns ++ leftR n ns).Perm (irange 1 (n + 1)) := by
    rw [List.perm_ext_iff_of_nodup ?_ (irange_nodup _ _)]
    · intro y
      rw [List.mem_append, mem_leftR, mem_irange]
      constructor
      · rintro (h | h)
        · have := pin y h
          omega
        · omega
      · intro h
        by_cases c : y ∈ placeR n ns
        · exact .inl c
        · exact .inr ⟨by omega, c⟩
    · rw [List.nodup_append]
      exact ⟨nd, ld, fun x hx y hy e => (mem_leftR.mp hy).2 (e ▸ hx)⟩
  have := hp.length_eq
  rw [List.length_append, placeR_len, irange_len] at this
  omega
theorem left_one {n : Int} {ns : List Int} (n1 : 1 ≤ n) (hw : ∀ w ∈ ns, 1 ≤ w ∧ w ≤ n) (hl : (ns.length : Int) = n - 1) : ∃ L, leftR n ns = [L] ∧ 1 ≤ L ∧ L ≤ n := by
  have h := left_len n1 hw (by omega)
  have : (leftR n ns).length = 1 := by omega
  obtain ⟨L, e⟩ := List.length_eq_one_iff.mp this
  have := mem_leftR.mp (show L ∈ leftR n ns by rw [e]; exact List.mem_cons_self)
  exact ⟨L, e, this.1⟩
theorem left_turned {n by_ L : Int} {ns : List Int} (n1 : 1 ≤ n) (hw : ∀ w ∈ ns, 1 ≤ w ∧ w ≤ n) (hl : (ns.length : Int) = n - 1) (h : leftR n ns = [L]) : leftR n (ns.map (tn n by_)) = [tn n by_ L] := by
  have hp := leftR_tn (by_ := by_) n1 hw (show (ns.length : Int) ≤ n by omega)
  rw [h] at hp
  exact List.perm_singleton.mp hp
theorem turn_last {n L t : Int} (L1 : 1 ≤ L ∧ L ≤ n) (t1 : 0 ≤ t ∧ t < n) : tn n t L = n ↔ t = n - L := by
  unfold tn
  constructor
  · intro h
    have h1 : (L - 1 + t) % n = n - 1 := by omega
    by_cases c : L - 1 + t < n
    · rw [Int.emod_eq_of_lt (by omega) c] at h1
      omega
    · have h2 : (L - 1 + t) % n = L - 1 + t - n := by
        rw [show L - 1 + t = L - 1 + t - n + n from by omega, Int.add_emod_right, Int.emod_eq_of_lt (by omega) (by omega)]
        omega
      omega
  · rintro rfl
    rw [show L - 1 + (n - L) = n - 1 from by omega, Int.emod_eq_of_lt (by omega) (by omega)]
    omega
theorem at_plain {n w : Int} {j : Nat} (w1 : 1 ≤ w) (h : w + j ≤ n) : at_ n w j = w + j := by
  unfold at_
  rw [Int.emod_eq_of_lt (by omega) (by omega)]
  omega
theorem firstFree_run {n : Int} {held : List Int} : ∀ (k : Nat) (w : Int), (∀ j : Nat, j < k → w + j ∈ held) → w + k ∉ held → w + k ≤ n → firstFree n held w = some (w + k)
  | 0, w, _, h2, h3 => by
    have : w + ((0 : Nat) : Int) = w := by omega
    rw [this] at h2 h3 ⊢
    exact firstFree_here h3 h2
  | k + 1, w, h1, h2, h3 => by
    have h0 := h1 0 (by omega)
    rw [show w + ((0 : Nat) : Int) = w from by omega] at h0
    rw [firstFree_skip (by omega) h0, firstFree_run k (w + 1) (fun j hj => by
      have := h1 (j + 1) (by omega)
      rw [show w + ((j + 1 : Nat) : Int) = w + 1 + j from by omega] at this
      exact this) (by rw [show w + 1 + (k : Int) = w + ((k + 1 : Nat) : Int) from by omega]; exact h2) (by omega)]
    congr 1
    omega
theorem occ_some (l : List Int) : occ (l.map some) = l := by
  unfold occ
  rw [List.filterMap_map]
  induction l with
  | nil => rfl
  | cons a l ih => simpa using ih
theorem round_to {n : Int} (ns : List Int) : (∀ w ∈ ns, 1 ≤ w ∧ w ≤ n) → (ns.length : Int) ≤ n → n ∉ placeR n ns → n ∉ ns ∧ place (n - 1) ns = (placeR n ns).map some := by
  induction ns using snoc_ind with
  | h0 => exact fun _ _ _ => ⟨by simp, rfl⟩
  | h1 l w ih =>
    intro hw hl hn
    rw [List.length_append, List.length_singleton] at hl
    rw [placeR_snoc, List.mem_append, not_or] at hn
    obtain ⟨i1, i2⟩ := ih (fun v h => hw v (List.mem_append_left _ h)) (by omega) hn.1
    have w1 := hw w (by simp)
    obtain ⟨k, k1, k2, k3⟩ := rfree_ends (held := placeR n l) w1 (by rw [placeR_len]; omega)
    have hb : rfree n (placeR n l) n.toNat w ≠ n := fun e => hn.2 (by rw [e]; simp)
    rw [rfree_is w1 k1 k2 k3] at hb
    have lt : w + k < n := by
      refine Classical.byContradiction fun c => ?_
      have e : at_ n w (n - w).toNat = n := by
        rw [at_plain w1.1 (by omega)]
        omega
      by_cases c2 : (n - w).toNat = k
      · rw [c2] at e
        exact hb e
      · have := k3 (n - w).toNat (by omega)
        rw [e] at this
        exact hn.1 this
    have hat : ∀ j : Nat, j ≤ k → at_ n w j = w + j := fun j hj => at_plain w1.1 (by omega)
    refine ⟨fun z => ?_, ?_⟩
    · rcases List.mem_append.mp z with z | z
      · exact i1 z
      · have : n = w := by simpa using z
        omega
    · rw [place_snoc, placeR_snoc, rfree_is w1 k1 k2 k3, hat k (Nat.le_refl _), List.map_append]
      unfold placeStep
      rw [i2, occ_some]
      have : firstFree (n - 1) (placeR n l) w = some (w + k) := firstFree_run k w (fun j hj => by rw [← hat j (by omega)]; exact k3 j hj) (by rw [← hat k (Nat.le_refl _)]; exact k2) (by omega)
      rw [this]
      rfl
theorem round_of {n : Int} (ns : List Int) : (∀ w ∈ ns, 1 ≤ w ∧ w ≤ n) → (ns.length : Int) ≤ n → (∀ o ∈ place (n - 1) ns, o ≠ none) → place (n - 1) ns = (placeR n ns).map some := by
  induction ns using snoc_ind with
  | h0 => exact fun _ _ _ => rfl
  | h1 l w ih =>
    intro hw hl hp
    rw [List.length_append, List.length_singleton] at hl
    rw [place_snoc] at hp
    unfold placeStep at hp
    have i2 := ih (fun v h => hw v (List.mem_append_left _ h)) (by omega) fun o ho => hp o (List.mem_append_left _ ho)
    have w1 := hw w (by simp)
    rw [i2, occ_some] at hp
    have hq := hp (firstFree (n - 1) (placeR n l) w) (by simp)
    cases e : firstFree (n - 1) (placeR n l) w with
    | none => exact absurd e hq
    | some b =>
      obtain ⟨b1, b2, b3⟩ := firstFree_some e
      have gap := firstFree_gap _ rfl e
      have hat : ∀ j : Nat, j ≤ (b - w).toNat → at_ n w j = w + j := fun j hj => at_plain w1.1 (by omega)
      have r := rfree_is (held := placeR n l) (k := (b - w).toNat) w1 (by omega) (by rw [hat _ (Nat.le_refl _), show w + ((b - w).toNat : Int) = b from by omega]; exact b3) fun j hj => by
        rw [hat j (by omega)]
        exact gap _ (by omega) (by omega)
      rw [place_snoc, placeR_snoc, r, hat _ (Nat.le_refl _), List.map_append]
      unfold placeStep
      rw [i2, occ_some, e]
      rw [show w + ((b - w).toNat : Int) = b from by omega]
      rfl
theorem round_good {n L : Int} {ns : List Int} (n1 : 2 ≤ n) (hw : ∀ w ∈ ns, 1 ≤ w ∧ w ≤ n) (hl : (ns.length : Int) = n - 1) (h : leftR n ns = [L]) : L = n ↔ n ∉ ns ∧ Good (n - 1) ns := by
  have ml : ∀ y, y ∈ leftR n ns ↔ y = L := fun y => by rw [h]; simp
  constructor
  · rintro rfl
    have hn : L ∉ placeR L ns := (mem_leftR.mp ((ml L).mpr rfl)).2
    obtain ⟨h1, h2⟩ := round_to ns hw (by omega) hn
    refine ⟨h1, good_of_lie (fun w hw' => ⟨(hw w hw').1, ?_⟩) fun o ho => ?_⟩
    · have := (hw w hw').2
      have : w ≠ L := fun e => h1 (e ▸ hw')
      omega
    · rw [h2] at ho
      obtain ⟨x, _, rfl⟩ := List.mem_map.mp ho
      exact fun z => nomatch z
  · rintro ⟨h1, g⟩
    have hw' : ∀ w ∈ ns, 1 ≤ w ∧ w ≤ n - 1 := fun w hm => by
      have := hw w hm
      have : w ≠ n := fun e => h1 (e ▸ hm)
      omega
    have e := round_of ns hw (by omega) (lie_of_good hw' g)
    have hn : n ∉ placeR n ns := fun z => by
      have hp : n ∈ occ (place (n - 1) ns) := by rw [e, occ_some]; exact z
      have := occ_place (fun w hm => (hw' w hm).1) n hp
      omega
    exact ((ml n).mp (mem_leftR.mpr ⟨⟨by omega, Int.le_refl _⟩, hn⟩)).symm

/-! ### trees: the plain law -/
/-- the ships, counted from 1, whose number in t is v -/
def kids (t : List Int) (v : Int) : List Int := ((List.range t.length).filter fun s => decide (t.getD s 0 = v)).map fun s => ((s : Nat) : Int) + 1
theorem mem_kids {t : List Int} {v x : Int} : x ∈ kids t v ↔ ∃ s : Nat, t[s]? = some v ∧ x = (s : Int) + 1 := by
  unfold kids
  simp only [List.mem_map, List.mem_filter, List.mem_range, decide_eq_true_eq]
  constructor
  · rintro ⟨s, ⟨h1, h2⟩, rfl⟩
    refine ⟨s, ?_, rfl⟩
    rw [List.getElem?_eq_getElem h1]
    rw [List.getD_eq_getElem?_getD, List.getElem?_eq_getElem h1] at h2
    exact congrArg some h2
  · rintro ⟨s, h, rfl⟩
    have h1 := (List.getElem?_eq_some_iff.mp h).1
    refine ⟨s, ⟨h1, ?_⟩, rfl⟩
    rw [List.getD_eq_getElem?_getD, h]
    rfl
theorem kids_nodup (t : List Int) (v : Int) : (kids t v).Nodup := by
  unfold kids
  refine List.pairwise_map.mpr ?_
  exact (List.nodup_range.filter _).imp fun {a b} h z => h (by omega)
theorem kids_len (t : List Int) (v : Int) : (kids t v).length = t.countP fun w => decide (w = v) := by
  unfold kids
  rw [List.length_map, ← List.countP_eq_length_filter]
  have e : t = (List.range t.length).map fun s => t.getD s 0 := by
    refine List.ext_getElem? fun i => ?_
    rw [List.getElem?_map]
    by_cases h : i < t.length
    · rw [List.getElem?_range h, List.getElem?_eq_getElem h]
      simp [List.getD_eq_getElem?_getD, List.getElem?_eq_getElem h]
    · rw [List.getElem?_eq_none (by omega), List.getElem?_eq_none (by rw [List.length_range]; omega)]
      rfl
  conv => rhs; rw [e, List.countP_map]
  rfl
/-- all knots as they are come to: c k v are those below the k-th one, v -/
def grow (c : Nat → Int → List Int) : Nat → List Int
  | 0 => [0]
  | k + 1 => match (grow c k)[k]? with
    | some v => grow c k ++ c k v
    | none => grow c k
theorem grow_some {c : Nat → Int → List Int} {k : Nat} {v : Int} (h : (grow c k)[k]? = some v) : grow c (k + 1) = grow c k ++ c k v := by
  show (match (grow c k)[k]? with | some v => grow c k ++ c k v | none => grow c k) = _
  rw [h]
theorem grow_none {c : Nat → Int → List Int} {k : Nat} (h : (grow c k)[k]? = none) : grow c (k + 1) = grow c k := by
  show (match (grow c k)[k]? with | some v => grow c k ++ c k v | none => grow c k) = _
  rw [h]
theorem grow_pre1 (c : Nat → Int → List Int) (k : Nat) : grow c k <+: grow c (k + 1) := by
  cases h : (grow c k)[k]? with
  | none => rw [grow_none h]; exact List.prefix_refl _
  | some v => rw [grow_some h]; exact List.prefix_append _ _
theorem grow_pre (c : Nat → Int → List Int) (j : Nat) : ∀ d, grow c j <+: grow c (j + d)
  | 0 => List.prefix_refl _
  | d + 1 => (grow_pre c j d).trans (grow_pre1 c (j + d))
theorem grow_stays (c : Nat → Int → List Int) (j : Nat) (h : (grow c j).length ≤ j) : ∀ d, grow c (j + d) = grow c j
  | 0 => rfl
  | d + 1 => by
    have ih := grow_stays c j h d
    rw [← Nat.add_assoc, grow_none, ih]
    rw [ih]
    exact List.getElem?_eq_none (by omega)
theorem grow_at {c : Nat → Int → List Int} {j k i : Nat} {v : Int} (hjk : j ≤ k) (h : (grow c j)[i]? = some v) : (grow c k)[i]? = some v := by
  obtain ⟨d, rfl⟩ : ∃ d, k = j + d := ⟨k - j, by omega⟩
  obtain ⟨l, e⟩ := grow_pre c j d
  rw [← e, List.getElem?_append_left (List.getElem?_eq_some_iff.mp h).1]
  exact h
theorem grow_head (c : Nat → Int → List Int) (k : Nat) : (grow c k)[0]? = some 0 := grow_at (j := 0) (Nat.zero_le _) rfl
theorem grow_back {c : Nat → Int → List Int} {j k i : Nat} {v : Int} (hjk : j ≤ k) (hi : i < (grow c j).length) (h : (grow c k)[i]? = some v) : (grow c j)[i]? = some v := by
  have := grow_at hjk (List.getElem?_eq_getElem hi)
  rw [h] at this
  rw [List.getElem?_eq_getElem hi, this]
/-- as far as there is one to go on from -/
def Runs (c : Nat → Int → List Int) (k : Nat) : Prop := ∀ j, j < k → j < (grow c j).length
theorem runs_of {c : Nat → Int → List Int} {k : Nat} (h : k ≤ (grow c k).length) : Runs c k := fun j hj => by
  refine Classical.byContradiction fun z => ?_
  have := grow_stays c j (by omega) (k - j)
  rw [show j + (k - j) = k from by omega] at this
  rw [this] at h
  omega
/-! of a row -/
def rowC (ws : List Int) : Nat → Int → List Int := fun k _ => kids ws ((k : Int) + 1)
theorem cnt_eq (ws : List Int) (b : Int) : cntGe ws b = cntGe ws (b + 1) + ws.countP fun w => decide (w = b) := by
  unfold cntGe
  induction ws with
  | nil => rfl
  | cons w ws ih =>
    rw [List.countP_cons, List.countP_cons, List.countP_cons, ih]
    by_cases h1 : b + 1 ≤ w
    · have : b ≤ w := by omega
      have : ¬ w = b := by omega
      simp [*]
      omega
    · by_cases h2 : w = b
      · subst h2
        have : ¬ w + 1 ≤ w := by omega
        simp [*]
        omega
      · have : ¬ b ≤ w := by omega
        simp [*]
theorem row_len {ws : List Int} (h1 : ∀ w ∈ ws, 1 ≤ w) : ∀ k, Runs (rowC ws) k → (grow (rowC ws) k).length + cntGe ws ((k : Int) + 1) = ws.length + 1
  | 0, _ => by
    have : cntGe ws ((0 : Nat) + 1 : Int) = ws.length := by
      unfold cntGe
      rw [List.countP_eq_length]
      intro w hw
      have := h1 w hw
      simp
      omega
    rw [this]
    show 1 + _ = _
    omega
  | k + 1, hr => by
    have ih := row_len h1 k fun j hj => hr j (by omega)
    have hk := hr k (by omega)
    rw [grow_some (List.getElem?_eq_getElem hk), List.length_append]
    show _ + (kids ws ((k : Int) + 1)).length + _ = _
    rw [kids_len]
    have := cnt_eq ws ((k : Int) + 1)
    rw [show (((k + 1 : Nat) : Int) + 1) = (k : Int) + 1 + 1 from by omega]
    omega
theorem row_runs {ws : List Int} (h1 : ∀ w ∈ ws, 1 ≤ w) (g : Good (ws.length : Nat) ws) : ∀ k, k ≤ ws.length → Runs (rowC ws) k
  | 0, _ => fun j hj => absurd hj (by omega)
  | k + 1, hk => fun j hj => by
    have ih := row_runs h1 g k (by omega)
    by_cases e : j < k
    · exact ih j e
    · obtain rfl : j = k := by omega
      have := row_len h1 j ih
      have := g ((j : Int) + 1) (by omega) (by omega)
      omega
theorem cnt_zero {ws : List Int} (h2 : ∀ w ∈ ws, w ≤ (ws.length : Int)) {b : Int} (hb : (ws.length : Int) < b) : cntGe ws b = 0 := by
  unfold cntGe
  rw [List.countP_eq_zero]
  intro w hw
  have := h2 w hw
  simp
  omega
/-- a full row comes to all its knots -/
theorem row_full {ws : List Int} (hw : ∀ w ∈ ws, 1 ≤ w ∧ w ≤ (ws.length : Int)) (g : Good (ws.length : Nat) ws) : (grow (rowC ws) ws.length).length = ws.length + 1 := by
  have := row_len (fun w h => (hw w h).1) _ (row_runs (fun w h => (hw w h).1) g ws.length (Nat.le_refl _))
  rw [cnt_zero (fun w h => (hw w h).2) (by omega)] at this
  omega
theorem row_runs1 {ws : List Int} (hw : ∀ w ∈ ws, 1 ≤ w ∧ w ≤ (ws.length : Int)) (g : Good (ws.length : Nat) ws) : Runs (rowC ws) (ws.length + 1) := fun j hj => by
  by_cases e : j < ws.length
  · exact row_runs (fun w h => (hw w h).1) g ws.length (Nat.le_refl _) j e
  · obtain rfl : j = ws.length := by omega
    rw [row_full hw g]
    omega
theorem row_last {ws : List Int} (hw : ∀ w ∈ ws, 1 ≤ w ∧ w ≤ (ws.length : Int)) (g : Good (ws.length : Nat) ws) : grow (rowC ws) (ws.length + 1) = grow (rowC ws) ws.length := by
  have h := row_full hw g
  rw [grow_some (List.getElem?_eq_getElem (by omega : ws.length < (grow (rowC ws) ws.length).length))]
  show _ ++ kids ws _ = _
  have : kids ws ((ws.length : Int) + 1) = [] := by
    refine List.eq_nil_iff_forall_not_mem.mpr fun x hx => ?_
    obtain ⟨s, h1, _⟩ := mem_kids.mp hx
    have := (hw _ (List.mem_of_getElem? h1)).2
    omega
  rw [this, List.append_nil]
theorem row_mem {ws : List Int} (k : Nat) : ∀ x ∈ grow (rowC ws) k, x = 0 ∨ ∃ (s : Nat) (w : Int), x = (s : Int) + 1 ∧ ws[s]? = some w ∧ w ≤ (k : Int) := by
  induction k with
  | zero =>
    intro x hx
    exact .inl (List.mem_singleton.mp hx)
  | succ k ih =>
    intro x hx
    have old : x ∈ grow (rowC ws) k → x = 0 ∨ ∃ (s : Nat) (w : Int), x = (s : Int) + 1 ∧ ws[s]? = some w ∧ w ≤ ((k + 1 : Nat) : Int) := fun h => by
      rcases ih x h with h | ⟨s, w, h1, h2, h3⟩
      · exact .inl h
      · exact .inr ⟨s, w, h1, h2, by omega⟩
    cases e : (grow (rowC ws) k)[k]? with
    | none => rw [grow_none e] at hx; exact old hx
    | some v =>
      rw [grow_some e] at hx
      rcases List.mem_append.mp hx with hx | hx
      · exact old hx
      · obtain ⟨s, h1, h2⟩ := mem_kids.mp hx
        exact .inr ⟨s, _, h2, h1, by omega⟩
theorem row_nodup (ws : List Int) : ∀ k, (grow (rowC ws) k).Nodup
  | 0 => by show List.Nodup [0]; simp
  | k + 1 => by
    have ih := row_nodup ws k
    cases e : (grow (rowC ws) k)[k]? with
    | none => rw [grow_none e]; exact ih
    | some v =>
      rw [grow_some e, List.nodup_append]
      refine ⟨ih, kids_nodup _ _, fun x hx y hy z => ?_⟩
      subst z
      obtain ⟨s, h1, h2⟩ := mem_kids.mp hy
      rcases row_mem k x hx with h | ⟨s', w, h3, h4, h5⟩
      · omega
      · obtain rfl : s' = s := by omega
        rw [h1] at h4
        have := Option.some.inj h4
        omega
/-- the knots of a row as they are come to -/
def metOf (ws : List Int) : List Int := grow (rowC ws) (ws.length + 1)
/-- the tree of a row -/
def treeOf (ws : List Int) : List Int := ws.map fun w => (metOf ws).getD (w - 1).toNat 0
/-! of a tree -/
def treeC (t : List Int) : Nat → Int → List Int := fun _ v => kids t v
theorem grow_same {c d : Nat → Int → List Int} {n : Nat} (h : ∀ k v, k < n → (grow d k)[k]? = some v → c k v = d k v) : ∀ k, k ≤ n → grow c k = grow d k
  | 0, _ => rfl
  | k + 1, hk => by
    have ih := grow_same h k (by omega)
    cases e : (grow d k)[k]? with
    | none => rw [grow_none e, grow_none (by rw [ih]; exact e), ih]
    | some v => rw [grow_some e, grow_some (by rw [ih]; exact e), ih, h k v (by omega) e]
theorem getD_at {l : List Int} {i : Nat} {v : Int} (h : l[i]? = some v) : l.getD i 0 = v := by
  rw [List.getD_eq_getElem?_getD, h]
  rfl
theorem at_getD {l : List Int} {i : Nat} (h : i < l.length) : l[i]? = some (l.getD i 0) := by
  rw [List.getD_eq_getElem?_getD, List.getElem?_eq_getElem h]
  rfl
theorem nodup_at {l : List Int} (hn : l.Nodup) {i j : Nat} {v : Int} (h1 : l[i]? = some v) (h2 : l[j]? = some v) : i = j := by
  obtain ⟨hi, e1⟩ := List.getElem?_eq_some_iff.mp h1
  obtain ⟨hj, e2⟩ := List.getElem?_eq_some_iff.mp h2
  have pw := List.pairwise_iff_getElem.mp hn
  rcases Nat.lt_trichotomy i j with c | c | c
  · exact absurd (e1.trans e2.symm) (pw _ _ hi hj c)
  · exact c
  · exact absurd (e2.trans e1.symm) (pw _ _ hj hi c)
theorem idx_of_at {l : List Int} (hn : l.Nodup) {i : Nat} {v : Int} (h : l[i]? = some v) : l.idxOf v = i := by
  have hm : v ∈ l := List.mem_of_getElem? h
  have hl := List.idxOf_lt_length_of_mem hm
  exact nodup_at hn (by rw [List.getElem?_eq_getElem hl, List.getElem_idxOf hl]) h
theorem row_tree {ws : List Int} (hw : ∀ w ∈ ws, 1 ≤ w ∧ w ≤ (ws.length : Int)) (g : Good (ws.length : Nat) ws) : grow (treeC (treeOf ws)) (ws.length + 1) = metOf ws := by
  have ml : (metOf ws).length = ws.length + 1 := by unfold metOf; rw [row_last hw g, row_full hw g]
  refine grow_same (fun k v hk e => ?_) _ (Nat.le_refl _)
  show kids (treeOf ws) v = kids ws ((k : Int) + 1)
  have ev : (metOf ws)[k]? = some v := grow_at (by omega) e
  unfold kids
  have el : (treeOf ws).length = ws.length := List.length_map _
  rw [el]
  congr 1
  refine List.filter_congr fun s hs => ?_
  rw [List.mem_range] at hs
  rw [decide_eq_decide]
  have hw' := hw _ (List.mem_of_getElem? (at_getD hs))
  have e1 : (treeOf ws).getD s 0 = (metOf ws).getD (ws.getD s 0 - 1).toNat 0 := by
    refine getD_at ?_
    unfold treeOf
    rw [List.getElem?_map, at_getD hs]
    rfl
  rw [e1]
  have e2 := at_getD (l := metOf ws) (i := (ws.getD s 0 - 1).toNat) (by omega)
  constructor
  · intro h
    rw [h] at e2
    have := nodup_at (row_nodup ws _) e2 ev
    omega
  · intro h
    rw [h, show ((k : Int) + 1 - 1).toNat = k from by omega]
    exact getD_at ev
/-- the row of a tree -/
def rowOf (t : List Int) : List Int := t.map fun v => (((grow (treeC t) (t.length + 1)).idxOf v : Nat) : Int) + 1
/-- a row's tree read is the row -/
theorem row_of_tree {ws : List Int} (hw : ∀ w ∈ ws, 1 ≤ w ∧ w ≤ (ws.length : Int)) (g : Good (ws.length : Nat) ws) : rowOf (treeOf ws) = ws := by
  have ml : (metOf ws).length = ws.length + 1 := by unfold metOf; rw [row_last hw g, row_full hw g]
  have el : (treeOf ws).length = ws.length := List.length_map _
  unfold rowOf
  rw [el, row_tree hw g]
  refine List.ext_getElem? fun i => ?_
  rw [List.getElem?_map]
  unfold treeOf
  rw [List.getElem?_map]
  cases e : ws[i]? with
  | none => rfl
  | some w =>
    have hw' := hw _ (List.mem_of_getElem? e)
    have e2 := at_getD (l := metOf ws) (i := (w - 1).toNat) (by omega)
    show some ((((metOf ws).idxOf ((metOf ws).getD (w - 1).toNat 0) : Nat) : Int) + 1) = some w
    rw [idx_of_at (show (metOf ws).Nodup from row_nodup ws _) e2]
    congr 1
    omega
theorem kids_snoc (t : List Int) (w v : Int) : kids (t ++ [w]) v = kids t v ++ if w = v then [((t.length : Nat) : Int) + 1] else [] := by
  unfold kids
  rw [List.length_append, List.length_singleton, List.range_succ, List.filter_append, List.map_append]
  congr 1
  · congr 1
    refine List.filter_congr fun s hs => ?_
    rw [List.mem_range] at hs
    rw [List.getD_eq_getElem?_getD, List.getD_eq_getElem?_getD, List.getElem?_append_left hs]
  · have e : (t ++ [w]).getD t.length 0 = w := by
      rw [List.getD_eq_getElem?_getD, List.getElem?_append_right (Nat.le_refl _), Nat.sub_self]
      rfl
    by_cases h : w = v
    · rw [if_pos h, List.filter_cons, e, decide_eq_true h]
      rfl
    · rw [if_neg h, List.filter_cons, e, decide_eq_false h]
      rfl
theorem kids_le (t : List Int) (v : Int) : (kids t v).length ≤ t.length := by
  rw [kids_len]
  exact List.countP_le_length
theorem treeOf_at {ws : List Int} {s : Nat} {w : Int} (h : ws[s]? = some w) : (treeOf ws)[s]? = some ((metOf ws).getD (w - 1).toNat 0) := by
  unfold treeOf
  rw [List.getElem?_map, h]
  rfl
theorem met_len {ws : List Int} (hw : ∀ w ∈ ws, 1 ≤ w ∧ w ≤ (ws.length : Int)) (g : Good (ws.length : Nat) ws) : (metOf ws).length = ws.length + 1 := by
  unfold metOf
  rw [row_last hw g, row_full hw g]
/-- at the k-th knot of a full row there is one to go on from: the k-th that is met -/
theorem grow_met {ws : List Int} (hw : ∀ w ∈ ws, 1 ≤ w ∧ w ≤ (ws.length : Int)) (g : Good (ws.length : Nat) ws) {k : Nat} (hk : k ≤ ws.length) : (grow (rowC ws) k)[k]? = some ((metOf ws).getD k 0) := by
  have h := row_runs1 hw g k (by omega)
  have h2 := at_getD h
  have h3 := grow_at (by omega : k ≤ ws.length + 1) h2
  rw [h2, getD_at (show (metOf ws)[k]? = _ from h3)]
theorem grow_next {ws : List Int} (hw : ∀ w ∈ ws, 1 ≤ w ∧ w ≤ (ws.length : Int)) (g : Good (ws.length : Nat) ws) {k : Nat} (hk : k ≤ ws.length) : grow (rowC ws) (k + 1) = grow (rowC ws) k ++ kids ws ((k : Int) + 1) := grow_some (grow_met hw g hk)
theorem grow_le {ws : List Int} (hw : ∀ w ∈ ws, 1 ≤ w ∧ w ≤ (ws.length : Int)) (g : Good (ws.length : Nat) ws) {k : Nat} (hk : k ≤ ws.length + 1) : (grow (rowC ws) k).length ≤ ws.length + 1 := by
  obtain ⟨d, e⟩ : ∃ d, ws.length + 1 = k + d := ⟨ws.length + 1 - k, by omega⟩
  have := (grow_pre (rowC ws) k d).length_le
  rw [← e] at this
  have m := met_len hw g
  unfold metOf at m
  omega

/-! ### trees: of any tree -/
theorem tree_mem {t : List Int} (k : Nat) : ∀ (i : Nat) (x : Int), (grow (treeC t) k)[i]? = some x → x = 0 ∨ ∃ (s j : Nat) (v : Int), x = (s : Int) + 1 ∧ t[s]? = some v ∧ j < i ∧ j < k ∧ (grow (treeC t) k)[j]? = some v := by
  induction k with
  | zero =>
    intro i x hx
    exact .inl (List.mem_singleton.mp (List.mem_of_getElem? (show [(0 : Int)][i]? = some x from hx)))
  | succ k ih =>
    intro i x hx
    by_cases hi : i < (grow (treeC t) k).length
    · rcases ih i x (grow_back (Nat.le_succ k) hi hx) with h | ⟨s, j, v, h1, h2, h3, h4, h5⟩
      · exact .inl h
      · exact .inr ⟨s, j, v, h1, h2, h3, by omega, grow_at (Nat.le_succ k) h5⟩
    · cases e : (grow (treeC t) k)[k]? with
      | none =>
        rw [grow_none e] at hx
        exact absurd (List.getElem?_eq_some_iff.mp hx).1 hi
      | some v =>
        rw [grow_some e, List.getElem?_append_right (by omega)] at hx
        obtain ⟨s, h1, h2⟩ := mem_kids.mp (List.mem_of_getElem? hx)
        exact .inr ⟨s, k, v, h2, h1, by have := (List.getElem?_eq_some_iff.mp e).1; omega, by omega, grow_at (Nat.le_succ k) e⟩
theorem tree_nodup (t : List Int) : ∀ k, (grow (treeC t) k).Nodup
  | 0 => by show List.Nodup [0]; simp
  | k + 1 => by
    have ih := tree_nodup t k
    cases e : (grow (treeC t) k)[k]? with
    | none => rw [grow_none e]; exact ih
    | some v =>
      rw [grow_some e, List.nodup_append]
      refine ⟨ih, kids_nodup _ _, fun x hx y hy z => ?_⟩
      subst z
      obtain ⟨s, h1, h2⟩ := mem_kids.mp hy
      obtain ⟨i, hi⟩ := List.getElem?_of_mem hx
      rcases tree_mem k i x hi with h | ⟨s', j, v', h3, h4, h5, h6, h7⟩
      · omega
      · obtain rfl : s' = s := by omega
        rw [h1] at h4
        obtain rfl := Option.some.inj h4
        have := nodup_at ih e h7
        omega
theorem tree_in {t : List Int} (k : Nat) : ∀ x ∈ grow (treeC t) k, 0 ≤ x ∧ x ≤ (t.length : Int) := fun x hx => by
  obtain ⟨i, hi⟩ := List.getElem?_of_mem hx
  rcases tree_mem k i x hi with h | ⟨s, j, v, h1, h2, _⟩
  · omega
  · have := (List.getElem?_eq_some_iff.mp h2).1
    omega
theorem tree_len (t : List Int) (k : Nat) : (grow (treeC t) k).length ≤ t.length + 1 := by
  have := nodup_le (m := irange 0 ((t.length : Int) + 1)) (tree_nodup t k) fun x hx => by
    have := tree_in k x hx
    exact mem_irange.mpr (by omega)
  rw [irange_len] at this
  omega
/-- the knots that hang on the root, as they are come to -/
def metIn (t : List Int) : List Int := grow (treeC t) (t.length + 1)
theorem metIn_end {t : List Int} {k : Nat} (h : (grow (treeC t) k).length ≤ k) (hk : k ≤ t.length + 1) : grow (treeC t) k = metIn t := by
  have := grow_stays _ k h (t.length + 1 - k)
  rw [show k + (t.length + 1 - k) = t.length + 1 from by omega] at this
  exact this.symm
/-- each knot hangs on the root -/
def Hangs (t : List Int) : Prop := (metIn t).length = t.length + 1
theorem hangs_runs {t : List Int} (h : Hangs t) : Runs (treeC t) (t.length + 1) := runs_of (by unfold Hangs metIn at h; omega)
theorem hangs_all {t : List Int} (h : Hangs t) {x : Int} (h0 : 0 ≤ x) (h1 : x ≤ (t.length : Int)) : x ∈ metIn t := by
  refine Classical.byContradiction fun c => ?_
  have := nodup_le (l := x :: metIn t) (m := irange 0 ((t.length : Int) + 1)) (List.nodup_cons.mpr ⟨c, tree_nodup t _⟩) fun y hy => by
    rcases List.mem_cons.mp hy with rfl | hy
    · exact mem_irange.mpr (by omega)
    · have := tree_in _ y hy
      exact mem_irange.mpr (by omega)
  rw [irange_len, List.length_cons] at this
  unfold Hangs at h
  omega
theorem hangs_of_all {t : List Int} (h : ∀ s : Nat, s < t.length → ((s : Nat) : Int) + 1 ∈ metIn t) : Hangs t := by
  have := nodup_le (l := irange 0 ((t.length : Int) + 1)) (m := metIn t) (by
    unfold irange
    refine List.pairwise_map.mpr ?_
    exact List.nodup_range.imp fun {a b} h z => h (by omega)) fun x hx => by
    rw [mem_irange] at hx
    by_cases e : x = 0
    · rw [e]
      exact List.mem_of_getElem? (grow_head _ _)
    · have := h (x - 1).toNat (by omega)
      rwa [show (((x - 1).toNat : Nat) : Int) + 1 = x from by omega] at this
  rw [irange_len] at this
  have h2 := tree_len t (t.length + 1)
  unfold Hangs
  unfold metIn at *
  omega
/-- what is below what hangs hangs -/
theorem met_closed {t : List Int} {s : Nat} {v : Int} (h : v ∈ metIn t) (e : t[s]? = some v) : ((s : Nat) : Int) + 1 ∈ metIn t := by
  obtain ⟨i, hi⟩ := List.getElem?_of_mem h
  have il := (List.getElem?_eq_some_iff.mp hi).1
  have l1 := tree_len t (t.length + 1)
  have i1 : i < t.length + 1 := by unfold metIn at il; omega
  have hg : i < (grow (treeC t) i).length := by
    refine Classical.byContradiction fun z => ?_
    have := metIn_end (t := t) (k := i) (by omega) (by omega)
    rw [this] at z
    omega
  have hi2 := grow_back (by omega : i ≤ t.length + 1) hg hi
  have h3 : ((s : Nat) : Int) + 1 ∈ grow (treeC t) (i + 1) := by
    rw [grow_some hi2]
    exact List.mem_append_right _ (mem_kids.mpr ⟨s, e, rfl⟩)
  obtain ⟨j, hj⟩ := List.getElem?_of_mem h3
  exact List.mem_of_getElem? (grow_at (by omega : i + 1 ≤ t.length + 1) hj)
theorem tree_row {t : List Int} (ht : ∀ v ∈ t, 0 ≤ v ∧ v ≤ (t.length : Int)) (h : Hangs t) : metOf (rowOf t) = metIn t := by
  have el : (rowOf t).length = t.length := List.length_map _
  unfold metOf
  rw [el]
  refine grow_same (fun k v hk e => ?_) _ (Nat.le_refl _)
  show kids (rowOf t) ((k : Int) + 1) = kids t v
  have ev : (metIn t)[k]? = some v := grow_at (by omega) e
  unfold kids
  rw [el]
  congr 1
  refine List.filter_congr fun s hs => ?_
  rw [List.mem_range] at hs
  rw [decide_eq_decide]
  have e1 : (rowOf t).getD s 0 = (((metIn t).idxOf (t.getD s 0) : Nat) : Int) + 1 := by
    refine getD_at ?_
    unfold rowOf
    rw [List.getElem?_map, at_getD hs]
    rfl
  rw [e1]
  have hv := ht _ (List.mem_of_getElem? (at_getD hs))
  have hm := hangs_all h hv.1 hv.2
  constructor
  · intro z
    have i2 : (metIn t).idxOf (t.getD s 0) = k := by omega
    have hl := List.idxOf_lt_length_of_mem hm
    have := List.getElem_idxOf hl
    have h4 : (metIn t)[(metIn t).idxOf (t.getD s 0)]? = some (t.getD s 0) := by rw [List.getElem?_eq_getElem hl, this]
    rw [i2, ev] at h4
    exact (Option.some.inj h4).symm
  · intro z
    rw [z, idx_of_at (show (metIn t).Nodup from tree_nodup t _) ev]
theorem rowOf_at {t : List Int} (ht : ∀ v ∈ t, 0 ≤ v ∧ v ≤ (t.length : Int)) (h : Hangs t) {s : Nat} {v : Int} (e : t[s]? = some v) : ∃ i : Nat, (rowOf t)[s]? = some ((i : Int) + 1) ∧ (metIn t)[i]? = some v ∧ i < t.length := by
  have hv := ht _ (List.mem_of_getElem? e)
  have hm := hangs_all h hv.1 hv.2
  have hl := List.idxOf_lt_length_of_mem hm
  have h4 : (metIn t)[(metIn t).idxOf v]? = some v := by rw [List.getElem?_eq_getElem hl, List.getElem_idxOf hl]
  refine ⟨(metIn t).idxOf v, ?_, h4, ?_⟩
  · unfold rowOf
    rw [List.getElem?_map, e]
    rfl
  · have hs := (List.getElem?_eq_some_iff.mp e).1
    have hc := hangs_all (x := (s : Int) + 1) h (by omega) (by omega)
    obtain ⟨i, hi⟩ := List.getElem?_of_mem hc
    have il := (List.getElem?_eq_some_iff.mp hi).1
    rcases tree_mem _ i _ hi with z | ⟨s', j, v', h1, h2, h3, h5, h6⟩
    · omega
    · obtain rfl : s' = s := by omega
      rw [e] at h2
      obtain rfl := Option.some.inj h2
      have := nodup_at (show (metIn t).Nodup from tree_nodup t _) h4 h6
      have l1 := tree_len t (t.length + 1)
      unfold metIn at *
      omega
/-- the row of a tree is full, and its tree is the tree -/
theorem row_ok {t : List Int} (ht : ∀ v ∈ t, 0 ≤ v ∧ v ≤ (t.length : Int)) (h : Hangs t) : (∀ w ∈ rowOf t, 1 ≤ w ∧ w ≤ ((rowOf t).length : Int)) ∧ Good ((rowOf t).length : Nat) (rowOf t) ∧ treeOf (rowOf t) = t := by
  have el : (rowOf t).length = t.length := List.length_map _
  have hw : ∀ w ∈ rowOf t, 1 ≤ w ∧ w ≤ ((rowOf t).length : Int) := fun w hw => by
    obtain ⟨s, hs⟩ := List.getElem?_of_mem hw
    have sl := (List.getElem?_eq_some_iff.mp hs).1
    obtain ⟨i, h1, _, h3⟩ := rowOf_at ht h (List.getElem?_eq_getElem (by omega : s < t.length))
    rw [hs] at h1
    have := Option.some.inj h1
    omega
  have gk : ∀ k, k ≤ t.length + 1 → grow (rowC (rowOf t)) k = grow (treeC t) k := fun k hk => by
    refine grow_same (n := k) (fun j v hj e => ?_) _ (Nat.le_refl _)
    show kids (rowOf t) ((j : Int) + 1) = kids t v
    have ev : (metIn t)[j]? = some v := grow_at (by omega) e
    unfold kids
    rw [el]
    congr 1
    refine List.filter_congr fun s hs => ?_
    rw [List.mem_range] at hs
    rw [decide_eq_decide]
    obtain ⟨i, h1, h2, h3⟩ := rowOf_at ht h (at_getD hs)
    rw [getD_at h1]
    constructor
    · intro z
      obtain rfl : i = j := by omega
      rw [ev] at h2
      exact (Option.some.inj h2).symm
    · intro z
      rw [z] at h2
      have := nodup_at (show (metIn t).Nodup from tree_nodup t _) h2 ev
      omega
  refine ⟨hw, fun b b1 b2 => ?_, ?_⟩
  · obtain ⟨k, rfl⟩ : ∃ k : Nat, b = (k : Int) + 1 := ⟨(b - 1).toNat, by omega⟩
    have hr := hangs_runs h
    have hl := row_len (fun w hw' => (hw w hw').1) k fun j hj => by rw [gk j (by omega)]; exact hr j (by omega)
    have := hr k (by omega)
    rw [gk k (by omega)] at hl
    omega
  · unfold treeOf
    rw [tree_row ht h]
    refine List.ext_getElem? fun s => ?_
    rw [List.getElem?_map]
    cases e : t[s]? with
    | none => rw [List.getElem?_eq_none (by have := List.getElem?_eq_none_iff.mp e; omega)]; rfl
    | some v =>
      obtain ⟨i, h1, h2, _⟩ := rowOf_at ht h e
      rw [h1]
      show some ((metIn t).getD ((i : Int) + 1 - 1).toNat 0) = some v
      rw [show ((i : Int) + 1 - 1).toNat = i from by omega, getD_at h2]
/-- going up from a knot, so many steps at most -/
def up (t : List Int) : Nat → Int → Int
  | 0, x => x
  | k + 1, x => if x = 0 then 0 else up t k (t.getD (x - 1).toNat 0)
theorem up_zero (t : List Int) : ∀ k, up t k 0 = 0
  | 0 => rfl
  | k + 1 => by unfold up; rw [if_pos rfl]
theorem up_more {t : List Int} : ∀ {k x}, up t k x = 0 → up t (k + 1) x = 0
  | 0, x, h => by
    have h : x = 0 := h
    rw [h]
    exact up_zero t 1
  | k + 1, x, h => by
    unfold up at h ⊢
    by_cases e : x = 0
    · rw [if_pos e]
    · rw [if_neg e] at h ⊢
      exact up_more h
theorem up_add {t : List Int} {k : Nat} {x : Int} (h : up t k x = 0) : ∀ d, up t (k + d) x = 0
  | 0 => h
  | d + 1 => up_more (up_add h d)
theorem up_met {t : List Int} : ∀ (i : Nat) (x : Int), (metIn t)[i]? = some x → up t i x = 0 := fun i => by
  induction i using Nat.strongRecOn with
  | _ i ih =>
    intro x hx
    rcases tree_mem _ i x hx with h | ⟨s, j, v, h1, h2, h3, _, h5⟩
    · rw [h]
      exact up_zero t i
    · have := ih j h3 v h5
      obtain ⟨d, rfl⟩ : ∃ d, i = j + 1 + d := ⟨i - j - 1, by omega⟩
      refine up_add ?_ d
      unfold up
      rw [if_neg (by omega), h1, show ((s : Int) + 1 - 1).toNat = s from by omega, getD_at h2]
      exact this
theorem met_up {t : List Int} (ht : ∀ v ∈ t, 0 ≤ v ∧ v ≤ (t.length : Int)) : ∀ (k : Nat) (x : Int), 0 ≤ x → x ≤ (t.length : Int) → up t k x = 0 → x ∈ metIn t
  | 0, x, _, _, h => by
    have h : x = 0 := h
    rw [h]
    exact List.mem_of_getElem? (grow_head _ _)
  | k + 1, x, h0, h1, h => by
    by_cases e : x = 0
    · rw [e]
      exact List.mem_of_getElem? (grow_head _ _)
    · unfold up at h
      rw [if_neg e] at h
      have e2 := at_getD (l := t) (i := (x - 1).toNat) (by omega)
      have hv := ht _ (List.mem_of_getElem? e2)
      have := met_closed (met_up ht k _ hv.1 hv.2 h) e2
      rwa [show (((x - 1).toNat : Nat) : Int) + 1 = x from by omega] at this
theorem hangs_iff {t : List Int} (ht : ∀ v ∈ t, 0 ≤ v ∧ v ≤ (t.length : Int)) : Hangs t ↔ ∀ x : Int, 1 ≤ x → x ≤ (t.length : Int) → up t (t.length + 1) x = 0 := by
  constructor
  · intro h x x0 x1
    obtain ⟨i, hi⟩ := List.getElem?_of_mem (hangs_all h (by omega) x1)
    have il := (List.getElem?_eq_some_iff.mp hi).1
    have l1 := tree_len t (t.length + 1)
    unfold metIn at il
    have := up_add (up_met i x hi) (t.length + 1 - i)
    rwa [show i + (t.length + 1 - i) = t.length + 1 from by omega] at this
  · intro h
    exact hangs_of_all fun s hs => met_up ht _ _ (by omega) (by omega) (h _ (by omega) (by omega))
/-- a tree drawn knot by knot, each below one of those ahead, hangs -/
theorem drawn_hangs {t os : List Int} (hp : os.Perm (irange 0 (t.length : Nat))) (h : ∀ (i : Nat) (s : Int), os[i]? = some s → ∃ v, t[s.toNat]? = some v ∧ v ∈ 0 :: (os.take i).map fun x => x + 1) : Hangs t := by
  have main : ∀ (i : Nat) (s : Int), os[i]? = some s → s + 1 ∈ metIn t := fun i => by
    induction i using Nat.strongRecOn with
    | _ i ih =>
      intro s hs
      obtain ⟨v, h1, h2⟩ := h i s hs
      have sr := mem_irange.mp (hp.mem_iff.mp (List.mem_of_getElem? hs))
      have hv : v ∈ metIn t := by
        rcases List.mem_cons.mp h2 with h2 | h2
        · rw [h2]
          exact List.mem_of_getElem? (grow_head _ _)
        · obtain ⟨x, hx, rfl⟩ := List.mem_map.mp h2
          obtain ⟨j, hj⟩ := List.getElem?_of_mem hx
          rw [List.getElem?_take] at hj
          split at hj
          · next hji => exact ih j hji x hj
          · cases hj
      have := met_closed hv h1
      rwa [show ((s.toNat : Nat) : Int) + 1 = s + 1 from by omega] at this
  refine hangs_of_all fun s hs => ?_
  have hm : ((s : Nat) : Int) ∈ os := hp.mem_iff.mpr (mem_irange.mpr (by omega))
  obtain ⟨i, hi⟩ := List.getElem?_of_mem hm
  exact main i _ hi

/-! ### full rows: the program -/
/-- something that is no full row -/
def NotFull (K : PySem.W.Frag) (H : Hp) (x : V) : Prop := (∃ s, Kind K H x s ∧ s ≠ .lst ∧ s ≠ .tup) ∨ ∃ a xs, x = .ref a ∧ Sq K H a xs ∧ (xs.length = 0 ∨ 400 < xs.length ∨ (1 ≤ xs.length ∧ xs.length ≤ 400 ∧
  (((∀ y ∈ xs, ∃ s, Kind K H y s) ∧ ∃ y ∈ xs, inB y 1 (xs.length : Nat) = false) ∨ ∃ ns : List Int, xs = ns.map V.int ∧ (∀ w ∈ ns, 1 ≤ w ∧ w ≤ (ns.length : Nat)) ∧ ¬ Good (ns.length : Nat) ns)))
/-- x is the full row ns -/
def FullRow (K : PySem.W.Frag) (H : Hp) (x : V) (ns : List Int) : Prop := ∃ a, x = .ref a ∧ Sq K H a (ns.map V.int) ∧ 1 ≤ ns.length ∧ ns.length ≤ 400 ∧ (∀ w ∈ ns, 1 ≤ w ∧ w ≤ (ns.length : Nat)) ∧ Good (ns.length : Nat) ns
def AskedF (K : PySem.W.Frag) (mg : Str → Option Value) (H : Hp) (E : XK) (x : V) (due : List Int → Prop) : Prop := (NotFull K H x ∧ Bad mg "NoWishes" H E) ∨ ∃ ns, FullRow K H x ns ∧ due ns
def sp_need_full (K : PySem.W.Frag) (mg : Str → Option Value) : Sp := fun vs H Q E => ∃ x, vs = [x] ∧ AskedF K mg H E x fun _ => ∀ H', Ex H H' → Q .non H'
theorem has_need_full {P : Program} {w : World} {K : PySem.W.Frag} {mg : Str → Option Value} {base : Heap}  (S : B.Stands K mg "need_full" s_need_full) (N : Nms K mg) (h_is_good : B.Has P w K mg base "is_good" 5 ["berths", "wishes"] (sp_is_good K mg)) : B.Has P w K mg base "need_full" 6 ["wishes"] (sp_need_full K mg) := by
  refine B.has_of S sc_need_full (fun _ _ _ _ _ _ us hl => match us, hl with | [_], _ => rfl) (fun vs H Q E h => ?_)
    (fun f cdv A outer s H vs Q E hr h => ⟨_, (pss_one (ps_if (PW.pt (pw_or (pt_not (pt_val (pe_callB (r := rIsiT K) call_isiT (by rfl) N.n_isinstance B.boot_isinstance (pa_cons (pv 0) (pa_cons (pe_tup (pa_cons (pe_bltn (v := .ty "list") (by rfl) N.n_list B.boot_list rfl) (pa_cons (pe_bltn (v := .ty "tuple") (by rfl) N.n_tuple B.boot_tuple rfl) pa_nil))) pa_nil))))) (pw_or (pt_not (pt_chain op_le op_le pe_int (pe_callB (r := B.rLen K) B.call_len (by rfl) N.n_len PySem.boot_len (pa_cons (pv 0) pa_nil)) (B.pe_const N.c_MOST))) (pw_or1 (pt_not (pt_val (B.pe_has h_is_good hr (B.passU (takes_of rfl rfl rfl rfl)) (pa_cons (pe_callB (r := B.rLen K) B.call_len (by rfl) N.n_len PySem.boot_len (pa_cons (pv 0) pa_nil)) (pa_cons (pv 0) pa_nil))))))))) (pss_one (ps_raise rfl (takes_of rfl rfl rfl rfl) (B.pmk N.x_NoWishes))) pss_nil)), ?_⟩)
  · obtain ⟨x, rfl, _⟩ := h
    rfl
  · obtain ⟨x, rfl, h⟩ := h
    walk_at "go"
    refine x_mkT (by simp) fun p H1 hp e1 h1 => ?_
    have main : ∃ s, Kind K H x s ∧ ((¬ (s = .lst ∨ s = .tup) ∧ Bad mg "NoWishes" H E) ∨ ((s = .lst ∨ s = .tup) ∧ ∃ a xs, x = .ref a ∧ Sq K H a xs ∧ (((xs.length = 0 ∨ 400 < xs.length) ∧ Bad mg "NoWishes" H E) ∨
        (1 ≤ xs.length ∧ xs.length ≤ 400 ∧ ((NoW K H x (xs.length : Nat) ∧ Bad mg "NoWishes" H E) ∨ ∃ ns, xs = ns.map V.int ∧ Wishes K H x (ns.length : Nat) ns ∧ ((¬ Good (ns.length : Nat) ns ∧ Bad mg "NoWishes" H E) ∨ (Good (ns.length : Nat) ns ∧ ∀ H', Ex H H' → Q .non H'))))))) := by
      rcases h with ⟨h, bad⟩ | ⟨ns, ⟨a, rfl, q, l1, l2, hw, g⟩, due⟩
      · rcases h with ⟨s, h1, h2, h3⟩ | ⟨a, xs, rfl, q, h3⟩
        · exact ⟨s, h1, .inl ⟨fun z => z.elim h2 h3, bad⟩⟩
        · obtain ⟨s, k, hs⟩ := sq_kind q
          refine ⟨s, k, .inr ⟨hs, a, xs, rfl, q, ?_⟩⟩
          rcases h3 with h3 | h3 | ⟨l1, l2, h3⟩
          · exact .inl ⟨.inl h3, bad⟩
          · exact .inl ⟨.inr h3, bad⟩
          · refine .inr ⟨l1, l2, ?_⟩
            rcases h3 with ⟨h4, h5⟩ | ⟨ns, rfl, hw, ng⟩
            · exact .inl ⟨.inr ⟨a, xs, rfl, q, .inr ⟨l2, h4, h5⟩⟩, bad⟩
            · rw [List.length_map] at l2
              exact .inr ⟨ns, rfl, ⟨a, rfl, q, l2, hw⟩, .inl ⟨ng, bad⟩⟩
      · obtain ⟨s, k, hs⟩ := sq_kind q
        exact ⟨s, k, .inr ⟨hs, a, _, rfl, q, .inr ⟨by rw [List.length_map]; exact l1, by rw [List.length_map]; exact l2, .inr ⟨ns, rfl, ⟨a, rfl, q, l2, hw⟩, .inr ⟨g, due⟩⟩⟩⟩⟩
    obtain ⟨s, k, h⟩ := main
    walk_at "go"
    refine x_isiLT (k.ex e1) h1 ?_
    walk_at "go"
    refine x_bN (fun e => ?_) (fun e => ?_)
    · walk_at "go"
      rcases h with ⟨_, bad⟩ | ⟨hs, _⟩
      · exact fun C m => bad C H1 m e1
      · rw [is_lt.mpr hs] at e
        cases e
    rcases h with ⟨hs, _⟩ | ⟨_, a, xs, rfl, hq, h⟩
    · exact absurd (is_lt.mp e) hs
    walk_at "go"
    have bads : (xs.length = 0 ∨ 400 < xs.length) → Bad mg "NoWishes" H E := fun z => by
      rcases h with ⟨_, bad⟩ | ⟨l1, l2, _⟩
      · exact bad
      · omega
    refine x_dec (fun c => ?_) (fun c => ?_)
    · walk_at "go"
      refine x_decN (fun c2 => ?_) (fun c2 => ?_)
      · walk_at "go"
        exact fun C m => bads (.inr (by omega)) C H1 m e1
      · walk_at "go"
        rcases h with ⟨z, _⟩ | ⟨l1, l2, h⟩
        · omega
        refine ⟨.int (xs.length : Nat), .ref a, rfl, .inr ⟨_, rfl, by omega, by omega, ?_⟩⟩
        rcases h with ⟨nw, bad⟩ | ⟨ns, rfl, hw, h⟩
        · exact .inl ⟨nw.ex e1, bad.ex e1⟩
        · rw [List.length_map]
          refine .inr ⟨ns, hw.ex e1, fun g H2 hg e2 => ?_⟩
          walk_at "go"
          refine x_bN (fun e => ?_) (fun e => ?_)
          · walk_at "go"
            rcases h with ⟨_, bad⟩ | ⟨g', _⟩
            · exact fun C m => bad C H2 m (e1.trans e2)
            · rw [hg.mpr g'] at e
              cases e
          · walk_at "go"
            rcases h with ⟨ng, _⟩ | ⟨_, due⟩
            · exact absurd (hg.mp e) ng
            · exact due H2 (e1.trans e2)
    · walk_at "go"
      exact fun C m => bads (.inl (by omega)) C H1 m e1

/-! ### trees: the program -/
theorem rep_ints (n : Nat) (v : Int) : ((List.replicate n [V.int v]).flatten : List V) = (List.replicate n v).map V.int := by
  rw [List.map_replicate, List.flatten_replicate_singleton]
def sp_tree_of (K : PySem.W.Frag) (mg : Str → Option Value) : Sp := fun vs H Q E => ∃ x, vs = [x] ∧ AskedF K mg H E x fun ns => ∀ p H', Ex H H' → H' p = some (.tup ((treeOf ns).map V.int)) → Q (.ref p) H'
theorem has_tree_of {P : Program} {w : World} {K : PySem.W.Frag} {mg : Str → Option Value} {base : Heap}  (S : B.Stands K mg "tree_of" s_tree_of) (N : Nms K mg) (h_need_full : B.Has P w K mg base "need_full" 6 ["wishes"] (sp_need_full K mg)) : B.Has P w K mg base "tree_of" 7 ["wishes"] (sp_tree_of K mg) := by
  refine B.has_of S sc_tree_of (fun _ _ _ _ _ _ us hl => match us, hl with | [_], _ => rfl) (fun vs H Q E h => ?_)
    (fun f cdv A outer s H vs Q E hr h => ⟨_, (pss_cons (ps_expr (B.pe_has h_need_full hr (B.passU (takes_of rfl rfl rfl rfl)) (pa_cons (pv 0) pa_nil)))
    (pss_cons (ps_setLc (i := 1) (own := [("turn", 2)]) (g := (gName 2)) rfl sc_tree_of.nd rfl rfl (sw_true rfl rfl rfl (by decide +kernel)) (pi_range1 rfl N.n_range (pa_cons (pe_op op_add (pe_callB (r := B.rLen K) B.call_len (by rfl) N.n_len PySem.boot_len (pa_cons (pv 0) pa_nil)) pe_int) pa_nil)) (blkOk_by (own := [("turn", 2)]) (N := n_tree_of) (sc := defScope s_tree_of) (by decide +kernel)) (fun _ _ _ _ _ => (pg_name (i := 2) sc_tree_of.nd rfl (by first | exact Or.inl rfl | exact Or.inr rfl))) (fun _ _ _ _ _ => pts_nil) (fun _ _ _ _ _ => (pe_lst pa_nil)))
    (pss_cons (ps_for (passes_of rfl) rfl (B.pi_enumT (by rfl) N.n_enumerate (pa_cons (pv 0) pa_nil)) (pg_tup rfl (pgs_cons (pg_name (i := 3) sc_tree_of.nd rfl (by first | exact Or.inl rfl | exact Or.inr rfl)) (pgs_cons (pg_name (i := 4) sc_tree_of.nd rfl (by first | exact Or.inl rfl | exact Or.inr rfl)) pgs_nil))) (pss_one (ps_expr (pe_bm PySem.F.plainAttrs_list PySem.F.slot_list_append PySem.F.type_list_append mt_append (pe_ix (r := rIxL K) ix_list (pv 1) (pe_op op_sub (pv 4) pe_int) (fun _ _ => rfl)) (pa_cons (pe_op op_add (pv 3) pe_int) pa_nil)))))
    (pss_cons (ps_set (i := 5) sc_tree_of.nd rfl (by first | exact Or.inl rfl | exact Or.inr rfl) (pe_op op_rep (pe_lst (pa_cons pe_int pa_nil)) (pe_callB (r := B.rLen K) B.call_len (by rfl) N.n_len PySem.boot_len (pa_cons (pv 0) pa_nil))))
    (pss_cons (ps_set (i := 6) sc_tree_of.nd rfl (by first | exact Or.inl rfl | exact Or.inr rfl) (pe_lst (pa_cons pe_int pa_nil)))
    (pss_cons (ps_for (passes_of rfl) rfl (pi_enum (by rfl) N.n_enumerate (pa_cons (pv 1) pa_nil)) (pg_tup rfl (pgs_cons (pg_name (i := 7) sc_tree_of.nd rfl (by first | exact Or.inl rfl | exact Or.inr rfl)) (pgs_cons (pg_name (i := 8) sc_tree_of.nd rfl (by first | exact Or.inl rfl | exact Or.inr rfl)) pgs_nil))) (pss_cons (ps_for (passes_of rfl) rfl (pi_list (pv 8)) (pg_name (i := 9) sc_tree_of.nd rfl (by first | exact Or.inl rfl | exact Or.inr rfl)) (pss_one (ps_asg (pe_ix (r := rIxL K) ix_list (pv 6) (pv 7) (fun _ _ => rfl)) (pg_sub (pv 5) (pe_op op_sub (pv 9) pe_int) set_list))))
    (pss_one (ps_aug (i := 6) sc_tree_of.nd rfl (by first | exact Or.inl rfl | exact Or.inr rfl) (pv 8) B.ip_ext))))
    (pss_one (ps_ret (pe_callTy (r := B.rTupOf K) B.call_tupOf (by rfl) N.n_tuple B.boot_tuple (pa_cons (pv 5) pa_nil)))))))))), ?_⟩)
  · obtain ⟨x, rfl, _⟩ := h
    rfl
  · obtain ⟨x, rfl, h⟩ := h
    walk_at "go"
    refine ⟨x, rfl, ?_⟩
    rcases h with h | ⟨ns, fr, q⟩
    · exact .inl h
    refine .inr ⟨ns, fr, fun H1 e1 => ?_⟩
    obtain ⟨a, rfl, hq, l1, l2, hw, g⟩ := fr
    walk_at "go"
    rw [List.length_map]
    refine x_rng1 (by omega) ?_
    rw [show (((ns.length : Nat) : Int) + 1).toNat = ns.length + 1 from by omega]
    refine x_lcNew (by omega) (fun _ => rfl) fun d H2 rs d0 e2 hd rl nd hr => ?_
    walk_at "go"
    have rsn : ∀ (p : Nat) r, rs[p]? = some r → H1 r = none ∧ r ≠ d ∧ H2 r = some (.lst []) := fun p r h => hr r (List.mem_of_getElem? h)
    refine x_forEQ ns V.int (fun pre σ' H' => (∃ v3 v4, σ' = [some (.ref a), some (.ref d), none, v3, v4, none, none, none, none, none]) ∧ Far H1 H' ∧ H' d = some (.lst (rs.map V.ref)) ∧ ∀ (p : Nat) r, rs[p]? = some r → H' r = some (.lst ((kids pre ((p : Int) + 1)).map V.int)))
      ⟨⟨_, _, rfl⟩, .of e2, hd, fun p r h => (rsn p r h).2.2⟩ (hq.elim (fun h => .inl fun pre σ' H' _ p => Evl.ex_l (e1.trans p.2.1.e) h) (fun h => .inr fun pre σ' H' _ p => Evl.ex_t (e1.trans p.2.1.e) h))
      (fun pre σ' H' H'' p e => ⟨p.1, .of (p.2.1.e.trans e), e _ _ p.2.2.1, fun i r h => e _ _ (p.2.2.2 i r h)⟩) (fun pre w post σ' H' ea pp => ?_) (fun σ' H' pp => ?_)
    · obtain ⟨⟨v3, v4, rfl⟩, far, hd', hk⟩ := pp
      have w1 := hw w (by rw [ea]; simp)
      have pl : pre.length < ns.length := by rw [ea]; simp
      obtain ⟨i, rfl⟩ : ∃ i : Nat, w = (i : Int) + 1 := ⟨(w - 1).toNat, by omega⟩
      obtain ⟨r, hri⟩ : ∃ r, rs[i]? = some r := ⟨_, List.getElem?_eq_getElem (by omega)⟩
      have hr' := hk i r hri
      walk_at "go"
      rw [show (i : Int) + 1 - 1 = (i : Nat) from by omega]
      refine x_ixL (v := .ref r) (Evl.sq_of hd') (atI_nat (by rw [List.getElem?_map, hri]; rfl)) ?_
      walk_at "go"
      have kl := kids_le pre ((i : Int) + 1)
      refine x_append hr' (by rw [List.length_map]; omega) fun H4 u4 => ?_
      walk_at "go"
      refine ⟨⟨_, _, rfl⟩, .of (u4.ex far.e (rsn i r hri).1), u4.get (Ne.symm (rsn i r hri).2.1) hd', fun p r2 h2 => ?_⟩
      rw [kids_snoc]
      by_cases e : p = i
      · subst e
        rw [hri] at h2
        obtain rfl := Option.some.inj h2
        rw [if_pos rfl, List.map_append]
        exact u4.same
      · have ne : r2 ≠ r := fun z => by
          obtain ⟨hi1, ei1⟩ := List.getElem?_eq_some_iff.mp h2
          obtain ⟨hi2, ei2⟩ := List.getElem?_eq_some_iff.mp hri
          have pw := List.pairwise_iff_getElem.mp nd
          rcases Nat.lt_or_gt_of_ne e with c | c
          · exact pw _ _ hi1 hi2 c (ei1.trans (z.trans ei2.symm))
          · exact pw _ _ hi2 hi1 c (ei2.trans (z.symm.trans ei1.symm))
        rw [if_neg (by omega), List.append_nil]
        exact u4.get ne (hk p r2 h2)
    obtain ⟨⟨v3, v4, rfl⟩, far, hd', hk⟩ := pp
    have hqa := hq.ex (e1.trans far.e)
    walk_at "go"
    refine x_mkL (by simp) fun z H3 _ e3 hz => ?_
    walk_at "go"
    rw [List.length_map]
    refine x_rep (n := (ns.length : Nat)) hz (by omega) (by omega) (by simp) fun ab H4 ab0 e4 hab => ?_
    rw [Int.toNat_natCast, rep_ints] at hab
    walk_at "go"
    refine x_mkL (by simp) fun mt H5 mt0 e5 hmt => ?_
    have ex5 : Ex H' H5 := e3.trans (e4.trans e5)
    have hab5 := e5 _ _ hab
    have hd5 := ex5 _ _ hd'
    have abmt : ab ≠ mt := ne_of_none hab mt0
    have hk5 : ∀ (p : Nat) r, rs[p]? = some r → H5 r = some (.lst ((kids ns ((p : Int) + 1)).map V.int)) := fun p r h => ex5 _ _ (hk p r h)
    have abn : H' ab = none := exn e3 ab0
    have mtn : H' mt = none := exn (e3.trans e4) mt0
    have rab : ∀ (p : Nat) r, rs[p]? = some r → r ≠ ab ∧ r ≠ mt := fun p r h => ⟨ne_of_none (hk p r h) abn, ne_of_none (hk p r h) mtn⟩
    have dab : d ≠ ab := ne_of_none hd' abn
    have dmt : d ≠ mt := ne_of_none hd' mtn
    have far5 : Far H H' := .of (e1.trans far.e)
    walk_at "go"
    have kept : ∀ {H6 : Hp}, Far H' H6 → H6 d = some (.lst (rs.map V.ref)) := fun f => f.e _ _ hd'
    refine x_forE rs V.ref (fun pre σ' H6 => (∃ v7 v8 v9, σ' = [some (.ref a), some (.ref d), none, v3, v4, some (.ref ab), some (.ref mt), v7, v8, v9]) ∧ Far H' H6 ∧ H6 mt = some (.lst ((grow (rowC ns) pre.length).map V.int)) ∧
        ∃ A : List Int, H6 ab = some (.lst (A.map V.int)) ∧ A.length = ns.length ∧ ∀ (s : Nat) (w : Int), ns[s]? = some w → w ≤ (pre.length : Int) → A[s]? = some ((metOf ns).getD (w - 1).toNat 0))
      ⟨⟨_, _, _, rfl⟩, .of ex5, hmt, _, hab5, List.length_replicate, fun s w hs hl => absurd hl (by have := hw w (List.mem_of_getElem? hs); simp; omega)⟩ (fun pre σ' H6 _ p => Evl.sq_of (kept p.2.1))
      (fun pre σ' H6 H7 p e => ⟨p.1, .of (p.2.1.e.trans e), e _ _ p.2.2.1, by obtain ⟨A, h1, h2⟩ := p.2.2.2; exact ⟨A, e _ _ h1, h2⟩⟩) (fun pre r post σ' H6 ea pp => ?_) (fun σ' H6 pp => ?_)
    · obtain ⟨⟨v7, v8, v9, rfl⟩, far6, hmt6, A, hA, Al, hAs⟩ := pp
      have pl : pre.length < rs.length := by rw [ea]; simp
      have pr : rs[pre.length]? = some r := by rw [ea]; simp
      have hmk := grow_met hw g (show pre.length ≤ ns.length by omega)
      have rk := far6.e _ _ (hk _ r pr)
      walk_at "go"
      refine x_forL (kids ns ((pre.length : Int) + 1)) V.int (fun done σ'' H7 => (∃ v9, σ'' = [some (.ref a), some (.ref d), none, v3, v4, some (.ref ab), some (.ref mt), some (.int (pre.length : Nat)), some (.ref r), v9]) ∧ Far H' H7 ∧ H7 mt = some (.lst ((grow (rowC ns) pre.length).map V.int)) ∧
          ∃ A : List Int, H7 ab = some (.lst (A.map V.int)) ∧ A.length = ns.length ∧ ∀ (s : Nat) (w : Int), ns[s]? = some w → w ≤ (pre.length : Int) ∨ ((s : Int) + 1) ∈ done → A[s]? = some ((metOf ns).getD (w - 1).toNat 0))
        ⟨⟨_, rfl⟩, far6, hmt6, A, hA, Al, fun s w hs hl => hAs s w hs (hl.elim id fun z => nomatch z)⟩ (fun done σ'' H7 _ p => Evl.sq_of (p.2.1.e _ _ (hk _ r pr))) (fun done kn post2 σ'' H7 eb pp => ?_) (fun σ'' H7 pp => ?_)
      · obtain ⟨⟨v9, rfl⟩, far7, hmt7, A, hA, Al, hAs⟩ := pp
        obtain ⟨s, hs, rfl⟩ := mem_kids.mp (show kn ∈ kids ns ((pre.length : Int) + 1) by rw [eb]; simp)
        have sl := (List.getElem?_eq_some_iff.mp hs).1
        walk_at "go"
        refine x_ixL (v := .int ((metOf ns).getD pre.length 0)) (Evl.sq_of hmt7) (atI_nat (by rw [List.getElem?_map, hmk]; rfl)) ?_
        walk_at "go"
        rw [show (s : Int) + 1 - 1 = (s : Nat) from by omega]
        refine x_setL hA (by rw [List.length_map]; omega) fun H8 u8 => ?_
        walk_at "go"
        rw [← List.map_set] at u8
        refine ⟨⟨_, rfl⟩, .of (u8.ex far7.e abn), u8.get (Ne.symm abmt) hmt7, _, u8.same, by rw [List.length_set]; exact Al, fun s' w hs' hl => ?_⟩
        rw [List.getElem?_set]
        by_cases e : s = s'
        · subst e
          rw [hs] at hs'
          obtain rfl := Option.some.inj hs'
          rw [if_pos rfl, if_pos (by omega), show ((pre.length : Int) + 1 - 1).toNat = pre.length from by omega]
        · rw [if_neg e]
          refine hAs s' w hs' (hl.elim .inl fun z => .inr ?_)
          rcases List.mem_append.mp z with z | z
          · exact z
          · exact absurd (List.mem_singleton.mp z) (by omega)
      · obtain ⟨⟨v9, rfl⟩, far7, hmt7, A, hA, Al, hAs⟩ := pp
        walk_at "go"
        have gl := grow_le hw g (show pre.length ≤ ns.length + 1 by omega)
        have kl := kids_le ns ((pre.length : Int) + 1)
        refine x_ext hmt7 (far7.e _ _ (hk _ r pr)) (by rw [List.length_map, List.length_map]; omega) fun H8 u8 => ?_
        walk_at "go"
        rw [← List.map_append, ← grow_next hw g (by omega)] at u8
        refine ⟨⟨_, _, _, rfl⟩, .of (u8.ex far7.e mtn), ?_, A, u8.get abmt hA, Al, fun s w hs hl => hAs s w hs ?_⟩
        · rw [List.length_append, List.length_singleton]
          exact u8.same
        · rw [List.length_append, List.length_singleton] at hl
          by_cases e : w ≤ (pre.length : Int)
          · exact .inl e
          · refine .inr (mem_kids.mpr ⟨s, ?_, rfl⟩)
            rw [hs, show w = (pre.length : Int) + 1 from by omega]
    · obtain ⟨⟨v7, v8, v9, rfl⟩, far6, hmt6, A, hA, Al, hAs⟩ := pp
      have eA : A = treeOf ns := by
        refine List.ext_getElem? fun s => ?_
        cases e : ns[s]? with
        | none =>
          have := List.getElem?_eq_none_iff.mp e
          rw [List.getElem?_eq_none (by omega), List.getElem?_eq_none (by unfold treeOf; rw [List.length_map]; omega)]
        | some w => rw [treeOf_at e, hAs s w e (by have := hw w (List.mem_of_getElem? e); omega)]
      subst eA
      walk_at "go"
      refine x_tupOf (Evl.sq_of hA) fun p H7 _ e7 hp => ?_
      exact q p H7 (far5.e.trans (far6.e.trans e7)) hp

/-- the dict of what is below each number -/
def Below (t : List Int) (H H' : Hp) (d : Addr) : Prop := ∃ kvs : List (Key × V), H' d = some (.dK kvs) ∧ kvs.length ≤ t.length ∧
  (∀ v : Int, (valV kvs (.inl v) = none ∧ kids t v = []) ∨ ∃ r, valV kvs (.inl v) = some (.ref r) ∧ H r = none ∧ H' r = some (.lst ((kids t v).map V.int))) ∧ ∀ v v' r, valV kvs (.inl v) = some (.ref r) → valV kvs (.inl v') = some (.ref r) → v = v'
theorem Below.ex {t : List Int} {H H' H'' : Hp} {d : Addr} (e : Ex H' H'') (h : Below t H H' d) : Below t H H'' d := by
  obtain ⟨kvs, h1, h2, h3, h4⟩ := h
  refine ⟨kvs, e _ _ h1, h2, fun v => ?_, h4⟩
  rcases h3 v with h | ⟨r, g1, g2, g3⟩
  · exact .inl h
  · exact .inr ⟨r, g1, g2, e _ _ g3⟩
def sp_met_in (K : PySem.W.Frag) : Sp := fun vs H Q _ => ∃ (a : Addr) (t : List Int), vs = [.ref a] ∧ Sq K H a (t.map V.int) ∧ t.length ≤ 400 ∧ ∀ p H', H p = none → Ex H H' → H' p = some (.lst ((metIn t).map V.int)) → Q (.ref p) H'
theorem has_met_in {P : Program} {w : World} {K : PySem.W.Frag} {mg : Str → Option Value} {base : Heap}  (S : B.Stands K mg "met_in" s_met_in) (N : Nms K mg)  : B.Has P w K mg base "met_in" 1 ["tree"] (sp_met_in K) := by
  refine B.has_ofN S sc_met_in (fun _ _ _ _ _ _ us hl => match us, hl with | [_], _ => rfl) (fun vs H Q E h => ?_)
    (fun f cdv A outer s H vs Q E hr h => ⟨_, (pss_cons (ps_set (i := 1) sc_met_in.nd rfl (by first | exact Or.inl rfl | exact Or.inr rfl) pe_dnewK)
    (pss_cons (ps_for PassesOwn.never rfl (B.pi_enumT (by rfl) N.n_enumerate (pa_cons (pv 0) pa_nil)) (pg_tup rfl (pgs_cons (pg_name (i := 2) sc_met_in.nd rfl (by first | exact Or.inl rfl | exact Or.inr rfl)) (pgs_cons (pg_name (i := 3) sc_met_in.nd rfl (by first | exact Or.inl rfl | exact Or.inr rfl)) pgs_nil))) (pss_one (ps_expr (pe_bm PySem.F.plainAttrs_list PySem.F.slot_list_append PySem.F.type_list_append mt_append (pe_dsetd (pv 1) (pv 3) (pe_lst pa_nil) ⟨rfl, rfl, rfl, rfl⟩) (pa_cons (pe_op op_add (pv 2) pe_int) pa_nil)))))
    (pss_cons (ps_set (i := 4) sc_met_in.nd rfl (by first | exact Or.inl rfl | exact Or.inr rfl) (pe_lst (pa_cons pe_int pa_nil)))
    (pss_cons (ps_set (i := 5) sc_met_in.nd rfl (by first | exact Or.inl rfl | exact Or.inr rfl) pe_int)
    (pss_cons (ps_while PassesOwn.never (pt_cmpR op_lt (pv 5) (pe_callB (r := B.rLen K) B.call_len (by rfl) N.n_len PySem.boot_len (pa_cons (pv 4) pa_nil)) (nomark _)) (pss_cons (ps_aug (i := 4) sc_met_in.nd rfl (by first | exact Or.inl rfl | exact Or.inr rfl) (pe_dget2 (hu_of hr) (pv 1) (pe_ix (r := rIxL K) ix_list (pv 4) (pv 5) (fun _ _ => rfl)) (pe_lst pa_nil) ⟨rfl, rfl, rfl, rfl⟩) B.ip_ext)
    (pss_one (ps_aug (i := 5) sc_met_in.nd rfl (by first | exact Or.inl rfl | exact Or.inr rfl) pe_int ip_add))))
    (pss_one (ps_ret (pv 4)))))))), ?_⟩)
  · obtain ⟨a, t, rfl, _⟩ := h
    rfl
  · obtain ⟨a, t, rfl, hq, tl, q⟩ := h
    walk_at "go"
    refine x_dnew fun d H1 d0 e1 hd => ?_
    walk_at "go"
    refine x_forEQ t V.int (fun pre σ' H' => (∃ v2 v3, σ' = [some (.ref a), some (.ref d), v2, v3, none, none]) ∧ Far H H' ∧ Below pre H H' d)
      ⟨⟨_, _, rfl⟩, .of e1, [], hd, Nat.le_refl _, fun v => .inl ⟨rfl, rfl⟩, fun v v' r h => by cases h⟩ (hq.elim (fun h => .inl fun pre σ' H' _ p => Evl.ex_l p.2.1.e h) (fun h => .inr fun pre σ' H' _ p => Evl.ex_t p.2.1.e h))
      (fun pre σ' H' H'' p e => ⟨p.1, .of (p.2.1.e.trans e), p.2.2.ex e⟩) (fun pre v post σ' H' ea pp => ?_) (fun σ' H' pp => ?_)
    · obtain ⟨⟨v2, v3, rfl⟩, far, kvs, hkv, kl, hall, hinj⟩ := pp
      have pl : pre.length < t.length := by rw [ea]; simp
      have kle := kids_le pre v
      walk_at "go"
      refine x_mkL (by simp) fun z H4 z0 e4 hz => ?_
      have hkv4 := e4 _ _ hkv
      have zd : z ≠ d := Ne.symm (ne_of_none hkv z0)
      have zn : H z = none := exn far.e z0
      refine x_sdI hkv4 (by omega) (fun x ex => ?_) (fun en H5 u5 => ?_)
      · rcases hall v with ⟨h, _⟩ | ⟨r, h1, rn, hr⟩
        · rw [ex] at h
          cases h
        rw [ex] at h1
        obtain rfl := Option.some.inj h1
        have hr4 := e4 _ _ hr
        walk_at "go"
        refine x_append hr4 (by rw [List.length_map]; omega) fun H5 u5 => ?_
        walk_at "go"
        have rd : d ≠ r := fun w => by rw [← w, hkv4] at hr4; cases hr4
        refine ⟨⟨_, _, rfl⟩, .of (u5.ex (far.e.trans e4) rn), kvs, u5.get rd hkv4, by rw [List.length_append]; omega, fun v' => ?_, hinj⟩
        rw [kids_snoc]
        by_cases e : v = v'
        · subst e
          rw [if_pos rfl, List.map_append]
          exact .inr ⟨r, ex, rn, u5.same⟩
        · rw [if_neg e, List.append_nil]
          rcases hall v' with h | ⟨r', g1, g2, g3⟩
          · exact .inl h
          · exact .inr ⟨r', g1, g2, u5.get (fun w => e (hinj v v' r ex (by rw [← w]; exact g1))) (e4 _ _ g3)⟩
      · have kn : kids pre v = [] := by
          rcases hall v with ⟨_, h⟩ | ⟨r, h1, _⟩
          · exact h
          · rw [en] at h1
            cases h1
        have hz5 := u5.get zd hz
        walk_at "go"
        refine x_append hz5 (by simp) fun H6 u6 => ?_
        walk_at "go"
        have lp := length_putK kvs (.inl v) (.ref z)
        have fresh : ∀ v' r, valV kvs (.inl v') = some (.ref r) → r ≠ z := fun v' r h w => by
          rcases hall v' with ⟨h2, _⟩ | ⟨r', g1, _, g3⟩
          · rw [h] at h2
            cases h2
          · rw [h] at g1
            obtain rfl := V.ref.inj (Option.some.inj g1)
            rw [w, z0] at g3
            cases g3
        have look : ∀ v', valV (putK kvs (.inl v) (.ref z)) (.inl v') = if v' = v then some (.ref z) else valV kvs (.inl v') := fun v' => by
          rw [valV_put]
          by_cases e : v' = v
          · rw [if_pos e, if_pos (by rw [e])]
          · rw [if_neg e, if_neg (fun w => e (Sum.inl.inj w))]
        have far6 : Ex H H6 := u6.ex (u5.ex (far.e.trans e4) d0) zn
        refine ⟨⟨_, _, rfl⟩, .of far6, putK kvs (.inl v) (.ref z), u6.get (Ne.symm zd) u5.same, by rw [List.length_append, List.length_singleton]; omega, fun v' => ?_, fun v1 v2 r h1 h2 => ?_⟩
        · rw [look, kids_snoc]
          by_cases e : v' = v
          · subst e
            rw [if_pos rfl, if_pos rfl, kn]
            exact .inr ⟨z, rfl, zn, u6.same⟩
          · rw [if_neg e, if_neg (fun w => e w.symm), List.append_nil]
            rcases hall v' with h | ⟨r', g1, g2, g3⟩
            · exact .inl h
            · have rd : r' ≠ d := fun w => by rw [w, hkv] at g3; cases g3
              exact .inr ⟨r', g1, g2, u6.get (fresh v' r' g1) (u5.get rd (e4 _ _ g3))⟩
        · rw [look] at h1 h2
          by_cases c1 : v1 = v
          · by_cases c2 : v2 = v
            · rw [c1, c2]
            · rw [if_pos c1] at h1
              rw [if_neg c2] at h2
              exact absurd (V.ref.inj (Option.some.inj h1)).symm (fresh v2 r h2)
          · rw [if_neg c1] at h1
            by_cases c2 : v2 = v
            · rw [if_pos c2] at h2
              exact absurd (V.ref.inj (Option.some.inj h2)).symm (fresh v1 r h1)
            · rw [if_neg c2] at h2
              exact hinj v1 v2 r h1 h2
    · obtain ⟨⟨v2, v3, rfl⟩, far, kvs, hkv, kl, hall, hinj⟩ := pp
      walk_at "go"
      refine x_mkL (by simp) fun mt H2 mt0 e2 hmt => ?_
      walk_at "go"
      have mtn : H mt = none := exn far.e mt0
      refine x_whileG (fun m σ'' H'' => ∃ k : Nat, m = t.length + 1 - k ∧ σ'' = [some (.ref a), some (.ref d), v2, v3, some (.ref mt), some (.int (k : Nat))] ∧ Far H' H'' ∧ H'' mt = some (.lst ((grow (treeC t) k).map V.int)) ∧ k ≤ (grow (treeC t) k).length)
        _ ⟨0, rfl, rfl, .of e2, hmt, Nat.zero_le _⟩ ?_
      rintro m σ'' H'' ⟨k, rfl, rfl, far2, hmt', kl2⟩
      have tlk := tree_len t k
      walk_at "go"
      rw [List.length_map]
      refine x_dec (fun c => ?_) (fun c => ?_)
      · have ck : k < (grow (treeC t) k).length := by omega
        have hv := at_getD ck
        have hn := grow_some hv
        have tlk2 := tree_len t (k + 1)
        have hkv2 := far2.e _ _ hkv
        generalize (grow (treeC t) k).getD k 0 = v at hv hn
        walk_at "go"
        refine x_ixL (v := .int v) (Evl.sq_of hmt') (atI_nat (by rw [List.getElem?_map, hv]; rfl)) ?_
        walk_at "go"
        refine x_mkL (by simp) fun z H4 z0 e4 hz => ?_
        refine x_dgI (e4 _ _ hkv2) ?_
        have hmt4 := e4 _ _ hmt'
        have hn : grow (treeC t) (k + 1) = grow (treeC t) k ++ kids t v := hn
        have key : ∃ b, (valV kvs (.inl v)).getD (.ref z) = .ref b ∧ H4 b = some (.lst ((kids t v).map V.int)) := by
          rcases hall v with ⟨h1, h2⟩ | ⟨r, h1, _, h2⟩
          · exact ⟨z, by rw [h1]; rfl, by rw [h2]; exact hz⟩
          · exact ⟨r, by rw [h1]; rfl, e4 _ _ (far2.e _ _ h2)⟩
        obtain ⟨b, eb, hb⟩ := key
        rw [eb]
        have ll := congrArg List.length hn
        rw [List.length_append] at ll
        refine x_ext hmt4 hb (by rw [List.length_map, List.length_map]; omega) fun H5 u5 => ?_
        rw [← List.map_append, ← hn] at u5
        walk_at "go"
        refine ⟨t.length + 1 - (k + 1), by omega, k + 1, rfl, rfl, .of (u5.ex (far2.e.trans e4) mt0), u5.same, by omega⟩
      · walk_at "go"
        rw [metIn_end (t := t) (k := k) (by omega) (by omega)] at hmt'
        exact q mt H'' mtn (far.e.trans far2.e) hmt'
/-- something that is no tree -/
def NoTreeX (K : PySem.W.Frag) (H : Hp) (x : V) : Prop := (∃ s, Kind K H x s ∧ s ≠ .lst ∧ s ≠ .tup) ∨ ∃ a xs, x = .ref a ∧ Sq K H a xs ∧ (xs.length = 0 ∨ 400 < xs.length ∨ (1 ≤ xs.length ∧ xs.length ≤ 400 ∧
  (((∀ y ∈ xs, ∃ s, Kind K H y s) ∧ ∃ y ∈ xs, inB y 0 (xs.length : Nat) = false) ∨ ∃ t : List Int, xs = t.map V.int ∧ (∀ v ∈ t, 0 ≤ v ∧ v ≤ (t.length : Int)) ∧ ¬ Hangs t)))
def TreeX (K : PySem.W.Frag) (H : Hp) (x : V) (t : List Int) : Prop := ∃ a, x = .ref a ∧ Sq K H a (t.map V.int) ∧ 1 ≤ t.length ∧ t.length ≤ 400 ∧ (∀ v ∈ t, 0 ≤ v ∧ v ≤ (t.length : Int)) ∧ Hangs t
def AskedT (K : PySem.W.Frag) (mg : Str → Option Value) (H : Hp) (E : XK) (x : V) (due : List Int → Prop) : Prop := (NoTreeX K H x ∧ Bad mg "NoTree" H E) ∨ ∃ t, TreeX K H x t ∧ due t
def sp_wishes_of (K : PySem.W.Frag) (mg : Str → Option Value) : Sp := fun vs H Q E => ∃ x, vs = [x] ∧ AskedT K mg H E x fun t => ∀ p H', Ex H H' → H' p = some (.tup ((rowOf t).map V.int)) → Q (.ref p) H'
theorem has_wishes_of {P : Program} {w : World} {K : PySem.W.Frag} {mg : Str → Option Value} {base : Heap}  (S : B.Stands K mg "wishes_of" s_wishes_of) (N : Nms K mg) (h_met_in : B.Has P w K mg base "met_in" 1 ["tree"] (sp_met_in K)) (h_is_number : B.Has P w K mg base "is_number" 1 ["thing", "least", "most"] (sp_is_number K)) : B.Has P w K mg base "wishes_of" 2 ["tree"] (sp_wishes_of K mg) := by
  refine B.has_of S sc_wishes_of (fun _ _ _ _ _ _ us hl => match us, hl with | [_], _ => rfl) (fun vs H Q E h => ?_)
    (fun f cdv A outer s H vs Q E hr h => ⟨_, (pss_cons (ps_if (PW.pt (pw_or (pt_not (pt_val (pe_callB (r := rIsiT K) call_isiT (by rfl) N.n_isinstance B.boot_isinstance (pa_cons (pv 0) (pa_cons (pe_tup (pa_cons (pe_bltn (v := .ty "list") (by rfl) N.n_list B.boot_list rfl) (pa_cons (pe_bltn (v := .ty "tuple") (by rfl) N.n_tuple B.boot_tuple rfl) pa_nil))) pa_nil))))) (pw_or1 (pt_not (pt_chain op_le op_le pe_int (pe_callB (r := B.rLen K) B.call_len (by rfl) N.n_len PySem.boot_len (pa_cons (pv 0) pa_nil)) (B.pe_const N.c_MOST)))))) (pss_one (ps_raise rfl (takes_of rfl rfl rfl rfl) (B.pmk N.x_NoTree))) pss_nil)
    (pss_cons (ps_if (pt_not (pt_val (pe_callB (r := rAll K) (cr_all rfl) (by rfl) N.n_all B.boot_all (pa_cons (pe_lc (own := [("knot", 1)]) (g := (gName 1)) rfl sc_wishes_of.nd (B.pi_sq (pv 0)) (blkOk_by (own := [("knot", 1)]) (N := n_wishes_of) (sc := defScope s_wishes_of) (by decide +kernel)) (fun _ _ _ _ _ => (pg_name (i := 1) sc_wishes_of.nd rfl (by first | exact Or.inl rfl | exact Or.inr rfl))) (fun _ _ _ _ _ => pts_nil) (fun _ _ _ _ _ => (B.pe_has h_is_number hr B.passL (pa_cons (pv 1) (pa_cons pe_int (pa_cons (pe_callB (r := B.rLen K) B.call_len (by rfl) N.n_len PySem.boot_len (pa_cons (pv 0) pa_nil)) pa_nil)))))) pa_nil)))) (pss_one (ps_raise rfl (takes_of rfl rfl rfl rfl) (B.pmk N.x_NoTree))) pss_nil)
    (pss_cons (ps_set (i := 2) sc_wishes_of.nd rfl (by first | exact Or.inl rfl | exact Or.inr rfl) (B.pe_has h_met_in hr (B.passU (takes_of rfl rfl rfl rfl)) (pa_cons (pv 0) pa_nil)))
    (pss_cons (ps_if (pt_cmpR op_ne (pe_callB (r := B.rLen K) B.call_len (by rfl) N.n_len PySem.boot_len (pa_cons (pv 2) pa_nil)) (pe_op op_add (pe_callB (r := B.rLen K) B.call_len (by rfl) N.n_len PySem.boot_len (pa_cons (pv 0) pa_nil)) pe_int) (nomark _)) (pss_one (ps_raise rfl (takes_of rfl rfl rfl rfl) (B.pmk N.x_NoTree))) pss_nil)
    (pss_cons (ps_set (i := 3) sc_wishes_of.nd rfl (by first | exact Or.inl rfl | exact Or.inr rfl) (B.pe_dictZip rfl (by rfl) N.n_dict (by rfl) N.n_zip (pv 2) (prg_2 (by rfl) N.n_range pe_int (pe_op op_add (pe_callB (r := B.rLen K) B.call_len (by rfl) N.n_len PySem.boot_len (pa_cons (pv 2) pa_nil)) pe_int))))
    (pss_one (ps_ret (pe_callTy (r := B.rTupOf K) B.call_tupOf (by rfl) N.n_tuple B.boot_tuple (pa_cons (pe_lc (own := [("knot", 1)]) (g := (gName 1)) rfl sc_wishes_of.nd (B.pi_sq (pv 0)) (blkOk_by (own := [("knot", 1)]) (N := n_wishes_of) (sc := defScope s_wishes_of) (by decide +kernel)) (fun _ _ _ _ _ => (pg_name (i := 1) sc_wishes_of.nd rfl (by first | exact Or.inl rfl | exact Or.inr rfl))) (fun _ _ _ _ _ => pts_nil) (fun _ _ _ _ _ => (pe_dget (hu_of hr) (pv 3) (pv 1) (fun _ _ => rfl)))) pa_nil))))))))), ?_⟩)
  · obtain ⟨x, rfl, _⟩ := h
    rfl
  · obtain ⟨x, rfl, h⟩ := h
    walk_at "go"
    refine x_mkT (by simp) fun p H1 hp e1 h1 => ?_
    have main : ∃ s, Kind K H x s ∧ ((¬ (s = .lst ∨ s = .tup) ∧ Bad mg "NoTree" H E) ∨ ((s = .lst ∨ s = .tup) ∧ ∃ a xs, x = .ref a ∧ Sq K H a xs ∧ (((xs.length = 0 ∨ 400 < xs.length) ∧ Bad mg "NoTree" H E) ∨
        (1 ≤ xs.length ∧ xs.length ≤ 400 ∧ (∀ y ∈ xs, ∃ s, Kind K H y s) ∧ (((∃ y ∈ xs, inB y 0 (xs.length : Nat) = false) ∧ Bad mg "NoTree" H E) ∨ ∃ t : List Int, xs = t.map V.int ∧ (∀ v ∈ t, 0 ≤ v ∧ v ≤ (t.length : Int)) ∧ ((¬ Hangs t ∧ Bad mg "NoTree" H E) ∨ (Hangs t ∧ ∀ p H', Ex H H' → H' p = some (.tup ((rowOf t).map V.int)) → Q (.ref p) H'))))))) := by
      rcases h with ⟨h, bad⟩ | ⟨t, ⟨a, rfl, q, l1, l2, hw, hg⟩, due⟩
      · rcases h with ⟨s, h1, h2, h3⟩ | ⟨a, xs, rfl, q, h3⟩
        · exact ⟨s, h1, .inl ⟨fun z => z.elim h2 h3, bad⟩⟩
        · obtain ⟨s, k, hs⟩ := sq_kind q
          refine ⟨s, k, .inr ⟨hs, a, xs, rfl, q, ?_⟩⟩
          rcases h3 with h3 | h3 | ⟨l1, l2, h3⟩
          · exact .inl ⟨.inl h3, bad⟩
          · exact .inl ⟨.inr h3, bad⟩
          · refine .inr ⟨l1, l2, ?_⟩
            rcases h3 with ⟨h4, h5⟩ | ⟨t, rfl, hw, ng⟩
            · exact ⟨h4, .inl ⟨h5, bad⟩⟩
            · refine ⟨fun y hy => ?_, .inr ⟨t, rfl, hw, .inl ⟨ng, bad⟩⟩⟩
              obtain ⟨w, _, rfl⟩ := List.mem_map.mp hy
              exact ⟨_, .int w⟩
      · obtain ⟨s, k, hs⟩ := sq_kind q
        refine ⟨s, k, .inr ⟨hs, a, _, rfl, q, .inr ⟨by rw [List.length_map]; exact l1, by rw [List.length_map]; exact l2, fun y hy => ?_, .inr ⟨t, rfl, hw, .inr ⟨hg, due⟩⟩⟩⟩⟩
        obtain ⟨w, _, rfl⟩ := List.mem_map.mp hy
        exact ⟨_, .int w⟩
    obtain ⟨s, k, h⟩ := main
    walk_at "go"
    refine x_isiLT (k.ex e1) h1 ?_
    walk_at "go"
    refine x_bN (fun e => ?_) (fun e => ?_)
    · walk_at "go"
      rcases h with ⟨_, bad⟩ | ⟨hs, _⟩
      · exact fun C m => bad C H1 m e1
      · rw [is_lt.mpr hs] at e
        cases e
    rcases h with ⟨hs, _⟩ | ⟨_, a, xs, rfl, hq, h⟩
    · exact absurd (is_lt.mp e) hs
    have bads : (xs.length = 0 ∨ 400 < xs.length) → Bad mg "NoTree" H E := fun z => by
      rcases h with ⟨_, bad⟩ | ⟨l1, l2, _⟩
      · exact bad
      · omega
    walk_at "go"
    refine x_dec (fun c => ?_) (fun c => ?_)
    · walk_at "go"
      refine x_decN (fun c2 => ?_) (fun c2 => ?_)
      · walk_at "go"
        exact fun C m => bads (.inr (by omega)) C H1 m e1
      · rcases h with ⟨z, _⟩ | ⟨l1, l2, hk, h⟩
        · omega
        walk_at "go"
        refine x_lcQ (K := K) xs (fun y => y) (fun _ => true) (fun y => .bl (inB y 0 (xs.length : Nat))) rfl (by rw [List.map_id']; exact hq.ex e1) ⟨by omega, fun _ => rfl, fun y _ H' e' QT k => ?_, fun y hy _ H' e' Q' k => ?_, fun l H2 l0 e2 h2 => ?_⟩
        · exact k H' (Evl.Ex.refl _)
        · obtain ⟨s, ky⟩ := hk y hy
          walk_at "go"
          refine ⟨y, s, 0, _, rfl, ky.ex (e1.trans e'), ?_⟩
          exact k H' (Evl.Ex.refl _)
        walk_at "go"
        rw [List.filter_eq_self.mpr (fun _ _ => rfl)] at h2
        refine ⟨l, xs.map fun y => inB y 0 (xs.length : Nat), rfl, ?_, ?_⟩
        · rw [List.map_map]
          exact Evl.sq_of h2
        walk_at "go"
        have all : ((xs.map fun y => inB y 0 (xs.length : Nat)).all id = true) ↔ ∀ y ∈ xs, inB y 0 (xs.length : Nat) = true := by
          rw [List.all_map, List.all_eq_true]
          rfl
        refine x_bN (fun e => ?_) (fun e => ?_)
        · walk_at "go"
          rcases h with ⟨_, bad⟩ | ⟨t, ex, hw, _⟩
          · exact fun C m => bad C H2 m (e1.trans e2)
          · exfalso
            rw [all.mpr fun y hy => ?_] at e
            · cases e
            · subst ex
              obtain ⟨w, hw', rfl⟩ := List.mem_map.mp hy
              have := hw w hw'
              rw [List.length_map]
              simp [inB]
              omega
        · have e := all.mp e
          rcases h with ⟨⟨y, hy, h5⟩, _⟩ | ⟨t, ex, hw, h⟩
          · rw [e y hy] at h5
            cases h5
          subst ex
          rw [List.length_map] at l1 l2
          have hq2 := hq.ex (e1.trans e2)
          walk_at "go"
          refine ⟨a, t, rfl, hq2, l2, fun mt H3 mt0 e3 hmt => ?_⟩
          walk_at "go"
          rw [List.length_map, List.length_map]
          have ml : (metIn t).length ≤ t.length + 1 := tree_len t (t.length + 1)
          refine x_decN (fun c3 => ?_) (fun c3 => ?_)
          · walk_at "go"
            rcases h with ⟨_, bad⟩ | ⟨hg, _⟩
            · exact fun C m => bad C H3 m (e1.trans (e2.trans e3))
            · exact absurd (by unfold Hangs at hg; rw [hg]; rfl) c3
          · rcases h with ⟨ng, _⟩ | ⟨hg, due⟩
            · exact absurd (by unfold Hangs; have := V.int.inj c3; omega) ng
            walk_at "go"
            refine x_dictZip ?_
            walk_at "go"
            rw [List.length_map]
            refine ⟨_, _, rfl, rfl, x_zipped (Evl.sq_of hmt) rfl (by omega) fun pd H4 _ e4 hpd => ?_⟩
            have ex4 : Ex H H4 := e1.trans (e2.trans (e3.trans e4))
            walk_at "go"
            refine x_lcQ (K := K) t V.int (fun _ => true) (fun v => .int ((((metIn t).idxOf v : Nat) : Int) + 1)) rfl (hq.ex ex4) ⟨by omega, fun _ => rfl, fun y _ H' e' QT k => ?_, fun y hy _ H' e' Q' k => ?_, fun l5 H5 _ e5 h5 => ?_⟩
            · exact k H' (Evl.Ex.refl _)
            · have hm := hangs_all hg (hw y hy).1 (hw y hy).2
              have hl := List.idxOf_lt_length_of_mem hm
              have ha : (metIn t)[(metIn t).idxOf y]? = some y := by rw [List.getElem?_eq_getElem hl, List.getElem_idxOf hl]
              walk_at "go"
              refine x_getI (e' _ _ hpd) (numbered_all (tree_nodup t _) ha) ?_
              rw [Int.add_comm]
              exact k H' (Evl.Ex.refl _)
            · have h5 : H5 l5 = some (.lst ((rowOf t).map V.int)) := by
                rw [h5, List.filter_eq_self.mpr (fun _ _ => rfl)]
                unfold rowOf
                rw [List.map_map]
                rfl
              walk_at "go"
              refine x_tupOf (Evl.sq_of h5) fun pt H6 _ e6 h6 => ?_
              exact due pt H6 (ex4.trans (e5.trans e6)) h6
    · walk_at "go"
      exact fun C m => bads (.inl (by omega)) C H1 m e1

/-! ### the law's readers -/
def sp__law_cell_at (K : PySem.W.Frag) : Sp := fun vs H Q _ => ∃ (a : Addr) (ns : List Int) (k : Nat), vs = [.ref a, .int (k : Nat)] ∧ SqL K H a (ns.map V.int) ∧ ns.length ≤ 63 ∧ Q (.int (ns.getD k 0)) H
theorem has__law_cell_at {P : Program} {w : World} {K : PySem.W.Frag} {mg : Str → Option Value} {base : Heap}  (S : B.Stands K mg "_law_cell_at" s__law_cell_at) (N : Nms K mg)  : B.Has P w K mg base "_law_cell_at" 1 ["_law_script", "_law_k"] (sp__law_cell_at K) := by
  refine B.has_ofN S sc__law_cell_at (fun _ _ _ _ _ _ us hl => match us, hl with | [_, _], _ => rfl) (fun vs H Q E h => ?_)
    (fun f cdv A outer s H vs Q E hr h => ⟨_, (pss_cons (ps_if (pt_cmpR op_lt (pv 1) (pe_callB (r := B.rLen K) B.call_len (by rfl) N.n_len PySem.boot_len (pa_cons (pv 0) pa_nil)) (nomark _)) (pss_one (ps_ret (pe_ix (r := rIxL K) ix_list (pv 0) (pv 1) (fun _ _ => rfl)))) pss_nil)
    (pss_one (ps_ret pe_int))), ?_⟩)
  · obtain ⟨a, ns, k, rfl, _⟩ := h
    rfl
  · obtain ⟨a, ns, k, rfl, hs, hl, q⟩ := h
    have hq : Sq K H a (ns.map V.int) := .inl hs
    walk_at "go"
    refine x_dec (fun c => ?_) (fun c => ?_)
    · rw [List.length_map] at c
      have hk : k < ns.length := by omega
      walk_at "go"
      refine x_ixL hs (v := .int (ns.getD k 0)) (atI_nat ?_) ?_
      · rw [List.getElem?_map, List.getElem?_eq_getElem hk, List.getD_eq_getElem?_getD, List.getElem?_eq_getElem hk]
        rfl
      · walk_at "go"
        exact q
    · rw [List.length_map] at c
      walk_at "go"
      rw [show ns.getD k 0 = 0 from by rw [List.getD_eq_getElem?_getD, List.getElem?_eq_none (by omega)]; rfl] at q
      exact q
/-- an item of a short written list, by an index in its bounds -/
theorem at3 {x y z : V} {k : Int} (h0 : 0 ≤ k) (h : k < 3) : ∃ v, atI [x, y, z] k = some v ∧ (v = x ∨ v = y ∨ v = z) := by
  rcases (by omega : k = 0 ∨ k = 1 ∨ k = 2) with rfl | rfl | rfl
  · exact ⟨x, rfl, .inl rfl⟩
  · exact ⟨y, rfl, .inr (.inl rfl)⟩
  · exact ⟨z, rfl, .inr (.inr rfl)⟩
theorem at4 {x y z u : V} {k : Int} (h0 : 0 ≤ k) (h : k < 4) : ∃ v, atI [x, y, z, u] k = some v ∧ (v = x ∨ v = y ∨ v = z ∨ v = u) := by
  rcases (by omega : k = 0 ∨ k = 1 ∨ k = 2 ∨ k = 3) with rfl | rfl | rfl | rfl
  · exact ⟨x, rfl, .inl rfl⟩
  · exact ⟨y, rfl, .inr (.inl rfl)⟩
  · exact ⟨z, rfl, .inr (.inr (.inl rfl))⟩
  · exact ⟨u, rfl, .inr (.inr (.inr rfl))⟩
theorem x_mod {i j : Int} {H : Hp} {Q : VK} (h : 0 < j) (q : ∀ r, 0 ≤ r → r < j → r = i % j → Q (.int r) H) : rI (fun _ j => 0 < j) (fun i j => .int (i % j)) (.int i) (.int j) H Q :=
  x_rI h (q _ (Int.emod_nonneg _ (by omega)) (Int.emod_lt_of_pos _ h) rfl)
theorem x_fdiv {i j : Int} {H : Hp} {Q : VK} (h : 0 < j ∧ j < 1073741824) (q : Q (.int (i / j)) H) : rI CDiv (fun i j => .int (i / j)) (.int i) (.int j) H Q := x_rI h q

def sp__law_mix (K : PySem.W.Frag) : Sp := fun vs H Q _ => ∃ (a : Addr) (s c : Int), vs = [.ref a, .int c] ∧ H a = some (.lst [.int s]) ∧ 0 ≤ s ∧ s < 2147483648 ∧
  ∀ (r s' : Int) (H' : Hp), 0 ≤ r → r < 2147483647 → 0 ≤ s' → s' < 2147483648 → Upd H a (.lst [.int s']) H' → Q (.int r) H'
theorem has__law_mix {P : Program} {w : World} {K : PySem.W.Frag} {mg : Str → Option Value} {base : Heap}  (S : B.Stands K mg "_law_mix" s__law_mix) (N : Nms K mg)  : B.Has P w K mg base "_law_mix" 1 ["_law_state", "_law_cell"] (sp__law_mix K) := by
  refine B.has_ofN S sc__law_mix (fun _ _ _ _ _ _ us hl => match us, hl with | [_, _], _ => rfl) (fun vs H Q E h => ?_)
    (fun f cdv A outer s H vs Q E hr h => ⟨_, (pss_cons (ps_asg (pe_op op_mod (pe_op op_add (pe_op op_add (pe_op op_mul (pe_ix (r := rIxL K) ix_list (pv 0) pe_int (fun _ _ => rfl)) pe_int) (pe_op op_mul (pv 1) pe_int)) pe_int) pe_int) (pg_sub (pv 0) pe_int set_list))
    (pss_one (ps_ret (pe_op op_fdiv (pe_op op_mod (pe_op op_mul (pe_ix (r := rIxL K) ix_list (pv 0) pe_int (fun _ _ => rfl)) (pe_ix (r := rIxL K) ix_list (pv 0) pe_int (fun _ _ => rfl))) pe_int) pe_int)))), ?_⟩)
  · obtain ⟨a, s, c, rfl, _⟩ := h
    rfl
  · obtain ⟨a, s, c, rfl, ha, s0, s1, q⟩ := h
    walk_at "go"
    refine x_ixL (v := .int s) (by walk_at "hx") at_head ?_
    walk_at "go"
    refine x_rI (.inr (by decide)) ?_
    walk_at "go"
    refine x_rI (.inr (by decide)) ?_
    walk_at "go"
    refine x_mod (by decide) fun r r0 r1 _ => ?_
    walk_at "go"
    refine x_setL (n := 0) ha (by simp) fun H1 u1 => ?_
    have h1 : H1 a = some (.lst [.int r]) := u1.same
    walk_at "go"
    refine x_ixL (v := .int r) (by walk_at "hx") at_head ?_
    walk_at "go"
    refine x_ixL (v := .int r) (by walk_at "hx") at_head ?_
    refine x_rI (.inl (by omega)) ?_
    walk_at "go"
    refine x_mod (by decide) fun t t0 t1 _ => ?_
    walk_at "go"
    refine x_fdiv (by decide) ?_
    exact q _ r H1 (by omega) (by omega) r0 (by omega) u1

def sp__law_order (K : PySem.W.Frag) : Sp := fun vs H Q _ => ∃ (a : Addr) (ns : List Int) (m k : Nat), vs = [.ref a, .int (m : Nat), .int (k : Nat)] ∧ SqL K H a (ns.map V.int) ∧ ns.length ≤ 63 ∧ m ≤ 400 ∧
  ∀ (p : Addr) (H' : Hp) (os : List Int), os.Perm (irange 0 m) → H p = none → Ex H H' → H' p = some (.lst (os.map V.int)) → Q (.ref p) H'
theorem erase_map (as : List Int) (j : Nat) : (as.map V.int).eraseIdx j = (as.eraseIdx j).map V.int := by
  rw [List.eraseIdx_eq_take_drop_succ, List.eraseIdx_eq_take_drop_succ, List.map_append, List.map_take, List.map_drop]
theorem pop_perm {as os : List Int} {k : Nat} {x : Int} (h : as[k]? = some x) : (os ++ [x] ++ as.eraseIdx k).Perm (os ++ as) := by
  have es := split_at h
  rw [List.eraseIdx_eq_take_drop_succ]
  conv => rhs; rw [es]
  rw [List.append_assoc]
  refine List.Perm.append_left os ?_
  exact (List.perm_middle (l₁ := as.take k) (a := x) (l₂ := as.drop (k + 1))).symm
theorem has__law_order {P : Program} {w : World} {K : PySem.W.Frag} {mg : Str → Option Value} {base : Heap}  (S : B.Stands K mg "_law_order" s__law_order) (N : Nms K mg) (h__law_cell_at : B.Has P w K mg base "_law_cell_at" 1 ["_law_script", "_law_k"] (sp__law_cell_at K)) (h__law_mix : B.Has P w K mg base "_law_mix" 1 ["_law_state", "_law_cell"] (sp__law_mix K)) : B.Has P w K mg base "_law_order" 2 ["_law_script", "_law_many", "_law_first"] (sp__law_order K) := by
  refine B.has_ofN S sc__law_order (fun _ _ _ _ _ _ us hl => match us, hl with | [_, _, _], _ => rfl) (fun vs H Q E h => ?_)
    (fun f cdv A outer s H vs Q E hr h => ⟨_, (pss_cons (ps_set (i := 3) sc__law_order.nd rfl (by first | exact Or.inl rfl | exact Or.inr rfl) (pe_lst (pa_cons (pe_op op_add pe_int (pe_op op_mod (B.pe_has h__law_cell_at hr B.passL (pa_cons (pv 0) (pa_cons (pv 2) pa_nil))) pe_int)) pa_nil)))
    (pss_cons (ps_set (i := 4) sc__law_order.nd rfl (by first | exact Or.inl rfl | exact Or.inr rfl) (pe_listRg rfl (by rfl) N.n_list (prg_1 (by rfl) N.n_range (pv 1))))
    (pss_cons (ps_set (i := 5) sc__law_order.nd rfl (by first | exact Or.inl rfl | exact Or.inr rfl) (pe_lst pa_nil))
    (pss_cons (ps_for PassesOwn.never rfl (pi_range1 rfl N.n_range (pa_cons (pv 1) pa_nil)) (pg_name (i := 6) sc__law_order.nd rfl (by first | exact Or.inl rfl | exact Or.inr rfl)) (pss_one (ps_expr (pe_bm PySem.F.plainAttrs_list PySem.F.slot_list_append PySem.F.type_list_append mt_append (pv 5) (pa_cons (pe_bm PySem.F.plainAttrs_list PySem.F.slot_list_pop PySem.F.type_list_pop mt_popAt (pv 4) (pa_cons (pe_op op_mod (B.pe_has h__law_mix hr B.passL (pa_cons (pv 3) (pa_cons (B.pe_has h__law_cell_at hr B.passL (pa_cons (pv 0) (pa_cons (pe_op op_add (pe_op op_add (pv 2) pe_int) (pe_op op_mod (pv 6) pe_int)) pa_nil))) pa_nil))) (pe_callB (r := B.rLen K) B.call_len (by rfl) N.n_len PySem.boot_len (pa_cons (pv 4) pa_nil))) pa_nil)) pa_nil)))))
    (pss_one (ps_ret (pv 5))))))), ?_⟩)
  · obtain ⟨a, ns, m, k, rfl, _⟩ := h
    rfl
  · obtain ⟨a, ns, m, k, rfl, hs, hl, hm, q⟩ := h
    walk_at "go"
    refine ⟨a, ns, k, rfl, hs, hl, ?_⟩
    walk_at "go"
    refine x_mod (by decide) fun r r0 r1 _ => ?_
    walk_at "go"
    refine x_mkL (by simp) fun st H1 st0 e1 hst => ?_
    walk_at "go"
    refine x_mkRg1 (by omega) fun so H2 so0 e2 hso => ?_
    walk_at "go"
    refine x_mkL (by simp) fun l H3 l0 e3 hl3 => ?_
    walk_at "go"
    refine x_rng1 (by omega) ?_
    rw [Int.toNat_natCast]
    have n1 : st ≠ so := ne_of_none hst so0
    have n2 : st ≠ l := ne_of_none (show H2 st = some _ by walk_at "hx") l0
    have n3 : so ≠ l := ne_of_none hso l0
    have stn : H st = none := st0
    have son : H so = none := exn e1 so0
    have ln : H l = none := exn e1 (exn e2 l0)
    refine x_forR (fun i σ' H' => (∃ v, σ' = [some (.ref a), some (.int (m : Nat)), some (.int (k : Nat)), some (.ref st), some (.ref so), some (.ref l), v]) ∧ Ex H H' ∧ (∃ s, H' st = some (.lst [.int s]) ∧ 0 ≤ s ∧ s < 2147483648) ∧
        ∃ as os : List Int, H' so = some (.lst (as.map V.int)) ∧ H' l = some (.lst (os.map V.int)) ∧ (os ++ as).Perm (irange 0 m) ∧ os.length = i)
      ⟨⟨_, rfl⟩, by walk_at "hx", ⟨1 + r, by walk_at "hx", by omega, by omega⟩, irange 0 m, [], by walk_at "hx", by walk_at "hx", List.Perm.refl _, rfl⟩ (fun i σ' H' hi p => ?_) (fun σ' H' p => ?_)
    · obtain ⟨⟨v, rfl⟩, ex, ⟨s, hst', s0, s1⟩, as, os, hso', hl', hp, ho⟩ := p
      have lens := hp.length_eq
      rw [List.length_append, irange_len] at lens
      have hS : SqL K H' a (ns.map V.int) := Evl.ex_l ex hs
      walk_at "go"
      refine x_mod (by decide) fun t t0 t1 _ => ?_
      walk_at "go"
      refine ⟨a, ns, (k + 1 + t.toNat), ?_, hS, hl, ?_⟩
      · show [V.ref a, V.int ((k : Int) + 1 + t)] = [V.ref a, V.int ((k + 1 + t.toNat : Nat) : Int)]
        rw [show ((k : Int) + 1 + t) = ((k + 1 + t.toNat : Nat) : Int) from by omega]
      walk_at "go"
      refine ⟨st, s, _, rfl, hst', s0, s1, fun mx s' H4 mx0 mx1 s'0 s'1 u4 => ?_⟩
      have hso4 : H4 so = some (.lst (as.map V.int)) := u4.get (Ne.symm n1) hso'
      have hl4 : H4 l = some (.lst (os.map V.int)) := u4.get (Ne.symm n2) hl'
      walk_at "go"
      rw [List.length_map]
      refine x_mod (by omega) fun j j0 j1 _ => ?_
      obtain ⟨j, rfl⟩ : ∃ j' : Nat, j = (j' : Nat) := ⟨j.toNat, by omega⟩
      have hj : j < as.length := by omega
      have hjx := List.getElem?_eq_getElem hj
      walk_at "go"
      refine x_popAt (y := .int as[j]) hso4 (by rw [List.length_map]; omega) (by rw [List.getElem?_map, hjx]; rfl) fun H5 u5 => ?_
      have hl5 : H5 l = some (.lst (os.map V.int)) := u5.get (Ne.symm n3) hl4
      walk_at "go"
      refine x_append hl5 (by rw [List.length_map]; omega) fun H6 u6 => ?_
      walk_at "go"
      refine ⟨⟨_, rfl⟩, (u6.ex (u5.ex (u4.ex ex stn) son) ln), ⟨s', u6.get n2 (u5.get n1 u4.same), s'0, s'1⟩, as.eraseIdx j, os ++ [as[j]], ?_, ?_, (pop_perm hjx).trans hp, ?_⟩
      · refine u6.get n3 ?_
        rw [← erase_map]
        exact u5.same
      · rw [List.map_append]
        exact u6.same
      · rw [List.length_append, ho]
        rfl
    · obtain ⟨⟨v, rfl⟩, ex, _, as, os, hso', hl', hp, ho⟩ := p
      have lens := hp.length_eq
      rw [List.length_append, irange_len] at lens
      have ea : as = [] := List.eq_nil_of_length_eq_zero (by omega)
      subst ea
      rw [List.append_nil] at hp
      walk_at "go"
      exact q l H' os hp ln ex hl'

/-! ### the law's own -/
theorem x_callF1 {σ : L2.St} {H : Hp} {Q : VK} {i j : Nat} {S : Addr → Sp → Prop} {E : L2.St → XK} {f : Addr} {x : V} (hf : σ[i]? = some (some (.ref f))) (hx : σ[j]? = some (some x)) (h : ∃ sp, S f sp ∧ sp [x] H Q (E σ)) :
    tCallF i S E (tCons (tVar j) tNil) σ H Q := by
  obtain ⟨sp, h1, h2⟩ := h
  exact ⟨f, sp, hf, h1, x, hx, h2⟩
def Acts (K : PySem.W.Frag) (mg : Str → Option Value) : Addr → Sp → Prop := fun f sp => (f = B.at_ mg "tree_of" ∧ sp = sp_tree_of K mg) ∨ (f = B.at_ mg "wishes_of" ∧ sp = sp_wishes_of K mg)
theorem fam_acts {P : Program} {w : World} {K : PySem.W.Frag} {mg : Str → Option Value} {base : Heap} {ps qs : List Str} (h1 : B.Has P w K mg base "tree_of" 7 ps (sp_tree_of K mg)) (h2 : B.Has P w K mg base "wishes_of" 2 qs (sp_wishes_of K mg)) :
    Fam P w K mg base 7 (Acts K mg) := by
  rintro f sp (⟨rfl, rfl⟩ | ⟨rfl, rfl⟩)
  · exact h1.held (by decide)
  · exact h2.held (by decide)
def sp__law_word (K : PySem.W.Frag) (mg : Str → Option Value) : Sp := fun vs H Q _ => ∃ f x w, vs = [.ref f, x] ∧ ((f = B.at_ mg "tree_of" ∧ NotFull K H x ∧ w = "wishes") ∨ (f = B.at_ mg "wishes_of" ∧ NoTreeX K H x ∧ w = "tree")) ∧ ∀ H', Ex H H' → Q (.str w) H'
theorem has__law_word {P : Program} {w : World} {K : PySem.W.Frag} {mg : Str → Option Value} {base : Heap}  (S : B.Stands K mg "_law_word" s__law_word) (N : Nms K mg) (h_tree_of : B.Has P w K mg base "tree_of" 7 ["wishes"] (sp_tree_of K mg)) (h_wishes_of : B.Has P w K mg base "wishes_of" 2 ["tree"] (sp_wishes_of K mg)) : B.Has P w K mg base "_law_word" 8 ["_law_act", "_law_thing"] (sp__law_word K mg) := by
  refine B.has_ofN S sc__law_word (fun _ _ _ _ _ _ us hl => match us, hl with | [_, _], _ => rfl) (fun vs H Q E h => ?_)
    (fun f cdv A outer s H vs Q E hr h => ⟨_, (pss_cons (ps_set (i := 2) sc__law_word.nd rfl (by first | exact Or.inl rfl | exact Or.inr rfl) pe_non)
    (pss_cons (B.ps_try_keep (i := 3) (j := 2) rfl rfl rfl sc__law_word.nd rfl rfl ⟨rfl, by decide, .inl N.m_BerthError⟩ takes0 (fun W pn xe tk _ => (pss_one (ps_expr (B.pe_callF (i := 0) (S := Acts K mg) (E := WE W) (fam_acts h_tree_of h_wishes_of) hr (fun σ => passAt tk σ) (pa_cons (pv 1) pa_nil))))) (fun a oe pn => pss_one (ps_set (i := 2) sc__law_word.nd rfl (Or.inl rfl) (pv 3))))
    (pss_cons (ps_set (i := 4) sc__law_word.nd rfl (by first | exact Or.inl rfl | exact Or.inr rfl) (pe_lst (pa_cons (pe_callB (r := B.rIsiC K) B.call_isiC (by rfl) N.n_isinstance B.boot_isinstance (pa_cons (pv 2) (pa_cons (B.pe_cls N.m_NoCount) pa_nil))) (pa_cons (pe_callB (r := B.rIsiC K) B.call_isiC (by rfl) N.n_isinstance B.boot_isinstance (pa_cons (pv 2) (pa_cons (B.pe_cls N.m_NoOrder) pa_nil))) (pa_cons (pe_callB (r := B.rIsiC K) B.call_isiC (by rfl) N.n_isinstance B.boot_isinstance (pa_cons (pv 2) (pa_cons (B.pe_cls N.m_NoQuay) pa_nil))) pa_nil)))))
    (pss_cons (ps_if (PW.pt (pw_or (pt_cmpR (r := rIn K false) op_in_seq pe_bl (pv 4) (by rfl)) (pw_or (pt_val (pe_callB (r := B.rIsiC K) B.call_isiC (by rfl) N.n_isinstance B.boot_isinstance (pa_cons (pv 2) (pa_cons (B.pe_cls N.m_TooMany) pa_nil)))) (pw_or1 (pt_cmp (pc_isN (pv 2))))))) (pss_one (ps_ret pe_str)) pss_nil)
    (pss_one (ps_ret (pe_op op_add_str (pe_ix (r := rIxL K) ix_list (pe_lst (pa_cons pe_str (pa_cons pe_str pa_nil))) (pe_callTy B.call_int1 (by rfl) N.n_int B.boot_int (pa_cons (pe_callB (r := B.rIsiC K) B.call_isiC (by rfl) N.n_isinstance B.boot_isinstance (pa_cons (pv 2) (pa_cons (B.pe_cls N.m_NoTree) pa_nil))) pa_nil)) (fun _ _ => rfl)) (pe_ix (r := rIxL K) ix_list (pe_lst (pa_cons pe_str (pa_cons pe_str pa_nil))) (pe_callTy B.call_int1 (by rfl) N.n_int B.boot_int (pa_cons (pe_callB (r := B.rIsiC K) B.call_isiC (by rfl) N.n_isinstance B.boot_isinstance (pa_cons (pv 2) (pa_cons (B.pe_cls N.m_NoWishes) pa_nil))) pa_nil)) (fun _ _ => rfl))))))))), ?_⟩)
  · obtain ⟨f, x, w, rfl, _⟩ := h
    rfl
  · obtain ⟨f, x, w, rfl, hf, q⟩ := h
    walk_at "go"
    have act : ∀ {Q' : VK} {E' : XK}, (∀ D, (D = "NoWishes" ∧ w = "wishes") ∨ (D = "NoTree" ∧ w = "tree") → Bad mg D H E') → ∃ sp, Acts K mg f sp ∧ sp [x] H Q' E' := fun {Q' E'} bad => by
      rcases hf with ⟨hf, nf, hw⟩ | ⟨hf, no, hw⟩
      · exact ⟨_, .inl ⟨hf, rfl⟩, x, rfl, .inl ⟨nf, bad _ (.inl ⟨rfl, hw⟩)⟩⟩
      · exact ⟨_, .inr ⟨hf, rfl⟩, x, rfl, .inl ⟨no, bad _ (.inr ⟨rfl, hw⟩)⟩⟩
    refine x_callF1 (f := f) (x := x) rfl rfl (act fun D hD C H1 hC e1 => ?_)
    obtain rfl : B.at_ mg D = C := at_of hC
    rcases hD with ⟨rfl, rfl⟩ | ⟨rfl, rfl⟩
    · refine x_kept N.e_NoWishes fun a H2 a0 e2 ha2 => ?_
      have hF : ∀ D0, some (B.at_ mg "NoWishes") = some D0 → ExcC K D0 := fun D0 z => by cases z; exact N.k_NoWishes
      have cau : ∀ H', Ex H2 H' → Caught K H' (.ref a) (some (B.at_ mg "NoWishes")) := fun H' e => .yes (e _ _ ha2)
      walk_at "go"
      refine x_isiC (.own _) (cau _ (Evl.Ex.refl _)) hF N.i_NoWishes_NoCount ?_
      walk_at "go"
      refine x_isiC (.own _) (cau _ (Evl.Ex.refl _)) hF N.i_NoWishes_NoOrder ?_
      walk_at "go"
      refine x_isiC (.own _) (cau _ (Evl.Ex.refl _)) hF N.i_NoWishes_NoQuay ?_
      walk_at "go"
      refine x_mkL (by simp) fun l H3 _ e3 h3 => ?_
      walk_at "go"
      refine x_inL (Evl.sq_of h3) rfl (b := false) rfl rfl ?_
      walk_at "go"
      refine x_isiC (.own _) (cau _ e3) hF N.i_NoWishes_TooMany ?_
      walk_at "go"
      rw [decide_eq_false (show ¬ V.ref a = V.non from nofun)]
      walk_at "go"
      refine x_mkL (by simp) fun l4 H4 _ e4 h4 => ?_
      walk_at "go"
      refine x_isiC (.own _) (cau _ (e3.trans e4)) hF N.i_NoWishes_NoTree ?_
      walk_at "go"
      refine x_intB ?_
      refine x_ixL (v := .str "") (by walk_at "hx") rfl ?_
      walk_at "go"
      refine x_mkL (by simp) fun l5 H5 _ e5 h5 => ?_
      walk_at "go"
      refine x_isiC (.own _) (cau _ (e3.trans (e4.trans e5))) hF N.i_NoWishes_NoWishes ?_
      walk_at "go"
      refine x_intB ?_
      refine x_ixL (v := .str "wishes") (by walk_at "hx") rfl ?_
      refine ⟨_, _, rfl, rfl, by decide, ?_⟩
      exact q H5 (e1.trans (e2.trans (e3.trans (e4.trans e5))))
    · refine x_kept N.e_NoTree fun a H2 a0 e2 ha2 => ?_
      have hF : ∀ D0, some (B.at_ mg "NoTree") = some D0 → ExcC K D0 := fun D0 z => by cases z; exact N.k_NoTree
      have cau : ∀ H', Ex H2 H' → Caught K H' (.ref a) (some (B.at_ mg "NoTree")) := fun H' e => .yes (e _ _ ha2)
      walk_at "go"
      refine x_isiC (.own _) (cau _ (Evl.Ex.refl _)) hF N.i_NoTree_NoCount ?_
      walk_at "go"
      refine x_isiC (.own _) (cau _ (Evl.Ex.refl _)) hF N.i_NoTree_NoOrder ?_
      walk_at "go"
      refine x_isiC (.own _) (cau _ (Evl.Ex.refl _)) hF N.i_NoTree_NoQuay ?_
      walk_at "go"
      refine x_mkL (by simp) fun l H3 _ e3 h3 => ?_
      walk_at "go"
      refine x_inL (Evl.sq_of h3) rfl (b := false) rfl rfl ?_
      walk_at "go"
      refine x_isiC (.own _) (cau _ e3) hF N.i_NoTree_TooMany ?_
      walk_at "go"
      rw [decide_eq_false (show ¬ V.ref a = V.non from nofun)]
      walk_at "go"
      refine x_mkL (by simp) fun l4 H4 _ e4 h4 => ?_
      walk_at "go"
      refine x_isiC (.own _) (cau _ (e3.trans e4)) hF N.i_NoTree_NoTree ?_
      walk_at "go"
      refine x_intB ?_
      refine x_ixL (v := .str "tree") (by walk_at "hx") rfl ?_
      walk_at "go"
      refine x_mkL (by simp) fun l5 H5 _ e5 h5 => ?_
      walk_at "go"
      refine x_isiC (.own _) (cau _ (e3.trans (e4.trans e5))) hF N.i_NoTree_NoWishes ?_
      walk_at "go"
      refine x_intB ?_
      refine x_ixL (v := .str "") (by walk_at "hx") rfl ?_
      refine ⟨_, _, rfl, rfl, by decide, ?_⟩
      exact q H5 (e1.trans (e2.trans (e3.trans (e4.trans e5))))

def sp__law_drawn (K : PySem.W.Frag) : Sp := fun vs H Q _ => ∃ (a : Addr) (ns : List Int) (k : Nat), vs = [.ref a, .int (k : Nat)] ∧ SqL K H a (ns.map V.int) ∧ ns.length ≤ 63 ∧
  ∀ (p : Addr) (H' : Hp) (t : List Int), 1 ≤ t.length → t.length ≤ 90 → (∀ v ∈ t, 0 ≤ v ∧ v ≤ (t.length : Int)) → Hangs t → Ex H H' → H' p = some (.tup (t.map V.int)) → Q (.ref p) H'
theorem has__law_drawn {P : Program} {w : World} {K : PySem.W.Frag} {mg : Str → Option Value} {base : Heap}  (S : B.Stands K mg "_law_drawn" s__law_drawn) (N : Nms K mg) (h__law_cell_at : B.Has P w K mg base "_law_cell_at" 1 ["_law_script", "_law_k"] (sp__law_cell_at K)) (h__law_order : B.Has P w K mg base "_law_order" 2 ["_law_script", "_law_many", "_law_first"] (sp__law_order K)) (h__law_mix : B.Has P w K mg base "_law_mix" 1 ["_law_state", "_law_cell"] (sp__law_mix K)) : B.Has P w K mg base "_law_drawn" 3 ["_law_script", "_law_first"] (sp__law_drawn K) := by
  refine B.has_ofN S sc__law_drawn (fun _ _ _ _ _ _ us hl => match us, hl with | [_, _], _ => rfl) (fun vs H Q E h => ?_)
    (fun f cdv A outer s H vs Q E hr h => ⟨_, (pss_cons (ps_set (i := 2) sc__law_drawn.nd rfl (by first | exact Or.inl rfl | exact Or.inr rfl) (B.pe_has h__law_cell_at hr B.passL (pa_cons (pv 0) (pa_cons (pv 1) pa_nil))))
    (pss_cons (ps_set (i := 3) sc__law_drawn.nd rfl (by first | exact Or.inl rfl | exact Or.inr rfl) (pe_ix (r := rIxL K) ix_list (pe_lst (pa_cons (pe_op op_add pe_int (pe_op op_mod (pv 2) pe_int)) (pa_cons (pe_op op_add pe_int (pe_op op_mod (pe_op op_fdiv (pv 2) pe_int) pe_int)) pa_nil))) (pe_op op_fdiv (pe_op op_mod (pv 2) pe_int) pe_int) (fun _ _ => rfl)))
    (pss_cons (ps_set (i := 4) sc__law_drawn.nd rfl (by first | exact Or.inl rfl | exact Or.inr rfl) (B.pe_has h__law_order hr B.passL (pa_cons (pv 0) (pa_cons (pv 3) (pa_cons (pv 1) pa_nil)))))
    (pss_cons (ps_set (i := 5) sc__law_drawn.nd rfl (by first | exact Or.inl rfl | exact Or.inr rfl) (pe_lst (pa_cons (pe_op op_add pe_int (pe_op op_mod (B.pe_has h__law_cell_at hr B.passL (pa_cons (pv 0) (pa_cons (pe_op op_add (pv 1) pe_int) pa_nil))) pe_int)) pa_nil)))
    (pss_cons (ps_set (i := 6) sc__law_drawn.nd rfl (by first | exact Or.inl rfl | exact Or.inr rfl) (pe_op op_rep (pe_lst (pa_cons pe_int pa_nil)) (pv 3)))
    (pss_cons (ps_set (i := 7) sc__law_drawn.nd rfl (by first | exact Or.inl rfl | exact Or.inr rfl) (pe_lst (pa_cons pe_int pa_nil)))
    (pss_cons (ps_for PassesOwn.never rfl (pi_list (pv 4)) (pg_name (i := 8) sc__law_drawn.nd rfl (by first | exact Or.inl rfl | exact Or.inr rfl)) (pss_cons (ps_asg (pe_ix (r := rIxL K) ix_list (pv 7) (pe_op op_mod (B.pe_has h__law_mix hr B.passL (pa_cons (pv 5) (pa_cons (pv 8) pa_nil))) (pe_callB (r := B.rLen K) B.call_len (by rfl) N.n_len PySem.boot_len (pa_cons (pv 7) pa_nil))) (fun _ _ => rfl)) (pg_sub (pv 6) (pv 8) set_list))
    (pss_one (ps_expr (pe_bm PySem.F.plainAttrs_list PySem.F.slot_list_append PySem.F.type_list_append mt_append (pv 7) (pa_cons (pe_op op_add (pv 8) pe_int) pa_nil))))))
    (pss_one (ps_ret (pe_callTy (r := B.rTupOf K) B.call_tupOf (by rfl) N.n_tuple B.boot_tuple (pa_cons (pv 6) pa_nil))))))))))), ?_⟩)
  · obtain ⟨a, ns, k, rfl, _⟩ := h
    rfl
  · obtain ⟨a, ns, k, rfl, hs, hl, q⟩ := h
    walk_at "go"
    refine ⟨a, ns, k, rfl, hs, hl, ?_⟩
    walk_at "go"
    refine x_mod (by decide) fun r1 r10 r11 _ => ?_
    walk_at "go"
    refine x_fdiv (by decide) ?_
    walk_at "go"
    refine x_mod (by decide) fun r2 r20 r21 _ => ?_
    walk_at "go"
    refine x_mkL (by simp) fun l1 H1 _ e1 h1 => ?_
    walk_at "go"
    refine x_mod (by decide) fun r3 r30 r31 _ => ?_
    walk_at "go"
    refine x_fdiv (by decide) ?_
    obtain ⟨v, ev, hv⟩ := at2 (x := .int (1 + r1)) (y := .int (1 + r2)) (k := r3 / 7) (by omega) (by omega)
    obtain ⟨m, rfl, m1, m2⟩ : ∃ m : Nat, v = .int (m : Nat) ∧ 1 ≤ m ∧ m ≤ 90 := by
      rcases hv with rfl | rfl
      · exact ⟨(1 + r1).toNat, by rw [Int.toNat_of_nonneg (by omega)], by omega, by omega⟩
      · exact ⟨(1 + r2).toNat, by rw [Int.toNat_of_nonneg (by omega)], by omega, by omega⟩
    refine x_ixL (Evl.sq_of h1) ev ?_
    walk_at "go"
    refine ⟨a, ns, m, k, rfl, Evl.ex_l e1 hs, hl, by omega, fun op H2 os perm op0 e2 hop => ?_⟩
    have ol : os.length = m := by
      have := perm.length_eq
      rw [irange_len] at this
      omega
    walk_at "go"
    refine ⟨a, ns, k + 1, by rw [show ((k + 1 : Nat) : Int) = (k : Int) + 1 from by omega]; rfl, Evl.ex_l (e1.trans e2) hs, hl, ?_⟩
    walk_at "go"
    refine x_mod (by decide) fun r4 r40 r41 _ => ?_
    walk_at "go"
    refine x_mkL (by simp) fun st H3 st0 e3 hst => ?_
    walk_at "go"
    refine x_mkL (by simp) fun z H4 _ e4 hz => ?_
    walk_at "go"
    refine x_rep (n := (m : Nat)) hz (by omega) (by omega) (by simp) fun ab H5 ab0 e5 hab => ?_
    rw [Int.toNat_natCast, rep_ints] at hab
    walk_at "go"
    refine x_mkL (by simp) fun mt H6 mt0 e6 hmt => ?_
    have ex36 : Ex H3 H6 := e4.trans (e5.trans e6)
    have ex6 : Ex H H6 := e1.trans (e2.trans (e3.trans ex36))
    have hst6 := ex36 _ _ hst
    have hab6 := e6 _ _ hab
    have hop6 : H6 op = some (.lst (os.map V.int)) := ex36 _ _ (e3 _ _ hop)
    have stn : H st = none := exn (e1.trans e2) st0
    have abn : H ab = none := exn (e1.trans (e2.trans (e3.trans e4))) ab0
    have mtn : H mt = none := exn (e1.trans (e2.trans (e3.trans (e4.trans e5)))) mt0
    have sa : st ≠ ab := ne_of_none (e4 _ _ hst) ab0
    have sm : st ≠ mt := ne_of_none (e5 _ _ (e4 _ _ hst)) mt0
    have am : ab ≠ mt := ne_of_none hab mt0
    have os_ : op ≠ st := ne_of_none hop st0
    have oa : op ≠ ab := ne_of_none (e4 _ _ (e3 _ _ hop)) ab0
    have om : op ≠ mt := ne_of_none (e5 _ _ (e4 _ _ (e3 _ _ hop))) mt0
    walk_at "go"
    refine x_forL os V.int (fun pre σ' H' => (∃ v8, σ' = [some (.ref a), some (.int (k : Nat)), some (.int (ns.getD k 0)), some (.int (m : Nat)), some (.ref op), some (.ref st), some (.ref ab), some (.ref mt), v8]) ∧ Far H H' ∧ H' op = some (.lst (os.map V.int)) ∧ (∃ s, H' st = some (.lst [.int s]) ∧ 0 ≤ s ∧ s < 2147483648) ∧
        H' mt = some (.lst ((0 :: pre.map fun x => x + 1).map V.int)) ∧ ∃ A : List Int, H' ab = some (.lst (A.map V.int)) ∧ A.length = m ∧ (∀ v ∈ A, 0 ≤ v ∧ v ≤ (m : Int)) ∧ ∀ (i : Nat) (s : Int), pre[i]? = some s → ∃ v, A[s.toNat]? = some v ∧ v ∈ 0 :: (pre.take i).map fun x => x + 1)
      ⟨⟨_, rfl⟩, .of ex6, hop6, ⟨_, hst6, by omega, by omega⟩, hmt, _, hab6, List.length_replicate, fun v hv => by rw [(List.mem_replicate.mp hv).2]; omega, fun i s h => by simp at h⟩ (fun pre σ' H' _ p => Evl.sq_of p.2.2.1) (fun pre x post σ' H' ea pp => ?_) (fun σ' H' pp => ?_)
    · obtain ⟨⟨v8, rfl⟩, far, hop', ⟨s, hst', s0, s1⟩, hmt', A, hA, Al, Ar, hall⟩ := pp
      have xr := mem_irange.mp (perm.mem_iff.mp (show x ∈ os by rw [ea]; simp))
      have pl : pre.length < os.length := by rw [ea]; simp
      have prer : ∀ y ∈ pre, 0 ≤ y ∧ y < (m : Int) := fun y hy => mem_irange.mp (perm.mem_iff.mp (show y ∈ os by rw [ea]; simp [hy]))
      have nd : os.Nodup := perm.nodup_iff.mpr (irange_nodup _ _)
      have xp : x ∉ pre := fun h => by
        rw [ea, List.nodup_append] at nd
        exact nd.2.2 x h x (by simp) rfl
      obtain ⟨xi, rfl⟩ : ∃ xi : Nat, x = (xi : Int) := ⟨x.toNat, by omega⟩
      walk_at "go"
      refine ⟨st, s, _, rfl, hst', s0, s1, fun r s' H7 r0 r1 s0' s1' u7 => ?_⟩
      have hmt7 := u7.get (Ne.symm sm) hmt'
      have hA7 := u7.get (Ne.symm sa) hA
      walk_at "go"
      rw [List.length_map, List.length_cons, List.length_map]
      refine x_mod (by omega) fun j j0 j1 _ => ?_
      obtain ⟨j, rfl⟩ : ∃ j' : Nat, j = (j' : Nat) := ⟨j.toNat, by omega⟩
      have jl : j < (0 :: pre.map fun x : Int => x + 1).length := by rw [List.length_cons, List.length_map]; omega
      have hj := at_getD jl
      have hjm := List.mem_of_getElem? hj
      generalize (0 :: pre.map fun x : Int => x + 1).getD j 0 = pv at hj hjm
      refine x_ixL (v := .int pv) (Evl.sq_of hmt7) (atI_nat (by rw [List.getElem?_map, hj]; rfl)) ?_
      walk_at "go"
      refine x_setL hA7 (by rw [List.length_map]; omega) fun H8 u8 => ?_
      rw [← List.map_set] at u8
      have hmt8 := u8.get (Ne.symm am) hmt7
      walk_at "go"
      refine x_append hmt8 (by rw [List.length_map, List.length_cons, List.length_map]; omega) fun H9 u9 => ?_
      walk_at "go"
      refine ⟨⟨_, rfl⟩, .of (u9.ex (u8.ex (u7.ex far.e stn) abn) mtn), u9.get om (u8.get oa (u7.get os_ hop')), ⟨s', u9.get sm (u8.get sa u7.same), s0', s1'⟩, ?_, _, u9.get am u8.same, by rw [List.length_set]; exact Al, fun v hv => ?_, fun i s2 hi => ?_⟩
      · rw [List.map_append, ← List.cons_append, List.map_append]
        exact u9.same
      · rcases List.mem_or_eq_of_mem_set hv with h | rfl
        · exact Ar v h
        · rcases List.mem_cons.mp hjm with h | h
          · omega
          · obtain ⟨y, hy, rfl⟩ := List.mem_map.mp h
            have := prer y hy
            omega
      · by_cases hlt : i < pre.length
        · rw [List.getElem?_append_left hlt] at hi
          obtain ⟨v, h1, h2⟩ := hall i s2 hi
          have hm2 := List.mem_of_getElem? hi
          have sr := prer s2 hm2
          refine ⟨v, ?_, by rw [List.take_append_of_le_length (by omega)]; exact h2⟩
          rw [List.getElem?_set, if_neg (fun z => xp (by rw [show (xi : Int) = s2 from by omega]; exact hm2))]
          exact h1
        · have h2 := (List.getElem?_eq_some_iff.mp hi).1
          rw [List.length_append, List.length_singleton] at h2
          obtain rfl : i = pre.length := by omega
          rw [List.getElem?_append_right (Nat.le_refl _), Nat.sub_self] at hi
          obtain rfl := Option.some.inj hi
          refine ⟨pv, ?_, by rw [List.take_append_of_le_length (Nat.le_refl _), List.take_length]; exact hjm⟩
          rw [List.getElem?_set, Int.toNat_natCast, if_pos rfl, if_pos (by omega)]
    · obtain ⟨⟨v8, rfl⟩, far, hop', _, hmt', A, hA, Al, Ar, hall⟩ := pp
      walk_at "go"
      refine x_tupOf (Evl.sq_of hA) fun p H7 _ e7 hp => ?_
      exact q p H7 A (by omega) (by omega) (by rw [Al]; exact Ar) (drawn_hangs (by rw [Al]; exact perm) hall) (far.e.trans e7) hp
def sp__law_hangs (K : PySem.W.Frag) : Sp := fun vs H Q _ => ∃ (a : Addr) (t : List Int), vs = [.ref a] ∧ SqT K H a (t.map V.int) ∧ t.length ≤ 400 ∧ (∀ v ∈ t, 0 ≤ v ∧ v ≤ (t.length : Int)) ∧ ∀ g, (g = true ↔ Hangs t) → Q (.bl g) H
theorem has__law_hangs {P : Program} {w : World} {K : PySem.W.Frag} {mg : Str → Option Value} {base : Heap}  (S : B.Stands K mg "_law_hangs" s__law_hangs) (N : Nms K mg)  : B.Has P w K mg base "_law_hangs" 1 ["_law_tree"] (sp__law_hangs K) := by
  refine B.has_ofN S sc__law_hangs (fun _ _ _ _ _ _ us hl => match us, hl with | [_], _ => rfl) (fun vs H Q E h => ?_)
    (fun f cdv A outer s H vs Q E hr h => ⟨_, (pss_cons (ps_for PassesOwn.never rfl (pi_range2 rfl N.n_range (pa_cons pe_int (pa_cons (pe_op op_add (pe_callB (r := B.rLen K) B.call_len (by rfl) N.n_len PySem.boot_len (pa_cons (pv 0) pa_nil)) pe_int) pa_nil))) (pg_name (i := 1) sc__law_hangs.nd rfl (by first | exact Or.inl rfl | exact Or.inr rfl)) (pss_cons (ps_set (i := 2) sc__law_hangs.nd rfl (by first | exact Or.inl rfl | exact Or.inr rfl) (pv 1))
    (pss_cons (ps_set (i := 3) sc__law_hangs.nd rfl (by first | exact Or.inl rfl | exact Or.inr rfl) pe_int)
    (pss_cons (ps_while PassesOwn.never (PW.pt (pw_and (pt_cmpR op_ne (pv 2) pe_int (nomark _)) (pw_and1 (pt_cmpR op_le (pv 3) (pe_callB (r := B.rLen K) B.call_len (by rfl) N.n_len PySem.boot_len (pa_cons (pv 0) pa_nil)) (nomark _))))) (pss_cons (ps_set (i := 2) sc__law_hangs.nd rfl (by first | exact Or.inl rfl | exact Or.inr rfl) (pe_ix (r := rIxT K) ix_tup (pv 0) (pe_op op_sub (pv 2) pe_int) (fun _ _ => rfl)))
    (pss_one (ps_set (i := 3) sc__law_hangs.nd rfl (by first | exact Or.inl rfl | exact Or.inr rfl) (pe_op op_add (pv 3) pe_int)))))
    (pss_one (ps_if (pt_cmpR op_ne (pv 2) pe_int (nomark _)) (pss_one (ps_ret pe_bl)) pss_nil))))))
    (pss_one (ps_ret pe_bl))), ?_⟩)
  · obtain ⟨a, t, rfl, _⟩ := h
    rfl
  · obtain ⟨a, t, rfl, hs, tl, ht, q⟩ := h
    walk_at "go"
    rw [List.length_map]
    refine x_rng2 (by omega) (by omega) ?_
    refine x_forR (fun k σ' H' => (∃ v1 v2 v3, σ' = [some (.ref a), v1, v2, v3]) ∧ H' = H ∧ ∀ x : Int, 1 ≤ x → x ≤ (k : Int) → up t (t.length + 1) x = 0) ⟨⟨_, _, _, rfl⟩, rfl, fun x h1 h2 => by omega⟩ (fun k σ' H' hk p => ?_) (fun σ' H' p => ?_)
    · obtain ⟨⟨v1, v2, v3, rfl⟩, rfl, hup⟩ := p
      have kt : (1 : Int) + k ≤ t.length := by omega
      walk_at "go"
      obtain ⟨x, hx⟩ : ∃ x : Int, x = 1 + (k : Int) := ⟨_, rfl⟩
      rw [← hx]
      refine x_whileG (fun m σ'' H'' => H'' = H' ∧ ∃ (j : Nat) (y : Int), m = t.length + 1 - j ∧ j ≤ t.length + 1 ∧ 0 ≤ y ∧ y ≤ (t.length : Int) ∧ up t (t.length + 1) x = up t (t.length + 1 - j) y ∧ σ'' = [some (.ref a), some (.int x), some (.int y), some (.int (j : Nat))])
        _ ⟨rfl, 0, x, rfl, by omega, by omega, by omega, rfl, rfl⟩ ?_
      rintro m σ'' H'' ⟨rfl, j, y, rfl, jl, y0, y1, eu, rfl⟩
      have fin : (y = 0 ∨ j = t.length + 1) → (up t (t.length + 1) x = 0 ↔ y = 0) := fun h => by
        rw [eu]
        rcases h with rfl | rfl
        · rw [up_zero]
        · rw [Nat.sub_self]
          exact Iff.rfl
      walk_at "go"
      refine x_decN (fun c => ?_) (fun c => ?_)
      · have yn : y ≠ 0 := fun z => c (by rw [z])
        walk_at "go"
        rw [List.length_map]
        refine x_dec (fun c2 => ?_) (fun c2 => ?_)
        · obtain ⟨i, rfl⟩ : ∃ i : Nat, y = (i : Int) + 1 := ⟨(y - 1).toNat, by omega⟩
          have hv := at_getD (show i < t.length by omega)
          have hr := ht _ (List.mem_of_getElem? hv)
          walk_at "go"
          refine x_ixT (v := .int (t.getD i 0)) hs (by rw [show (i : Int) + 1 - 1 = (i : Nat) from by omega]; exact atI_nat (by rw [List.getElem?_map, hv]; rfl)) ?_
          walk_at "go"
          refine ⟨t.length + 1 - (j + 1), by omega, rfl, j + 1, t.getD i 0, rfl, by omega, hr.1, hr.2, ?_, rfl⟩
          rw [eu, show t.length + 1 - j = (t.length + 1 - (j + 1)) + 1 from by omega]
          show (if (i : Int) + 1 = 0 then 0 else up t _ (t.getD ((i : Int) + 1 - 1).toNat 0)) = _
          rw [if_neg yn, show ((i : Int) + 1 - 1).toNat = i from by omega]
        · have je : j = t.length + 1 := by omega
          walk_at "go"
          refine x_decN (fun c3 => ?_) (fun c3 => absurd (by rw [V.int.inj c3]) yn)
          walk_at "go"
          refine q false ⟨fun z => (nomatch z), fun z => ?_⟩
          have := (hangs_iff ht).mp z x (by omega) (by omega)
          exact absurd ((fin (.inr je)).mp this) yn
      · have y00 : y = 0 := V.int.inj c
        walk_at "go"
        refine x_decN (fun c3 => absurd c c3) (fun c3 => ?_)
        walk_at "go"
        refine ⟨⟨_, _, _, rfl⟩, rfl, fun x' h1 h2 => ?_⟩
        by_cases e : x' = x
        · rw [e]
          exact (fin (.inl y00)).mpr y00
        · exact hup x' h1 (by omega)
    · obtain ⟨⟨v1, v2, v3, rfl⟩, rfl, hup⟩ := p
      walk_at "go"
      refine q true ⟨fun _ => (hangs_iff ht).mpr fun x h1 h2 => hup x h1 (by omega), fun _ => rfl⟩

def sp_law (K : PySem.W.Frag) : Sp := fun vs H Q _ => ∃ (a : Addr) (ns : List Int), vs = [.ref a] ∧ SqL K H a (ns.map V.int) ∧ ns.length ≤ 63 ∧ ∀ H', Q (.bl true) H'

/-- a knot that hangs on itself hangs on no root -/
theorem loop_no_hang {t : List Int} {s : Nat} (h : t[s]? = some ((s : Int) + 1)) : ¬ Hangs t := fun hg => by
  have sl := (List.getElem?_eq_some_iff.mp h).1
  obtain ⟨i, hi⟩ := List.getElem?_of_mem (hangs_all hg (x := (s : Int) + 1) (by omega) (by omega))
  rcases tree_mem _ i _ hi with z | ⟨s', j, v, h1, h2, h3, _, h5⟩
  · omega
  · obtain rfl : s' = s := by omega
    rw [h] at h2
    obtain rfl := Option.some.inj h2
    have := nodup_at (show (metIn t).Nodup from tree_nodup t _) hi h5
    omega
theorem noTree_len {K : PySem.W.Frag} {H : Hp} {a : Addr} {xs : List V} (h : Sq K H a xs) (l : xs.length = 0 ∨ 400 < xs.length) : NoTreeX K H (.ref a) := .inr ⟨a, xs, rfl, h, l.elim .inl fun h => .inr (.inl h)⟩
theorem noTree_kind {K : PySem.W.Frag} {H : Hp} {x : V} {s : KS} (h : Kind K H x s) (h1 : s ≠ .lst) (h2 : s ≠ .tup) : NoTreeX K H x := .inl ⟨s, h, h1, h2⟩
theorem noTree_in {K : PySem.W.Frag} {H : Hp} {a : Addr} {xs : List V} (h : Sq K H a xs) (l1 : 1 ≤ xs.length) (l2 : xs.length ≤ 400) (hk : ∀ y ∈ xs, ∃ s, Kind K H y s) (hb : ∃ y ∈ xs, inB y 0 (xs.length : Nat) = false) : NoTreeX K H (.ref a) := .inr ⟨a, xs, rfl, h, .inr (.inr ⟨l1, l2, .inl ⟨hk, hb⟩⟩)⟩
theorem noTree_hang {K : PySem.W.Frag} {H : Hp} {a : Addr} {t : List Int} (h : Sq K H a (t.map V.int)) (l1 : 1 ≤ t.length) (l2 : t.length ≤ 400) (tr : ∀ v ∈ t, 0 ≤ v ∧ v ≤ (t.length : Int)) (ng : ¬ Hangs t) : NoTreeX K H (.ref a) := .inr ⟨a, _, rfl, h, .inr (.inr ⟨by rw [List.length_map]; exact l1, by rw [List.length_map]; exact l2, .inr ⟨t, rfl, tr, ng⟩⟩)⟩
theorem notFull_len {K : PySem.W.Frag} {H : Hp} {a : Addr} {xs : List V} (h : Sq K H a xs) (l : xs.length = 0 ∨ 400 < xs.length) : NotFull K H (.ref a) := .inr ⟨a, xs, rfl, h, l.elim .inl fun h => .inr (.inl h)⟩
theorem notFull_kind {K : PySem.W.Frag} {H : Hp} {x : V} {s : KS} (h : Kind K H x s) (h1 : s ≠ .lst) (h2 : s ≠ .tup) : NotFull K H x := .inl ⟨s, h, h1, h2⟩
theorem notFull_in {K : PySem.W.Frag} {H : Hp} {a : Addr} {xs : List V} (h : Sq K H a xs) (l1 : 1 ≤ xs.length) (l2 : xs.length ≤ 400) (hk : ∀ y ∈ xs, ∃ s, Kind K H y s) (hb : ∃ y ∈ xs, inB y 1 (xs.length : Nat) = false) : NotFull K H (.ref a) := .inr ⟨a, xs, rfl, h, .inr (.inr ⟨l1, l2, .inl ⟨hk, hb⟩⟩)⟩
theorem ints_kinds {K : PySem.W.Frag} {H : Hp} (ns : List Int) : ∀ y ∈ ns.map V.int, ∃ s, Kind K H y s := fun y hy => by
  obtain ⟨w, _, rfl⟩ := List.mem_map.mp hy
  exact ⟨_, .int w⟩
theorem notFull_ints {K : PySem.W.Frag} {H : Hp} {a : Addr} {ns : List Int} (h : Sq K H a (ns.map V.int)) (l1 : 1 ≤ ns.length) (l2 : ns.length ≤ 400) (hb : (∃ w ∈ ns, (ns.length : Int) < w) ∨ ((∀ w ∈ ns, 1 ≤ w ∧ w ≤ (ns.length : Int)) ∧ ¬ Good (ns.length : Nat) ns)) : NotFull K H (.ref a) := by
  rcases hb with ⟨w, hw, hl⟩ | ⟨hw, ng⟩
  · refine notFull_in h (by rw [List.length_map]; exact l1) (by rw [List.length_map]; exact l2) (ints_kinds ns) ⟨.int w, List.mem_map.mpr ⟨w, hw, rfl⟩, ?_⟩
    rw [List.length_map]
    simp [inB]
    omega
  · exact .inr ⟨a, _, rfl, h, .inr (.inr ⟨by rw [List.length_map]; exact l1, by rw [List.length_map]; exact l2, .inr ⟨ns, rfl, hw, ng⟩⟩)⟩
theorem set_parts (t : List Int) (i : Nat) (v : Int) (hi : i < t.length) : (t.take i ++ [v] ++ t.drop (i + 1)).length = t.length ∧ (t.take i ++ [v] ++ t.drop (i + 1))[i]? = some v ∧ ∀ x ∈ t.take i ++ [v] ++ t.drop (i + 1), x = v ∨ x ∈ t := by
  refine ⟨by simp; omega, ?_, fun x hx => ?_⟩
  · rw [List.append_assoc, List.getElem?_append_right (by rw [List.length_take]; omega), List.length_take, show i - min i t.length = 0 from by omega]
    rfl
  · rcases List.mem_append.mp hx with hx | hx
    · rcases List.mem_append.mp hx with hx | hx
      · exact .inr (List.mem_of_mem_take hx)
      · exact .inl (List.mem_singleton.mp hx)
    · exact .inr (List.mem_of_mem_drop hx)
/-- a tree with something else at one place -/
theorem odd_tree {K : PySem.W.Frag} {H : Hp} {a : Addr} {t : List Int} {i : Nat} {v : V} (h : Sq K H a ((t.take i).map V.int ++ [v] ++ (t.drop (i + 1)).map V.int)) (hi : i < t.length) (l2 : t.length ≤ 400) (tr : ∀ v ∈ t, 0 ≤ v ∧ v ≤ (t.length : Int))
    (hv : v = .int ((i : Int) + 1) ∨ ((∃ s, Kind K H v s) ∧ inB v 0 (t.length : Nat) = false)) : NoTreeX K H (.ref a) := by
  rcases hv with rfl | ⟨hk, hb⟩
  · obtain ⟨s1, s2, s3⟩ := set_parts t i ((i : Int) + 1) hi
    rw [show (t.take i).map V.int ++ [V.int ((i : Int) + 1)] ++ (t.drop (i + 1)).map V.int = (t.take i ++ [(i : Int) + 1] ++ t.drop (i + 1)).map V.int from by simp] at h
    refine noTree_hang h (by omega) (by omega) (fun v hv => ?_) (loop_no_hang s2)
    rw [s1]
    rcases s3 v hv with rfl | h
    · omega
    · exact tr v h
  · have len : ((t.take i).map V.int ++ [v] ++ (t.drop (i + 1)).map V.int).length = t.length := by simp; omega
    refine noTree_in h (by omega) (by omega) (fun y hy => ?_) ⟨v, by simp, by rw [len]; exact hb⟩
    simp only [List.mem_append, List.mem_singleton] at hy
    rcases hy with (hy | rfl) | hy
    · exact ints_kinds _ y hy
    · exact hk
    · exact ints_kinds _ y hy
theorem good_wide {ns : List Int} (l : ns.length ≤ 200) (hw : ∀ w ∈ ns, w ≤ 200) : Good 400 ns := fun b b1 b2 => by
  by_cases c : b ≤ 200
  · have : cntGe ns b ≤ ns.length := List.countP_le_length
    omega
  · have : cntGe ns b = 0 := by
      unfold cntGe
      rw [List.countP_eq_zero]
      intro w hw'
      have := hw w hw'
      simp
      omega
    omega
theorem law_ok {P : Program} {w : World} {K : PySem.W.Frag} {mg : Str → Option Value} {base : Heap}  {f : Addr} {fd : FuncData} (F : Fun K "law" "law" s_law f fd) (N : Nms K mg)
    (h__law_drawn : B.Has P w K mg base "_law_drawn" 3 ["_law_script", "_law_first"] (sp__law_drawn K)) (h_wishes_of : B.Has P w K mg base "wishes_of" 2 ["tree"] (sp_wishes_of K mg)) (h__law_cell_at : B.Has P w K mg base "_law_cell_at" 1 ["_law_script", "_law_k"] (sp__law_cell_at K)) (h__law_hangs : B.Has P w K mg base "_law_hangs" 1 ["_law_tree"] (sp__law_hangs K)) (h__law_word : B.Has P w K mg base "_law_word" 8 ["_law_act", "_law_thing"] (sp__law_word K mg)) (h_is_good : B.Has P w K mg base "is_good" 5 ["berths", "wishes"] (sp_is_good K mg)) (h_tree_of : B.Has P w K mg base "tree_of" 7 ["wishes"] (sp_tree_of K mg)) :
    FnOk P w K mg base (L2.CX P w) 9 f fd ["_law_script"] (sp_law K) := by
  refine B.fn_okN F sc_law (fun vs H Q E h => ?_)
    (fun cdv A outer s H vs Q E hr h => ⟨_, (pss_cons (ps_for PassesOwn.never rfl (pi_range1 rfl N.n_range (pa_cons (pe_op op_add pe_int (pe_callB (B.call_min2 rfl) (by rfl) N.n_min B.boot_min (pa_cons pe_int (pa_cons (pe_callB (r := B.rLen K) B.call_len (by rfl) N.n_len PySem.boot_len (pa_cons (pv 0) pa_nil)) pa_nil)))) pa_nil)) (pg_name (i := 1) sc_law.nd rfl (by first | exact Or.inl rfl | exact Or.inr rfl)) (pss_cons (ps_set (i := 2) sc_law.nd rfl (by first | exact Or.inl rfl | exact Or.inr rfl) (B.pe_has h__law_drawn hr B.passL (pa_cons (pv 0) (pa_cons (pv 1) pa_nil))))
    (pss_cons (ps_set (i := 3) sc_law.nd rfl (by first | exact Or.inl rfl | exact Or.inr rfl) (B.pe_has h_wishes_of hr B.passL (pa_cons (pv 2) pa_nil)))
    (pss_cons (ps_if (PW.pt (pw_or (pt_not (pt_val (pe_callB (r := rIsi K) call_isi (by rfl) N.n_isinstance B.boot_isinstance (pa_cons (pv 3) (pa_cons (pe_bltn (v := .ty "tuple") (by rfl) N.n_tuple B.boot_tuple rfl) pa_nil))))) (pw_or (pt_cmpR op_ne (pe_callB (r := B.rLen K) B.call_len (by rfl) N.n_len PySem.boot_len (pa_cons (pv 3) pa_nil)) (pe_callB (r := B.rLen K) B.call_len (by rfl) N.n_len PySem.boot_len (pa_cons (pv 2) pa_nil)) (nomark _)) (pw_or (pt_not (pt_val (B.pe_has h_is_good hr B.passL (pa_cons (pe_callB (r := B.rLen K) B.call_len (by rfl) N.n_len PySem.boot_len (pa_cons (pv 3) pa_nil)) (pa_cons (pv 3) pa_nil))))) (pw_or1 (pt_cmpR (r := rNeD K) (op_neD hr.units) (B.pe_has h_tree_of hr B.passL (pa_cons (pv 3) pa_nil)) (pv 2) (nomark _))))))) (pss_one (ps_ret pe_bl)) pss_nil)
    (pss_cons (ps_set (i := 4) sc_law.nd rfl (by first | exact Or.inl rfl | exact Or.inr rfl) (B.pe_has h__law_cell_at hr B.passL (pa_cons (pv 0) (pa_cons (pv 1) pa_nil))))
    (pss_cons (ps_set (i := 5) sc_law.nd rfl (by first | exact Or.inl rfl | exact Or.inr rfl) (pe_op op_mod (pv 4) (pe_callB (r := B.rLen K) B.call_len (by rfl) N.n_len PySem.boot_len (pa_cons (pv 2) pa_nil))))
    (pss_cons (ps_set (i := 6) sc_law.nd rfl (by first | exact Or.inl rfl | exact Or.inr rfl) (pe_op (r := rCatA K) op_catA (pe_op (r := rCatA K) op_catA (pe_slice (r := rSlA K) sl_tupA (pv 2) po_none (po_some (pv 5))) (pe_tup (pa_cons (pe_op op_mod (pe_op op_fdiv (pv 4) pe_int) (pe_op op_add (pe_callB (r := B.rLen K) B.call_len (by rfl) N.n_len PySem.boot_len (pa_cons (pv 2) pa_nil)) pe_int)) pa_nil))) (pe_slice (r := rSlA K) sl_tupA (pv 2) (po_some (pe_op op_add (pv 5) pe_int)) po_none)))
    (pss_cons (B.ps_stop (ps_if (PW.pt (pw_and (pt_not (pt_val (B.pe_has h__law_hangs hr B.passL (pa_cons (pv 6) pa_nil)))) (pw_and1 (pt_cmpR op_ne (B.pe_has h__law_word hr B.passL (pa_cons (B.pe_cls N.m_wishes_of) (pa_cons (pv 6) pa_nil))) pe_str (nomark _))))) (pss_one (ps_ret pe_bl)) pss_nil))
    (pss_cons (B.ps_stop (ps_if (PW.pt (pw_and (pt_val (B.pe_has h__law_hangs hr B.passL (pa_cons (pv 6) pa_nil))) (pw_and1 (pt_cmpR (r := rNeD K) (op_neD hr.units) (B.pe_has h_tree_of hr B.passL (pa_cons (B.pe_has h_wishes_of hr B.passL (pa_cons (pv 6) pa_nil)) pa_nil)) (pv 6) (nomark _))))) (pss_one (ps_ret pe_bl)) pss_nil))
    (pss_cons (ps_set (i := 7) sc_law.nd rfl (by first | exact Or.inl rfl | exact Or.inr rfl) (pe_ix (r := rIxL K) ix_list (pe_lst (pa_cons (pe_op op_add (pv 5) pe_int) (pa_cons (pe_un un_neg pe_int) (pa_cons (pe_op op_add (pe_callB (r := B.rLen K) B.call_len (by rfl) N.n_len PySem.boot_len (pa_cons (pv 2) pa_nil)) pe_int) (pa_cons pe_non (pa_cons pe_bl (pa_cons pe_str (pa_cons (pe_op op_add (pe_op op_add (pe_callB (r := B.rLen K) B.call_len (by rfl) N.n_len PySem.boot_len (pa_cons (pv 2) pa_nil)) pe_int) (pe_op op_mod (pv 4) (pe_op op_pow pe_int pe_int))) pa_nil)))))))) (pe_op op_mod (pe_op op_fdiv (pv 4) pe_int) pe_int) (fun _ _ => rfl)))
    (pss_cons (ps_if (pt_cmpR op_ne (B.pe_has h__law_word hr B.passL (pa_cons (B.pe_cls N.m_wishes_of) (pa_cons (pe_op (r := rCatA K) op_catA (pe_op (r := rCatA K) op_catA (pe_slice (r := rSlA K) sl_tupA (pv 2) po_none (po_some (pv 5))) (pe_tup (pa_cons (pv 7) pa_nil))) (pe_slice (r := rSlA K) sl_tupA (pv 2) (po_some (pe_op op_add (pv 5) pe_int)) po_none)) pa_nil))) pe_str (nomark _)) (pss_one (ps_ret pe_bl)) pss_nil)
    (pss_cons (ps_set (i := 8) sc_law.nd rfl (by first | exact Or.inl rfl | exact Or.inr rfl) (pe_ix (r := rIxL K) ix_list (pe_lst (pa_cons (pe_op (r := rCatA K) op_catA (pe_op (r := rCatA K) op_catA (pe_slice (r := rSlA K) sl_tupA (pv 3) po_none (po_some (pv 5))) (pe_op (r := B.rRepTX K) B.op_repTX (pe_tup (pa_cons (pe_callB (r := B.rLen K) B.call_len (by rfl) N.n_len PySem.boot_len (pa_cons (pv 3) pa_nil)) pa_nil)) (pe_op op_add pe_int (pe_callTy B.call_int1 (by rfl) N.n_int B.boot_int (pa_cons (pe_cmpR op_gt (pe_callB (r := B.rLen K) B.call_len (by rfl) N.n_len PySem.boot_len (pa_cons (pv 3) pa_nil)) pe_int (nomark _)) pa_nil))))) (pe_slice (r := rSlA K) sl_tupA (pv 3) (po_some (pe_op op_add (pv 5) pe_int)) po_none)) (pa_cons (pe_op (r := rCatA K) op_catA (pe_slice (r := rSlA K) sl_tupA (pv 3) po_none (po_some (pe_un un_neg pe_int))) (pe_tup (pa_cons (pe_op op_add (pe_callB (r := B.rLen K) B.call_len (by rfl) N.n_len PySem.boot_len (pa_cons (pv 3) pa_nil)) pe_int) pa_nil))) pa_nil))) (pe_op op_mod (pv 4) pe_int) (fun _ _ => rfl)))
    (pss_one (ps_if (PW.pt (pw_or (pt_not (pt_val (B.pe_has h_is_good hr B.passL (pa_cons pe_int (pa_cons (pv 8) pa_nil))))) (pw_or (pt_cmpR op_gt (pe_callB (r := B.rMaxT K) (B.call_maxT rfl hr.units) (by rfl) N.n_max B.boot_max (pa_cons (pv 8) pa_nil)) (pe_callB (r := B.rLen K) B.call_len (by rfl) N.n_len PySem.boot_len (pa_cons (pv 8) pa_nil)) (nomark _)) (pw_or1 (pt_not (pt_val (B.pe_has h_is_good hr B.passL (pa_cons (pe_callB (r := B.rLen K) B.call_len (by rfl) N.n_len PySem.boot_len (pa_cons (pv 8) pa_nil)) (pa_cons (pv 8) pa_nil))))))))) (pss_one (ps_if (pt_cmpR op_ne (B.pe_has h__law_word hr B.passL (pa_cons (B.pe_cls N.m_tree_of) (pa_cons (pv 8) pa_nil))) pe_str (nomark _)) (pss_one (ps_ret pe_bl)) pss_nil)) pss_nil))))))))))))))
    (pss_cons (ps_for PassesOwn.never rfl (pi_list (pe_lst (pa_cons (pe_tup pa_nil) (pa_cons (pe_lst pa_nil) (pa_cons pe_non (pa_cons pe_int (pa_cons pe_str (pa_cons pe_dnewK (pa_cons (pe_op (r := B.rRepTX K) B.op_repTX (pe_tup (pa_cons pe_int pa_nil)) pe_int) (pa_cons (pe_lst (pa_cons (pe_lst (pa_cons pe_int pa_nil)) pa_nil)) pa_nil)))))))))) (pg_name (i := 9) sc_law.nd rfl (by first | exact Or.inl rfl | exact Or.inr rfl)) (pss_one (ps_if (PW.pt (pw_or (pt_cmpR op_ne (B.pe_has h__law_word hr B.passL (pa_cons (B.pe_cls N.m_wishes_of) (pa_cons (pv 9) pa_nil))) pe_str (nomark _)) (pw_or1 (pt_cmpR op_ne (B.pe_has h__law_word hr B.passL (pa_cons (B.pe_cls N.m_tree_of) (pa_cons (pv 9) pa_nil))) pe_str (nomark _))))) (pss_one (ps_ret pe_bl)) pss_nil)))
    (pss_one (ps_ret pe_bl)))), ?_⟩)
  · obtain ⟨a, ns, rfl, _⟩ := h
    rfl
  · obtain ⟨a, ns, rfl, hs, hl, q⟩ := h
    walk_at "go"
    refine x_min2 ?_
    walk_at "go"
    rw [List.length_map]
    refine x_rng1 ⟨by split <;> omega, by split <;> omega⟩ ?_
    refine x_forR (fun k σ' H' => (∃ z1 z2 z3 z4 z5 z6 z7 z8, σ' = [some (.ref a), z1, z2, z3, z4, z5, z6, z7, z8, none]) ∧ Far H H') ⟨⟨_, _, _, _, _, _, _, _, rfl⟩, .of (.refl _)⟩ (fun k σ' H' hk p => ?_) (fun σ' H' p => ?_)
    · obtain ⟨⟨z1, z2, z3, z4, z5, z6, z7, z8, rfl⟩, far⟩ := p
      walk_at "go"
      rw [Int.zero_add]
      refine ⟨a, ns, k, rfl, Evl.ex_l far.e hs, hl, fun tp H2 t t1 t2 tr hg e2 htp => ?_⟩
      walk_at "go"
      refine ⟨.ref tp, rfl, .inr ⟨t, ⟨tp, rfl, .inr (Evl.st_of htp), t1, by omega, tr, hg⟩, fun rp H3 e3 hrp => ?_⟩⟩
      obtain ⟨rw1, rgd, rtt⟩ := row_ok tr hg
      have rl : (rowOf t).length = t.length := List.length_map _
      obtain ⟨row, hrow⟩ : ∃ row, row = rowOf t := ⟨_, rfl⟩
      rw [← hrow] at rw1 rgd rtt rl hrp
      have htp3 := e3 _ _ htp
      walk_at "go"
      refine x_isi_tuple (.tup (Evl.st_of hrp)) ?_
      rw [show KS.isA KS.tup "tuple" = true from rfl]
      walk_at "go"
      rw [List.length_map, List.length_map]
      refine x_decN (fun z => absurd (by rw [rl]) z) fun _ => ?_
      walk_at "go"
      rw [List.length_map]
      refine ⟨.int (row.length : Nat), .ref rp, rfl, .ok (by omega) (by omega) ⟨rp, rfl, .inr (Evl.st_of hrp), by omega, rw1⟩ fun g H4 hg4 e4 => ?_⟩
      obtain rfl : g = true := hg4.mpr rgd
      walk_at "go"
      refine ⟨.ref rp, rfl, .inr ⟨row, ⟨rp, rfl, .inr (Evl.st_of (e4 _ _ hrp)), by omega, by omega, rw1, rgd⟩, fun tq H5 e5 htq => ?_⟩⟩
      rw [rtt] at htq
      have htp5 := e5 _ _ (e4 _ _ htp3)
      have hrp5 := e5 _ _ (e4 _ _ hrp)
      have ex5 : Ex H H5 := far.e.trans (e2.trans (e3.trans (e4.trans e5)))
      walk_at "go"
      refine x_neT (Evl.st_of htq) (Evl.st_of htp5) (plain_ints _) (plain_ints _) ?_
      walk_at "go"
      refine x_decN (fun z => absurd rfl z) fun _ => ?_
      walk_at "go"
      refine ⟨a, ns, k, rfl, Evl.ex_l ex5 hs, hl, ?_⟩
      obtain ⟨cell, hcell⟩ : ∃ c, c = ns.getD k 0 := ⟨_, rfl⟩
      rw [← hcell]
      walk_at "go"
      rw [List.length_map]
      refine x_mod (by omega) fun i i0 i1 _ => ?_
      obtain ⟨i, rfl⟩ : ∃ i' : Nat, i = (i' : Nat) := ⟨i.toNat, by omega⟩
      have il : i < t.length := by omega
      walk_at "go"
      refine x_slT (hi := some (i : Int)) (Evl.st_of htp5) fun p6 H6 e6 h6 => ?_
      rw [cut_to, ← List.map_take] at h6
      walk_at "go"
      refine x_fdiv (by decide) ?_
      walk_at "go"
      rw [List.length_map]
      refine x_mod (by omega) fun nv nv0 nv1 _ => ?_
      walk_at "go"
      refine x_mkT (by simp) fun p7 H7 _ e7 h7 => ?_
      walk_at "go"
      have hs7 := Evl.ex_t e7 h6
      refine x_catT (ys := [nv].map V.int) hs7 (Evl.st_of h7) (by simp; omega) fun p8 H8 e8 h8 => ?_
      rw [← List.map_append] at h8
      walk_at "go"
      have ex58 : Ex H5 H8 := e6.trans (e7.trans e8)
      rw [show (i : Int) + 1 = ((i + 1 : Nat) : Int) from by omega]
      refine x_slT (lo := some ((i + 1 : Nat) : Int)) (Evl.st_of (ex58 _ _ htp5)) fun p9 H9 e9 h9 => ?_
      rw [cut_from, ← List.map_drop] at h9
      walk_at "go"
      refine x_catT (Evl.ex_t e9 h8) h9 (by simp; omega) fun bp H10 e10 hbp => ?_
      rw [← List.map_append] at hbp
      have ex510 : Ex H5 H10 := ex58.trans (e9.trans e10)
      obtain ⟨bl, bi, bm⟩ := set_parts t i nv il
      obtain ⟨B, hB⟩ : ∃ B, B = t.take i ++ [nv] ++ t.drop (i + 1) := ⟨_, rfl⟩
      rw [← hB] at hbp bl bi bm
      have br : ∀ v ∈ B, 0 ≤ v ∧ v ≤ (B.length : Int) := fun v hv => by
        rw [bl]
        rcases bm v hv with rfl | h
        · omega
        · exact tr v h
      have htp10 := ex510 _ _ htp5
      have hrp10 := ex510 _ _ hrp5
      have far10 : Far H H10 := .of (ex5.trans ex510)
      clear hB h6 h7 h8 h9 hs7 e6 e7 e8 e9 e10 ex58 ex510 e2 e3 e4 e5 hrp htp htp3 hrp5 htp5 htq
      walk_at "go"
      refine x_join (fun σ' H' => σ' = [some (.ref a), some (.int (k : Nat)), some (.ref tp), some (.ref rp), some (.int cell), some (.int (i : Nat)), some (.ref bp), z7, z8, none] ∧ Far H10 H') (fun σ' H11 p => ?_) (fun next => ?_)
      rotate_left
      · walk_at "go"
        refine ⟨bp, B, rfl, hbp, by omega, br, fun g hgB => ?_⟩
        walk_at "go"
        refine x_bN (fun e => ?_) (fun e => ?_)
        · have ng : ¬ Hangs B := fun z => by rw [hgB.mpr z] at e; cases e
          walk_at "go"
          refine ⟨_, .ref bp, "tree", rfl, .inr ⟨rfl, noTree_hang (.inr hbp) (by omega) (by omega) br ng, rfl⟩, fun H11 e11 => ?_⟩
          walk_at "go"
          refine x_decN (fun z => absurd rfl z) fun _ => ?_
          walk_at "go"
          exact next _ _ ⟨rfl, .of e11⟩
        · walk_at "go"
          exact next _ _ ⟨rfl, .of (.refl _)⟩
      obtain ⟨rfl, far11⟩ := p
      have hbp11 := Evl.ex_t far11.e hbp
      walk_at "go"
      refine x_join (fun σ' H' => σ' = [some (.ref a), some (.int (k : Nat)), some (.ref tp), some (.ref rp), some (.int cell), some (.int (i : Nat)), some (.ref bp), z7, z8, none] ∧ Far H11 H') (fun σ' H12 p => ?_) (fun next => ?_)
      rotate_left
      · walk_at "go"
        refine ⟨bp, B, rfl, hbp11, by omega, br, fun g hgB => ?_⟩
        walk_at "go"
        refine x_b (fun e => ?_) (fun e => ?_)
        · have hb := hgB.mp e
          obtain ⟨bw, bgd, btt⟩ := row_ok br hb
          have brl : (rowOf B).length = B.length := List.length_map _
          walk_at "go"
          refine ⟨.ref bp, rfl, .inr ⟨B, ⟨bp, rfl, .inr hbp11, by omega, by omega, br, hb⟩, fun qp H12 e12 hqp => ?_⟩⟩
          refine ⟨.ref qp, rfl, .inr ⟨rowOf B, ⟨qp, rfl, .inr (Evl.st_of hqp), by omega, by omega, bw, bgd⟩, fun qt H13 e13 hqt => ?_⟩⟩
          rw [btt] at hqt
          walk_at "go"
          refine x_neT (Evl.st_of hqt) (Evl.ex_t (e12.trans e13) hbp11) (plain_ints _) (plain_ints _) ?_
          walk_at "go"
          refine x_decN (fun z => absurd rfl z) fun _ => ?_
          exact next _ _ ⟨rfl, .of (e12.trans e13)⟩
        · refine x_false ?_
          exact next _ _ ⟨rfl, .of (.refl _)⟩
      obtain ⟨rfl, far12⟩ := p
      have ex12 : Ex H10 H12 := far11.e.trans far12.e
      have htp12 := ex12 _ _ htp10
      have hrp12 := ex12 _ _ hrp10
      have far12 : Far H H12 := .of (far10.e.trans ex12)
      clear hbp hbp11 far11 ex12 htp10 hrp10 far10
      walk_at "go"
      rw [List.length_map]
      refine x_rI ⟨by decide, by decide, by decide⟩ ?_
      walk_at "go"
      refine x_mod (by decide) fun big big0 big1 _ => ?_
      walk_at "go"
      refine x_mkL (by simp) fun l13 H13 _ e13 h13 => ?_
      walk_at "go"
      refine x_fdiv (by decide) ?_
      walk_at "go"
      refine x_mod (by decide) fun io io0 io1 _ => ?_
      obtain ⟨vo, evo, hvo⟩ := at_mem (xs := [.int ((i : Int) + 1), .int (-1), .int ((t.length : Nat) + 1), .non, .bl true, .str "0", .int (((t.length : Nat) : Int) + 1 + big)]) io0 (by simpa using io1)
      refine x_ixL (v := vo) (Evl.sq_of h13) evo ?_
      have hodd : vo = .int ((i : Int) + 1) ∨ ((∃ s, ∀ H', Kind K H' vo s) ∧ inB vo 0 (t.length : Nat) = false) := by
        simp only [List.mem_cons, List.not_mem_nil, or_false] at hvo
        rcases hvo with rfl | rfl | rfl | rfl | rfl | rfl | rfl
        · exact .inl rfl
        · exact .inr ⟨⟨_, fun _ => .int _⟩, by simp [inB]⟩
        · exact .inr ⟨⟨_, fun _ => .int _⟩, by simp [inB]; omega⟩
        · exact .inr ⟨⟨_, fun _ => .non⟩, rfl⟩
        · exact .inr ⟨⟨_, fun _ => .bl _⟩, rfl⟩
        · exact .inr ⟨⟨_, fun _ => .str _⟩, rfl⟩
        · exact .inr ⟨⟨_, fun _ => .int _⟩, by simp [inB]; omega⟩
      have htp13 := e13 _ _ htp12
      have hrp13 := e13 _ _ hrp12
      have far13 : Far H H13 := .of (far12.e.trans e13)
      clear htp12 hrp12 far12 e13 h13 evo hvo
      walk_at "go"
      refine x_slT (hi := some (i : Int)) (Evl.st_of htp13) fun p14 H14 e14 h14 => ?_
      rw [cut_to, ← List.map_take] at h14
      walk_at "go"
      refine x_mkT (by simp) fun p15 H15 _ e15 h15 => ?_
      walk_at "go"
      refine x_catT (Evl.ex_t e15 h14) (Evl.st_of h15) (by simp; omega) fun p16 H16 e16 h16 => ?_
      walk_at "go"
      have ex16 : Ex H13 H16 := e14.trans (e15.trans e16)
      rw [show (i : Int) + 1 = ((i + 1 : Nat) : Int) from by omega]
      refine x_slT (lo := some ((i + 1 : Nat) : Int)) (Evl.st_of (ex16 _ _ htp13)) fun p17 H17 e17 h17 => ?_
      rw [cut_from, ← List.map_drop] at h17
      walk_at "go"
      refine x_catT (Evl.ex_t e17 h16) h17 (by simp; omega) fun op H18 e18 h18 => ?_
      have ex18 : Ex H13 H18 := ex16.trans (e17.trans e18)
      walk_at "go"
      refine ⟨_, .ref op, "tree", rfl, .inr ⟨rfl, odd_tree (.inr h18) il (by omega) tr (hodd.elim .inl fun h => .inr ⟨by obtain ⟨s, hk⟩ := h.1; exact ⟨s, hk _⟩, h.2⟩), rfl⟩, fun H19 e19 => ?_⟩
      walk_at "go"
      refine x_decN (fun z => absurd rfl z) fun _ => ?_
      have ex19 : Ex H13 H19 := ex18.trans e19
      have hrp19 := ex19 _ _ hrp13
      have far19 : Far H H19 := .of (far13.e.trans ex19)
      clear h14 h15 h16 h17 h18 e14 e15 e16 e17 e18 e19 ex16 ex18 ex19 htp13 hrp13 far13
      walk_at "go"
      refine x_slT (hi := some (i : Int)) (Evl.st_of hrp19) fun p20 H20 e20 h20 => ?_
      rw [cut_to, ← List.map_take] at h20
      have hrp20 := e20 _ _ hrp19
      walk_at "go"
      rw [List.length_map]
      refine x_mkT (by simp) fun p21 H21 _ e21 h21 => ?_
      have hrp21 := e21 _ _ hrp20
      walk_at "go"
      rw [List.length_map]
      refine x_intB ?_
      walk_at "go"
      refine x_repT h21 (by split <;> omega) (by split <;> omega) fun p22 H22 e22 h22 => ?_
      walk_at "go"
      have rep : ∃ rs : List Int, (List.replicate (1 + if decide (((row.length : Nat) : Int) > 1) = true then 1 else 0 : Int).toNat (V.int (row.length : Nat))) = rs.map V.int ∧ 1 ≤ rs.length ∧ rs.length ≤ 2 ∧ ∀ w ∈ rs, w = (row.length : Int) := by
        refine ⟨List.replicate _ (row.length : Int), (List.map_replicate).symm, ?_, ?_, fun w hw => (List.mem_replicate.mp hw).2⟩
        · rw [List.length_replicate]; split <;> omega
        · rw [List.length_replicate]; split <;> omega
      obtain ⟨rs, ers, rs1, rs2, rsw⟩ := rep
      rw [ers] at h22
      refine x_catT (Evl.ex_t (e21.trans e22) h20) (Evl.st_of h22) (by simp; omega) fun p23 H23 e23 h23 => ?_
      rw [← List.map_append] at h23
      walk_at "go"
      rw [show (i : Int) + 2 = ((i + 2 : Nat) : Int) from by omega]
      have hrp23 := e23 _ _ (e22 _ _ hrp21)
      refine x_slT (lo := some ((i + 2 : Nat) : Int)) (Evl.st_of hrp23) fun p24 H24 e24 h24 => ?_
      rw [cut_from, ← List.map_drop] at h24
      walk_at "go"
      refine x_catT (Evl.ex_t e24 h23) h24 (by simp; omega) fun p25 H25 e25 h25 => ?_
      rw [← List.map_append] at h25
      walk_at "go"
      have hrp25 := e25 _ _ (e24 _ _ hrp23)
      refine x_slT (hi := some (-1)) (Evl.st_of hrp25) fun p26 H26 e26 h26 => ?_
      rw [cut_init, ← List.map_dropLast] at h26
      have hrp26 := e26 _ _ hrp25
      walk_at "go"
      rw [List.length_map]
      refine x_mkT (by simp) fun p27 H27 _ e27 h27 => ?_
      walk_at "go"
      refine x_catT (ys := [((row.length : Nat) : Int) + 1].map V.int) (Evl.ex_t e27 h26) (Evl.st_of h27) (by simp; omega) fun p28 H28 e28 h28 => ?_
      rw [← List.map_append] at h28
      walk_at "go"
      refine x_mkL (by simp) fun l29 H29 _ e29 h29 => ?_
      walk_at "go"
      refine x_mod (by decide) fun ib ib0 ib1 _ => ?_
      obtain ⟨vb, evb, hvb⟩ := at2 (x := .ref p25) (y := .ref p28) ib0 ib1
      refine x_ixL (v := vb) (Evl.sq_of h29) evb ?_
      have rr : ∀ w ∈ row, 1 ≤ w ∧ w ≤ 90 := fun w hw => by have := rw1 w hw; omega
      have hbad : ∃ (b : Addr) (BD : List Int), vb = .ref b ∧ SqT K H29 b (BD.map V.int) ∧ 1 ≤ BD.length ∧ BD.length ≤ 200 ∧ ∀ w ∈ BD, 1 ≤ w ∧ w ≤ 200 := by
        rcases hvb with rfl | rfl
        · refine ⟨p25, _, rfl, Evl.ex_t (e26.trans (e27.trans (e28.trans e29))) h25, by simp; omega, by simp; omega, fun w hw => ?_⟩
          simp only [List.mem_append] at hw
          rcases hw with (hw | hw) | hw
          · have := rr w (List.mem_of_mem_take hw); omega
          · have := rsw w hw; omega
          · have := rr w (List.mem_of_mem_drop hw); omega
        · refine ⟨p28, _, rfl, Evl.ex_t e29 h28, by simp, by simp; omega, fun w hw => ?_⟩
          rcases List.mem_append.mp hw with hw | hw
          · have := rr w ((List.dropLast_sublist row).subset hw); omega
          · have := List.mem_singleton.mp hw; omega
      have far29 : Far H H29 := .of (far19.e.trans (e20.trans (e21.trans (e22.trans (e23.trans (e24.trans (e25.trans (e26.trans (e27.trans (e28.trans e29))))))))))
      obtain ⟨b, BD, rfl, hb, bd1, bd2, bdw⟩ := hbad
      clear h20 h21 h22 h23 h24 h25 h26 h27 h28 h29 e20 e21 e22 e23 e24 e25 e26 e27 e28 e29 hrp19 hrp20 hrp21 hrp23 hrp25 hrp26 hvb evb ers
      walk_at "go"
      refine ⟨.int 400, .ref b, rfl, .ok (by decide) (by decide) ⟨b, rfl, .inr hb, by omega, fun w hw => by have := bdw w hw; omega⟩ fun g H30 hg30 e30 => ?_⟩
      obtain rfl : g = true := hg30.mpr (good_wide bd2 fun w hw => (bdw w hw).2)
      have hb30 := Evl.ex_t e30 hb
      walk_at "go"
      refine x_maxT hb30 (fun z => by rw [z] at bd1; simp at bd1) fun mx mx1 mx2 => ?_
      walk_at "go"
      rw [List.length_map]
      refine x_dec (fun c => ?_) (fun c => ?_)
      · walk_at "go"
        refine ⟨_, .ref b, "wishes", rfl, .inl ⟨rfl, notFull_ints (.inr hb30) bd1 (by omega) (.inl ⟨mx, mx1, by omega⟩), rfl⟩, fun H31 e31 => ?_⟩
        walk_at "go"
        refine x_decN (fun z => absurd rfl z) fun _ => ?_
        walk_at "go"
        exact ⟨⟨_, _, _, _, _, _, _, _, rfl⟩, .of (far29.e.trans (e30.trans e31))⟩
      · have bw : ∀ w ∈ BD, 1 ≤ w ∧ w ≤ (BD.length : Int) := fun w hw => by
          have := mx2 w hw
          have := bdw w hw
          omega
        walk_at "go"
        rw [List.length_map]
        refine ⟨.int (BD.length : Nat), .ref b, rfl, .ok (by omega) (by omega) ⟨b, rfl, .inr hb30, by omega, bw⟩ fun g H31 hg31 e31 => ?_⟩
        walk_at "go"
        refine x_bN (fun e => ?_) (fun e => ?_)
        · have ng : ¬ Good (BD.length : Nat) BD := fun z => by rw [hg31.mpr z] at e; cases e
          walk_at "go"
          refine ⟨_, .ref b, "wishes", rfl, .inl ⟨rfl, notFull_ints (.inr (Evl.ex_t e31 hb30)) bd1 (by omega) (.inr ⟨bw, ng⟩), rfl⟩, fun H32 e32 => ?_⟩
          walk_at "go"
          refine x_decN (fun z => absurd rfl z) fun _ => ?_
          walk_at "go"
          exact ⟨⟨_, _, _, _, _, _, _, _, rfl⟩, .of (far29.e.trans (e30.trans (e31.trans e32)))⟩
        · walk_at "go"
          exact ⟨⟨_, _, _, _, _, _, _, _, rfl⟩, .of (far29.e.trans (e30.trans e31))⟩
    · obtain ⟨⟨z1, z2, z3, z4, z5, z6, z7, z8, rfl⟩, far⟩ := p
      walk_at "go"
      refine x_mkT (by simp) fun p1 H1 _ e1 h1 => ?_
      walk_at "go"
      refine x_mkL (by simp) fun p2 H2 _ e2 h2 => ?_
      walk_at "go"
      refine x_dnew fun p3 H3 _ e3 h3 => ?_
      walk_at "go"
      refine x_mkT (by simp) fun p4 H4 _ e4 h4 => ?_
      walk_at "go"
      refine x_repT (n := 401) h4 (by decide) (by decide) fun p5 H5 e5 h5 => ?_
      walk_at "go"
      refine x_mkL (by simp) fun p6 H6 _ e6 h6 => ?_
      walk_at "go"
      refine x_mkL (by simp) fun p7 H7 _ e7 h7 => ?_
      walk_at "go"
      refine x_mkL (by simp) fun p8 H8 _ e8 h8 => ?_
      have f7 : Ex H7 H8 := e8
      have f6 : Ex H6 H8 := e7.trans f7
      have f5 : Ex H5 H8 := e6.trans f6
      have f4 : Ex H4 H8 := e5.trans f5
      have f3 : Ex H3 H8 := e4.trans f4
      have f2 : Ex H2 H8 := e3.trans f3
      have f1 : Ex H1 H8 := e2.trans f2
      have all : ∀ x ∈ [V.ref p1, .ref p2, .non, .int 5, .str "tree", .ref p3, .ref p5, .ref p7], ∀ H', Ex H8 H' → NoTreeX K H' x ∧ NotFull K H' x := fun x hx H' e => by
        have st : ∀ {H0 : Hp} {b : Addr} {xs : List V}, Ex H0 H8 → H0 b = some (.tup xs) → Sq K H' b xs := fun f h => .inr (Evl.st_of (e _ _ (f _ _ h)))
        have sl : ∀ {H0 : Hp} {b : Addr} {xs : List V}, Ex H0 H8 → H0 b = some (.lst xs) → Sq K H' b xs := fun f h => .inl (Evl.sq_of (e _ _ (f _ _ h)))
        simp only [List.mem_cons, List.not_mem_nil, or_false] at hx
        rcases hx with rfl | rfl | rfl | rfl | rfl | rfl | rfl | rfl
        · exact ⟨noTree_len (st f1 h1) (.inl rfl), notFull_len (st f1 h1) (.inl rfl)⟩
        · exact ⟨noTree_len (sl f2 h2) (.inl rfl), notFull_len (sl f2 h2) (.inl rfl)⟩
        · exact ⟨noTree_kind .non nofun nofun, notFull_kind .non nofun nofun⟩
        · exact ⟨noTree_kind (.int 5) nofun nofun, notFull_kind (.int 5) nofun nofun⟩
        · exact ⟨noTree_kind (.str _) nofun nofun, notFull_kind (.str _) nofun nofun⟩
        · exact ⟨noTree_kind (.dct (e _ _ (f3 _ _ h3))) nofun nofun, notFull_kind (.dct (e _ _ (f3 _ _ h3))) nofun nofun⟩
        · have h5' := st f5 h5
          have l5 : (List.replicate (401 : Int).toNat (V.int 0)).length = 401 := List.length_replicate
          exact ⟨noTree_len h5' (.inr (by omega)), notFull_len h5' (.inr (by omega))⟩
        · have h7' := sl f7 h7
          have kk : ∀ y ∈ [V.ref p6], ∃ s, Kind K H' y s := fun y hy => by
            rw [List.mem_singleton.mp hy]
            exact ⟨_, .lst (Evl.sq_of (e _ _ (f6 _ _ h6)))⟩
          exact ⟨noTree_in h7' (by simp) (by simp) kk ⟨.ref p6, by simp, rfl⟩, notFull_in h7' (by simp) (by simp) kk ⟨.ref p6, by simp, rfl⟩⟩
      clear f1 f2 f3 f4 f5 f6 f7 h1 h2 h3 h4 h5 h6 h7 e1 e2 e3 e4 e5 e6 e7 e8
      generalize [V.ref p1, .ref p2, .non, .int 5, .str "tree", .ref p3, .ref p5, .ref p7] = things at all h8
      refine x_forL things id (fun _ σ' H' => (∃ y, σ' = [some (.ref a), z1, z2, z3, z4, z5, z6, z7, z8, y]) ∧ Ex H8 H') ⟨⟨_, rfl⟩, .refl _⟩ (fun pre σ' H' _ p => by rw [List.map_id]; exact Evl.sq_of (p.2 _ _ h8)) (fun pre x post σ' H' ea p => ?_) (fun σ' H' p => ?_)
      · obtain ⟨⟨y, rfl⟩, ex⟩ := p
        have no := all x (by rw [ea]; simp)
        walk_at "go"
        refine ⟨_, x, "tree", rfl, .inr ⟨rfl, (no _ ex).1, rfl⟩, fun H15 e15 => ?_⟩
        walk_at "go"
        refine x_decN (fun z => absurd rfl z) fun _ => ?_
        walk_at "go"
        refine ⟨_, x, "wishes", rfl, .inl ⟨rfl, (no _ (ex.trans e15)).2, rfl⟩, fun H16 e16 => ?_⟩
        walk_at "go"
        refine x_decN (fun z => absurd rfl z) fun _ => ?_
        walk_at "go"
        exact ⟨⟨_, rfl⟩, ex.trans (e15.trans e16)⟩
      · obtain ⟨⟨y, rfl⟩, ex⟩ := p
        walk_at "go"
        exact q _

/-! ### what the top has written, the end -/
theorem all_mk {l : PySem.W.OpenLaw} {w : World} {K : PySem.W.Frag} {h : Heap} {mg : Str → Option Value} {fa : Addr} (X : K.In h) (G : h.Ns mainGlobals mg) (hfa : mg "law" = some (.ref fa))
    {f_is_number : Addr} {od_is_number an_is_number : Option Addr} {sl_is_number : Array (Option Value)} {oc_is_number kV_is_number dc_is_number pm_is_number cd_is_number ct_is_number : Value}
    {f_need_quay : Addr} {od_need_quay an_need_quay : Option Addr} {sl_need_quay : Array (Option Value)} {oc_need_quay kV_need_quay dc_need_quay pm_need_quay cd_need_quay ct_need_quay : Value}
    {f_need_wishes : Addr} {od_need_wishes an_need_wishes : Option Addr} {sl_need_wishes : Array (Option Value)} {oc_need_wishes kV_need_wishes dc_need_wishes pm_need_wishes cd_need_wishes ct_need_wishes : Value}
    {f_crowded : Addr} {od_crowded an_crowded : Option Addr} {sl_crowded : Array (Option Value)} {oc_crowded kV_crowded dc_crowded pm_crowded cd_crowded ct_crowded : Value}
    {f_is_good : Addr} {od_is_good an_is_good : Option Addr} {sl_is_good : Array (Option Value)} {oc_is_good kV_is_good dc_is_good pm_is_good cd_is_good ct_is_good : Value}
    {f_need_full : Addr} {od_need_full an_need_full : Option Addr} {sl_need_full : Array (Option Value)} {oc_need_full kV_need_full dc_need_full pm_need_full cd_need_full ct_need_full : Value}
    {f_tree_of : Addr} {od_tree_of an_tree_of : Option Addr} {sl_tree_of : Array (Option Value)} {oc_tree_of kV_tree_of dc_tree_of pm_tree_of cd_tree_of ct_tree_of : Value}
    {f_met_in : Addr} {od_met_in an_met_in : Option Addr} {sl_met_in : Array (Option Value)} {oc_met_in kV_met_in dc_met_in pm_met_in cd_met_in ct_met_in : Value}
    {f_wishes_of : Addr} {od_wishes_of an_wishes_of : Option Addr} {sl_wishes_of : Array (Option Value)} {oc_wishes_of kV_wishes_of dc_wishes_of pm_wishes_of cd_wishes_of ct_wishes_of : Value}
    {f__law_cell_at : Addr} {od__law_cell_at an__law_cell_at : Option Addr} {sl__law_cell_at : Array (Option Value)} {oc__law_cell_at kV__law_cell_at dc__law_cell_at pm__law_cell_at cd__law_cell_at ct__law_cell_at : Value}
    {f__law_mix : Addr} {od__law_mix an__law_mix : Option Addr} {sl__law_mix : Array (Option Value)} {oc__law_mix kV__law_mix dc__law_mix pm__law_mix cd__law_mix ct__law_mix : Value}
    {f__law_order : Addr} {od__law_order an__law_order : Option Addr} {sl__law_order : Array (Option Value)} {oc__law_order kV__law_order dc__law_order pm__law_order cd__law_order ct__law_order : Value}
    {f__law_drawn : Addr} {od__law_drawn an__law_drawn : Option Addr} {sl__law_drawn : Array (Option Value)} {oc__law_drawn kV__law_drawn dc__law_drawn pm__law_drawn cd__law_drawn ct__law_drawn : Value}
    {f__law_hangs : Addr} {od__law_hangs an__law_hangs : Option Addr} {sl__law_hangs : Array (Option Value)} {oc__law_hangs kV__law_hangs dc__law_hangs pm__law_hangs cd__law_hangs ct__law_hangs : Value}
    {f__law_word : Addr} {od__law_word an__law_word : Option Addr} {sl__law_word : Array (Option Value)} {oc__law_word kV__law_word dc__law_word pm__law_word cd__law_word ct__law_word : Value}
    {f_law : Addr} {od_law an_law : Option Addr} {sl_law : Array (Option Value)} {oc_law kV_law dc_law pm_law cd_law ct_law : Value}
    {t_MOST : Tok}
    {C_NoQuay : Addr}
    {C_NoWishes : Addr}
    {C_NoTree : Addr}
    {C_BerthError : Addr}
    {C_NoCount : Addr}
    {C_NoOrder : Addr}
    {C_TooMany : Addr}
    (a_is_number : PySem.W.nsIn K mainGlobals "is_number" = some (some (.ref f_is_number)))
    (l_is_number : K.lookup f_is_number = some ⟨oc_is_number, od_is_number, .func (PySem.W.fnOf "is_number" "is_number" (defArgs s_is_number) (defBody s_is_number) (defScope s_is_number) .none kV_is_number dc_is_number pm_is_number an_is_number cd_is_number ct_is_number), sl_is_number⟩)
    (c_is_number : PySem.W.codeIn K cd_is_number "is_number" = true)
    (k_is_number : PySem.W.keepIn K (.ref f_is_number) = true)
    (a_need_quay : PySem.W.nsIn K mainGlobals "need_quay" = some (some (.ref f_need_quay)))
    (l_need_quay : K.lookup f_need_quay = some ⟨oc_need_quay, od_need_quay, .func (PySem.W.fnOf "need_quay" "need_quay" (defArgs s_need_quay) (defBody s_need_quay) (defScope s_need_quay) .none kV_need_quay dc_need_quay pm_need_quay an_need_quay cd_need_quay ct_need_quay), sl_need_quay⟩)
    (c_need_quay : PySem.W.codeIn K cd_need_quay "need_quay" = true)
    (k_need_quay : PySem.W.keepIn K (.ref f_need_quay) = true)
    (a_need_wishes : PySem.W.nsIn K mainGlobals "need_wishes" = some (some (.ref f_need_wishes)))
    (l_need_wishes : K.lookup f_need_wishes = some ⟨oc_need_wishes, od_need_wishes, .func (PySem.W.fnOf "need_wishes" "need_wishes" (defArgs s_need_wishes) (defBody s_need_wishes) (defScope s_need_wishes) .none kV_need_wishes dc_need_wishes pm_need_wishes an_need_wishes cd_need_wishes ct_need_wishes), sl_need_wishes⟩)
    (c_need_wishes : PySem.W.codeIn K cd_need_wishes "need_wishes" = true)
    (k_need_wishes : PySem.W.keepIn K (.ref f_need_wishes) = true)
    (a_crowded : PySem.W.nsIn K mainGlobals "crowded" = some (some (.ref f_crowded)))
    (l_crowded : K.lookup f_crowded = some ⟨oc_crowded, od_crowded, .func (PySem.W.fnOf "crowded" "crowded" (defArgs s_crowded) (defBody s_crowded) (defScope s_crowded) .none kV_crowded dc_crowded pm_crowded an_crowded cd_crowded ct_crowded), sl_crowded⟩)
    (c_crowded : PySem.W.codeIn K cd_crowded "crowded" = true)
    (k_crowded : PySem.W.keepIn K (.ref f_crowded) = true)
    (a_is_good : PySem.W.nsIn K mainGlobals "is_good" = some (some (.ref f_is_good)))
    (l_is_good : K.lookup f_is_good = some ⟨oc_is_good, od_is_good, .func (PySem.W.fnOf "is_good" "is_good" (defArgs s_is_good) (defBody s_is_good) (defScope s_is_good) .none kV_is_good dc_is_good pm_is_good an_is_good cd_is_good ct_is_good), sl_is_good⟩)
    (c_is_good : PySem.W.codeIn K cd_is_good "is_good" = true)
    (k_is_good : PySem.W.keepIn K (.ref f_is_good) = true)
    (a_need_full : PySem.W.nsIn K mainGlobals "need_full" = some (some (.ref f_need_full)))
    (l_need_full : K.lookup f_need_full = some ⟨oc_need_full, od_need_full, .func (PySem.W.fnOf "need_full" "need_full" (defArgs s_need_full) (defBody s_need_full) (defScope s_need_full) .none kV_need_full dc_need_full pm_need_full an_need_full cd_need_full ct_need_full), sl_need_full⟩)
    (c_need_full : PySem.W.codeIn K cd_need_full "need_full" = true)
    (k_need_full : PySem.W.keepIn K (.ref f_need_full) = true)
    (a_tree_of : PySem.W.nsIn K mainGlobals "tree_of" = some (some (.ref f_tree_of)))
    (l_tree_of : K.lookup f_tree_of = some ⟨oc_tree_of, od_tree_of, .func (PySem.W.fnOf "tree_of" "tree_of" (defArgs s_tree_of) (defBody s_tree_of) (defScope s_tree_of) .none kV_tree_of dc_tree_of pm_tree_of an_tree_of cd_tree_of ct_tree_of), sl_tree_of⟩)
    (c_tree_of : PySem.W.codeIn K cd_tree_of "tree_of" = true)
    (k_tree_of : PySem.W.keepIn K (.ref f_tree_of) = true)
    (a_met_in : PySem.W.nsIn K mainGlobals "met_in" = some (some (.ref f_met_in)))
    (l_met_in : K.lookup f_met_in = some ⟨oc_met_in, od_met_in, .func (PySem.W.fnOf "met_in" "met_in" (defArgs s_met_in) (defBody s_met_in) (defScope s_met_in) .none kV_met_in dc_met_in pm_met_in an_met_in cd_met_in ct_met_in), sl_met_in⟩)
    (c_met_in : PySem.W.codeIn K cd_met_in "met_in" = true)
    (k_met_in : PySem.W.keepIn K (.ref f_met_in) = true)
    (a_wishes_of : PySem.W.nsIn K mainGlobals "wishes_of" = some (some (.ref f_wishes_of)))
    (l_wishes_of : K.lookup f_wishes_of = some ⟨oc_wishes_of, od_wishes_of, .func (PySem.W.fnOf "wishes_of" "wishes_of" (defArgs s_wishes_of) (defBody s_wishes_of) (defScope s_wishes_of) .none kV_wishes_of dc_wishes_of pm_wishes_of an_wishes_of cd_wishes_of ct_wishes_of), sl_wishes_of⟩)
    (c_wishes_of : PySem.W.codeIn K cd_wishes_of "wishes_of" = true)
    (k_wishes_of : PySem.W.keepIn K (.ref f_wishes_of) = true)
    (a__law_cell_at : PySem.W.nsIn K mainGlobals "_law_cell_at" = some (some (.ref f__law_cell_at)))
    (l__law_cell_at : K.lookup f__law_cell_at = some ⟨oc__law_cell_at, od__law_cell_at, .func (PySem.W.fnOf "_law_cell_at" "_law_cell_at" (defArgs s__law_cell_at) (defBody s__law_cell_at) (defScope s__law_cell_at) .none kV__law_cell_at dc__law_cell_at pm__law_cell_at an__law_cell_at cd__law_cell_at ct__law_cell_at), sl__law_cell_at⟩)
    (c__law_cell_at : PySem.W.codeIn K cd__law_cell_at "_law_cell_at" = true)
    (k__law_cell_at : PySem.W.keepIn K (.ref f__law_cell_at) = true)
    (a__law_mix : PySem.W.nsIn K mainGlobals "_law_mix" = some (some (.ref f__law_mix)))
    (l__law_mix : K.lookup f__law_mix = some ⟨oc__law_mix, od__law_mix, .func (PySem.W.fnOf "_law_mix" "_law_mix" (defArgs s__law_mix) (defBody s__law_mix) (defScope s__law_mix) .none kV__law_mix dc__law_mix pm__law_mix an__law_mix cd__law_mix ct__law_mix), sl__law_mix⟩)
    (c__law_mix : PySem.W.codeIn K cd__law_mix "_law_mix" = true)
    (k__law_mix : PySem.W.keepIn K (.ref f__law_mix) = true)
    (a__law_order : PySem.W.nsIn K mainGlobals "_law_order" = some (some (.ref f__law_order)))
    (l__law_order : K.lookup f__law_order = some ⟨oc__law_order, od__law_order, .func (PySem.W.fnOf "_law_order" "_law_order" (defArgs s__law_order) (defBody s__law_order) (defScope s__law_order) .none kV__law_order dc__law_order pm__law_order an__law_order cd__law_order ct__law_order), sl__law_order⟩)
    (c__law_order : PySem.W.codeIn K cd__law_order "_law_order" = true)
    (k__law_order : PySem.W.keepIn K (.ref f__law_order) = true)
    (a__law_drawn : PySem.W.nsIn K mainGlobals "_law_drawn" = some (some (.ref f__law_drawn)))
    (l__law_drawn : K.lookup f__law_drawn = some ⟨oc__law_drawn, od__law_drawn, .func (PySem.W.fnOf "_law_drawn" "_law_drawn" (defArgs s__law_drawn) (defBody s__law_drawn) (defScope s__law_drawn) .none kV__law_drawn dc__law_drawn pm__law_drawn an__law_drawn cd__law_drawn ct__law_drawn), sl__law_drawn⟩)
    (c__law_drawn : PySem.W.codeIn K cd__law_drawn "_law_drawn" = true)
    (k__law_drawn : PySem.W.keepIn K (.ref f__law_drawn) = true)
    (a__law_hangs : PySem.W.nsIn K mainGlobals "_law_hangs" = some (some (.ref f__law_hangs)))
    (l__law_hangs : K.lookup f__law_hangs = some ⟨oc__law_hangs, od__law_hangs, .func (PySem.W.fnOf "_law_hangs" "_law_hangs" (defArgs s__law_hangs) (defBody s__law_hangs) (defScope s__law_hangs) .none kV__law_hangs dc__law_hangs pm__law_hangs an__law_hangs cd__law_hangs ct__law_hangs), sl__law_hangs⟩)
    (c__law_hangs : PySem.W.codeIn K cd__law_hangs "_law_hangs" = true)
    (k__law_hangs : PySem.W.keepIn K (.ref f__law_hangs) = true)
    (a__law_word : PySem.W.nsIn K mainGlobals "_law_word" = some (some (.ref f__law_word)))
    (l__law_word : K.lookup f__law_word = some ⟨oc__law_word, od__law_word, .func (PySem.W.fnOf "_law_word" "_law_word" (defArgs s__law_word) (defBody s__law_word) (defScope s__law_word) .none kV__law_word dc__law_word pm__law_word an__law_word cd__law_word ct__law_word), sl__law_word⟩)
    (c__law_word : PySem.W.codeIn K cd__law_word "_law_word" = true)
    (k__law_word : PySem.W.keepIn K (.ref f__law_word) = true)
    (a_law : PySem.W.nsIn K mainGlobals "law" = some (some (.ref f_law)))
    (l_law : K.lookup f_law = some ⟨oc_law, od_law, .func (PySem.W.fnOf "law" "law" (defArgs s_law) (defBody s_law) (defScope s_law) .none kV_law dc_law pm_law an_law cd_law ct_law), sl_law⟩)
    (c_law : PySem.W.codeIn K cd_law "law" = true)
    (k_law : PySem.W.keepIn K (.ref f_law) = true)
    (z_len : PySem.W.nsIn K mainGlobals "len" = some none)
    (z_isinstance : PySem.W.nsIn K mainGlobals "isinstance" = some none)
    (z_min : PySem.W.nsIn K mainGlobals "min" = some none)
    (z_max : PySem.W.nsIn K mainGlobals "max" = some none)
    (z_range : PySem.W.nsIn K mainGlobals "range" = some none)
    (z_enumerate : PySem.W.nsIn K mainGlobals "enumerate" = some none)
    (z_zip : PySem.W.nsIn K mainGlobals "zip" = some none)
    (z_all : PySem.W.nsIn K mainGlobals "all" = some none)
    (z_int : PySem.W.nsIn K mainGlobals "int" = some none)
    (z_bool : PySem.W.nsIn K mainGlobals "bool" = some none)
    (z_list : PySem.W.nsIn K mainGlobals "list" = some none)
    (z_tuple : PySem.W.nsIn K mainGlobals "tuple" = some none)
    (z_dict : PySem.W.nsIn K mainGlobals "dict" = some none)
    (z_ValueError : PySem.W.nsIn K mainGlobals "ValueError" = some none)
    (q_MOST : PySem.W.nsIn K mainGlobals "MOST" = some (some (.int 400 t_MOST)))
    (e_NoQuay : PySem.W.nsIn K mainGlobals "NoQuay" = some (some (.ref C_NoQuay)))
    (x_NoQuay : PySem.W.excIn K C_NoQuay [.type "ValueError", .type "Exception", .type "BaseException", .type "object"] "ValueError.__new__" = true)
    (w_NoQuay : PySem.W.keepIn K (.ref C_NoQuay) = true)
    (b_NoQuay : PySem.W.subIn K (.ref C_NoQuay) (.type "BaseException") = some true)
    (y_NoQuay : PySem.W.typeIn K (.ref C_NoQuay) = some (.type "type"))
    (e_NoWishes : PySem.W.nsIn K mainGlobals "NoWishes" = some (some (.ref C_NoWishes)))
    (x_NoWishes : PySem.W.excIn K C_NoWishes [.type "ValueError", .type "Exception", .type "BaseException", .type "object"] "ValueError.__new__" = true)
    (w_NoWishes : PySem.W.keepIn K (.ref C_NoWishes) = true)
    (b_NoWishes : PySem.W.subIn K (.ref C_NoWishes) (.type "BaseException") = some true)
    (y_NoWishes : PySem.W.typeIn K (.ref C_NoWishes) = some (.type "type"))
    (e_NoTree : PySem.W.nsIn K mainGlobals "NoTree" = some (some (.ref C_NoTree)))
    (x_NoTree : PySem.W.excIn K C_NoTree [.type "ValueError", .type "Exception", .type "BaseException", .type "object"] "ValueError.__new__" = true)
    (w_NoTree : PySem.W.keepIn K (.ref C_NoTree) = true)
    (b_NoTree : PySem.W.subIn K (.ref C_NoTree) (.type "BaseException") = some true)
    (y_NoTree : PySem.W.typeIn K (.ref C_NoTree) = some (.type "type"))
    (e_BerthError : PySem.W.nsIn K mainGlobals "BerthError" = some (some (.ref C_BerthError)))
    (e_NoCount : PySem.W.nsIn K mainGlobals "NoCount" = some (some (.ref C_NoCount)))
    (e_NoOrder : PySem.W.nsIn K mainGlobals "NoOrder" = some (some (.ref C_NoOrder)))
    (e_TooMany : PySem.W.nsIn K mainGlobals "TooMany" = some (some (.ref C_TooMany)))
    (sb_BerthError : PySem.W.subIn K (.ref C_BerthError) (.type "BaseException") = some true)
    (hd_BerthError : PySem.W.hasDictIn K C_BerthError = true)
    (ty_BerthError : PySem.W.typeIn K (.ref C_BerthError) = some (.type "type"))
    (xn : PySem.W.specialIn K (.builtin "object.__class__") "__get__" = some (some (.builtin "getset_descriptor.__get__")))
    (xt : PySem.W.takesIn K (.builtin "object.__class__") = some true)
    (kg_NoTree : PySem.W.findIn K (.ref C_NoTree) "__getattribute__" = some (some (.builtin "BaseException.__getattribute__")))
    (kk_NoTree : PySem.W.findIn K (.ref C_NoTree) "__getattr__" = some none)
    (kd_NoTree : PySem.W.hasDictIn K C_NoTree = true)
    (ka_NoTree : PySem.W.findIn K (.ref C_NoTree) "__class__" = some (some (.builtin "object.__class__")))
    (km_NoTree : PySem.W.mroIn K C_NoTree (.type "object") = some true)
    (ks_NoTree : PySem.W.subIn K (.ref C_NoTree) (.ref C_BerthError) = some true)
    (kg_NoWishes : PySem.W.findIn K (.ref C_NoWishes) "__getattribute__" = some (some (.builtin "BaseException.__getattribute__")))
    (kk_NoWishes : PySem.W.findIn K (.ref C_NoWishes) "__getattr__" = some none)
    (kd_NoWishes : PySem.W.hasDictIn K C_NoWishes = true)
    (ka_NoWishes : PySem.W.findIn K (.ref C_NoWishes) "__class__" = some (some (.builtin "object.__class__")))
    (km_NoWishes : PySem.W.mroIn K C_NoWishes (.type "object") = some true)
    (ks_NoWishes : PySem.W.subIn K (.ref C_NoWishes) (.ref C_BerthError) = some true)
    (qi_NoTree_NoCount : PySem.W.kitOne K (.ref C_NoTree) (.ref C_NoCount) = some false)
    (qi_NoTree_NoOrder : PySem.W.kitOne K (.ref C_NoTree) (.ref C_NoOrder) = some false)
    (qi_NoTree_NoQuay : PySem.W.kitOne K (.ref C_NoTree) (.ref C_NoQuay) = some false)
    (qi_NoTree_TooMany : PySem.W.kitOne K (.ref C_NoTree) (.ref C_TooMany) = some false)
    (qi_NoTree_NoWishes : PySem.W.kitOne K (.ref C_NoTree) (.ref C_NoWishes) = some false)
    (qi_NoWishes_NoCount : PySem.W.kitOne K (.ref C_NoWishes) (.ref C_NoCount) = some false)
    (qi_NoWishes_NoOrder : PySem.W.kitOne K (.ref C_NoWishes) (.ref C_NoOrder) = some false)
    (qi_NoWishes_NoQuay : PySem.W.kitOne K (.ref C_NoWishes) (.ref C_NoQuay) = some false)
    (qi_NoWishes_TooMany : PySem.W.kitOne K (.ref C_NoWishes) (.ref C_TooMany) = some false)
    (qi_NoWishes_NoTree : PySem.W.kitOne K (.ref C_NoWishes) (.ref C_NoTree) = some false)
    (qi_none_NoCount : PySem.W.kitOne K (.type "NoneType") (.ref C_NoCount) = some false)
    (qi_none_NoOrder : PySem.W.kitOne K (.type "NoneType") (.ref C_NoOrder) = some false)
    (qi_none_NoQuay : PySem.W.kitOne K (.type "NoneType") (.ref C_NoQuay) = some false)
    (qi_none_TooMany : PySem.W.kitOne K (.type "NoneType") (.ref C_TooMany) = some false)
    (qi_none_NoTree : PySem.W.kitOne K (.type "NoneType") (.ref C_NoTree) = some false)
    (qi_none_NoWishes : PySem.W.kitOne K (.type "NoneType") (.ref C_NoWishes) = some false) :
    ∃ fd : FuncData, (∀ (s : Shared) (v : Value), BindsTo s fd ⟨[v], []⟩ [("_law_script", v)]) ∧ ∀ base : Heap, K.In base → base.Ns mainGlobals mg → FnOk l.prog w K mg base (L2.CX l.prog w) 9 fa fd ["_law_script"] (sp_law K) := by
  have e := hfa.symm.trans (PySem.W.mg_of X G a_law)
  cases e
  have N : Nms K mg := { n_len := PySem.W.mg_none_of X G z_len, n_isinstance := PySem.W.mg_none_of X G z_isinstance, n_min := PySem.W.mg_none_of X G z_min, n_max := PySem.W.mg_none_of X G z_max, n_range := PySem.W.mg_none_of X G z_range, n_enumerate := PySem.W.mg_none_of X G z_enumerate, n_zip := PySem.W.mg_none_of X G z_zip, n_all := PySem.W.mg_none_of X G z_all, n_int := PySem.W.mg_none_of X G z_int, n_bool := PySem.W.mg_none_of X G z_bool, n_list := PySem.W.mg_none_of X G z_list, n_tuple := PySem.W.mg_none_of X G z_tuple, n_dict := PySem.W.mg_none_of X G z_dict, n_ValueError := PySem.W.mg_none_of X G z_ValueError, c_MOST := ⟨_, PySem.W.mg_of X G q_MOST, ⟨_, rfl⟩⟩, x_NoQuay := ⟨_, PySem.W.mg_of X G e_NoQuay, x_NoQuay, w_NoQuay, b_NoQuay, y_NoQuay⟩, x_NoWishes := ⟨_, PySem.W.mg_of X G e_NoWishes, x_NoWishes, w_NoWishes, b_NoWishes, y_NoWishes⟩, x_NoTree := ⟨_, PySem.W.mg_of X G e_NoTree, x_NoTree, w_NoTree, b_NoTree, y_NoTree⟩, m_tree_of := B.m_of (PySem.W.mg_of X G a_tree_of), m_wishes_of := B.m_of (PySem.W.mg_of X G a_wishes_of), m_BerthError := B.m_of (PySem.W.mg_of X G e_BerthError), m_NoCount := B.m_of (PySem.W.mg_of X G e_NoCount), m_NoOrder := B.m_of (PySem.W.mg_of X G e_NoOrder), m_NoQuay := B.m_of (PySem.W.mg_of X G e_NoQuay), m_TooMany := B.m_of (PySem.W.mg_of X G e_TooMany), m_NoTree := B.m_of (PySem.W.mg_of X G e_NoTree), m_NoWishes := B.m_of (PySem.W.mg_of X G e_NoWishes), k_NoTree := by rw [B.at_of (PySem.W.mg_of X G e_NoTree)]; exact ⟨kg_NoTree, kk_NoTree, b_NoTree, kd_NoTree, ka_NoTree, xn, xt, km_NoTree⟩, e_NoTree := by rw [B.at_of (PySem.W.mg_of X G e_NoTree), B.at_of (PySem.W.mg_of X G e_BerthError)]; exact PySem.W.exm_ref sb_BerthError hd_BerthError ty_BerthError ks_NoTree, k_NoWishes := by rw [B.at_of (PySem.W.mg_of X G e_NoWishes)]; exact ⟨kg_NoWishes, kk_NoWishes, b_NoWishes, kd_NoWishes, ka_NoWishes, xn, xt, km_NoWishes⟩, e_NoWishes := by rw [B.at_of (PySem.W.mg_of X G e_NoWishes), B.at_of (PySem.W.mg_of X G e_BerthError)]; exact PySem.W.exm_ref sb_BerthError hd_BerthError ty_BerthError ks_NoWishes, i_NoTree_NoCount := by rw [B.at_of (PySem.W.mg_of X G e_NoTree), B.at_of (PySem.W.mg_of X G e_NoCount)]; exact qi_NoTree_NoCount, i_NoTree_NoOrder := by rw [B.at_of (PySem.W.mg_of X G e_NoTree), B.at_of (PySem.W.mg_of X G e_NoOrder)]; exact qi_NoTree_NoOrder, i_NoTree_NoQuay := by rw [B.at_of (PySem.W.mg_of X G e_NoTree), B.at_of (PySem.W.mg_of X G e_NoQuay)]; exact qi_NoTree_NoQuay, i_NoTree_TooMany := by rw [B.at_of (PySem.W.mg_of X G e_NoTree), B.at_of (PySem.W.mg_of X G e_TooMany)]; exact qi_NoTree_TooMany, i_NoTree_NoTree := by unfold PySem.W.kitOne; simp, i_NoTree_NoWishes := by rw [B.at_of (PySem.W.mg_of X G e_NoTree), B.at_of (PySem.W.mg_of X G e_NoWishes)]; exact qi_NoTree_NoWishes, i_NoWishes_NoCount := by rw [B.at_of (PySem.W.mg_of X G e_NoWishes), B.at_of (PySem.W.mg_of X G e_NoCount)]; exact qi_NoWishes_NoCount, i_NoWishes_NoOrder := by rw [B.at_of (PySem.W.mg_of X G e_NoWishes), B.at_of (PySem.W.mg_of X G e_NoOrder)]; exact qi_NoWishes_NoOrder, i_NoWishes_NoQuay := by rw [B.at_of (PySem.W.mg_of X G e_NoWishes), B.at_of (PySem.W.mg_of X G e_NoQuay)]; exact qi_NoWishes_NoQuay, i_NoWishes_TooMany := by rw [B.at_of (PySem.W.mg_of X G e_NoWishes), B.at_of (PySem.W.mg_of X G e_TooMany)]; exact qi_NoWishes_TooMany, i_NoWishes_NoTree := by rw [B.at_of (PySem.W.mg_of X G e_NoWishes), B.at_of (PySem.W.mg_of X G e_NoTree)]; exact qi_NoWishes_NoTree, i_NoWishes_NoWishes := by unfold PySem.W.kitOne; simp, i_none_NoCount := by rw [B.at_of (PySem.W.mg_of X G e_NoCount)]; exact qi_none_NoCount, i_none_NoOrder := by rw [B.at_of (PySem.W.mg_of X G e_NoOrder)]; exact qi_none_NoOrder, i_none_NoQuay := by rw [B.at_of (PySem.W.mg_of X G e_NoQuay)]; exact qi_none_NoQuay, i_none_TooMany := by rw [B.at_of (PySem.W.mg_of X G e_TooMany)]; exact qi_none_TooMany, i_none_NoTree := by rw [B.at_of (PySem.W.mg_of X G e_NoTree)]; exact qi_none_NoTree, i_none_NoWishes := by rw [B.at_of (PySem.W.mg_of X G e_NoWishes)]; exact qi_none_NoWishes }
  refine ⟨PySem.W.fnOf "law" "law" (defArgs s_law) (defBody s_law) (defScope s_law) .none kV_law dc_law pm_law an_law cd_law ct_law, fun s v => .of_eq rfl, fun base hb hg => ?_⟩
  have S_is_number : B.Stands K mg "is_number" s_is_number := ⟨_, _, fun_mk (st := s_is_number) l_is_number c_is_number k_is_number, PySem.W.mg_of X G a_is_number⟩
  have H_is_number := has_is_number (P := l.prog) (w := w) (base := base) S_is_number N 
  have S_met_in : B.Stands K mg "met_in" s_met_in := ⟨_, _, fun_mk (st := s_met_in) l_met_in c_met_in k_met_in, PySem.W.mg_of X G a_met_in⟩
  have H_met_in := has_met_in (P := l.prog) (w := w) (base := base) S_met_in N 
  have S__law_cell_at : B.Stands K mg "_law_cell_at" s__law_cell_at := ⟨_, _, fun_mk (st := s__law_cell_at) l__law_cell_at c__law_cell_at k__law_cell_at, PySem.W.mg_of X G a__law_cell_at⟩
  have H__law_cell_at := has__law_cell_at (P := l.prog) (w := w) (base := base) S__law_cell_at N 
  have S__law_mix : B.Stands K mg "_law_mix" s__law_mix := ⟨_, _, fun_mk (st := s__law_mix) l__law_mix c__law_mix k__law_mix, PySem.W.mg_of X G a__law_mix⟩
  have H__law_mix := has__law_mix (P := l.prog) (w := w) (base := base) S__law_mix N 
  have S__law_hangs : B.Stands K mg "_law_hangs" s__law_hangs := ⟨_, _, fun_mk (st := s__law_hangs) l__law_hangs c__law_hangs k__law_hangs, PySem.W.mg_of X G a__law_hangs⟩
  have H__law_hangs := has__law_hangs (P := l.prog) (w := w) (base := base) S__law_hangs N 
  have S_need_quay : B.Stands K mg "need_quay" s_need_quay := ⟨_, _, fun_mk (st := s_need_quay) l_need_quay c_need_quay k_need_quay, PySem.W.mg_of X G a_need_quay⟩
  have H_need_quay := has_need_quay (P := l.prog) (w := w) (base := base) S_need_quay N H_is_number
  have S_wishes_of : B.Stands K mg "wishes_of" s_wishes_of := ⟨_, _, fun_mk (st := s_wishes_of) l_wishes_of c_wishes_of k_wishes_of, PySem.W.mg_of X G a_wishes_of⟩
  have H_wishes_of := has_wishes_of (P := l.prog) (w := w) (base := base) S_wishes_of N H_met_in H_is_number
  have S__law_order : B.Stands K mg "_law_order" s__law_order := ⟨_, _, fun_mk (st := s__law_order) l__law_order c__law_order k__law_order, PySem.W.mg_of X G a__law_order⟩
  have H__law_order := has__law_order (P := l.prog) (w := w) (base := base) S__law_order N H__law_cell_at H__law_mix
  have S_need_wishes : B.Stands K mg "need_wishes" s_need_wishes := ⟨_, _, fun_mk (st := s_need_wishes) l_need_wishes c_need_wishes k_need_wishes, PySem.W.mg_of X G a_need_wishes⟩
  have H_need_wishes := has_need_wishes (P := l.prog) (w := w) (base := base) S_need_wishes N H_need_quay H_is_number
  have S__law_drawn : B.Stands K mg "_law_drawn" s__law_drawn := ⟨_, _, fun_mk (st := s__law_drawn) l__law_drawn c__law_drawn k__law_drawn, PySem.W.mg_of X G a__law_drawn⟩
  have H__law_drawn := has__law_drawn (P := l.prog) (w := w) (base := base) S__law_drawn N H__law_cell_at H__law_order H__law_mix
  have S_crowded : B.Stands K mg "crowded" s_crowded := ⟨_, _, fun_mk (st := s_crowded) l_crowded c_crowded k_crowded, PySem.W.mg_of X G a_crowded⟩
  have H_crowded := has_crowded (P := l.prog) (w := w) (base := base) S_crowded N H_need_wishes
  have S_is_good : B.Stands K mg "is_good" s_is_good := ⟨_, _, fun_mk (st := s_is_good) l_is_good c_is_good k_is_good, PySem.W.mg_of X G a_is_good⟩
  have H_is_good := has_is_good (P := l.prog) (w := w) (base := base) S_is_good N H_crowded
  have S_need_full : B.Stands K mg "need_full" s_need_full := ⟨_, _, fun_mk (st := s_need_full) l_need_full c_need_full k_need_full, PySem.W.mg_of X G a_need_full⟩
  have H_need_full := has_need_full (P := l.prog) (w := w) (base := base) S_need_full N H_is_good
  have S_tree_of : B.Stands K mg "tree_of" s_tree_of := ⟨_, _, fun_mk (st := s_tree_of) l_tree_of c_tree_of k_tree_of, PySem.W.mg_of X G a_tree_of⟩
  have H_tree_of := has_tree_of (P := l.prog) (w := w) (base := base) S_tree_of N H_need_full
  have S__law_word : B.Stands K mg "_law_word" s__law_word := ⟨_, _, fun_mk (st := s__law_word) l__law_word c__law_word k__law_word, PySem.W.mg_of X G a__law_word⟩
  have H__law_word := has__law_word (P := l.prog) (w := w) (base := base) S__law_word N H_tree_of H_wishes_of
  exact law_ok (fun_mk (st := s_law) l_law c_law k_law) N H__law_drawn H_wishes_of H__law_cell_at H__law_hangs H__law_word H_is_good H_tree_of
theorem walk {l : PySem.W.OpenLaw} {q : Program} {loose : List Str} {XP : (Str → Option Value) → Heap → Prop} {YP : World → Heap → Prop} {d : DefRec} {K : Params → PySem.W.Frag} (hn : l.most = some 63) (hdf : d.params.defaults = [])
    (hY : ∀ (w : World) (h : Heap), YP w h → (K w.params).In h)
    (F : ∀ (w : World) (mg : Str → Option Value) (fa : Addr) (h : Heap), (K w.params).In h → h.Ns mainGlobals mg → mg d.name = some (.ref fa) →
      ∃ fd : FuncData, (∀ (s : Shared) (u : Value), BindsTo s fd ⟨[u], []⟩ [("_law_script", u)]) ∧ ∀ base : Heap, (K w.params).In base → base.Ns mainGlobals mg → FnOk l.prog w (K w.params) mg base (L2.CX l.prog w) 9 fa fd ["_law_script"] (sp_law (K w.params))) :
    PySem.W.WalkO q loose XP YP l.row.toRowW d [] (fun f vs => PySem.call f vs) :=
  L2.walk_of (n := 63) (k := 9) (x := "_law_script") (CX := fun w => L2.CX l.prog w) (sp := fun w => sp_law (K w.params)) hn (by decide) hdf ⟨rfl, by decide, by decide⟩ hY F (fun _ _ a ns hl _ hS => ⟨a, ns, rfl, hS, hl, fun _ => rfl⟩) fun _ _ _ _ _ z => by
    obtain ⟨_, _, _, _, _, _, _, _, _, _, _, _, z⟩ := z
    exact z
end My
open PySem PySem.W PyProof.Rows
set_option maxRecDepth 100000 in
set_option maxHeartbeats 0 in
theorem PySem.Challenge.cw_berthrow_k10_whole_rows_of_trees_holds : PySem.Challenge.rw_berthrow_k10_whole_rows_of_trees.Holds := by
  w_on; o_law; k_head; (case hw => w_witness2)
  k_fill
  refine My.walk (l := PySem.Challenge.rw_berthrow_k10_whole_rows_of_trees) rfl rfl (fun w h Y => PySem.W.kIn_of Y) ?F
  case F =>
    intro w mg fa h KX G hmg
    refine' My.all_mk KX G hmg ?a_is_number ?l_is_number ?c_is_number ?k_is_number ?a_need_quay ?l_need_quay ?c_need_quay ?k_need_quay ?a_need_wishes ?l_need_wishes ?c_need_wishes ?k_need_wishes ?a_crowded ?l_crowded ?c_crowded ?k_crowded ?a_is_good ?l_is_good ?c_is_good ?k_is_good ?a_need_full ?l_need_full ?c_need_full ?k_need_full ?a_tree_of ?l_tree_of ?c_tree_of ?k_tree_of ?a_met_in ?l_met_in ?c_met_in ?k_met_in ?a_wishes_of ?l_wishes_of ?c_wishes_of ?k_wishes_of ?a__law_cell_at ?l__law_cell_at ?c__law_cell_at ?k__law_cell_at ?a__law_mix ?l__law_mix ?c__law_mix ?k__law_mix ?a__law_order ?l__law_order ?c__law_order ?k__law_order ?a__law_drawn ?l__law_drawn ?c__law_drawn ?k__law_drawn ?a__law_hangs ?l__law_hangs ?c__law_hangs ?k__law_hangs ?a__law_word ?l__law_word ?c__law_word ?k__law_word ?a_law ?l_law ?c_law ?k_law ?z_len ?z_isinstance ?z_min ?z_max ?z_range ?z_enumerate ?z_zip ?z_all ?z_int ?z_bool ?z_list ?z_tuple ?z_dict ?z_ValueError ?q_MOST ?e_NoQuay ?x_NoQuay ?w_NoQuay ?b_NoQuay ?y_NoQuay ?e_NoWishes ?x_NoWishes ?w_NoWishes ?b_NoWishes ?y_NoWishes ?e_NoTree ?x_NoTree ?w_NoTree ?b_NoTree ?y_NoTree ?e_BerthError ?e_NoCount ?e_NoOrder ?e_TooMany ?sb_BerthError ?hd_BerthError ?ty_BerthError ?xn ?xt ?kg_NoTree ?kk_NoTree ?kd_NoTree ?ka_NoTree ?km_NoTree ?ks_NoTree ?kg_NoWishes ?kk_NoWishes ?kd_NoWishes ?ka_NoWishes ?km_NoWishes ?ks_NoWishes ?qi_NoTree_NoCount ?qi_NoTree_NoOrder ?qi_NoTree_NoQuay ?qi_NoTree_TooMany ?qi_NoTree_NoWishes ?qi_NoWishes_NoCount ?qi_NoWishes_NoOrder ?qi_NoWishes_NoQuay ?qi_NoWishes_TooMany ?qi_NoWishes_NoTree ?qi_none_NoCount ?qi_none_NoOrder ?qi_none_NoQuay ?qi_none_TooMany ?qi_none_NoTree ?qi_none_NoWishes
    (case a_is_number => k_is)
    (case l_is_number => k_is)
    (case c_is_number => k_is)
    (case k_is_number => k_is)
    (case a_need_quay => k_is)
    (case l_need_quay => k_is)
    (case c_need_quay => k_is)
    (case k_need_quay => k_is)
    (case a_need_wishes => k_is)
    (case l_need_wishes => k_is)
    (case c_need_wishes => k_is)
    (case k_need_wishes => k_is)
    (case a_crowded => k_is)
    (case l_crowded => k_is)
    (case c_crowded => k_is)
    (case k_crowded => k_is)
    (case a_is_good => k_is)
    (case l_is_good => k_is)
    (case c_is_good => k_is)
    (case k_is_good => k_is)
    (case a_need_full => k_is)
    (case l_need_full => k_is)
    (case c_need_full => k_is)
    (case k_need_full => k_is)
    (case a_tree_of => k_is)
    (case l_tree_of => k_is)
    (case c_tree_of => k_is)
    (case k_tree_of => k_is)
    (case a_met_in => k_is)
    (case l_met_in => k_is)
    (case c_met_in => k_is)
    (case k_met_in => k_is)
    (case a_wishes_of => k_is)
    (case l_wishes_of => k_is)
    (case c_wishes_of => k_is)
    (case k_wishes_of => k_is)
    (case a__law_cell_at => k_is)
    (case l__law_cell_at => k_is)
    (case c__law_cell_at => k_is)
    (case k__law_cell_at => k_is)
    (case a__law_mix => k_is)
    (case l__law_mix => k_is)
    (case c__law_mix => k_is)
    (case k__law_mix => k_is)
    (case a__law_order => k_is)
    (case l__law_order => k_is)
    (case c__law_order => k_is)
    (case k__law_order => k_is)
    (case a__law_drawn => k_is)
    (case l__law_drawn => k_is)
    (case c__law_drawn => k_is)
    (case k__law_drawn => k_is)
    (case a__law_hangs => k_is)
    (case l__law_hangs => k_is)
    (case c__law_hangs => k_is)
    (case k__law_hangs => k_is)
    (case a__law_word => k_is)
    (case l__law_word => k_is)
    (case c__law_word => k_is)
    (case k__law_word => k_is)
    (case a_law => k_is)
    (case l_law => k_is)
    (case c_law => k_is)
    (case k_law => k_is)
    (case z_len => k_is)
    (case z_isinstance => k_is)
    (case z_min => k_is)
    (case z_max => k_is)
    (case z_range => k_is)
    (case z_enumerate => k_is)
    (case z_zip => k_is)
    (case z_all => k_is)
    (case z_int => k_is)
    (case z_bool => k_is)
    (case z_list => k_is)
    (case z_tuple => k_is)
    (case z_dict => k_is)
    (case z_ValueError => k_is)
    (case q_MOST => k_is)
    (case e_NoQuay => k_is)
    (case x_NoQuay => k_exc)
    (case w_NoQuay => k_is)
    (case b_NoQuay => k_is)
    (case y_NoQuay => k_is)
    (case e_NoWishes => k_is)
    (case x_NoWishes => k_exc)
    (case w_NoWishes => k_is)
    (case b_NoWishes => k_is)
    (case y_NoWishes => k_is)
    (case e_NoTree => k_is)
    (case x_NoTree => k_exc)
    (case w_NoTree => k_is)
    (case b_NoTree => k_is)
    (case y_NoTree => k_is)
    (case e_BerthError => k_is)
    (case e_NoCount => k_is)
    (case e_NoOrder => k_is)
    (case e_TooMany => k_is)
    (case sb_BerthError => k_is)
    (case hd_BerthError => k_is)
    (case ty_BerthError => k_is)
    (case xn => k_is)
    (case xt => k_is)
    (case kg_NoTree => k_is)
    (case kk_NoTree => k_is)
    (case kd_NoTree => k_is)
    (case ka_NoTree => k_is)
    (case km_NoTree => k_is)
    (case ks_NoTree => k_is)
    (case kg_NoWishes => k_is)
    (case kk_NoWishes => k_is)
    (case kd_NoWishes => k_is)
    (case ka_NoWishes => k_is)
    (case km_NoWishes => k_is)
    (case ks_NoWishes => k_is)
    (case qi_NoTree_NoCount => kit_is)
    (case qi_NoTree_NoOrder => kit_is)
    (case qi_NoTree_NoQuay => kit_is)
    (case qi_NoTree_TooMany => kit_is)
    (case qi_NoTree_NoWishes => kit_is)
    (case qi_NoWishes_NoCount => kit_is)
    (case qi_NoWishes_NoOrder => kit_is)
    (case qi_NoWishes_NoQuay => kit_is)
    (case qi_NoWishes_TooMany => kit_is)
    (case qi_NoWishes_NoTree => kit_is)
    (case qi_none_NoCount => kit_is)
    (case qi_none_NoOrder => kit_is)
    (case qi_none_NoQuay => kit_is)
    (case qi_none_TooMany => kit_is)
    (case qi_none_NoTree => kit_is)
    (case qi_none_NoWishes => kit_is)

