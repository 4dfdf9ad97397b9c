import PyProof.Rows.All
import Wide.All
import OpenK.AllK
import Wide.FinOn
import HandS.ForMost
import HandS.Exc
import HandS.TryOnly
import HandS.ExcOwn
import HandS.WordsExc
import HandS.IsInst
import HandS.SortInts
import HandS.SortKw
import HandS.Evl
import HandS.Conv
import HandS.SetFor
import HandS.SetKeys
import KE.DataMinMax
import KE.SortData
import KE.DatumOrd
import HandS.Style
import HandS.ExcIs
import HandS.TupMul
import HandS.CallLocal
import HandS.TupAny
import HandS.RevTup
import KE.KDictPairs
import KE.KDictZip
import HandS.Nested
import HandS.EndTab
import KE.SortKeyHeap
import KE.KDictSum
import KE.GoesMore
import PySem.Challenge.RW_berthrow_k11_whole_who_lies_where
set_option Elab.async false
set_option linter.all false
set_option maxRecDepth 100000
set_option maxHeartbeats 4000000
/-! A layer for the berthrow laws: defs by their names, readings run step by step. -/
namespace B
open PySem PySem.Spec PyProof.Rows L2
open PySem.W (Frag)

/-! ### defs by their names -/
/-- the def x of the text stands where the name x leads -/
def Stands (K : Frag) (mg : Str → Option Value) (x : Str) (st : Stmt) : Prop :=
  ∃ (f : Addr) (fd : FuncData), Fun K x x st f fd ∧ mg x = some (.ref f)
/-- the name x leads to a def that keeps the promise -/
def Has (P : Program) (w : World) (K : Frag) (mg : Str → Option Value) (base : Heap) (x : Str) (k : Nat) (ps : List Str) (sp : Sp) : Prop :=
  ∃ (f : Addr) (fd : FuncData), FnOk P w K mg base (L2.CX P w) k f fd ps sp ∧ mg x = some (.ref f) ∧ PySem.W.keepIn K (.ref f) = true ∧ Binds K fd ps []
section
variable {P : Program} {w : World} {K : Frag} {mg : Str → Option Value} {base : Heap}
theorem has_of {x : Str} {st : Stmt} {N ps : List Str} {k : Nat} {sp : Sp} (S : Stands K mg x st) (C : FnScope N ps (defScope st))
    (hb : ∀ (kV doc pm : Value) (an : Option Addr) (cdv ct : Value) (us : List Value), us.length = ps.length → bindArgs (PySem.W.fnOf x x (defArgs st) (defBody st) (defScope st) .none kV doc pm an cdv ct) ⟨us, []⟩ = pure (ps.zip us))
    (len : ∀ vs H Q E, sp vs H Q E → vs.length = ps.length)
    (hbody : ∀ (f : Addr) (cdv : Value) (A : Around) (outer : List Env) (s : Shared) (H : Hp) (vs : List V) (Q : VK) (E : XK), Room k (A.deeper (envOfC x (defScope st) s.heap.objs.size f cdv)) → sp vs H Q E →
      ∃ t, PSs (cxOf (L2.CX P w) P w K mg base N x (defScope st) f cdv A outer s H E) (defBody st) t ∧ t { nx := fun _ H' => Q .non H', rt := Q } (start N vs) H) :
    Has P w K mg base x (k + 1) ps sp := by
  obtain ⟨f, fd, F, m⟩ := S
  exact ⟨f, fd, F.okX C len (fun cdv A outer s H vs Q E hr h => hbody f cdv A outer s H vs Q E hr h), m, F.kp, F.binds hb⟩
end
section
variable {X : Cx} {k j : Nat} {x : Str} {ps : List Str} {sp : Sp} {E : XK} {p pos : Pos} {e : Expr} {es : List Expr} {t : TA}
theorem pe_has (h : Has X.prog X.w X.K X.mg X.base x j ps sp) (hr : Room k X.A) (hx : Passes (L2.CX X.prog X.w) X E) (ha : PA X (e :: es) t) (hj : j ≤ k := by decide) (hg : Gl X x := by rfl)
    (hdb : (x == ("__debug__" : Str)) = false := by decide) (he : starEach (e :: es) X.env = (false, eval e X.env) :: starEach es X.env := by rfl) (hpl : (backTo pos (starEach es X.env)).any (·.1) = false := by rfl) :
    PE X (.Call (.Name x p) (e :: es) [] pos) (tCall sp [] E t) := by
  obtain ⟨f, fd, F, m, kp, b⟩ := h
  exact pe_call F (hr.mono hj) hg m kp b .nil hx ha hdb he hpl
end

/-! ### readings, run step by step -/
abbrev Ex := Evl.Ex
theorem exg {H H' : Hp} {a : Addr} {o : HO} (e : Ex H H') (h : H a = some o) : H' a = some o := e a o h
theorem exn {H H' : Hp} {a : Addr} (e : Ex H H') (h : H' a = none) : H a = none := Evl.fresh_back e h
section
variable {K : Frag} {σ : L2.St} {H H' : Hp} {Q : VK} {QT : Bool → Hp → Prop} {QA : List V → Hp → Prop} {i : Nat} {v x y z : V} {ta tb te : TE} {tt tu tv : TT} {tr : TA} {b : Bool} {D : Ends} {s1 s2 : TS} {g : TG} {a : Addr} {xs ys : List V}
theorem x_var (h : σ[i]? = some (some v)) (q : Q v H) : tVar i σ H Q := ⟨v, h, q⟩
theorem x_c (q : Q v H) : tC v σ H Q := q
theorem x_op {r : R2} (h : ta σ H fun x H1 => tb σ H1 fun y H2 => r x y H2 Q) : tOp r ta tb σ H Q := h
theorem x_un {r : V → Hp → VK → Prop} (h : ta σ H fun x H1 => r x H1 Q) : tUn r ta σ H Q := h
theorem x_rI0 {f : Int → Int → V} {m n : Int} (q : Q (f m n) H) : rI0 f (.int m) (.int n) H Q := ⟨m, n, rfl, rfl, q⟩
theorem x_rI {C : Int → Int → Prop} {f : Int → Int → V} {m n : Int} (c : C m n) (q : Q (f m n) H) : rI C f (.int m) (.int n) H Q := ⟨m, n, rfl, rfl, c, q⟩
theorem x_rEq (s : scal x y = true) (q : Q (.bl (decide (x = y))) H) : rEq x y H Q := ⟨s, q⟩
theorem x_rNe (s : scal x y = true) (q : Q (.bl (!decide (x = y))) H) : rNe x y H Q := ⟨s, q⟩
theorem x_rU {f : Int → V} {m : Int} (q : Q (f m) H) : rU f (.int m) H Q := ⟨m, rfl, q⟩
theorem x_nil (q : QA [] H) : tNil σ H QA := q
theorem x_cons (h : ta σ H fun x H1 => tr σ H1 fun xs H2 => QA (x :: xs) H2) : tCons ta tr σ H QA := h
theorem x_CB {r : List V → Hp → VK → Prop} (h : tr σ H fun vs H1 => r vs H1 Q) : tCB r tr σ H Q := h
theorem x_call {sp : Sp} {E : XK} {dvs : List V} (h : tr σ H fun vs H1 => sp (vs ++ dvs) H1 Q E) : tCall sp dvs E tr σ H Q := h
theorem x_test (h : te σ H fun x H' => ∃ k, x = .bl k ∧ QT k H') : tTest te σ H QT := h
theorem x_B (h : te σ H fun x H' => ∃ k, x = .bl k ∧ QT k H') : tB te σ H QT := h
theorem x_bl (q : QT b H) : ∃ k, V.bl b = .bl k ∧ QT k H := ⟨b, rfl, q⟩
theorem x_and (h : tt σ H fun c H1 => if c = true then tu σ H1 QT else QT false H1) : tAnd tt tu σ H QT := h
theorem x_or (h : tt σ H fun c H1 => if c = true then QT true H1 else tu σ H1 QT) : tOr tt tu σ H QT := h
theorem x_not (h : tt σ H fun c H1 => QT (!c) H1) : tNot tt σ H QT := h
theorem x_andV (h : ta σ H fun x H1 => ∃ c, x = .bl c ∧ if c = true then tb σ H1 Q else Q (.bl false) H1) : tAndV ta tb σ H Q := h
theorem x_orV (h : ta σ H fun x H1 => ∃ c, x = .bl c ∧ if c = true then Q (.bl true) H1 else tb σ H1 Q) : tOrV ta tb σ H Q := h
theorem x_notV (h : ta σ H fun x H1 => ∃ c, x = .bl c ∧ Q (.bl (!c)) H1) : tNotV ta σ H Q := h
theorem x_blV {f : Bool → Prop} (q : f b) : ∃ c, V.bl b = .bl c ∧ f c := ⟨b, rfl, q⟩
theorem x_if (h : tt σ H fun c H1 => if c = true then ta σ H1 Q else tb σ H1 Q) : tIf tt ta tb σ H Q := h
theorem x_isN (h : ta σ H fun x H1 => Q (.bl (decide (x = .non))) H1) : tIsN ta σ H Q := h
theorem x_notN (h : ta σ H fun x H1 => Q (.bl (!decide (x = .non))) H1) : tNotN ta σ H Q := h
/-! statements -/
theorem x_seq (h : s1 { D with nx := s2 D } σ H) : tSeq s1 s2 D σ H := h
theorem x_next (q : D.nx σ H) : tNext D σ H := q
theorem x_brk (q : D.bk σ H) : tBreak D σ H := q
theorem x_cont (q : D.ct σ H) : tCont D σ H := q
theorem x_asg (h : te σ H fun v H1 => D.nx (σ.set i (some v)) H1) : tAsg te (gName i) D σ H := h
theorem x_gName {P : L2.St → Hp → Prop} (h : P (σ.set i (some v)) H) : gName i v σ H P := h
theorem x_drop (h : te σ H fun _ H1 => D.nx σ H1) : tDrop te D σ H := h
theorem x_ret (h : te σ H fun v H1 => D.rt v H1) : tRet te D σ H := h
theorem x_ifS (h : tt σ H fun b H1 => if b = true then s1 D σ H1 else s2 D σ H1) : tIfS tt s1 s2 D σ H := h
theorem x_nx {n bk ct : L2.St → Hp → Prop} {r : VK} (h : n σ H) : Ends.nx { nx := n, rt := r, bk := bk, ct := ct } σ H := h
theorem x_rt {n bk ct : L2.St → Hp → Prop} {r : VK} (h : r v H) : Ends.rt { nx := n, rt := r, bk := bk, ct := ct } v H := h
theorem x_aug {ip : TIp} (hv : σ[i]? = some (some x)) (h : te σ H fun y H1 => ip x y H1 fun z H2 => D.nx (σ.set i (some z)) H2) : tAug i te ip D σ H := ⟨x, hv, h⟩
theorem x_ipI {f : Int → Int → Int} {m n : Int} (q : Q (.int (f m n)) H) : ipI f (.int m) (.int n) H Q := ⟨m, n, rfl, rfl, q⟩
/-! ifs -/
theorem x_true {A B : Prop} (h : A) : if true = true then A else B := by rw [if_pos rfl]; exact h
theorem x_false {A B : Prop} (h : B) : if false = true then A else B := by rw [if_neg Bool.false_ne_true]; exact h
theorem x_dec {c A B : Prop} [Decidable c] (h1 : c → A) (h2 : ¬ c → B) : if decide c = true then A else B := by
  by_cases h : c
  · rw [decide_eq_true h]; exact x_true (h1 h)
  · rw [decide_eq_false h]; exact x_false (h2 h)
theorem x_decN {c A B : Prop} [Decidable c] (h1 : ¬ c → A) (h2 : c → B) : if (!decide c) = true then A else B := by
  by_cases h : c
  · rw [decide_eq_true h]; exact x_false (h2 h)
  · rw [decide_eq_false h]; exact x_true (h1 h)
theorem x_b {A B : Prop} (h1 : b = true → A) (h2 : b = false → B) : if b = true then A else B := by
  cases b
  · exact x_false (h2 rfl)
  · exact x_true (h1 rfl)
theorem x_bN {A B : Prop} (h1 : b = false → A) (h2 : b = true → B) : if (!b) = true then A else B := by
  cases b
  · exact x_true (h1 rfl)
  · exact x_false (h2 rfl)
/-! new objects -/
def MkT (Q : VK) : List V → Hp → Prop := fun vs H1 => vs.length ≤ sizeLine ∧ ∀ p, H1 p = none → Q (.ref p) (upd H1 p (.tup vs))
def MkL (Q : VK) : List V → Hp → Prop := fun vs H1 => vs.length ≤ sizeLine ∧ ∀ p, H1 p = none → Q (.ref p) (upd H1 p (.lst vs))
theorem x_tup (h : tr σ H (MkT Q)) : tTup tr σ H Q := h
theorem x_lst (h : tr σ H (MkL Q)) : tLst tr σ H Q := h
theorem x_mkT {vs : List V} (hl : vs.length ≤ 1000000) (h : ∀ p H', H p = none → Ex H H' → H' p = some (.tup vs) → Q (.ref p) H') : MkT Q vs H := ⟨Nat.le_trans hl (by decide), fun p hp => h p _ hp (Evl.Ex.new hp) upd_same⟩
theorem x_mkL {vs : List V} (hl : vs.length ≤ 1000000) (h : ∀ p H', H p = none → Ex H H' → H' p = some (.lst vs) → Q (.ref p) H') : MkL Q vs H := ⟨Nat.le_trans hl (by decide), fun p hp => h p _ hp (Evl.Ex.new hp) upd_same⟩
theorem x_dnew (h : ∀ p H', H p = none → Ex H H' → H' p = some (.dK []) → Q (.ref p) H') : tDNewK σ H Q := fun p hp => h p _ hp (Evl.Ex.new hp) upd_same
theorem x_new {o : HO} (h : ∀ p H', H p = none → Ex H H' → H' p = some o → Q (.ref p) H') : ∀ p, H p = none → Q (.ref p) (upd H p o) := fun p hp => h p _ hp (Evl.Ex.new hp) upd_same
end

/-! ### more about defs: ends without a raise, what a callee raises handed on -/
section
variable {P : Program} {w : World} {K : Frag} {mg : Str → Option Value} {base : Heap}
theorem has_ofN {x : Str} {st : Stmt} {N ps : List Str} {k : Nat} {sp : Sp} (S : Stands K mg x st) (C : FnScope N ps (defScope st))
    (hb : ∀ (kV doc pm : Value) (an : Option Addr) (cdv ct : Value) (us : List Value), us.length = ps.length → bindArgs (PySem.W.fnOf x x (defArgs st) (defBody st) (defScope st) .none kV doc pm an cdv ct) ⟨us, []⟩ = pure (ps.zip us))
    (len : ∀ vs H Q E, sp vs H Q E → vs.length = ps.length)
    (hbody : ∀ (f : Addr) (cdv : Value) (A : Around) (outer : List Env) (s : Shared) (H : Hp) (vs : List V) (Q : VK) (E : XK), Room k (A.deeper (envOfC x (defScope st) s.heap.objs.size f cdv)) → sp vs H Q E →
      ∃ t, PSs (cxOf (L2.CX P w) P w K mg base N x (defScope st) f cdv A outer s H E).nox (defBody st) t ∧ t { nx := fun _ H' => Q .non H', rt := Q } (start N vs) H) :
    Has P w K mg base x (k + 1) ps sp := has_of S C hb len fun f cdv A outer s H vs Q E hr h => by
  obtain ⟨t, ht, q⟩ := hbody f cdv A outer s H vs Q E hr h
  exact ⟨t, ht.nox, q⟩
end
section
variable {P : Program} {w : World} {K : Frag} {mg : Str → Option Value} {base : Heap}
theorem fn_okN {x : Str} {st : Stmt} {f : Addr} {fd : FuncData} {N ps : List Str} {k : Nat} {sp : Sp} (F : Fun K x x st f fd) (C : FnScope N ps (defScope st)) (len : ∀ vs H Q E, sp vs H Q E → vs.length = ps.length)
    (hbody : ∀ (cdv : Value) (A : Around) (outer : List Env) (s : Shared) (H : Hp) (vs : List V) (Q : VK) (E : XK), Room k (A.deeper (envOfC x (defScope st) s.heap.objs.size f cdv)) → sp vs H Q E →
      ∃ t, PSs (cxOf (L2.CX P w) P w K mg base N x (defScope st) f cdv A outer s H E).nox (defBody st) t ∧ t { nx := fun _ H' => Q .non H', rt := Q } (start N vs) H) :
    FnOk P w K mg base (L2.CX P w) (k + 1) f fd ps sp := F.okX C len fun cdv A outer s H vs Q E hr h => by
  obtain ⟨t, ht, q⟩ := hbody cdv A outer s H vs Q E hr h
  exact ⟨t, ht.nox, q⟩
end
theorem passL {X : Cx} : Passes (L2.CX X.prog X.w) X E0 := L2.passL
theorem passU {X : Cx} {E : XK} (tk : Takes X (fun cls d _ H => E cls d H)) : Passes (L2.CX X.prog X.w) X E := passes_call tk fun _ _ _ _ h => h
/-- a number of the module's -/
def Const (mg : Str → Option Value) (x : Str) (v : V) : Prop := ∃ u, mg x = some u ∧ RelV v u
theorem pe_const {X : Cx} {x : Str} {v : V} {pos : Pos} (c : Const X.mg x v) (hg : Gl X x := by rfl) (hd : (x == ("__debug__" : Str)) = false := by decide) : PE X (.Name x pos) (tC v) := by
  obtain ⟨u, m, r⟩ := c
  exact pe_glob hg m r hd
/-- an error class under ValueError -/
def Err (K : Frag) (mg : Str → Option Value) (x : Str) : Prop := ∃ C, mg x = some (.ref C) ∧ PySem.W.excIn K C [.type "ValueError", .type "Exception", .type "BaseException", .type "object"] "ValueError.__new__" = true ∧
  PySem.W.keepIn K (.ref C) = true ∧ PySem.W.subIn K (.ref C) (.type "BaseException") = some true ∧ PySem.W.typeIn K (.ref C) = some (.type "type")
theorem pmk {X : Cx} {x m : Str} {j : Nat} {p p2 pos : Pos} (E : Err X.K X.mg x) (hg : Gl X x := by rfl) (hdb : (x == ("__debug__" : Str)) = false := by decide) :
    PMk X (.Call (.Name x p) [.Constant (.str m) j p2] [] pos) (fun _ H Q => ∀ C, X.mg x = some (.ref C) → Q (.ref C) none H) := by
  obtain ⟨C, g, e, k, b, t⟩ := E
  intro pins s σ H Q I h
  exact pmk_own PySem.F.excBase_ValueError e g k (raises_own b t) hg hdb pins s σ H Q I (h C g)

/-! ### names of the interpreter -/
theorem boot_isinstance : bootBuiltins "isinstance" = some (.builtin "isinstance") := by decide +kernel
theorem boot_min : bootBuiltins "min" = some (.builtin "min") := by decide +kernel
theorem boot_max : bootBuiltins "max" = some (.builtin "max") := by decide +kernel
theorem boot_sum : bootBuiltins "sum" = some (.builtin "sum") := by decide +kernel
theorem boot_sorted : bootBuiltins "sorted" = some (.builtin "sorted") := by decide +kernel
theorem boot_all : bootBuiltins "all" = some (.builtin "all") := by decide +kernel
theorem boot_int : bootBuiltins "int" = some (.type "int") := by decide +kernel
theorem boot_bool : bootBuiltins "bool" = some (.type "bool") := by decide +kernel
theorem boot_str : bootBuiltins "str" = some (.type "str") := by decide +kernel
theorem boot_list : bootBuiltins "list" = some (.type "list") := by decide +kernel
theorem boot_tuple : bootBuiltins "tuple" = some (.type "tuple") := by decide +kernel
theorem boot_dict : bootBuiltins "dict" = some (.type "dict") := by decide +kernel
theorem boot_set : bootBuiltins "set" = some (.type "set") := by decide +kernel

/-! ### what is a list or a tuple -/
def Sq (K : Frag) (H : Hp) (a : Addr) (xs : List V) : Prop := SqL K H a xs ∨ SqT K H a xs
theorem Sq.ex {K : Frag} {H H' : Hp} {a : Addr} {xs : List V} (e : Ex H H') (h : Sq K H a xs) : Sq K H' a xs := h.elim (fun h => .inl (Evl.ex_l e h)) fun h => .inr (Evl.ex_t e h)
theorem Sq.l {K : Frag} {H : Hp} {a : Addr} {xs : List V} (h : SqL K H a xs) : Sq K H a xs := .inl h
theorem Sq.t {K : Frag} {H : Hp} {a : Addr} {xs : List V} (h : SqT K H a xs) : Sq K H a xs := .inr h
def iSq (K : Frag) (tl : TE) : TI := fun σ H R => iList K tl σ H R ∨ iTup K tl σ H R
theorem pi_sq {X : Cx} {tg l : Expr} {tl : TE} (hl : PE X l tl) : PI X tg l (iSq X.K tl) := ⟨fun pins s σ H R I h => h.elim (fun h => (pi_list hl).run pins s σ H R I h) fun h => (pi_tup hl).run pins s σ H R I h⟩
def rIxQ (K : Frag) : R2 := fun x y H Q => rIxL K x y H Q ∨ rIxT K x y H Q
theorem ix_sq {X : Cx} : IxR X (rIxQ X.K) := by
  intro value slice pins s σ H x y v u Q I rx ry h hs
  exact h.elim (fun h => ix_list value slice pins s σ H x y v u Q I rx ry h hs) fun h => ix_tup value slice pins s σ H x y v u Q I rx ry h hs

/-! ### kinds of values -/
def isNum : V → Bool
  | .int _ => true
  | _ => false
/-- a whole number from a least to a most one -/
def inB (x : V) (lo hi : Int) : Bool := match x with
  | .int i => decide (lo ≤ i) && decide (i ≤ hi)
  | _ => false
/-- a value whose class is told -/
def Kd (K : Frag) (H : Hp) (x : V) (t : String) : Prop := TyX K H x (.type t)
theorem Kd.int {K : Frag} {H : Hp} (i : Int) : Kd K H (.int i) "int" := .base (.int i)
theorem sz {n : Nat} (h : n ≤ 1000000) : n ≤ sizeLine := Nat.le_trans h (by decide)
theorem szl {n : Nat} (h : n ≤ 1000000) : n < sizeLine := Nat.lt_of_le_of_lt h (by decide)

/-! ### min(xs, default=d) of a list of ints -/
def rMinD (K : Frag) : List V → List V → Hp → VK → Prop := fun vs zs H Q => ∃ (a : Addr) (ns : List Int) (d : V), vs = [V.ref a] ∧ zs = [d] ∧ SqL K H a (ns.map V.int) ∧ (ns = [] → Q d H) ∧ ∀ m, m ∈ ns → (∀ y, y ∈ ns → m ≤ y) → Q (.int m) H

/-! ### loops, by what is gone through -/
theorem split_at {α : Type} {as : List α} {i : Nat} {x : α} (h : as[i]? = some x) : as = as.take i ++ x :: as.drop (i + 1) := by
  obtain ⟨hi, e⟩ := List.getElem?_eq_some_iff.mp h
  subst e
  simp
theorem take_snoc {α : Type} {as : List α} {i : Nat} {x : α} (h : as[i]? = some x) : as.take (i + 1) = as.take i ++ [x] := by
  rw [List.take_add_one, h]
  rfl
section
variable {K : Frag} {σ : L2.St} {H H' : Hp} {Q : VK} {QT : Bool → Hp → Prop} {i j : Nat} {v x y z : V} {ta tb te tl : TE} {tt tu tv : TT} {tr : TA} {b : Bool} {D : Ends} {s1 s2 ts : TS} {g : TG} {a : Addr} {xs ys : List V}
/-- a for's turns, from the iterator J -/
def ForRun (g : TG) (ts : TS) (D : Ends) (σ : L2.St) (J : It) (H1 : Hp) : Prop := ∃ W : Nat → Nat → L2.St → Hp → Prop, (∃ m, W 0 m σ H1) ∧ ∀ i m σ H, W i m σ H →
  (J.stop i H ∧ D.nx σ H) ∨ (J.go i H ∧ ∃ N : L2.St → Hp → Prop, (∀ σ' H', N σ' H' → ∃ m', m' < m ∧ W (i + 1) m' σ' H') ∧ ∀ x H', J.yld i H x H' → g x σ H' fun σ2 H2 => ts { D with nx := N, ct := N, bk := D.nx } σ2 H2)
theorem x_for {wi : TI} (h : wi σ H (ForRun g ts D σ)) : tFor wi g ts D σ H := h
theorem x_iList {R : It → Hp → Prop} (h : tl σ H fun x H1 => ∃ a, x = .ref a ∧ (∃ xs, SqL K H1 a xs) ∧ R (Itl K a) H1) : iList K tl σ H R := h
theorem x_iTup {R : It → Hp → Prop} (h : tl σ H fun x H1 => ∃ a, x = .ref a ∧ (∃ xs, SqT K H1 a xs) ∧ R (Itt K a) H1) : iTup K tl σ H R := h
theorem x_iRng1 {R : It → Hp → Prop} (h : tr σ H fun vs H1 => ∃ j : Int, vs = [.int j] ∧ -(2 ^ 62) ≤ j ∧ j < 2 ^ 62 ∧ R (Itr 0 j.toNat) H1) : iRng1 tr σ H R := h
theorem x_iRng2 {R : It → Hp → Prop} (h : tr σ H fun vs H1 => ∃ i j : Int, vs = [.int i, .int j] ∧ (-(2 ^ 62) ≤ i ∧ i < 2 ^ 62 ∧ -(2 ^ 62) ≤ j ∧ j < 2 ^ 62) ∧ R (Itr i (j - i).toNat) H1) : iRng2 tr σ H R := h
theorem x_rng1 {R : It → Hp → Prop} {n : Int} (hn : n ≤ 1000000 ∧ -1000000 ≤ n) (h : R (Itr 0 n.toNat) H) : ∃ j : Int, ([V.int n] : List V) = [.int j] ∧ -(2 ^ 62) ≤ j ∧ j < 2 ^ 62 ∧ R (Itr 0 j.toNat) H := ⟨n, rfl, by omega, by omega, h⟩
theorem x_rng2 {R : It → Hp → Prop} {m n : Int} (hm : m ≤ 1000000 ∧ -1000000 ≤ m) (hn : n ≤ 1000000 ∧ -1000000 ≤ n) (h : R (Itr m (n - m).toNat) H) :
    ∃ i j : Int, ([V.int m, V.int n] : List V) = [.int i, .int j] ∧ (-(2 ^ 62) ≤ i ∧ i < 2 ^ 62 ∧ -(2 ^ 62) ≤ j ∧ j < 2 ^ 62) ∧ R (Itr i (j - i).toNat) H := ⟨m, n, rfl, by omega, h⟩
/-- over a list that stands: as the items, f their values -/
theorem x_forL {α : Type} (as : List α) (f : α → V) (Pv : List α → L2.St → Hp → Prop) (h0 : Pv [] σ H) (hl : ∀ pre σ' H', pre.length ≤ as.length → Pv pre σ' H' → SqL K H' a (as.map f))
    (hs : ∀ pre x post σ' H', as = pre ++ x :: post → Pv pre σ' H' → g (f x) σ' H' fun σ2 H2 => ts { D with nx := Pv (pre ++ [x]), ct := Pv (pre ++ [x]), bk := D.nx } σ2 H2)
    (hd : ∀ σ' H', Pv as σ' H' → D.nx σ' H') : ∃ b, V.ref a = .ref b ∧ (∃ xs, SqL K H b xs) ∧ ForRun g ts D σ (Itl K b) H := by
  refine ⟨a, rfl, ⟨_, hl [] σ H (Nat.zero_le _) h0⟩, for_list (xs := as.map f) (fun i σ' H' => i ≤ as.length ∧ Pv (as.take i) σ' H') ⟨Nat.zero_le _, by rw [List.take_zero]; exact h0⟩ (fun i σ' H' _ p => hl _ σ' H' (by rw [List.length_take]; omega) p.2) (fun i x σ' H' hx p => ?_) fun σ' H' p => hd σ' H' (by
    have q := p.2
    rw [List.length_map, List.take_length] at q
    exact q)⟩
  rw [List.getElem?_map] at hx
  cases ex : as[i]? with
  | none => rw [ex] at hx; cases hx
  | some n =>
    rw [ex] at hx
    cases hx
    have hi : i < as.length := (List.getElem?_eq_some_iff.mp ex).1
    have q := hs (as.take i) n (as.drop (i + 1)) σ' H' (split_at ex) p.2
    have e1 : (fun σ'' H'' => i + 1 ≤ as.length ∧ Pv (as.take (i + 1)) σ'' H'') = Pv (as.take i ++ [n]) := by
      funext σ'' H''
      rw [take_snoc ex]
      exact propext ⟨fun q => q.2, fun q => ⟨hi, q⟩⟩
    rw [e1]
    exact q
theorem x_forT {α : Type} (as : List α) (f : α → V) (Pv : List α → L2.St → Hp → Prop) (h0 : Pv [] σ H) (hl : ∀ pre σ' H', pre.length ≤ as.length → Pv pre σ' H' → SqT K H' a (as.map f))
    (hs : ∀ pre x post σ' H', as = pre ++ x :: post → Pv pre σ' H' → g (f x) σ' H' fun σ2 H2 => ts { D with nx := Pv (pre ++ [x]), ct := Pv (pre ++ [x]), bk := D.nx } σ2 H2)
    (hd : ∀ σ' H', Pv as σ' H' → D.nx σ' H') : ∃ b, V.ref a = .ref b ∧ (∃ xs, SqT K H b xs) ∧ ForRun g ts D σ (Itt K b) H := by
  refine ⟨a, rfl, ⟨_, hl [] σ H (Nat.zero_le _) h0⟩, for_tup (xs := as.map f) (fun i σ' H' => i ≤ as.length ∧ Pv (as.take i) σ' H') ⟨Nat.zero_le _, by rw [List.take_zero]; exact h0⟩ (fun i σ' H' _ p => hl _ σ' H' (by rw [List.length_take]; omega) p.2) (fun i x σ' H' hx p => ?_) fun σ' H' p => hd σ' H' (by
    have q := p.2
    rw [List.length_map, List.take_length] at q
    exact q)⟩
  rw [List.getElem?_map] at hx
  cases ex : as[i]? with
  | none => rw [ex] at hx; cases hx
  | some n =>
    rw [ex] at hx
    cases hx
    have hi : i < as.length := (List.getElem?_eq_some_iff.mp ex).1
    have q := hs (as.take i) n (as.drop (i + 1)) σ' H' (split_at ex) p.2
    have e1 : (fun σ'' H'' => i + 1 ≤ as.length ∧ Pv (as.take (i + 1)) σ'' H'') = Pv (as.take i ++ [n]) := by
      funext σ'' H''
      rw [take_snoc ex]
      exact propext ⟨fun q => q.2, fun q => ⟨hi, q⟩⟩
    rw [e1]
    exact q
/-- over lo, lo + 1, .. : the turn's number k -/
theorem x_forR {lo : Int} {n : Nat} (Pv : Nat → L2.St → Hp → Prop) (h0 : Pv 0 σ H)
    (hs : ∀ k σ' H', k < n → Pv k σ' H' → g (.int (lo + (k : Nat))) σ' H' fun σ2 H2 => ts { D with nx := Pv (k + 1), ct := Pv (k + 1), bk := D.nx } σ2 H2)
    (hd : ∀ σ' H', Pv n σ' H' → D.nx σ' H') : ForRun g ts D σ (Itr lo n) H := for_range Pv h0 hs hd
theorem mono_var {k : Nat} (Q Q' : VK) (h : ∀ v H', Q v H' → Q' v H') (q : tVar k σ H Q) : tVar k σ H Q' := by
  obtain ⟨v, e, q⟩ := q
  exact ⟨v, e, h v H q⟩
/-- over a list or tuple that a name holds, which stood at H0 -/
theorem x_forQ {α : Type} {H0 : Hp} (as : List α) (f : α → V) (hv : σ[i]? = some (some (.ref a))) (hq : Sq K H0 a (as.map f)) (Pv : List α → L2.St → Hp → Prop) (h0 : Pv [] σ H) (hk : ∀ pre σ' H', pre.length ≤ as.length → Pv pre σ' H' → Ex H0 H')
    (hs : ∀ pre x post σ' H', as = pre ++ x :: post → Pv pre σ' H' → g (f x) σ' H' fun σ2 H2 => ts { D with nx := Pv (pre ++ [x]), ct := Pv (pre ++ [x]), bk := D.nx } σ2 H2)
    (hd : ∀ σ' H', Pv as σ' H' → D.nx σ' H') : tFor (iSq K (tVar i)) g ts D σ H := by
  have key : ∀ {k : Nat} {n : α} {σ' : L2.St} {H' : Hp}, as[k]? = some n → Pv (as.take k) σ' H' → g (f n) σ' H' fun σ2 H2 => ts { D with nx := fun σ'' H'' => k + 1 ≤ as.length ∧ Pv (as.take (k + 1)) σ'' H'', ct := fun σ'' H'' => k + 1 ≤ as.length ∧ Pv (as.take (k + 1)) σ'' H'', bk := D.nx } σ2 H2 := by
    intro k n σ' H' ex p
    have hi : k < as.length := (List.getElem?_eq_some_iff.mp ex).1
    have e1 : (fun σ'' H'' => k + 1 ≤ as.length ∧ Pv (as.take (k + 1)) σ'' H'') = Pv (as.take k ++ [n]) := by
      funext σ'' H''
      rw [take_snoc ex]
      exact propext ⟨fun q => q.2, fun q => ⟨hi, q⟩⟩
    rw [e1]
    exact hs (as.take k) n (as.drop (k + 1)) σ' H' (split_at ex) p
  have look : ∀ {k : Nat} {x : V}, (as.map f)[k]? = some x → ∃ n, as[k]? = some n ∧ x = f n := by
    intro k x hx
    rw [List.getElem?_map] at hx
    cases ex : as[k]? with
    | none => rw [ex] at hx; cases hx
    | some n => rw [ex] at hx; cases hx; exact ⟨n, rfl, rfl⟩
  have h0' : (0 : Nat) ≤ as.length ∧ Pv (as.take 0) σ H := ⟨Nat.zero_le _, by rw [List.take_zero]; exact h0⟩
  have hd' : ∀ σ' H', ((as.map f).length ≤ as.length ∧ Pv (as.take (as.map f).length) σ' H') → D.nx σ' H' := fun σ' H' p => hd σ' H' (by
    have q := p.2
    rw [List.length_map, List.take_length] at q
    exact q)
  rcases hq with hq | hq
  · refine .inl ⟨.ref a, hv, a, rfl, ⟨_, Evl.ex_l (hk [] σ H (Nat.zero_le _) h0) hq⟩, for_list (xs := as.map f) (fun i σ' H' => i ≤ as.length ∧ Pv (as.take i) σ' H') h0' (fun i σ' H' _ p => Evl.ex_l (hk _ σ' H' (by rw [List.length_take]; omega) p.2) hq) (fun i x σ' H' hx p => ?_) hd'⟩
    obtain ⟨n, ex, rfl⟩ := look hx
    exact key ex p.2
  · refine .inr ⟨.ref a, hv, a, rfl, ⟨_, Evl.ex_t (hk [] σ H (Nat.zero_le _) h0) hq⟩, for_tup (xs := as.map f) (fun i σ' H' => i ≤ as.length ∧ Pv (as.take i) σ' H') h0' (fun i σ' H' _ p => Evl.ex_t (hk _ σ' H' (by rw [List.length_take]; omega) p.2) hq) (fun i x σ' H' hx p => ?_) hd'⟩
    obtain ⟨n, ex, rfl⟩ := look hx
    exact key ex p.2
/-- while, by a word that falls -/
theorem x_while (W : Nat → L2.St → Hp → Prop) (m0 : Nat) (h0 : W m0 σ H)
    (hs : ∀ m σ' H', W m σ' H' → tt σ' H' fun b H1 => if b = true then ts { D with nx := fun σ2 H2 => ∃ m', m' < m ∧ W m' σ2 H2, ct := fun σ2 H2 => ∃ m', m' < m ∧ W m' σ2 H2, bk := D.nx } σ' H1 else D.nx σ' H1)
    (mono : ∀ σ H Q Q', (∀ b H1, Q b H1 → Q' b H1) → tt σ H Q → tt σ H Q') : tWhile tt ts D σ H := by
  refine ⟨W, ⟨m0, h0⟩, fun m σ' H' hw => mono σ' H' _ _ (fun b H1 q => ?_) (hs m σ' H' hw)⟩
  cases b with
  | true => exact ⟨_, fun _ _ q => q, q⟩
  | false => exact q

/-! ### list comprehensions -/
/-- what is to be said of [te for .. in a list if tt]: the items as, their values f; which are taken, what is made -/
def LcSay (K : Frag) (j : Nat) (vs : List Nat) (tt : TT) (te : TE) (σ : L2.St) (H1 : Hp) (Q : VK) (α : Type) (as : List α) (f : α → V) (p : α → Bool) (v : α → V) : Prop :=
  as.length ≤ 1000000 ∧ (∀ x, wipe ((wipe σ vs).set j (some x)) vs = wipe σ vs) ∧
  (∀ x ∈ as, ∀ H', Ex H1 H' → ∀ QT : Bool → Hp → Prop, (∀ H2, Ex H' H2 → QT (p x) H2) → tt ((wipe σ vs).set j (some (f x))) H' QT) ∧
  (∀ x ∈ as, p x = true → ∀ H', Ex H1 H' → ∀ Q' : VK, (∀ H2, Ex H' H2 → Q' (v x) H2) → te ((wipe σ vs).set j (some (f x))) H' Q') ∧
  ∀ D H2, H1 D = none → Ex H1 H2 → H2 D = some (.lst ((as.filter p).map v)) → Q (.ref D) H2
theorem lc_step {α : Type} {as : List α} {p : α → Bool} {v : α → V} {H1 H' : Hp} {Dl : Addr} {k : Nat} {n : α} {σ2 : L2.St} (hz : as.length ≤ 1000000) (ex : as[k]? = some n) (hD : H1 Dl = none) (e1 : Ex H1 H') (hl : H' Dl = some (.lst (((as.take k).filter p).map v)))
    (ht : ∀ QT : Bool → Hp → Prop, (∀ H2, Ex H' H2 → QT (p n) H2) → tt σ2 H' QT)
    (he : p n = true → ∀ H2, Ex H1 H2 → ∀ Q' : VK, (∀ H3, Ex H2 H3 → Q' (v n) H3) → te σ2 H2 Q') :
    tt σ2 H' fun b H3 => if b = true then te σ2 H3 fun y H4 => ∃ acc, H4 Dl = some (.lst acc) ∧ acc.length < sizeLine ∧ ((Ex H1 (upd H4 Dl (.lst (acc ++ [y])))) ∧ (upd H4 Dl (.lst (acc ++ [y]))) Dl = some (.lst (((as.take (k + 1)).filter p).map v)))
      else ((Ex H1 H3) ∧ H3 Dl = some (.lst (((as.take (k + 1)).filter p).map v))) := by
  refine ht _ fun H3 e3 => ?_
  rw [take_snoc ex, List.filter_append, List.map_append]
  cases hp : p n with
  | true =>
    refine x_true ?_
    refine he hp H3 (e1.trans e3) _ fun H4 e4 => ?_
    refine ⟨_, e4 Dl _ (e3 Dl _ hl), ?_, Evl.Ex.mut ((e1.trans e3).trans e4) hD, ?_⟩
    · have h1 := List.length_filter_le p (as.take k)
      rw [List.length_take] at h1
      rw [List.length_map]
      exact szl (by omega)
    · rw [upd_same, List.filter_cons, if_pos hp]
      rfl
  | false =>
    refine x_false ⟨e1.trans e3, ?_⟩
    rw [List.filter_cons, if_neg (by rw [hp]; decide), e3 Dl _ hl]
    simp
/-- a comprehension's turns, from the iterator J -/
def LcRun (g : TG) (tt : TT) (te : TE) (vs : List Nat) (σ : L2.St) (Q : VK) (J : It) (H1 : Hp) : Prop := ∀ D, H1 D = none → ∃ W : Nat → Nat → Hp → Prop, (∃ m, W 0 m (upd H1 D (.lst []))) ∧ ∀ i m H, W i m H →
  (J.stop i H ∧ Q (.ref D) H) ∨ (J.go i H ∧ ∃ Nx : Hp → Prop, (∀ H', Nx H' → ∃ m', m' < m ∧ W (i + 1) m' H') ∧ ∀ x H', J.yld i H x H' → g x (wipe σ vs) H' fun σ2 H2 => wipe σ2 vs = wipe σ vs ∧ tt σ2 H2 fun b H3 =>
    if b = true then te σ2 H3 fun y H4 => ∃ acc, H4 D = some (.lst acc) ∧ acc.length < sizeLine ∧ Nx (upd H4 D (.lst (acc ++ [y]))) else Nx H3)
theorem x_lc {wi : TI} {vs : List Nat} (h : wi σ H (LcRun g tt te vs σ Q)) : tLc wi g tt te vs σ H Q := h
theorem x_lcL {vs : List Nat} {α : Type} (as : List α) (f : α → V) (p : α → Bool) (v : α → V) (hl : SqL K H a (as.map f)) (h : LcSay K j vs tt te σ H Q α as f p v) :
    ∃ b, V.ref a = .ref b ∧ (∃ xs, SqL K H b xs) ∧ LcRun (gName j) tt te vs σ Q (Itl K b) H := by
  obtain ⟨hz, hw, ht, he, q⟩ := h
  refine ⟨a, rfl, ⟨_, hl⟩, fun Dl hD => lc_list (xs := as.map f) (fun k H' => Ex H H' ∧ H' Dl = some (.lst (((as.take k).filter p).map v))) ⟨Evl.Ex.new hD, by rw [upd_same]; rfl⟩ (fun k H' _ pp => Evl.ex_l pp.1 hl) (fun k x H' hx pp => ?_) fun H' pp => q Dl H' hD pp.1 (by
    have r := pp.2
    rw [List.length_map, List.take_length] at r
    exact r)⟩
  rw [List.getElem?_map] at hx
  cases ex : as[k]? with
  | none => rw [ex] at hx; cases hx
  | some n =>
    rw [ex] at hx
    cases hx
    have hm : n ∈ as := List.mem_of_getElem? ex
    exact ⟨hw _, lc_step hz ex hD pp.1 pp.2 (ht n hm H' pp.1) fun hp H2 e2 => he n hm hp H2 e2⟩
theorem x_lcT {vs : List Nat} {α : Type} (as : List α) (f : α → V) (p : α → Bool) (v : α → V) (hl : SqT K H a (as.map f)) (h : LcSay K j vs tt te σ H Q α as f p v) :
    ∃ b, V.ref a = .ref b ∧ (∃ xs, SqT K H b xs) ∧ LcRun (gName j) tt te vs σ Q (Itt K b) H := by
  obtain ⟨hz, hw, ht, he, q⟩ := h
  refine ⟨a, rfl, ⟨_, hl⟩, fun Dl hD => lc_tup (xs := as.map f) (fun k H' => Ex H H' ∧ H' Dl = some (.lst (((as.take k).filter p).map v))) ⟨Evl.Ex.new hD, by rw [upd_same]; rfl⟩ (fun k H' _ pp => Evl.ex_t pp.1 hl) (fun k x H' hx pp => ?_) fun H' pp => q Dl H' hD pp.1 (by
    have r := pp.2
    rw [List.length_map, List.take_length] at r
    exact r)⟩
  rw [List.getElem?_map] at hx
  cases ex : as[k]? with
  | none => rw [ex] at hx; cases hx
  | some n =>
    rw [ex] at hx
    cases hx
    have hm : n ∈ as := List.mem_of_getElem? ex
    exact ⟨hw _, lc_step hz ex hD pp.1 pp.2 (ht n hm H' pp.1) fun hp H2 e2 => he n hm hp H2 e2⟩
/-- lo, lo + 1, .. below hi -/
def irange (lo hi : Int) : List Int := (List.range (hi - lo).toNat).map fun k => lo + ((k : Nat) : Int)
theorem irange_len (lo hi : Int) : (irange lo hi).length = (hi - lo).toNat := by unfold irange; rw [List.length_map, List.length_range]
theorem irange_at {lo hi : Int} {k : Nat} (h : k < (hi - lo).toNat) : (irange lo hi)[k]? = some (lo + (k : Int)) := by
  unfold irange
  rw [List.getElem?_map, List.getElem?_range h]
  rfl
theorem mem_irange {lo hi i : Int} : i ∈ irange lo hi ↔ lo ≤ i ∧ i < hi := by
  unfold irange
  rw [List.mem_map]
  constructor
  · rintro ⟨k, hk, rfl⟩
    rw [List.mem_range] at hk
    omega
  · rintro ⟨h1, h2⟩
    exact ⟨(i - lo).toNat, by rw [List.mem_range]; omega, by omega⟩
theorem x_lcR {lo hi : Int} {vs : List Nat} (p : Int → Bool) (v : Int → V) (h : LcSay K j vs tt te σ H Q Int (irange lo hi) V.int p v) : LcRun (gName j) tt te vs σ Q (Itr lo (hi - lo).toNat) H := by
  obtain ⟨hz, hw, ht, he, q⟩ := h
  intro Dl hD
  refine lc_range (fun k H' => Ex H H' ∧ H' Dl = some (.lst ((((irange lo hi).take k).filter p).map v))) ⟨Evl.Ex.new hD, by rw [upd_same]; rfl⟩ (fun k H' hk pp => ?_) fun H' pp => q Dl H' hD pp.1 (by
    have r := pp.2
    rw [List.take_of_length_le (by rw [irange_len]; exact Nat.le_refl _)] at r
    exact r)
  have ex := irange_at hk
  have hm := List.mem_of_getElem? ex
  exact ⟨hw _, lc_step hz ex hD pp.1 pp.2 (ht _ hm H' pp.1) fun hp H2 e2 => he _ hm hp H2 e2⟩
end

/-! ### min(xs, default=d) -/
section
open PySem.W (dataLt dataLt_ii dataLt_pair minD min_list_default)
theorem dataLt_int (x y : Int) : dataLt (.int x) (.int y) = decide (x < y) := by
  have h := dataLt_ii 0 x 0 y
  rw [dataLt_pair rfl rfl] at h
  have e0 : PyData.eqv (.int 0) (.int 0) = true := by decide
  rw [if_pos e0] at h
  by_cases e : PyData.eqv (.int x) (.int y) = true
  · rw [if_pos e] at h
    have hxy : x = y := by simpa [PyData.eqv] using e
    subst hxy
    rw [show dataLt (.int x) (.int x) = false from PySem.W.dataLt_self _]
    simp
  · rw [if_neg e] at h
    rw [h]
    simp
theorem minD_least : ∀ (ns : List Int) (n : Int), ∃ m, minD (.int n) (ns.map PyData.int) = .int m ∧ m ∈ n :: ns ∧ ∀ y ∈ n :: ns, m ≤ y
  | [], n => ⟨n, rfl, by simp, by simp⟩
  | a :: ns, n => by
    have e : minD (.int n) ((a :: ns).map PyData.int) = minD (if dataLt (.int a) (.int n) then .int a else .int n) (ns.map PyData.int) := rfl
    rw [e, dataLt_int]
    by_cases h : a < n
    · rw [decide_eq_true h, if_pos rfl]
      obtain ⟨m, e1, h1, h2⟩ := minD_least ns a
      refine ⟨m, e1, List.mem_cons_of_mem _ h1, fun y hy => ?_⟩
      rcases List.mem_cons.mp hy with rfl | hy
      · exact Int.le_trans (h2 a List.mem_cons_self) (Int.le_of_lt h)
      · exact h2 y hy
    · rw [decide_eq_false h, if_neg Bool.false_ne_true]
      obtain ⟨m, e1, h1, h2⟩ := minD_least ns n
      refine ⟨m, e1, ?_, fun y hy => ?_⟩
      · rcases List.mem_cons.mp h1 with rfl | h1
        · exact List.mem_cons_self
        · exact List.mem_cons_of_mem _ (List.mem_cons_of_mem _ h1)
      · rcases List.mem_cons.mp hy with rfl | hy
        · exact h2 y List.mem_cons_self
        · rcases List.mem_cons.mp hy with rfl | hy
          · exact Int.le_trans (h2 n List.mem_cons_self) (by omega)
          · exact h2 y (List.mem_cons_of_mem _ hy)
theorem reads_ints {h : Heap} : ∀ {ns : List Int} {us : List Value}, Vals (ns.map V.int) us → ReadsAll h us (ns.map PyData.int) []
  | [], _, .nil => .nil
  | n :: ns, _, .cons r t => by
    obtain ⟨t1, rfl⟩ := r
    exact .cons (as := []) (bs := []) (Reads.int n t1) (reads_ints t)
theorem depth_ints : ∀ ns : List Int, PyData.depthAll (ns.map PyData.int) ≤ 1
  | [] => by decide
  | n :: ns => by
    have h := depth_ints ns
    show PyData.depthAll (PyData.int n :: ns.map PyData.int) ≤ 1
    simp only [PyData.depthAll, PyData.depth]
    omega
theorem call_minD {X : Cx} (hc : X.calm = true) (hu : X.A.units + 64 < cLine) : CallRK X (.builtin "min") [Str.ofString "default"] (rMinD X.K) := by
  intro pins s σ H xs zs us ws Q I r rz h
  obtain ⟨a, ns, d, rfl, rfl, hs, h0, h1⟩ := h
  obtain ⟨its, rv, hl, _⟩ := I.list hs
  obtain rfl := Vals.ref1 r
  obtain ⟨w1, rfl, e1⟩ := vals1 rz
  have hd := depth_ints ns
  refine min_list_default (xs := ns.map PyData.int) (as := []) (I.ok.hd hc) hl.isList (by simpa using reads_ints rv) ⟨fun x hx y hy => ?_, fun x hx => ?_⟩ (by omega) (fun e h' tk hk => ⟨d, H, I.kept hk, e1, h0 (by simpa using e)⟩) (fun y ys i v h' tk bs e hi hr hk => ?_)
  · obtain ⟨_, _, rfl⟩ := List.mem_map.mp hx
    obtain ⟨_, _, rfl⟩ := List.mem_map.mp hy
    rfl
  · obtain ⟨_, _, rfl⟩ := List.mem_map.mp hx
    exact fun z => nomatch z
  · cases ns with
    | nil => cases e
    | cons n ns =>
      injection e with e2 e3
      subst e2 e3
      obtain ⟨m, em, m1, m2⟩ := minD_least ns n
      rw [em] at hr
      obtain ⟨t, rfl, _⟩ := PyProof.Rows.reads_int_inv hr
      exact ⟨.int m, H, I.kept hk, ⟨t, rfl⟩, h1 m m1 m2⟩
end
end B

namespace B
open PySem PySem.Spec PyProof.Rows L2
open PySem.W (Frag)
/-! ### kinds of values -/
inductive KS where
  | non | bl | int | str | lst | tup | dct
  deriving DecidableEq
inductive Kind (K : Frag) (H : Hp) : V → KS → Prop where
  | non : Kind K H .non .non
  | bl (b : Bool) : Kind K H (.bl b) .bl
  | int (i : Int) : Kind K H (.int i) .int
  | str (x : Str) : Kind K H (.str x) .str
  | lst {a : Addr} {xs : List V} (h : SqL K H a xs) : Kind K H (.ref a) .lst
  | tup {a : Addr} {xs : List V} (h : SqT K H a xs) : Kind K H (.ref a) .tup
  | dct {a : Addr} {kvs : List (Key × V)} (h : H a = some (.dK kvs)) : Kind K H (.ref a) .dct
theorem Kind.ex {K : Frag} {H H' : Hp} {x : V} {s : KS} (e : Ex H H') (h : Kind K H x s) : Kind K H' x s := by
  cases h with
  | non => exact .non
  | bl b => exact .bl b
  | int i => exact .int i
  | str x => exact .str x
  | lst h => exact .lst (Evl.ex_l e h)
  | tup h => exact .tup (Evl.ex_t e h)
  | dct h => exact .dct (e _ _ h)
def KS.name : KS → String
  | .non => "NoneType" | .bl => "bool" | .int => "int" | .str => "str" | .lst => "list" | .tup => "tuple" | .dct => "dict"
/-- the class a value's kind is under -/
def KS.isA : KS → String → Bool
  | .bl, t => t == "bool" || t == "int"
  | k, t => k.name == t
theorem Kind.ty {K : Frag} {H : Hp} {x : V} {s : KS} (h : Kind K H x s) : TyX K H x (.type s.name) := by
  cases h with
  | non => exact .base .non
  | bl b => exact .base (.bl b)
  | int i => exact .base (.int i)
  | str x => exact .base (.str x)
  | lst h =>
    rcases h with (h | ⟨o, h⟩) | ⟨o, its, n, h⟩
    · exact .base (.lst h)
    · exact .base (.frz h)
    · exact .kList h.1 h.2.1
  | tup h =>
    rcases h with (h | ⟨o, h⟩) | ⟨o, its, n, h⟩
    · exact .base (.tup h)
    · exact .fTuple h
    · exact .kTuple h.1 h.2.1
  | dct h => exact .base (.dK h)

section
variable {K : Frag} {σ : L2.St} {H H' : Hp} {Q : VK} {QT : Bool → Hp → Prop} {i j : Nat} {v x y z : V} {ta tb te tl : TE} {tt tu tv : TT} {tr : TA} {b : Bool} {D : Ends} {s1 s2 ts : TS} {g : TG} {a : Addr} {xs ys : List V}
/-! ### isinstance -/
theorem kit_int (s : KS) : PySem.W.kitOne K (.type s.name) (.type "int") = some (s.isA "int") := by cases s <;> exact kit_ty (by decide +kernel)
theorem kit_bool (s : KS) : PySem.W.kitOne K (.type s.name) (.type "bool") = some (s.isA "bool") := by cases s <;> exact kit_ty (by decide +kernel)
theorem kit_list (s : KS) : PySem.W.kitOne K (.type s.name) (.type "list") = some (s.isA "list") := by cases s <;> exact kit_ty (by decide +kernel)
theorem kit_tuple (s : KS) : PySem.W.kitOne K (.type s.name) (.type "tuple") = some (s.isA "tuple") := by cases s <;> exact kit_ty (by decide +kernel)
theorem kit_str (s : KS) : PySem.W.kitOne K (.type s.name) (.type "str") = some (s.isA "str") := by cases s <;> exact kit_ty (by decide +kernel)
theorem x_isi_int {s : KS} (k : Kind K H x s) (q : Q (.bl (s.isA "int")) H) : rIsi K [x, .ty "int"] H Q := ⟨x, _, _, _, _, rfl, .ty _, k.ty, kit_int s, q⟩
theorem x_isi_bool {s : KS} (k : Kind K H x s) (q : Q (.bl (s.isA "bool")) H) : rIsi K [x, .ty "bool"] H Q := ⟨x, _, _, _, _, rfl, .ty _, k.ty, kit_bool s, q⟩
theorem x_isi_list {s : KS} (k : Kind K H x s) (q : Q (.bl (s.isA "list")) H) : rIsi K [x, .ty "list"] H Q := ⟨x, _, _, _, _, rfl, .ty _, k.ty, kit_list s, q⟩
theorem x_isi_tuple {s : KS} (k : Kind K H x s) (q : Q (.bl (s.isA "tuple")) H) : rIsi K [x, .ty "tuple"] H Q := ⟨x, _, _, _, _, rfl, .ty _, k.ty, kit_tuple s, q⟩
theorem x_isi_str {s : KS} (k : Kind K H x s) (q : Q (.bl (s.isA "str")) H) : rIsi K [x, .ty "str"] H Q := ⟨x, _, _, _, _, rfl, .ty _, k.ty, kit_str s, q⟩
/-- isinstance(x, (list, tuple)) -/
theorem x_isiLT {s : KS} {p : Addr} (k : Kind K H x s) (hp : H p = some (.tup [.ty "list", .ty "tuple"])) (q : Q (.bl (s.isA "list" || s.isA "tuple")) H) : rIsiT K [x, .ref p] H Q := by
  refine ⟨x, p, _, _, _, s.isA "list" || s.isA "tuple", rfl, hp, .cons (.ty _) (.cons (.ty _) .nil), k.ty, kitAny_cons (kit_list s) (fun e => kitAny_cons (r := s.isA "list" || s.isA "tuple") (kit_tuple s) (fun e2 => ?_) ?_) ?_, q⟩
  · rw [e, e2]; exact kitAny_nil
  all_goals (cases s <;> decide)

/-! ### lists and tuples: lengths, items, copies -/
def rLen (K : Frag) : List V → Hp → VK → Prop := fun xs H Q => ∃ p ys, xs = [.ref p] ∧ (SqL K H p ys ∨ SqT K H p ys) ∧ Q (.int ys.length) H
def rListOf (K : Frag) : List V → Hp → VK → Prop := fun xs H Q => ∃ p ys, xs = [.ref p] ∧ (SqL K H p ys ∨ SqT K H p ys) ∧ ∀ l, H l = none → Q (.ref l) (upd H l (.lst ys))
def rTupOf (K : Frag) : List V → Hp → VK → Prop := fun xs H Q => ∃ p ys, xs = [.ref p] ∧ ((SqL K H p ys ∧ ∀ l, H l = none → Q (.ref l) (upd H l (.tup ys))) ∨ (SqT K H p ys ∧ Q (.ref p) H))
theorem call_len {X : Cx} : CallR X (.builtin "len") (rLen X.K) := call_len_seq
theorem call_listOf {X : Cx} : CallR X (.type "list") (rListOf X.K) := call_list_of
theorem call_tupOf {X : Cx} : CallR X (.type "tuple") (rTupOf X.K) := call_tuple_of
def rMin2 : List V → Hp → VK → Prop := fun xs H Q => ∃ i j, xs = [.int i, .int j] ∧ Q (.int (if j < i then j else i)) H
def rMax2 : List V → Hp → VK → Prop := fun xs H Q => ∃ i j, xs = [.int i, .int j] ∧ Q (.int (if j > i then j else i)) H
theorem call_min2 {X : Cx} (hc : X.calm = true) : CallR X (.builtin "min") rMin2 := L2.call_min2 hc
theorem call_max2 {X : Cx} (hc : X.calm = true) : CallR X (.builtin "max") rMax2 := L2.call_max2 hc
theorem x_len (h : Sq K H a xs) (q : Q (.int xs.length) H) : rLen K [.ref a] H Q := ⟨a, xs, rfl, h, q⟩
theorem x_min2 {m n : Int} (q : Q (.int (if n < m then n else m)) H) : rMin2 [.int m, .int n] H Q := ⟨m, n, rfl, q⟩
theorem x_max2 {m n : Int} (q : Q (.int (if n > m then n else m)) H) : rMax2 [.int m, .int n] H Q := ⟨m, n, rfl, q⟩
theorem x_ixL {k : Int} (h : SqL K H a xs) (e : atI xs k = some v) (q : Q v H) : rIxL K (.ref a) (.int k) H Q := ⟨a, xs, k, v, rfl, rfl, h, e, q⟩
theorem x_ixT {k : Int} (h : SqT K H a xs) (e : atI xs k = some v) (q : Q v H) : rIxT K (.ref a) (.int k) H Q := ⟨a, xs, k, v, rfl, rfl, h, e, q⟩
theorem x_listOf (h : Sq K H a xs) (q : ∀ p H', H p = none → Ex H H' → H' p = some (.lst xs) → Q (.ref p) H') : rListOf K [.ref a] H Q := ⟨a, xs, rfl, h, x_new q⟩
theorem x_tupOf (h : SqL K H a xs) (q : ∀ p H', H p = none → Ex H H' → H' p = some (.tup xs) → Q (.ref p) H') : rTupOf K [.ref a] H Q := ⟨a, xs, rfl, .inl ⟨h, x_new q⟩⟩
/-! ### data compared -/
def vd : V → PyData
  | .non => .none
  | .bl b => .bool b
  | .int i => .int i
  | .str x => .str x
  | _ => .none
/-- None and whole numbers -/
def plainV : V → Bool
  | .non => true
  | .int _ => true
  | _ => false
theorem eqv_vd {x y : V} (hx : plainV x = true) (hy : plainV y = true) : PyData.eqv (vd x) (vd y) = decide (x = y) := by
  cases x <;> cases y <;> simp [plainV, vd, PyData.eqv] at * <;> exact Bool.beq_eq_decide_eq _ _
theorem eqv_vdAll : ∀ {xs ys : List V}, xs.all plainV = true → ys.all plainV = true → PyData.eqvAll (xs.map vd) (ys.map vd) = decide (xs = ys)
  | [], [], _, _ => by simp [PyData.eqvAll]
  | [], _ :: _, _, _ => by simp [PyData.eqvAll]
  | _ :: _, [], _, _ => by simp [PyData.eqvAll]
  | x :: xs, y :: ys, hx, hy => by
    simp only [List.all_cons, Bool.and_eq_true] at hx hy
    show (PyData.eqv (vd x) (vd y) && PyData.eqvAll (xs.map vd) (ys.map vd)) = _
    rw [eqv_vd hx.1 hy.1, eqv_vdAll hx.2 hy.2]
    by_cases e1 : x = y <;> by_cases e2 : xs = ys <;> simp [e1, e2]
theorem dpAll_vd : ∀ {xs : List V}, xs.all plainV = true → DpAll K H xs (xs.map vd)
  | [], _ => .nil
  | x :: xs, h => by
    simp only [List.all_cons, Bool.and_eq_true] at h
    refine .cons ?_ (dpAll_vd h.2)
    cases x <;> simp [plainV] at h
    · exact .non
    · exact .int _
theorem can_vd : ∀ xs : List V, xs.all plainV = true → PyData.canLayAll0 (xs.map vd) = true ∧ PyData.depthAll (xs.map vd) ≤ 1
  | [], _ => by decide
  | x :: xs, h => by
    simp only [List.all_cons, Bool.and_eq_true] at h
    obtain ⟨h1, h2⟩ := can_vd xs h.2
    cases x <;> simp [plainV] at h <;> simp_all [vd, PyData.canLayAll0, PyData.canLay0, PyData.depthAll, PyData.depth]
theorem shaped_l {xs : List V} (h : xs.all plainV = true) : SeqAt.shaped (.list (xs.map vd)) = true := by
  obtain ⟨h1, h2⟩ := can_vd xs h
  simp only [SeqAt.shaped, PyData.canLay0, PyData.depth, h1, Bool.true_and, decide_eq_true_eq]
  exact decide_eq_true (by omega)
theorem shaped_t {xs : List V} (h : xs.all plainV = true) : SeqAt.shaped (.tuple (xs.map vd)) = true := by
  obtain ⟨h1, h2⟩ := can_vd xs h
  simp only [SeqAt.shaped, PyData.canLay0, PyData.depth, h1, Bool.true_and, decide_eq_true_eq]
  exact decide_eq_true (by omega)
theorem x_eqL {c : Addr} (h1 : SqL K H a xs) (h2 : SqL K H c ys) (p1 : xs.all plainV = true) (p2 : ys.all plainV = true) (q : Q (.bl (decide (xs = ys))) H) : rEqD K (.ref a) (.ref c) H Q :=
  ⟨_, _, .lst h1 (dpAll_vd p1), .lst h2 (dpAll_vd p2), shaped_l p1, shaped_l p2, by rw [show PyData.eqv (.list (xs.map vd)) (.list (ys.map vd)) = PyData.eqvAll (xs.map vd) (ys.map vd) from by simp only [PyData.eqv], eqv_vdAll p1 p2]; exact q⟩
theorem x_neL {c : Addr} (h1 : SqL K H a xs) (h2 : SqL K H c ys) (p1 : xs.all plainV = true) (p2 : ys.all plainV = true) (q : Q (.bl (!decide (xs = ys))) H) : rNeD K (.ref a) (.ref c) H Q :=
  ⟨_, _, .lst h1 (dpAll_vd p1), .lst h2 (dpAll_vd p2), shaped_l p1, shaped_l p2, by rw [show PyData.eqv (.list (xs.map vd)) (.list (ys.map vd)) = PyData.eqvAll (xs.map vd) (ys.map vd) from by simp only [PyData.eqv], eqv_vdAll p1 p2]; exact q⟩
theorem x_eqT {c : Addr} (h1 : SqT K H a xs) (h2 : SqT K H c ys) (p1 : xs.all plainV = true) (p2 : ys.all plainV = true) (q : Q (.bl (decide (xs = ys))) H) : rEqD K (.ref a) (.ref c) H Q :=
  ⟨_, _, .tup h1 (dpAll_vd p1), .tup h2 (dpAll_vd p2), shaped_t p1, shaped_t p2, by rw [show PyData.eqv (.tuple (xs.map vd)) (.tuple (ys.map vd)) = PyData.eqvAll (xs.map vd) (ys.map vd) from by simp only [PyData.eqv], eqv_vdAll p1 p2]; exact q⟩
theorem x_neT {c : Addr} (h1 : SqT K H a xs) (h2 : SqT K H c ys) (p1 : xs.all plainV = true) (p2 : ys.all plainV = true) (q : Q (.bl (!decide (xs = ys))) H) : rNeD K (.ref a) (.ref c) H Q :=
  ⟨_, _, .tup h1 (dpAll_vd p1), .tup h2 (dpAll_vd p2), shaped_t p1, shaped_t p2, by rw [show PyData.eqv (.tuple (xs.map vd)) (.tuple (ys.map vd)) = PyData.eqvAll (xs.map vd) (ys.map vd) from by simp only [PyData.eqv], eqv_vdAll p1 p2]; exact q⟩
theorem plain_ints (ns : List Int) : (ns.map V.int).all plainV = true := by simp [plainV]
theorem ints_inj {ns ms : List Int} : ns.map V.int = ms.map V.int ↔ ns = ms := by
  constructor
  · intro h
    exact (List.map_inj_right (fun a b e => V.int.inj e)).mp h
  · intro h; rw [h]
/-- a ship's berth, or None -/
def optV : Option Int → V
  | none => .non
  | some b => .int b
theorem plain_opts (os : List (Option Int)) : (os.map optV).all plainV = true := by
  rw [List.all_map, List.all_eq_true]
  intro o _
  cases o <;> rfl
theorem optV_inj {a b : Option Int} (h : optV a = optV b) : a = b := by cases a <;> cases b <;> simp [optV] at h <;> simp_all
/-! ### sums, sorts -/
theorem x_sum {ns : List Int} (h : SqL K H a (ns.map V.int)) (q : Q (.int ns.sum) H) : rSum K [.ref a] H Q := ⟨a, ns, rfl, h, q⟩
theorem x_sorted {ns : List Int} (h : SqL K H a (ns.map V.int)) (q : ∀ (ns' : List Int) p H', ns'.Perm ns → ns'.Pairwise (· ≤ ·) → H p = none → Ex H H' → H' p = some (.lst (ns'.map V.int)) → Q (.ref p) H') : rSortedI K [.ref a] H Q :=
  ⟨a, ns, rfl, h, fun ns' p h1 h2 hp => q ns' p _ h1 h2 hp (Evl.Ex.new hp) upd_same⟩
end
end B

namespace B
open PySem PySem.Spec PyProof.Rows L2
open PySem.W (Frag)
/-! ### an object is changed -/
structure Upd (H : Hp) (l : Addr) (o : HO) (H' : Hp) : Prop where
  same : H' l = some o
  other : ∀ b, b ≠ l → H' b = H b
theorem Upd.mk0 {H : Hp} {l : Addr} {o : HO} : Upd H l o (upd H l o) := ⟨upd_same, fun _ h => upd_ne h⟩
theorem Upd.ex {H0 H H' : Hp} {l : Addr} {o : HO} (u : Upd H l o H') (e : Ex H0 H) (h : H0 l = none) : Ex H0 H' := fun b x q => by
  rw [u.other b (ne_of_none q h)]
  exact e b x q
theorem Upd.get {H H' : Hp} {l b : Addr} {o x : HO} (u : Upd H l o H') (n : b ≠ l) (h : H b = some x) : H' b = some x := by rw [u.other b n]; exact h
theorem Upd.getL {K : Frag} {H H' : Hp} {l b : Addr} {o : HO} {xs : List V} (u : Upd H l o H') (n : b ≠ l) (h : SqL K H b xs) : SqL K H' b xs := by
  rcases h with (h | ⟨z, h⟩) | h
  · exact .inl (.inl (u.get n h))
  · exact .inl (.inr ⟨z, u.get n h⟩)
  · exact .inr h
section
variable {K : Frag} {σ : L2.St} {H H' : Hp} {Q : VK} {QT : Bool → Hp → Prop} {i j : Nat} {v x y z : V} {ta tb te tl tv to td : TE} {tt tu : TT} {t tr : TA} {b : Bool} {D : Ends} {s1 s2 ts : TS} {g : TG} {a l : Addr} {xs ys : List V} {kvs : List (Key × V)} {k : Key}
/-! ### methods of lists -/
def rBML (K : Frag) (T : String) (r : V → List V → Hp → VK → Prop) (t : TA) (σ : L2.St) (Q : VK) : V → Hp → Prop := fun x H1 => tyV K T x H1 ∧ t σ H1 fun vs H2 => r x vs H2 Q
theorem x_BM {T : String} {r : V → List V → Hp → VK → Prop} (h : to σ H (rBML K T r t σ Q)) : tBM K T r to t σ H Q := h
def rBM0L (K : Frag) (T : String) (r : V → List V → Hp → VK → Prop) (Q : VK) : V → Hp → Prop := fun x H1 => tyV K T x H1 ∧ r x [] H1 Q
theorem x_BM0 {T : String} {r : V → List V → Hp → VK → Prop} (h : to σ H (rBM0L K T r Q)) : tBM0 K T r to σ H Q := h
theorem x_onL {r : V → List V → Hp → VK → Prop} (hl : SqL K H l xs) (h : t σ H fun vs H2 => r (.ref l) vs H2 Q) : rBML K "list" r t σ Q (.ref l) H := ⟨.inl ⟨rfl, xs, hl⟩, h⟩
theorem x_onL0 {r : V → List V → Hp → VK → Prop} (hl : SqL K H l xs) (h : r (.ref l) [] H Q) : rBM0L K "list" r Q (.ref l) H := ⟨.inl ⟨rfl, xs, hl⟩, h⟩
theorem x_append (hl : H l = some (.lst xs)) (hz : xs.length ≤ 1000000) (q : ∀ H', Upd H l (.lst (xs ++ [y])) H' → Q .non H') : rAppend (.ref l) [y] H Q := ⟨l, xs, y, rfl, rfl, hl, szl hz, q _ .mk0⟩
theorem x_remove {ns : List Int} {n : Int} (hl : H l = some (.lst (ns.map V.int))) (hj : ns[j]? = some n) (hno : ∀ m : Nat, m < j → ns[m]? ≠ some n) (q : ∀ H', Upd H l (.lst ((ns.eraseIdx j).map V.int)) H' → Q .non H') : rRemI (.ref l) [.int n] H Q :=
  ⟨l, ns, n, j, rfl, rfl, hl, hj, hno, q _ .mk0⟩
theorem x_clear (hl : H l = some (.lst xs)) (q : ∀ H', Upd H l (.lst []) H' → Q .non H') : rClear (.ref l) [] H Q := ⟨l, xs, rfl, rfl, hl, q _ .mk0⟩
theorem x_pop (hl : H l = some (.lst xs)) (hy : xs[xs.length - 1]? = some y) (q : ∀ H', Upd H l (.lst xs.dropLast) H' → Q y H') : rPop (.ref l) [] H Q := ⟨l, xs, y, rfl, rfl, hl, hy, q _ .mk0⟩
/-- xs.pop(i), i from 0 -/
theorem x_popAt {n : Nat} (hl : H l = some (.lst xs)) (hz : xs.length ≤ 1000000) (hy : xs[n]? = some y) (q : ∀ H', Upd H l (.lst (xs.eraseIdx n)) H' → Q y H') : rPopAt (.ref l) [.int (n : Nat)] H Q := by
  have hn : n < xs.length := (List.getElem?_eq_some_iff.mp hy).1
  refine ⟨l, xs, (n : Int), n, y, rfl, rfl, hl, by omega, by omega, ?_, hy, q _ .mk0⟩
  unfold seqIndex?
  have h0 : (0 : Int) ≤ (n : Int) := by omega
  have h1 : (n : Int) < (xs.length : Int) := by omega
  first
    | (simp only [h0, h1, if_true, Int.toNat_natCast]; done)
    | (simp [h0, h1]; done)
    | (rw [if_pos h0, if_pos h1]; simp)
    | (simp; omega)
/-- xs[i] = e -/
theorem x_asgG {G : TG} (h : te σ H fun v H1 => G v σ H1 D.nx) : tAsg te G D σ H := h
def gSubC (ti : TE) (w : TSet) (v : V) (σ : L2.St) (Qn : L2.St → Hp → Prop) : V → Hp → Prop := fun o H1 => ti σ H1 fun i H2 => w o i v H2 fun H3 => Qn σ H3
theorem x_gSub {Qn : L2.St → Hp → Prop} {w : TSet} (h : to σ H fun o H1 => tb σ H1 fun i H2 => w o i v H2 (Qn σ)) : gSub to tb w v σ H Qn := h
theorem x_setL {n : Nat} {Qh : Hp → Prop} (hl : H l = some (.lst xs)) (hn : n < xs.length) (q : ∀ H', Upd H l (.lst (xs.set n v)) H' → Qh H') : rSetL (.ref l) (.int (n : Nat)) v H Qh := ⟨l, xs, (n : Int), n, rfl, rfl, hl, Evl.ixN_nat hn, q _ .mk0⟩
/-! ### dicts -/
def rDIn (y x : V) : Hp → VK → Prop := fun H Q => ∃ a o, x = .ref a ∧ DGet H a y o ∧ Q (.bl o.isSome) H
def rDNotIn (y x : V) : Hp → VK → Prop := fun H Q => ∃ a o, x = .ref a ∧ DGet H a y o ∧ Q (.bl (!o.isSome)) H
theorem x_dIn (h : ta σ H fun y H1 => td σ H1 fun x H2 => rDIn y x H2 Q) : tDIn ta td σ H Q := h
theorem x_dNotIn (h : ta σ H fun y H1 => td σ H1 fun x H2 => rDNotIn y x H2 Q) : tDNotIn ta td σ H Q := h
theorem x_inI {n : Int} (hd : H a = some (.dK kvs)) (q : Q (.bl (valV kvs (.inl n)).isSome) H) : rDIn (.int n) (.ref a) H Q := ⟨a, _, rfl, DGet.k (k := .inl n) hd, q⟩
theorem x_inS {n : Str} (hd : H a = some (.dK kvs)) (q : Q (.bl (valV kvs (.inr n)).isSome) H) : rDIn (.str n) (.ref a) H Q := ⟨a, _, rfl, DGet.k (k := .inr n) hd, q⟩
theorem x_notInI {n : Int} (hd : H a = some (.dK kvs)) (q : Q (.bl (!(valV kvs (.inl n)).isSome)) H) : rDNotIn (.int n) (.ref a) H Q := ⟨a, _, rfl, DGet.k (k := .inl n) hd, q⟩
theorem x_notInS {n : Str} (hd : H a = some (.dK kvs)) (q : Q (.bl (!(valV kvs (.inr n)).isSome)) H) : rDNotIn (.str n) (.ref a) H Q := ⟨a, _, rfl, DGet.k (k := .inr n) hd, q⟩
def rDGet (x y : V) : Hp → VK → Prop := fun H Q => ∃ a v, x = .ref a ∧ DGet H a y (some v) ∧ Q v H
theorem x_dGet (h : td σ H fun x H1 => ta σ H1 fun y H2 => rDGet x y H2 Q) : tDGet td ta σ H Q := h
theorem x_getI {n : Int} (hd : H a = some (.dK kvs)) (e : valV kvs (.inl n) = some v) (q : Q v H) : rDGet (.ref a) (.int n) H Q := ⟨a, v, rfl, by rw [← e]; exact DGet.k (k := .inl n) hd, q⟩
theorem x_getS {n : Str} (hd : H a = some (.dK kvs)) (e : valV kvs (.inr n) = some v) (q : Q v H) : rDGet (.ref a) (.str n) H Q := ⟨a, v, rfl, by rw [← e]; exact DGet.k (k := .inr n) hd, q⟩
def rDPut (v x y : V) (nx : Hp → Prop) : Hp → Prop := fun H => ∃ a H4, x = .ref a ∧ DPut H a y v H4 ∧ nx H4
theorem x_dPut (h : tv σ H fun v H1 => td σ H1 fun x H2 => ta σ H2 fun y H3 => rDPut v x y (D.nx σ) H3) : sDPut td ta tv D σ H := h
theorem x_putI {n : Int} {nx : Hp → Prop} (hd : H a = some (.dK kvs)) (hz : kvs.length ≤ 1000000) (q : ∀ H', Upd H a (.dK (putK kvs (.inl n) v)) H' → nx H') : rDPut v (.ref a) (.int n) nx H := ⟨a, _, rfl, DPut.k (k := .inl n) hd (szl hz), q _ .mk0⟩
theorem x_putS {n : Str} {nx : Hp → Prop} (hd : H a = some (.dK kvs)) (hz : kvs.length ≤ 1000000) (q : ∀ H', Upd H a (.dK (putK kvs (.inr n) v)) H' → nx H') : rDPut v (.ref a) (.str n) nx H := ⟨a, _, rfl, DPut.k (k := .inr n) hd (szl hz), q _ .mk0⟩
/-! ### list(range(a, b)) -/
theorem rgV_eq (m n : Int) : rgV m n = (irange m n).map V.int := by unfold rgV irange; rw [List.map_map]; rfl
def rLstRg (Q : VK) : Int → Int → Hp → Prop := fun a b H1 => RgOk a b ∧ ∀ q, H1 q = none → Q (.ref q) (upd H1 q (.lst (rgV a b)))
theorem x_lstRg {tg : L2.St → Hp → (Int → Int → Hp → Prop) → Prop} (h : tg σ H (rLstRg Q)) : tLstRg tg σ H Q := h
theorem x_rg1 {R : Int → Int → Hp → Prop} (h : ta σ H fun x H1 => ∃ n, x = .int n ∧ R 0 n H1) : tRg1 ta σ H R := h
theorem x_rg2 {R : Int → Int → Hp → Prop} (h : ta σ H fun x H1 => tb σ H1 fun y H2 => ∃ i j, x = .int i ∧ y = .int j ∧ R i j H2) : tRg2 ta tb σ H R := h
theorem x_mkRg1 {n : Int} (hn : n ≤ 1000000 ∧ -1000000 ≤ n) (q : ∀ p H', H p = none → Ex H H' → H' p = some (.lst ((irange 0 n).map V.int)) → Q (.ref p) H') : ∃ m, V.int n = .int m ∧ rLstRg Q 0 m H :=
  ⟨n, rfl, ⟨by omega, by omega, by omega, by omega, by omega⟩, fun p hp => q p _ hp (Evl.Ex.new hp) (by rw [upd_same, rgV_eq])⟩
theorem x_mkRg2 {m n : Int} (hm : m ≤ 1000000 ∧ -1000000 ≤ m) (hn : n ≤ 1000000 ∧ -1000000 ≤ n) (q : ∀ p H', H p = none → Ex H H' → H' p = some (.lst ((irange m n).map V.int)) → Q (.ref p) H') : ∃ i j, V.int m = .int i ∧ V.int n = .int j ∧ rLstRg Q i j H :=
  ⟨m, n, rfl, rfl, ⟨by omega, by omega, by omega, by omega, by omega⟩, fun p hp => q p _ hp (Evl.Ex.new hp) (by rw [upd_same, rgV_eq])⟩
/-! ### keywords -/
theorem x_CKw {r : List V → List V → Hp → VK → Prop} {tk : TA} (h : t σ H fun vs H1 => tk σ H1 fun zs H2 => r vs zs H2 Q) : tCKw r t tk σ H Q := h
theorem x_minD {ns : List Int} {d : V} (h : SqL K H a (ns.map V.int)) (q0 : ns = [] → Q d H) (q : ∀ m, m ∈ ns → (∀ y, y ∈ ns → m ≤ y) → Q (.int m) H) : rMinD K [.ref a] [d] H Q := ⟨a, ns, d, rfl, rfl, h, q0, q⟩
/-! ### slices -/
theorem x_sl {r : V → Option Int → Option Int → Hp → VK → Prop} {tl' th : TO} (h : te σ H fun x H1 => tl' σ H1 fun lo H2 => th σ H2 fun hi H3 => r x lo hi H3 Q) : tSl r te tl' th σ H Q := h
theorem x_noPart {QO : Option Int → Hp → Prop} (h : QO none H) : tNoPart σ H QO := h
def rPart (QO : Option Int → Hp → Prop) : V → Hp → Prop := fun x H1 => ∃ i, x = .int i ∧ QO (some i) H1
theorem x_part {QO : Option Int → Hp → Prop} (h : te σ H (rPart QO)) : tPart te σ H QO := h
theorem x_partI {QO : Option Int → Hp → Prop} {n : Int} (h : QO (some n) H) : rPart QO (.int n) H := ⟨n, rfl, h⟩
theorem x_slL {lo hi : Option Int} (h : SqL K H a xs) (q : ∀ p H', H p = none → Ex H H' → H' p = some (.lst (cutV xs lo hi)) → Q (.ref p) H') : rSlL K (.ref a) lo hi H Q := ⟨a, xs, rfl, h, x_new q⟩
end
theorem at_head {x : V} {xs : List V} : atI (x :: xs) 0 = some x := by
  have h : atI (x :: xs) ((0 : Nat) : Int) = some x := atI_nat rfl
  exact h
/-- slices of lists, by drop and take -/
theorem cut_from (xs : List V) (n : Nat) : cutV xs (some (n : Int)) none = xs.drop n := by
  unfold cutV
  rw [HT.sIx_none, HT.sIx_nat]
  rcases Nat.le_total n xs.length with h | h
  · rw [Nat.min_eq_left h, List.take_of_length_le (by rw [List.length_drop]; exact Nat.le_refl _)]
  · rw [Nat.min_eq_right h, List.drop_length, List.drop_eq_nil_of_le h]
    simp
theorem cut_to (xs : List V) (n : Nat) : cutV xs none (some (n : Int)) = xs.take n := by
  unfold cutV
  rw [HT.sIx_none, HT.sIx_nat, List.drop_zero, Nat.sub_zero]
  rcases Nat.le_total n xs.length with h | h
  · rw [Nat.min_eq_left h]
  · rw [Nat.min_eq_right h, List.take_of_length_le h, List.take_of_length_le (Nat.le_refl _)]

/-! ### [e for a, b in zip(xs, ys) if t] -/
section
variable {K : Frag} {σ : L2.St} {H H' : Hp} {Q : VK} {i j : Nat} {te : TE} {tt : TT} {t : TA} {a b : Addr}
def rZip (K : Frag) (R : It → Hp → Prop) : List V → Hp → Prop := fun vs H1 => ∃ a b xs ys, vs = [.ref a, .ref b] ∧ SqL K H1 a xs ∧ SqL K H1 b ys ∧ R (Itz K a b) H1
theorem x_iZip {R : It → Hp → Prop} (h : t σ H (rZip K R)) : iZip K t σ H R := h
def LcSay2 (i j : Nat) (vs : List Nat) (tt : TT) (te : TE) (σ : L2.St) (H1 : Hp) (Q : VK) (α β : Type) (as : List (α × β)) (f : α → V) (g : β → V) (p : α × β → Bool) (v : α × β → V) : Prop :=
  as.length ≤ 1000000 ∧ (∀ x y, wipe (((wipe σ vs).set i (some x)).set j (some y)) vs = wipe σ vs) ∧
  (∀ x ∈ as, ∀ H', Ex H1 H' → ∀ QT : Bool → Hp → Prop, (∀ H2, Ex H' H2 → QT (p x) H2) → tt (((wipe σ vs).set i (some (f x.1))).set j (some (g x.2))) H' QT) ∧
  (∀ x ∈ as, p x = true → ∀ H', Ex H1 H' → ∀ Q' : VK, (∀ H2, Ex H' H2 → Q' (v x) H2) → te (((wipe σ vs).set i (some (f x.1))).set j (some (g x.2))) H' Q') ∧
  ∀ D H2, H1 D = none → Ex H1 H2 → H2 D = some (.lst ((as.filter p).map v)) → Q (.ref D) H2
theorem x_lcZ {α β : Type} {vs : List Nat} (xs : List α) (ys : List β) (f : α → V) (g : β → V) (p : α × β → Bool) (v : α × β → V) (h1 : SqL K H a (xs.map f)) (h2 : SqL K H b (ys.map g))
    (h : LcSay2 i j vs tt te σ H Q α β (xs.zip ys) f g p v) : rZip K (LcRun (gTup K 2 (gCons (gName i) (gCons (gName j) gNil))) tt te vs σ Q) [.ref a, .ref b] H := by
  obtain ⟨hz, hw, ht, he, q⟩ := h
  refine ⟨a, b, _, _, rfl, h1, h2, fun D hD => ?_⟩
  refine ⟨fun k m H' => m = (xs.zip ys).length - k ∧ k ≤ (xs.zip ys).length ∧ Ex H H' ∧ H' D = some (.lst ((((xs.zip ys).take k).filter p).map v)), ⟨_, rfl, Nat.zero_le _, Evl.Ex.new hD, by rw [upd_same]; rfl⟩, ?_⟩
  rintro k m H' ⟨rfl, hk, e1, hl⟩
  have q1 := Evl.ex_l e1 h1
  have q2 := Evl.ex_l e1 h2
  by_cases hlt : k < (xs.zip ys).length
  · have hlz := List.length_zip (l₁ := xs) (l₂ := ys)
    have kx : k < xs.length := by omega
    have ky : k < ys.length := by omega
    have ex : (xs.zip ys)[k]? = some (xs[k], ys[k]) := by rw [List.getElem?_eq_getElem hlt, List.getElem_zip]
    have mx : (xs.map f)[k]? = some (f xs[k]) := by rw [List.getElem?_map, List.getElem?_eq_getElem kx]; rfl
    have my : (ys.map g)[k]? = some (g ys[k]) := by rw [List.getElem?_map, List.getElem?_eq_getElem ky]; rfl
    refine .inr ⟨⟨_, _, _, _, q1, q2, mx, my⟩, fun H'' => Ex H H'' ∧ H'' D = some (.lst ((((xs.zip ys).take (k + 1)).filter p).map v)), fun H'' p' => ⟨_, by omega, rfl, hlt, p'.1, p'.2⟩, fun x H2 y => ?_⟩
    obtain ⟨T, x', y', rfl, hT, rfl, f1, f2⟩ := y
    have ex1 := Option.some.inj (mx.symm.trans (f1 _ q1))
    have ey1 := Option.some.inj (my.symm.trans (f2 _ q2))
    subst ex1 ey1
    have mem := List.mem_of_getElem? ex
    have e2 : Ex H' (upd H' T (.tup [f xs[k], g ys[k]])) := Evl.Ex.new hT
    refine ⟨T, _, rfl, .inl (.inl upd_same), rfl, _, _, rfl, _, _, rfl, rfl, hw _ _, ?_⟩
    exact lc_step hz ex hD (e1.trans e2) (e2 _ _ hl) (ht _ mem _ (e1.trans e2)) fun hp H3 e3 => he _ mem hp H3 e3
  · have e : k = (xs.zip ys).length := by omega
    subst e
    have hlz := List.length_zip (l₁ := xs) (l₂ := ys)
    refine .inl ⟨⟨_, _, q1, q2, ?_⟩, q D H' hD e1 ?_⟩
    · rw [List.length_map, List.length_map]
      omega
    · rw [List.take_length] at hl
      exact hl
end
end B

namespace B
open PySem PySem.Spec PyProof.Rows L2
open PySem.W (Frag)
section
variable {X : Cx} {tg : Expr}
/-! ### xs[i] op= e, of a list, at a place in its bounds -/
def rGetN (K : Frag) : V → V → Hp → VK → Prop := fun o i H Q => ∃ p xs k v, o = .ref p ∧ i = .int k ∧ SqL K H p xs ∧ 0 ≤ k ∧ atI xs k = some v ∧ Q v H
theorem get_list : PGet X (rGetN X.K) := by
  intro pins s σ H o i ov iv Q I ro ri h
  obtain ⟨p, xs, k, v, rfl, rfl, hq, k0, hv, q⟩ := h
  cases ro
  obtain ⟨t, rfl⟩ := ri
  obtain ⟨its, r, pl, hz⟩ := I.list hq
  obtain ⟨j, h1, h2, h3, h4, h5⟩ := atI_get hv
  obtain ⟨w, ew, rw'⟩ := r.get h2
  have hn := line63
  have hj : k.toNat = j := by
    rw [seqIndex_of k0 h5] at h1
    exact Option.some.inj h1
  exact wpAny_getItem_list pl.isList k0 (by omega) (by rw [hj]; simpa using ew) ⟨v, H, I, rw', q⟩
theorem ps_augL {o i e : Expr} {to ti te : TE} {tip : TIp} {op : Operator} {tpos pos : Pos} (ho : PE X o to) (hi : PE X i ti) (he : PE X e te) (hp : PIp X op tip)
    (ha : ∀ ov iv new, augStore i ov iv new = (do holding [new, ov, iv] (setItem ov iv new); release [new, ov, iv] []; pure .next) := by intros; rfl) : PS X (.AugAssign (.Subscript o i tpos) op e pos) (tAugS to ti te (rGetN X.K) tip rSetL) :=
  ps_augS ho hi get_list he hp set_list ha
end
section
variable {K : Frag} {σ : L2.St} {H H' : Hp} {Q : VK} {QT : Bool → Hp → Prop} {i j : Nat} {v x y z : V} {ta tb te tl to ti : TE} {tt : TT} {tr : TA} {b : Bool} {D : Ends} {ts : TS} {g : TG} {a l p : Addr} {xs ys : List V}
def rSetC (o i : V) (nx : Hp → Prop) : V → Hp → Prop := fun z H5 => rSetL o i z H5 nx
theorem x_augS {ip : TIp} (h : to σ H fun o H1 => ti σ H1 fun i H2 => rGetN K o i H2 fun x H3 => te σ H3 fun y H4 => ip x y H4 (rSetC o i (D.nx σ))) : tAugS to ti te (rGetN K) ip rSetL D σ H := h
theorem x_getN {n : Nat} (hl : SqL K H p xs) (hx : xs[n]? = some v) (q : Q v H) : rGetN K (.ref p) (.int (n : Nat)) H Q := ⟨p, xs, n, v, rfl, rfl, hl, by omega, atI_nat hx, q⟩
theorem x_setC {n : Nat} {nx : Hp → Prop} (hl : H l = some (.lst xs)) (hn : n < xs.length) (q : ∀ H', Upd H l (.lst (xs.set n v)) H' → nx H') : rSetC (.ref l) (.int (n : Nat)) nx v H := ⟨l, xs, (n : Int), n, rfl, rfl, hl, Evl.ixN_nat hn, q _ .mk0⟩
/-! ### range with a step of -1 -/
def rRng3 (R : It → Hp → Prop) : List V → Hp → Prop := fun vs H1 => ∃ (i j c : Int) (n : Nat), vs = [.int i, .int j, .int c] ∧ RgC i j c n ∧ R (Itc i c n) H1
theorem x_iRng3 {R : It → Hp → Prop} (h : tr σ H (rRng3 R)) : iRng3 tr σ H R := h
theorem x_down {R : It → Hp → Prop} {m n : Int} (hm : m ≤ 1000000 ∧ -1000000 ≤ m) (hn : n ≤ 1000000 ∧ -1000000 ≤ n) (h : R (Itc m (-1) (m - n).toNat) H) : rRng3 R [.int m, .int n, .int (-1)] H := ⟨m, n, -1, _, rfl, RgC.neg (by omega) (by omega) (by omega) (by omega), h⟩
theorem x_forC {lo c : Int} {n : Nat} (Pv : Nat → L2.St → Hp → Prop) (h0 : Pv 0 σ H)
    (hs : ∀ k σ' H', k < n → Pv k σ' H' → g (.int (lo + (k : Nat) * c)) σ' H' fun σ2 H2 => ts { D with nx := Pv (k + 1), ct := Pv (k + 1), bk := D.nx } σ2 H2)
    (hd : ∀ σ' H', Pv n σ' H' → D.nx σ' H') : ForRun g ts D σ (Itc lo c n) H := for_rangeC Pv h0 hs hd
/-! ### is, of bools -/
theorem op_isbl {X : Cx} : OpR X (compareOp .Is) rIsB := op_isBl
theorem x_isB {c d : Bool} (q : Q (.bl (decide (c = d))) H) : rIsB (.bl c) (.bl d) H Q := ⟨c, d, rfl, rfl, q⟩
/-! ### xs[::-1] -/
def rRevL (K : Frag) (Q : VK) : V → Hp → Prop := fun x H1 => ∃ a xs, x = .ref a ∧ SqL K H1 a xs ∧ ∀ p, H1 p = none → Q (.ref p) (upd H1 p (.lst xs.reverse))
theorem x_revL (h : te σ H (rRevL K Q)) : tRevL K te σ H Q := h
theorem x_rev (h : SqL K H a xs) (q : ∀ p H', H p = none → Ex H H' → H' p = some (.lst xs.reverse) → Q (.ref p) H') : rRevL K Q (.ref a) H := ⟨a, xs, rfl, h, x_new q⟩
/-! ### xs * n -/
theorem x_rep {n : Int} (hl : H l = some (.lst xs)) (h0 : 0 ≤ n) (h1 : n ≤ 1000000) (hz : xs.length ≤ 1) (q : ∀ p H', H p = none → Ex H H' → H' p = some (.lst ((List.replicate n.toNat xs).flatten)) → Q (.ref p) H') : rRep (.ref l) (.int n) H Q := by
  refine ⟨l, n, xs, rfl, rfl, hl, by omega, by omega, sz ?_, fun p hp => ?_⟩
  · have : xs.length * n.toNat ≤ 1 * n.toNat := Nat.mul_le_mul_right _ hz
    omega
  · exact q p _ hp (Evl.Ex.new hp) (by rw [upd_same])
/-! ### for i, x in enumerate(xs) -/
def rEnum (K : Frag) (R : It → Hp → Prop) : List V → Hp → Prop := fun vs H1 => ∃ a xs, vs = [.ref a] ∧ SqL K H1 a xs ∧ R (Ite K a) H1
theorem x_iEnum {R : It → Hp → Prop} (h : tr σ H (rEnum K R)) : iEnum K tr σ H R := h
theorem x_forE {α : Type} (as : List α) (f : α → V) (Pv : List α → L2.St → Hp → Prop) (h0 : Pv [] σ H) (hl : ∀ pre σ' H', pre.length ≤ as.length → Pv pre σ' H' → SqL K H' a (as.map f))
    (mono : ∀ pre σ' H' H'', Pv pre σ' H' → Ex H' H'' → Pv pre σ' H'')
    (hs : ∀ pre x post σ' H', as = pre ++ x :: post → Pv pre σ' H' → ts { D with nx := Pv (pre ++ [x]), ct := Pv (pre ++ [x]), bk := D.nx } ((σ'.set i (some (.int (pre.length : Nat)))).set j (some (f x))) H')
    (hd : ∀ σ' H', Pv as σ' H' → D.nx σ' H') : rEnum K (ForRun (gTup K 2 (gCons (gName i) (gCons (gName j) gNil))) ts D σ) [.ref a] H := by
  refine ⟨a, _, rfl, hl [] σ H (Nat.zero_le _) h0, fun k m σ' H' => m = as.length - k ∧ k ≤ as.length ∧ Pv (as.take k) σ' H', ⟨_, rfl, Nat.zero_le _, by rw [List.take_zero]; exact h0⟩, ?_⟩
  rintro k m σ' H' ⟨rfl, hk, p⟩
  have hq := hl _ σ' H' (by rw [List.length_take]; omega) p
  by_cases hlt : k < as.length
  · have ex : as[k]? = some as[k] := List.getElem?_eq_getElem hlt
    have ev : (as.map f)[k]? = some (f as[k]) := by rw [List.getElem?_map, ex]; rfl
    refine .inr ⟨⟨_, _, hq, ev⟩, Pv (as.take k ++ [as[k]]), fun σ'' H'' p' => ⟨as.length - (k + 1), by omega, rfl, hlt, by rw [take_snoc ex]; exact p'⟩, fun x H2 y => ?_⟩
    obtain ⟨T, x', rfl, hT, rfl, f1⟩ := y
    have e1 := Option.some.inj (ev.symm.trans (f1 _ hq))
    subst e1
    refine ⟨T, _, rfl, .inl (.inl upd_same), rfl, _, _, rfl, _, _, rfl, rfl, ?_⟩
    have q := hs (as.take k) as[k] (as.drop (k + 1)) σ' _ (split_at ex) (mono _ _ _ _ p (Evl.Ex.new (o := .tup [.int (k : Nat), f as[k]]) hT))
    have el : (as.take k).length = k := by rw [List.length_take]; omega
    rw [el] at q
    exact q
  · have e : k = as.length := by omega
    subst e
    refine .inl ⟨⟨_, hq, by rw [List.length_map]; exact Nat.le_refl _⟩, hd σ' H' ?_⟩
    rw [List.take_length] at p
    exact p
end
end B
namespace B
open PySem PySem.Spec PyProof.Rows L2
/-- a statement at which the steps stop -/
def tStop (t : TS) : TS := t
theorem ps_stop {X : Cx} {st : Stmt} {t : TS} (h : PS X st t) : PS X st (tStop t) := h
theorem x_stop {t : TS} {D : Ends} {σ : L2.St} {H : Hp} (h : t D σ H) : tStop t D σ H := h
/-- what follows a statement is shown once, from R -/
theorem x_join {t : TS} {D : Ends} {σ : L2.St} {H : Hp} (R : L2.St → Hp → Prop) (hr : ∀ σ' H', R σ' H' → D.nx σ' H') (h : (∀ σ' H', R σ' H' → D.nx σ' H') → t D σ H) : tStop t D σ H := h hr
/-- an edge that the search for facts does not take -/
def Far (H H' : Hp) : Prop := Ex H H'
theorem Far.of {H H' : Hp} (e : Ex H H') : Far H H' := e
theorem Far.e {H H' : Hp} (e : Far H H') : Ex H H' := e
theorem inV_int (b : Int) (ms : List Int) : inV (.int b) (ms.map V.int) = decide (b ∈ ms) := by
  unfold inV
  induction ms with
  | nil => simp
  | cons a ms ih =>
    rw [List.map_cons, List.any_cons, ih]
    by_cases h : b = a
    · subst h
      simp [eqV]
    · have h2 : ¬ a = b := fun z => h z.symm
      simp [eqV, h, h2]
theorem x_notIn {K : PySem.W.Frag} {H : Hp} {Q : VK} {p : Addr} {ms : List Int} {b : Int} (h : SqL K H p (ms.map V.int)) (q : Q (.bl (!decide (b ∈ ms))) H) : rIn K true (.int b) (.ref p) H Q :=
  ⟨p, _, rfl, .inl h, rfl, by simp [flatV], by rw [inV_int]; exact q⟩
theorem x_isIn {K : PySem.W.Frag} {H : Hp} {Q : VK} {p : Addr} {ms : List Int} {b : Int} (h : SqL K H p (ms.map V.int)) (q : Q (.bl (decide (b ∈ ms))) H) : rIn K false (.int b) (.ref p) H Q :=
  ⟨p, _, rfl, .inl h, rfl, by simp [flatV], by rw [inV_int]; exact q⟩
theorem cut_init (xs : List V) : cutV xs none (some (-1)) = xs.dropLast := by
  unfold cutV
  have h : HT.sIx xs.length xs.length (some (-1)) = xs.length - 1 := by
    show (if (-1 : Int) < 0 then ((-1 : Int) + (xs.length : Int)).toNat else min (-1 : Int).toNat xs.length) = _
    rw [if_pos (by decide)]
    omega
  rw [HT.sIx_none, h, List.drop_zero, Nat.sub_zero, List.dropLast_eq_take]
end B

namespace B
open PySem PySem.Spec PyProof.Rows L2
open PySem.W (Frag)
/-! ### an exception that is caught and kept under a name -/
/-- the exception at a: an instance of cls, with its fields, without a dict of its own -/
def ExC (a : Addr) (cls : Value) (d : Option Addr) : HO := .ext fun h => ∃ (oe : Obj) (vs : Array Value), h.get? a = some oe ∧ Zc cls d oe ∧ oe.data = .fields vs
section
variable {X : Cx} {pins : List (Addr × Obj)} {σ : L2.St} {H : Hp} {s : Shared}
theorem exC_ok {P : Program} {w : World} {H : Hp} {h : Heap} {a : Addr} {cls : Value} {d : Option Addr} {oe : Obj} {vs : Array Value} (e : h.get? a = some oe) (z : Zc cls d oe) (hd : oe.data = .fields vs) : ObjOk P w H h a (ExC a cls d) :=
  ⟨⟨oe, vs, e, z, hd⟩, ⟨oe, e⟩, fun h1 h2 ⟨o, us, g1, g2, g3⟩ k => ⟨o, us, k _ g1, g2, g3⟩⟩
/-- an object of which nothing was said, new since the entry, is told of from now on -/
theorem inv_track {a : Addr} {cls : Value} {d : Option Addr} {oe : Obj} {vs : Array Value} (I : Inv X pins σ H s) (e : s.heap.get? a = some oe) (z : Zc cls d oe) (hd : oe.data = .fields vs) (na : H a = none)
    (nL : a ≠ X.env.locals) (n0 : X.s_0.heap.get? a = none) (np : ∀ p ∈ X.pn ++ pins, p.1 ≠ a) : Inv X pins σ (upd H a (ExC a cls d)) s where
  ok := I.ok
  os := I.os
  bare := I.bare
  base :=
    { keep := I.base.keep
      slot := I.base.slot
      free := fun b o h1 h2 h3 => by
        rw [upd_ne (fun q => by rw [q, n0] at h1; cases h1)]
        exact I.base.free b o h1 h2 h3
      there := I.base.there
      tups := fun b xs q => by
        have r := I.base.tups b xs q
        rw [upd_ne (ne_of_none r na)]
        exact r
      frzs := fun b o u q => by
        have r := I.base.frzs b o u q
        rw [upd_ne (ne_of_none r na)]
        exact r
      tbls := fun b ps q => by
        obtain ⟨m, r⟩ := I.base.tbls b ps q
        exact ⟨m, by rw [upd_ne (ne_of_none r na)]; exact r⟩ }
  loc := I.loc
  cell := I.cell
  free := by rw [upd_ne (Ne.symm nL)]; exact I.free
  freeC := fun x c hc => by
    have ne : c ≠ a := by
      rintro rfl
      obtain ⟨v, hv⟩ := I.cell x c hc
      obtain ⟨oc, h1, h2⟩ := hv
      rw [e] at h1
      cases h1
      rw [hd] at h2
      cases h2
    rw [upd_ne ne]
    exact I.freeC x c hc
  pin := fun p hp => by
    obtain ⟨h1, h2, h3, h4, h5⟩ := I.pin p hp
    exact ⟨h1, by rw [upd_ne (np p hp)]; exact h2, h3, h4, h5⟩
  hok := fun b u q => by
    by_cases hb : b = a
    · subst hb
      rw [upd_same] at q
      cases q
      exact exC_ok e z hd
    · rw [upd_ne hb] at q
      exact (I.hok b u q).stay (fun _ _ _ r => r) (fun c r => by rw [upd_ne (ne_of_none r na)]; exact r) fun c xs r => by rw [upd_ne (ne_of_none r na)]; exact r
  len := I.len
/-- what is wished where the body raises: caught, kept in slot j, the clause's own name (slot i) gone; or not of the class -/
def wKeep (K : Frag) (c : Value) (i j : Nat) (Wout : WX) (D : Ends) : WX := fun cls d σ H =>
  ∃ b, PySem.W.exmOne K cls c = some b ∧ (b = true → ∀ a, H a = none → D.nx (((σ.set i (some (.ref a))).set j (some (.ref a))).set i none) (upd H a (ExC a cls d))) ∧ (b = false → Wout cls d σ H)
end
section
variable {X : Cx} {x n : Str} {c : Value} {i j : Nat} {body suite : List Stmt} {st0 : Stmt} {q1 q2 q3 : Pos} {tb : WX → TS} {Wout : WX}
/-- try: body / except x as n: kept = n -/
theorem ps_try_keep (stk : X.stack = X.env :: X.outer) (frm : X.env.frame = some X.env.locals) (noex : X.ex = []) (nd : X.N.Nodup) (ni : X.N[i]? = some n) (loc : X.env.kindOf n = some .local) (nm : Names X x c) (out : Takes X Wout)
    (run : ∀ (W : WX) (pn : List (Addr × Obj)) (xe : Value → Shared → Prop), Takes (X.tr pn xe) W → PassesOwn (model X.prog X.w) X.A X.env xe → PSs (X.tr pn xe) body (tb W))
    (sui : ∀ (a : Addr) (oe : Obj) (pn : List (Addr × Obj)), PSs (X.suite a ((a, oe) :: pn)) (st0 :: suite) (tAsg (tVar i) (gName j))) :
    PS X (.Try body [.ExceptHandler (some (.Name x q1)) (some n) (st0 :: suite) q2] [] [] q3) (fun D σ H => tb (wKeep X.K c i j Wout D) D σ H) := by
  constructor
  intro pins s σ H D I go
  have good := I.ok
  have hfrs : X.A.frames = some (X.env :: X.outer) := good.frames.trans (congrArg some stk)
  apply wpAny_Try_except
  have B0 := (run (wKeep X.K c i j Wout D) (X.pn ++ pins) (fun ev z1 => wpAny (model X.prog X.w) X.A (noteFrame ev X.env) (fun _ z2 => wpAny (model X.prog X.w) X.A (setFlight ev none) (fun _ z3 => wpAny (model X.prog X.w) X.A
    (handleBy ev X.env [.ExceptHandler (some (.Name x q1)) (some n) (st0 :: suite) q2]) (SP X pins D) X.xe z3) X.xe z2) X.xe z1) ?caught PassesOwn.looking).run [] s σ H D (I.toTry _) go
  case caught =>
    rintro u z ⟨a, G, sG, pp, σ', H', cls, d, rfl, JT, apart, upto, sky, free, eos, eag, b, isC, yes, no⟩
    have J : Inv X pins σ' H' sG := JT.ofTry good
    rw [stk] at sky
    show wpAny (model X.prog X.w) X.A (noteFrame (.ref a) X.env) _ _ _
    refine Sky.land Zc.steady hfrs frm sky fun hA fA uA => ?_
    have JA : Inv X pins σ' H' { z with heap := hA } := J.landed apart fA.1 (upto.trans uA) eos eag
    obtain ⟨oA, vA, gA, zA, dA⟩ := fA.there
    have offStack : a ∉ frs (X.env :: X.outer) := fun m => by
      obtain ⟨_, o', g', nf⟩ := fA.2.2.1.mem m
      rw [gA] at g'
      cases g'
      exact nf _ dA
    have offLoc : a ≠ X.env.locals := fun q => offStack (List.mem_filterMap.mpr ⟨X.env, List.mem_cons_self, by rw [frm, q]⟩)
    have offOut : a ∉ X.fs := fun m => by
      obtain ⟨ev, he, hq⟩ := List.mem_filterMap.mp m
      exact offStack (List.mem_filterMap.mpr ⟨ev, List.mem_cons_of_mem _ he, hq⟩)
    have newG : sG.heap.get? a = none := by
      cases e : sG.heap.get? a with
      | none => rfl
      | some o =>
        have g1 := apart a o e (by rw [stk]; exact offStack)
        rw [fA.2.1] at g1
        cases g1
    have newS : X.s_0.heap.get? a = none := by
      cases e : X.s_0.heap.get? a with
      | none => rfl
      | some o =>
        obtain ⟨o', g1⟩ := J.base.there a o e (by rw [noex]; simp)
        rw [newG] at g1
        cases g1
    have apartP : ∀ p ∈ X.pn ++ pins, p.1 ≠ a := fun p hp q => by
      have g1 := (J.pin p hp).1
      rw [q, newG] at g1
      cases g1
    have SA := JA.suite gA dA free offLoc offOut
    refine wpAny_handleBy_cons (codeAny_handlers_test ?_) (by intro q; cases q)
    have tyA : PySem.W.Looks (model X.prog X.w) hA (typeOf (.ref a)) cls := fun _ _ _ _ k r => wpAny_typeOf_ref (k _ _ gA) (by rw [zA.1]; exact r)
    have isA := PySem.W.exm_one (M := model X.prog X.w) JA.kIn tyA isC
    have look : ∀ {Q E : Value → Shared → Prop}, Q c { z with heap := hA } → wpAny (model X.prog X.w) (X.A.mark (some (.ref a))) (eval (.Name x q1) X.env) Q E { z with heap := hA } := fun r => by
      rcases nm with ⟨g1, g2, g3 | ⟨g3, g4, g5⟩⟩
      · exact ld_glob (X := X.suite a ((a, oA) :: (X.pn ++ pins))) SA g1 g3 r g2
      · exact ld_blt (X := X.suite a ((a, oA) :: (X.pn ++ pins))) SA g1 g3 g4 r g5 g2
    refine look (isA.here ?_)
    cases b
    · -- another class: it flies on
      show wpAny _ X.A (handleBy (.ref a) X.env []) _ _ _
      apply wpAny_handleBy_nil
      have flyOn : wpAny (model X.prog X.w) X.A (setFlight (.ref a) X.env.frame) (fun _ z4 => wpAny (model X.prog X.w) X.A (throw (.ref a) : Sem Flow) (SP X pins D) X.xe z4) X.xe { z with heap := hA } := by
        rw [frm]
        refine HandSPX.setFlight_upZ fA fun hB fB uB => wpAny_throw (out _ _ ⟨a, G, sG, pins, σ', H', cls, d, rfl, J, apart, (upto.trans uA).trans uB, ?_, free, eos, eag, no rfl⟩)
        rw [stk]
        exact .inr (.inr fB)
      obtain ⟨_, _, _, oe, us, T, oT, ts, g1, g2, g3, g4, g5⟩ := id fA
      unfold PySem.passOn
      refine wpAny_bind (wpAny_field g1 g3 g4 ?_)
      rw [if_neg (show ¬ ((Value.ref T == Value.none) = true) from by simp)]
      first
        | exact wpAny_bind (wpAny_pure (wpAny_bind flyOn))
        | exact wpAny_bind flyOn
    · -- the clause's own
      apply codeAny_handlers_suite_as
      refine HandSPX.lands_againZ fA fun hB fB uB => ?_
      have JB : Inv X pins σ' H' { z with heap := hB } := J.landed apart fB.1 ((upto.trans uA).trans uB) eos eag
      obtain ⟨oB, vB, gB, zB, dB⟩ := fB.there
      have SB := JB.suite gB dB free offLoc offOut
      refine store_ok (X := X.suite a ((a, oB) :: (X.pn ++ pins))) (v := .ref a) SB nd ni (.inl loc) rfl (fun z5 S5 => ?_) (.inr loc)
      have li : i < σ'.length := by rw [J.len]; exact (List.getElem?_eq_some_iff.mp ni).1
      have fin := (sui a oB (X.pn ++ pins)).run [] z5 _ H' { nx := fun σ6 H6 => σ6 = (σ'.set i (some (.ref a))).set j (some (.ref a)) ∧ H6 = H', rt := fun _ _ => False, bk := fun _ _ => False, ct := fun _ _ => False } S5
        ⟨.ref a, by rw [List.getElem?_set_self li], rfl, rfl⟩
      refine wpAny_mono fin (fun fl z6 hz => ?_) (fun _ _ q => q.elim)
      cases fl with
      | next =>
        obtain ⟨σ6, H6, S6, rfl, rfl⟩ := hz
        have g6 := (S6.pin (a, oB) (List.mem_append.mpr (.inl List.mem_cons_self))).1
        have T6 := inv_track (S6.unsuite good) g6 zB dB free offLoc newS apartP
        exact gone_ok T6 nd ni loc fun z7 J7 => ⟨_, _, J7, yes rfl a free⟩
      | brk => obtain ⟨_, _, _, q⟩ := hz; exact q.elim
      | cont => obtain ⟨_, _, _, q⟩ := hz; exact q.elim
      | ret u => obtain ⟨_, _, _, _, _, q⟩ := hz; exact q.elim
  refine wpAny_mono B0 (fun fl z hz => ?_) (fun _ _ q => q)
  cases fl with
  | next => obtain ⟨σ', H', J, q⟩ := hz; exact wpAny_execs_nil ⟨σ', H', J.ofTry good, q⟩
  | brk => obtain ⟨σ', H', J, q⟩ := hz; exact ⟨σ', H', J.ofTry good, q⟩
  | cont => obtain ⟨σ', H', J, q⟩ := hz; exact ⟨σ', H', J.ofTry good, q⟩
  | ret u => obtain ⟨v, σ', H', J, r, q⟩ := hz; exact ⟨v, σ', H', J.ofTry good, r, q⟩
end
/-! ### isinstance of what was caught -/
/-- None, or an exception whose class is D -/
inductive Caught (K : Frag) (H : Hp) : V → Option Addr → Prop where
  | no : Caught K H .non none
  | yes {a D : Addr} (h : H a = some (ExC a (.ref D) none)) : Caught K H (.ref a) (some D)
theorem Caught.ex {K : Frag} {H H' : Hp} {x : V} {o : Option Addr} (e : Ex H H') (h : Caught K H x o) : Caught K H' x o := by
  cases h with
  | no => exact .no
  | yes h => exact .yes (e _ _ h)
/-- the class of what was caught -/
def clsOf : Option Addr → Value
  | none => .type "NoneType"
  | some D => .ref D
def rIsiC (K : Frag) : List V → Hp → VK → Prop := fun xs H Q => ∃ (x cv : V) (o : Option Addr) (u : Value) (b : Bool), xs = [x, cv] ∧ ClsV cv u ∧ Caught K H x o ∧ (∀ D, o = some D → ExcC K D) ∧ PySem.W.kitOne K (clsOf o) u = some b ∧ Q (.bl b) H
def rIsiCT (K : Frag) : List V → Hp → VK → Prop := fun xs H Q => ∃ (x : V) (tp : Addr) (cs : List V) (o : Option Addr) (us : List Value) (b : Bool), xs = [x, .ref tp] ∧ H tp = some (.tup cs) ∧ Paired ClsV cs us ∧ Caught K H x o ∧ (∀ D, o = some D → ExcC K D) ∧ PySem.W.kitAny K (clsOf o) us = some b ∧ Q (.bl b) H
section
variable {X : Cx} {pins : List (Addr × Obj)} {σ : L2.St} {H : Hp} {s : Shared}
theorem kit_caught {x : V} {u : Value} {o : Option Addr} (I : Inv X pins σ H s) (rx : RelV x u) (h : Caught X.K H x o) (hc : ∀ D, o = some D → ExcC X.K D) : ∃ P : Heap → Prop, PySem.W.KitX X.K u (clsOf o) P ∧ P s.heap ∧ u ≠ .builtin "__main__.__loader__#opaque" := by
  cases h with
  | no => cases (show u = Value.none from rx); exact ⟨_, PySem.W.kitx_none, True.intro, fun z => nomatch z⟩
  | @yes a D e =>
    cases (show u = Value.ref a from rx)
    obtain ⟨⟨oe, vs, g1, g2, g3⟩, _, _⟩ := (show ObjOk X.prog X.w H s.heap a (ExC a (.ref D) none) from I.hok a _ e)
    have C := hc D rfl
    have J : PySem.W.InstAt s.heap a oe D none := by
      obtain ⟨oc, od, oda, osl⟩ := oe
      obtain ⟨e1, e2⟩ := g2
      dsimp only at e1 e2 g3
      subst e1 e2 g3
      exact ⟨g1, rfl, rfl, trivial⟩
    exact ⟨_, PySem.W.handS_kitx_exc C.hg C.hk C.hs C.hd C.ha C.hn C.ht C.hm, J, fun z => nomatch z⟩
theorem call_isiC : CallR X (.builtin "isinstance") (rIsiC X.K) := by
  intro pins s σ H xs us Q I r h
  obtain ⟨x, cv, o, w, b, rfl, k, ca, hc, e, q⟩ := h
  obtain ⟨u1, u2, rfl, r1, r2⟩ := vals2 r
  obtain rfl := k.eq r2
  obtain ⟨P, Z, p, hx⟩ := kit_caught I r1 ca hc
  exact PySem.W.kia_one Z I.kIn p e hx fun tk => ⟨.bl b, H, I.tok tk, rfl, q⟩
theorem call_isiCT : CallR X (.builtin "isinstance") (rIsiCT X.K) := by
  intro pins s σ H xs us Q I r h
  obtain ⟨x, tp, cs, o, ws, b, rfl, hT, k, ca, hc, e, q⟩ := h
  obtain ⟨u1, u2, rfl, r1, r2⟩ := vals2 r
  cases (show u2 = Value.ref tp from r2)
  obtain ⟨P, Z, p, hx⟩ := kit_caught I r1 ca hc
  obtain ⟨_, its, rv, ob, g1, g2, n, g3⟩ := (show ObjOk X.prog X.w H s.heap tp (.tup cs) from I.hok tp _ hT)
  obtain rfl := ClsV.all k rv
  obtain ⟨oc, od, dt, sl⟩ := ob
  simp only at g2 g3
  subst g2 g3
  exact PySem.W.kia_tup Z I.kIn p g1 e hx fun tk => ⟨.bl b, H, I.tok tk, rfl, q⟩
end
end B

namespace B
open PySem PySem.Spec PyProof.Rows L2
open PySem.W (Frag)
section
/-! ### (v,) * n, any n -/
theorem tupMul_one (l : Addr) (its : Array Value) (n : Nat) (dd : Option Addr) (sl : Array (Option Value)) (u : Tok) :
    Meets (Builtin.«tuple.__mul__» ⟨[.ref l, .int 1 u], []⟩) (fun _ R s => s.heap.get? l = some { cls := .type "tuple", dict := dd, data := .seq its n, slots := sl } ∧ R (.ok (.ret (Value.ref l))) s) :=
  .of_wp fun prog w A R s h => by
    obtain ⟨hp, g, d, tk, os⟩ := s
    obtain ⟨hl, h⟩ := h
    have f1 := AutoSeq1.idx_int
    have c1 : (its.isEmpty || (1 : Int) == 1) = true := by simp
    wp_walk using wpAny_loadPart' hl
    exact ⟨_, rfl, h⟩
theorem tupMul_none (l : Addr) (its : Array Value) (n : Nat) (dd : Option Addr) (sl : Array (Option Value)) (k : Int) (u : Tok) (hk : k ≤ 0) (hk2 : -1000000 ≤ k) (hi : its.isEmpty = false) :
    Meets (Builtin.«tuple.__mul__» ⟨[.ref l, .int k u], []⟩) (fun _ R s => s.heap.get? l = some { cls := .type "tuple", dict := dd, data := .seq its n, slots := sl } ∧
      R (.ok (.ret (Value.ref s.heap.objs.size))) { s with heap := s.heap.push { cls := Value.type "tuple", data := Data.seq #[] }, toks := s.toks }) :=
  .of_wp fun prog w A R s h => by
    obtain ⟨hp, g, d, tk, os⟩ := s
    obtain ⟨hl, h⟩ := h
    have f1 := AutoSeq1.idx_int
    have c0 : (decide (k < -(2 ^ 63)) || decide (k ≥ 2 ^ 63)) = false := by rw [decide_eq_false (by omega), decide_eq_false (by omega)] <;> rfl
    have c1 : (its.isEmpty || k == 1) = false := by rw [hi, Bool.false_or]; exact beq_eq_false_iff_ne.mpr (by omega)
    have c2 : (decide (k ≤ 0) || its.isEmpty) = true := by rw [decide_eq_true hk]; rfl
    wp_walk using wpAny_loadPart' hl
    repeat (first
      | (refine wpAny_ite_false (decide_eq_false (by rw [c0]; exact Bool.false_ne_true)) ?_; wp_walk using wpAny_loadPart' hl)
      | (refine wpAny_ite_false (decide_eq_false (by rw [c1]; exact Bool.false_ne_true)) ?_; wp_walk using wpAny_loadPart' hl)
      | (refine wpAny_ite_true (decide_eq_true c2) ?_; wp_walk using wpAny_loadPart' hl))
    exact ⟨_, rfl, h⟩
end
/-- t * k of a tuple that isn't empty -/
def rRepTX (K : Frag) : R2 := fun x y H Q => ∃ l k xs, x = .ref l ∧ y = .int k ∧ H l = some (.tup xs) ∧ xs ≠ [] ∧ -1000 ≤ k ∧ k ≤ 1000 ∧ xs.length ≤ 1000 ∧
  ∀ p H', Ex H H' → H' p = some (.tup (List.replicate k.toNat xs).flatten) → Q (.ref p) H'
theorem op_repTX {X : Cx} : OpR X (binaryOp .Mult) (rRepTX X.K) := by
  intro pins s σ H x y v u Q I rx ry h
  obtain ⟨l, k, xs, rfl, rfl, hT, hne, h1, h2, hz, q⟩ := h
  by_cases k2 : 2 ≤ k
  · exact op_repT pins s σ H _ _ v u Q I rx ry ⟨l, k, xs, rfl, rfl, .inl (.inl hT), hne, k2, h2, hz, fun p hp => q p _ (Evl.Ex.new hp) upd_same⟩
  · cases rx
    obtain ⟨t, rfl⟩ := ry
    obtain ⟨hs, its, r, ⟨cls, dd, data, sl⟩, ho, hc, n, hd⟩ := (show ObjOk X.prog X.w H s.heap l (.tup xs) from I.hok l _ hT)
    simp only at hc hd
    subst hc hd
    have hle : its.length = xs.length := r.length.symm
    have hi : its.toArray.isEmpty = false := by
      cases its with
      | nil => exact absurd (List.eq_nil_of_length_eq_zero hle.symm) hne
      | cons a b => rfl
    have go : ∀ {P : Value → Shared → Prop}, wpAny (model X.prog X.w) X.A (call (.builtin "tuple.__mul__") [.ref l, .int k t]) P X.xe s → wpAny (model X.prog X.w) X.A (binaryOp .Mult (.ref l) (.int k t)) P X.xe s := fun {P} w =>
      wpAny_binaryOp_repeat_ref (T := "tuple") (U := "int") (by decide) ⟨_, ho, rfl⟩ (fun s' => typeIs_int s' k t) noFill_tuple_mul F.fills_int_mul F.slot_int_rmul repeat_tuple F.slot_int_index.lookup
        (call_meets F.slot_int_rmul (typeIs_int s k t) F.entry_int_rmul (F.args_int_rmul_2 _ _) (int_rmul_tuple k t l its.toArray n dd sl) ⟨ho, rfl, ⟨_, ho, rfl⟩, w⟩)
    by_cases k1 : k = 1
    · subst k1
      refine go (call_meets F.slot_tuple_mul ⟨_, ho, rfl⟩ F.entry_tuple_mul (F.args_tuple_mul_2 _ _) (tupMul_one l its.toArray n dd sl t) ⟨ho, ?_⟩)
      refine ⟨.ref l, H, I, rfl, q l H (Evl.Ex.refl H) ?_⟩
      rw [hT]
      simp
    · refine go (call_meets F.slot_tuple_mul ⟨_, ho, rfl⟩ F.entry_tuple_mul (F.args_tuple_mul_2 _ _) (tupMul_none l its.toArray n dd sl k t (by omega) (by omega) hi) ⟨ho, ?_⟩)
      have hn := I.hok.fresh (Nat.le_refl _)
      refine ⟨.ref s.heap.objs.size, _, I.laid (t' := s.toks) (o := .tup []) (fun b ob q => Heap.get?_push_of_some _ q) (Nat.le_refl _) ⟨Nat.zero_le _, [], .nil, IsTup.new _ _⟩, rfl, q _ _ (Evl.Ex.new hn) ?_⟩
      rw [upd_same, show k.toNat = 0 from by omega]
      rfl
section
/-! ### xs + ys of lists that are only read -/
theorem addL_meets (l b : Addr) (its its2 : Array Value) (n n2 : Nat) (dd dd2 : Option Addr) (sl sl2 : Array (Option Value)) (hz : its.size + its2.size ≤ sizeLine) :
    Meets (Builtin.«list.__add__» ⟨[.ref l, .ref b], []⟩) (fun _ R s => s.heap.get? l = some { cls := .type "list", dict := dd, data := .seq its n, slots := sl } ∧ s.heap.get? b = some { cls := .type "list", dict := dd2, data := .seq its2 n2, slots := sl2 } ∧
      R (.ok (.ret (Value.ref s.heap.objs.size))) { s with heap := s.heap.push { cls := Value.type "list", data := Data.seq (its ++ its2) }, toks := s.toks }) :=
  .of_wp fun prog w A R s h => by
    obtain ⟨hp, g, d, tk, os⟩ := s
    obtain ⟨hl, hb, h⟩ := h
    have f3 := AutoSeq1.sub_list_list
    wp_walk using wpAny_loadPart' hl, wpAny_loadPart' hb
    exact ⟨_, rfl, h⟩
end
def rCatR (K : Frag) : R2 := fun x y H Q => ∃ l b xs ys, x = .ref l ∧ y = .ref b ∧ SqL K H l xs ∧ SqL K H b ys ∧ xs.length + ys.length ≤ 1000000 ∧ ∀ p, H p = none → Q (.ref p) (upd H p (.lst (xs ++ ys)))
theorem op_catR {X : Cx} : OpR X (binaryOp .Add) (rCatR X.K) := by
  intro pins s σ H x y v u Q I rx ry h
  obtain ⟨l, b, xs, ys, rfl, rfl, h1, h2, hz, q⟩ := h
  cases rx
  cases ry
  obtain ⟨its, r1, ⟨⟨c1, d1, t1, s1⟩, n1, g1, e1, e2, e3⟩, _⟩ := I.list h1
  obtain ⟨its2, r2, ⟨⟨c2, d2, t2, s2⟩, n2, g2, e4, e5, e6⟩, _⟩ := I.list h2
  simp only at e1 e2 e3 e4 e5 e6
  subst e1 e2 e3 e4 e5 e6
  have hl1 := r1.length
  have hl2 := r2.length
  refine concat_meets ⟨_, g1, rfl⟩ ⟨_, g2, rfl⟩ noFill_list_add seq_list_add F.slot_list_add F.entry_list_add (F.args_list_add_2 _ _) (addL_meets l b its.toArray its2.toArray n1 n2 none none s1 s2 (by rw [List.size_toArray, List.size_toArray]; exact sz (by omega))) ⟨g1, g2, ?_⟩
  have ea : its.toArray ++ its2.toArray = (its ++ its2).toArray := by simp
  rw [ea]
  exact ⟨.ref _, _, I.lnew (t' := s.toks) (r1.append r2) (by rw [List.length_append]; exact sz hz), rfl, q _ I.fresh⟩
/-! ### name *= e, of ints -/
def ipM : TIp := fun x y H Q => ∃ i j, x = .int i ∧ y = .int j ∧ CMul i j ∧ Q (.int (i * j)) H
theorem ip_mul {X : Cx} : PIp X .Mult ipM := by
  intro pins s σ H x y v u Q I r1 r2 h
  obtain ⟨i, j, rfl, rfl, c, q⟩ := h
  obtain ⟨t, rfl⟩ := r1
  obtain ⟨t', rfl⟩ := r2
  exact imul_int ⟨.int _, H, I.tok _, ⟨_, rfl⟩, q⟩ c.ok
section
variable {X : Cx} {k i : Nat} {f : Addr} {x : Str} {p pos : Pos} {e : Expr} {es : List Expr} {t : TA}
/-! ### a call of a def that a local name holds, one of a family; what it raises is wished for at the caller's slots -/
def tCallF (i : Nat) (S : Addr → Sp → Prop) (E : L2.St → XK) (t : TA) : TE := fun σ H Q => ∃ f sp, σ[i]? = some (some (.ref f)) ∧ S f sp ∧ t σ H fun vs H1 => sp vs H1 Q (E σ)
/-- the defs of a family keep their promises -/
def Fam (P : Program) (w : World) (K : Frag) (mg : Str → Option Value) (base : Heap) (k : Nat) (S : Addr → Sp → Prop) : Prop :=
  ∀ f sp, S f sp → ∃ fd ps, FnOk P w K mg base (L2.CX P w) k f fd ps sp ∧ PySem.W.keepIn K (.ref f) = true ∧ Binds K fd ps []
theorem pe_callF {S : Addr → Sp → Prop} {E : L2.St → XK} {j : Nat} (A : Fam X.prog X.w X.K X.mg X.base j S) (hr : Room k X.A) (hx : ∀ σ, PassesAt (L2.CX X.prog X.w) X σ (E σ)) (ha : PA X (e :: es) t) (hj : j ≤ k := by decide) (hN : X.N[i]? = some x := by rfl)
    (hv : Vis X.env.scope x := by first | exact Or.inl rfl | exact Or.inr (Or.inl rfl) | exact Or.inr (Or.inr rfl)) (hdb : (x == ("__debug__" : Str)) = false := by decide) (hcd : (x == ("__classdict__" : Str)) = false := by decide)
    (he : starEach (e :: es) X.env = (false, eval e X.env) :: starEach es X.env := by rfl) (hpl : (backTo pos (starEach es X.env)).any (·.1) = false := by rfl) : PE X (.Call (.Name x p) (e :: es) [] pos) (tCallF i S E t) := by
  constructor
  intro pins s σ H Q I h
  obtain ⟨f, sp, hs, hS, ht⟩ := h
  obtain ⟨fd, ps, F, hk, hb⟩ := A f sp hS
  refine wpAny_Call_Name_kw (thn ((pe_var (pos := p) hN hv hdb hcd).run pins s σ H (fun v H1 => v = .ref f ∧ H1 = H) I ⟨.ref f, hs, rfl, rfl⟩) fun u s1 z => ?_)
  obtain ⟨v, H1, I1, r1, rfl, rfl⟩ := z
  cases r1
  exact PySem.W.callWith_K (h₀ := X.base) I.ok.mod.kin hk (thn (ha.run pos pins s1 σ _ _ I1 ht) fun us s2 z2 => by
    obtain ⟨vs, H2, I2, r, q⟩ := z2
    exact ⟨I2.kIn, run_fnS F (hr.mono hj) hb (hx σ) I2 r q⟩) he hpl
end
section
variable {K : Frag} {σ : L2.St} {H H' : Hp} {Q : VK} {i j : Nat} {v x y z : V} {ta tb te tl to ti : TE} {tt : TT} {t tr : TA} {b : Bool} {D : Ends} {ts : TS} {g : TG} {a l p : Addr} {xs ys : List V}
theorem x_ipM {m n : Int} (c : CMul m n) (q : Q (.int (m * n)) H) : ipM (.int m) (.int n) H Q := ⟨m, n, rfl, rfl, c, q⟩
theorem x_catR (h1 : SqL K H a xs) (h2 : SqL K H l ys) (hz : xs.length + ys.length ≤ 1000000) (q : ∀ p H', H p = none → Ex H H' → H' p = some (.lst (xs ++ ys)) → Q (.ref p) H') : rCatR K (.ref a) (.ref l) H Q := ⟨a, l, xs, ys, rfl, rfl, h1, h2, hz, x_new q⟩
theorem x_cat (h1 : H a = some (.lst xs)) (h2 : H l = some (.lst ys)) (hz : xs.length + ys.length ≤ 1000000) (q : ∀ p H', H p = none → Ex H H' → H' p = some (.lst (xs ++ ys)) → Q (.ref p) H') : rCat (.ref a) (.ref l) H Q := ⟨a, l, xs, ys, rfl, rfl, h1, h2, sz hz, x_new q⟩
/-- (v,) * n -/
theorem x_repT {n : Int} (h : H a = some (.tup [v])) (h0 : -1000 ≤ n) (h1 : n ≤ 1000) (q : ∀ p H', Ex H H' → H' p = some (.tup (List.replicate n.toNat v)) → Q (.ref p) H') : rRepTX K (.ref a) (.int n) H Q :=
  ⟨a, n, [v], rfl, rfl, h, by simp, h0, h1, by simp, fun p H' e hp => q p H' e (by rw [hp, List.flatten_replicate_singleton])⟩
/-- xs * n, n from 0 -/
theorem x_repL {n : Int} (hl : H l = some (.lst xs)) (h0 : -1000000 ≤ n) (h1 : n ≤ 1000) (hz : xs.length ≤ 1000) (q : ∀ p H', H p = none → Ex H H' → H' p = some (.lst ((List.replicate n.toNat xs).flatten)) → Q (.ref p) H') : rRep (.ref l) (.int n) H Q := by
  refine ⟨l, n, xs, rfl, rfl, hl, by omega, by omega, sz ?_, fun p hp => q p _ hp (Evl.Ex.new hp) upd_same⟩
  have : xs.length * n.toNat ≤ 1000 * 1000 := Nat.mul_le_mul hz (by omega)
  omega
def rInt1 : List V → Hp → VK → Prop := fun xs H Q => (∃ i, xs = [.int i] ∧ Q (.int i) H) ∨ ∃ k, xs = [.bl k] ∧ Q (.int (if k then 1 else 0)) H
theorem call_int1 {X : Cx} : CallR X (.type "int") rInt1 := L2.call_int1
theorem x_intB {c : Bool} (q : Q (.int (if c then 1 else 0)) H) : rInt1 [.bl c] H Q := .inr ⟨c, rfl, q⟩
theorem x_callF {S : Addr → Sp → Prop} {E : L2.St → XK} {f : Addr} {sp : Sp} (hs : σ[i]? = some (some (.ref f))) (hS : S f sp) (h : t σ H fun vs H1 => sp vs H1 Q (E σ)) : tCallF i S E t σ H Q := ⟨f, sp, hs, hS, h⟩
theorem x_un' {m : Int} (q : Q (.int (-m)) H) : rU (fun i => V.int (-i)) (.int m) H Q := ⟨m, rfl, q⟩
end
/-! ### classes by their names -/
def at_ (mg : Str → Option Value) (x : Str) : Addr := match mg x with
  | some (.ref a) => a
  | _ => 0
theorem at_of {mg : Str → Option Value} {x : Str} {C : Addr} (h : mg x = some (.ref C)) : at_ mg x = C := by
  unfold at_
  rw [h]
theorem m_of {mg : Str → Option Value} {x : Str} {C : Addr} (h : mg x = some (.ref C)) : mg x = some (.ref (at_ mg x)) := by
  rw [at_of h]
  exact h
theorem pe_cls {X : Cx} {x : Str} {C : Addr} {pos : Pos} (m : X.mg x = some (.ref C)) (hg : Gl X x := by rfl) (hd : (x == ("__debug__" : Str)) = false := by decide) : PE X (.Name x pos) (tC (.ref C)) := pe_glob hg m rfl hd
theorem Has.held {P : Program} {w : World} {K : Frag} {mg : Str → Option Value} {base : Heap} {x : Str} {j k : Nat} {ps : List Str} {sp : Sp} (h : Has P w K mg base x j ps sp) (hj : j ≤ k) :
    ∃ fd ps, FnOk P w K mg base (L2.CX P w) k (at_ mg x) fd ps sp ∧ PySem.W.keepIn K (.ref (at_ mg x)) = true ∧ Binds K fd ps [] := by
  obtain ⟨f, fd, F, m, kp, b⟩ := h
  rw [at_of m]
  exact ⟨fd, ps, F.mono hj, kp, b⟩
section
variable {X : Cx} {k j : Nat} {x : Str} {ps : List Str} {sp : Sp} {E : L2.St → XK} {p pos : Pos} {e : Expr} {es : List Expr} {t : TA}
theorem pe_hasS (h : Has X.prog X.w X.K X.mg X.base x j ps sp) (hr : Room k X.A) (hx : ∀ σ, PassesAt (L2.CX X.prog X.w) X σ (E σ)) (ha : PA X (e :: es) t) (hj : j ≤ k := by decide) (hg : Gl X x := by rfl)
    (hdb : (x == ("__debug__" : Str)) = false := by decide) (he : starEach (e :: es) X.env = (false, eval e X.env) :: starEach es X.env := by rfl) (hpl : (backTo pos (starEach es X.env)).any (·.1) = false := by rfl) :
    PE X (.Call (.Name x p) (e :: es) [] pos) (tCallS sp E t) := by
  obtain ⟨f, fd, F, m, kp, b⟩ := h
  exact pe_callS F (hr.mono hj) hg m kp b hx ha hdb he hpl
theorem x_callS {σ : L2.St} {H : Hp} {Q : VK} (h : t σ H fun vs H1 => sp vs H1 Q (E σ)) : tCallS sp E t σ H Q := h
end
section
variable {K : Frag} {H : Hp} {Q : VK} {x : V} {o : Option Addr}
theorem x_isiC {cv : V} {u : Value} {b : Bool} (k : ClsV cv u) (c : Caught K H x o) (hc : ∀ D, o = some D → ExcC K D) (e : PySem.W.kitOne K (clsOf o) u = some b) (q : Q (.bl b) H) : rIsiC K [x, cv] H Q := ⟨x, cv, o, u, b, rfl, k, c, hc, e, q⟩
theorem x_isiCT {tp : Addr} {cs : List V} {us : List Value} {b : Bool} (h : H tp = some (.tup cs)) (k : Paired ClsV cs us) (c : Caught K H x o) (hc : ∀ D, o = some D → ExcC K D) (e : PySem.W.kitAny K (clsOf o) us = some b) (q : Q (.bl b) H) : rIsiCT K [x, .ref tp] H Q :=
  ⟨x, tp, cs, o, us, b, rfl, h, k, c, hc, e, q⟩
end
/-! ### a comprehension whose items are new objects -/
theorem x_lcN {K : Frag} {σ : L2.St} {H : Hp} {Q : VK} {j : Nat} {te : TE} {a : Addr} {vs : List Nat} {α : Type} (as : List α) (f : α → V) (o : α → HO) (hl : SqL K H a (as.map f)) (hz : as.length ≤ 1000000) (hw : ∀ x, wipe ((wipe σ vs).set j (some x)) vs = wipe σ vs)
    (he : ∀ x ∈ as, ∀ H', Ex H H' → ∀ Q' : VK, (∀ p H2, H' p = none → Ex H' H2 → H2 p = some (o x) → Q' (.ref p) H2) → te ((wipe σ vs).set j (some (f x))) H' Q')
    (q : ∀ D H2 (ps : List Addr), H D = none → Ex H H2 → H2 D = some (.lst (ps.map V.ref)) → ps.length = as.length → (∀ (i : Nat) (x : α) (p : Addr), as[i]? = some x → ps[i]? = some p → H2 p = some (o x)) → Q (.ref D) H2) :
    ∃ b, V.ref a = .ref b ∧ (∃ xs, SqL K H b xs) ∧ LcRun (gName j) tYes te vs σ Q (Itl K b) H := by
  refine ⟨a, rfl, ⟨_, hl⟩, fun Dl hD => lc_list (xs := as.map f) (fun k H' => Ex H H' ∧ ∃ ps : List Addr, H' Dl = some (.lst (ps.map V.ref)) ∧ ps.length = k ∧ ∀ (i : Nat) (x : α) (p : Addr), as[i]? = some x → ps[i]? = some p → p ≠ Dl ∧ H' p = some (o x))
    ⟨Evl.Ex.new hD, [], by rw [upd_same]; rfl, rfl, fun i x p _ h => by simp at h⟩ (fun k H' _ pp => Evl.ex_l pp.1 hl) (fun k x H' hx pp => ?_) fun H' pp => ?_⟩
  · rw [List.getElem?_map] at hx
    cases ex : as[k]? with
    | none => rw [ex] at hx; cases hx
    | some n =>
      rw [ex] at hx
      cases hx
      have hk : k < as.length := (List.getElem?_eq_some_iff.mp ex).1
      obtain ⟨e1, ps, hps, hlen, hall⟩ := pp
      refine ⟨hw _, ?_⟩
      refine x_true (B := True) ?_
      refine he n (List.mem_of_getElem? ex) H' e1 _ fun p H2 p0 e2 hp => ?_
      have npD : p ≠ Dl := Ne.symm (ne_of_none hps p0)
      refine ⟨_, e2 _ _ hps, by rw [List.length_map, hlen]; exact szl (by omega), Evl.Ex.mut (e1.trans e2) hD, ps ++ [p], by rw [upd_same, List.map_append]; rfl, by rw [List.length_append, hlen]; rfl, fun i y r hi hr => ?_⟩
      by_cases h : i < ps.length
      · rw [List.getElem?_append_left h] at hr
        obtain ⟨h1, h2⟩ := hall i y r hi hr
        exact ⟨h1, by rw [upd_ne h1]; exact e2 _ _ h2⟩
      · have h2 := (List.getElem?_eq_some_iff.mp hr).1
        rw [List.length_append, List.length_singleton] at h2
        have h3 : i = ps.length := by omega
        subst h3
        rw [List.getElem?_append_right (Nat.le_refl _), Nat.sub_self] at hr
        cases hr
        rw [hlen, ex] at hi
        cases hi
        exact ⟨npD, by rw [upd_ne npD]; exact hp⟩
  · obtain ⟨e1, ps, hps, hlen, hall⟩ := pp
    rw [List.length_map] at hlen
    exact q Dl H' ps hD e1 hps hlen fun i x p hi hp => (hall i x p hi hp).2
theorem at2 {x y : V} {k : Int} (h0 : 0 ≤ k) (h : k < 2) : ∃ v, atI [x, y] k = some v ∧ (v = x ∨ v = y) := by
  rcases (by omega : k = 0 ∨ k = 1) with rfl | rfl
  · exact ⟨x, rfl, .inl rfl⟩
  · exact ⟨y, rfl, .inr rfl⟩
end B

namespace B
open PySem PySem.Spec PyProof.Rows L2
open PySem.W (Frag)
theorem boot_ValueError : bootBuiltins "ValueError" = some (.type "ValueError") := by decide +kernel
/-! ### list(range(a, b, -1)) -/
/-- a, a - 1, .., b + 1 -/
def downs (a b : Int) : List Int := (List.range (a - b).toNat).map fun i => a - (i : Nat)
theorem downs_len (a b : Int) : (downs a b).length = (a - b).toNat := by unfold downs; rw [List.length_map, List.length_range]
def rDownL (Q : VK) : List V → Hp → Prop := fun vs H1 => ∃ i j, vs = [.int i, .int j, .int (-1)] ∧ i ≤ 1000000 ∧ -1000000 ≤ i ∧ j ≤ 1000000 ∧ -1000000 ≤ j ∧ ∀ p, H1 p = none → Q (.ref p) (upd H1 p (.lst ((downs i j).map V.int)))
def tLstDn (ta : TA) : TE := fun σ H Q => ta σ H (rDownL Q)
section
variable {X : Cx} {a b c : Expr} {ta : TA} {p pos p2 pos2 : Pos}
theorem pe_listDn (hc : X.calm = true) (hg : Gl X "list") (hm : X.mg "list" = none) (hg2 : Gl X "range") (hm2 : X.mg "range" = none) (ha : PA X [a, b, c] ta)
    (na : starEach [.Call (.Name "range" p2) [a, b, c] [] pos2] X.env = (false, eval (.Call (.Name "range" p2) [a, b, c] [] pos2) X.env) :: starEach [] X.env := by rfl)
    (hs : starEach [a, b, c] X.env = (false, eval a X.env) :: starEach [b, c] X.env := by rfl) (hpl : (backTo pos2 (starEach [b, c] X.env)).any (·.1) = false := by rfl) :
    PE X (.Call (.Name "list" p) [.Call (.Name "range" p2) [a, b, c] [] pos2] [] pos) (tLstDn ta) := by
  refine ⟨fun pins s σ H Q I h => ?_⟩
  refine Call_ (ld_blt I hg hm boot_list (PyProof.Rows.callWith_type1 (args_cons ?_ na) na))
  refine Call_ (ld_blt I hg2 hm2 boot_range (PyProof.Rows.callWith_type1 (thn (ha.run pos2 pins s σ H _ I h) fun us s1 ⟨vs, H1, I1, r1, q1⟩ => ?_) hs hpl))
  obtain ⟨i, j, e, i1, i2, j1, j2, q⟩ := q1
  subst e
  cases r1 with
  | cons r rr =>
    cases rr with
    | cons r' rr =>
      cases rr with
      | cons r'' rr =>
        cases rr
        obtain ⟨t, rfl⟩ := r
        obtain ⟨t', rfl⟩ := r'
        obtain ⟨t'', rfl⟩ := r''
        refine call_range_3 (by decide) ?_ (.inl (PyProof.noPylong_small (by decide)))
        refine args_nil ?_
        have I2 : Inv X pins σ H1 { s1 with heap := s1.heap.push { cls := .type "range", data := .fields #[.int i t, .int j t', .int (-1) t''] } } := I1.kept (t' := s1.toks) fun b o e => Heap.get?_push_of_some _ e
        refine call_list_range (n := (i - j).toNat) (I2.ok.hd hc) (IsRange.new ..) (PySem.W.small_down (by omega) (by omega) (by omega) (by omega)) (PySem.W.rangeSize_downNat i j) (by omega) fun h' tk acc c' hk e' hi => ?_
        refine ⟨.ref _, upd H1 _ (.lst ((downs i j).map V.int)), I2.laid hk (Nat.le_refl _) (show ObjOk X.prog X.w _ _ _ (.lst ((downs i j).map V.int)) from ⟨?_, acc.toList, c', ?_, ?_⟩), rfl, q _ (I2.hok.fresh (Nat.le_refl _))⟩
        · rw [List.length_map, downs_len]
          rw [sizeLine_eq]
          omega
        · have el : acc.toList.length = (i - j).toNat := by rw [Array.length_toList]; exact hi.1
          unfold downs
          rw [List.map_map, ← el]
          refine vals_of_get acc.toList _ fun k u hu => ?_
          obtain ⟨z, rfl⟩ := hi.2 k u (by rw [← hu, Array.getElem?_toList])
          refine ⟨z, ?_⟩
          show Value.int (i + (k : Nat) * -1) z = Value.int (i - (k : Nat)) z
          rw [show i + ((k : Nat) : Int) * -1 = i - (k : Nat) from by omega]
        · rw [Array.toArray_toList]; exact e'
end
section
variable {K : Frag} {σ : L2.St} {H H' : Hp} {Q : VK} {ta : TA}
theorem x_callF2 {i j k : Nat} {S : Addr → Sp → Prop} {E : L2.St → XK} {f : Addr} {x y : V} (hf : σ[i]? = some (some (.ref f))) (hx : σ[j]? = some (some x)) (hy : σ[k]? = some (some y)) (h : ∃ sp, S f sp ∧ sp [x, y] H Q (E σ)) :
    tCallF i S E (tCons (tVar j) (tCons (tVar k) tNil)) σ H Q := by
  obtain ⟨sp, h1, h2⟩ := h
  exact ⟨f, sp, hf, h1, x, hx, y, hy, h2⟩
theorem x_neD {x y : V} {d e : PyData} {b : Bool} (hd : Dp K H x d) (he : Dp K H y e) (sd : SeqAt.shaped d = true) (se : SeqAt.shaped e = true) (hb : PyData.eqv d e = b) (q : Q (.bl (!b)) H) : rNeD K x y H Q := ⟨d, e, hd, he, sd, se, by rw [hb]; exact q⟩
/-- an exception of the class: kept, the suite's end is what comes next -/
theorem x_kept {i j : Nat} {c cls : Value} {Wout : WX} {D : Ends} (e : PySem.W.exmOne K cls c = some true) (q : ∀ a H', H a = none → Ex H H' → H' a = some (ExC a cls none) → D.nx (((σ.set i (some (.ref a))).set j (some (.ref a))).set i none) H') : WE (wKeep K c i j Wout D) σ cls none H :=
  ⟨true, e, fun _ a h0 => q a _ h0 (Evl.Ex.new h0) upd_same, fun z => nomatch z⟩
theorem x_inL {x : V} {l : Addr} {xs : List V} (h : SqL K H l xs) (hx : flatV x = true) {b : Bool} (hs : xs.all flatV = true) (e : inV x xs = b) (q : Q (.bl b) H) : rIn K false x (.ref l) H Q := ⟨l, xs, rfl, .inl h, hx, hs, by rw [← e] at q; exact q⟩
theorem x_lstDn (h : ta σ H (rDownL Q)) : tLstDn ta σ H Q := h
theorem x_downs {m n : Int} (hm : m ≤ 1000000 ∧ -1000000 ≤ m) (hn : n ≤ 1000000 ∧ -1000000 ≤ n) (q : ∀ p H', H p = none → Ex H H' → H' p = some (.lst ((downs m n).map V.int)) → Q (.ref p) H') : rDownL Q [.int m, .int n, .int (-1)] H :=
  ⟨m, n, rfl, hm.1, hm.2, hn.1, hn.2, fun p hp => q p _ hp (Evl.Ex.new hp) (by rw [upd_same])⟩
end
end B

namespace B
open PySem PySem.Spec PyProof.Rows L2
open PySem.W (Frag DatumOrd minOf maxOf HoldAll)
/-! ### sorted(t) of a tuple of ints -/
section
variable {prog : Program} {w : World} {A : Around} {E : Value → Shared → Prop} {s : Shared}
/-- the heap after a tuple's items were put into a new list -/
def gotHeap (h : Heap) (vs : List Value) : Heap := (h.push (seqObj "list" #[] 0)).update h.objs.size (Obj.mapSeq (· ++ vs.toArray))
theorem got_size (h : Heap) (vs : List Value) : (gotHeap h vs).objs.size = h.objs.size + 1 := by unfold gotHeap; rw [Heap.size_update, size_push']
theorem got_old {h : Heap} {vs : List Value} {b : Addr} {o : Obj} (e : h.get? b = some o) : (gotHeap h vs).get? b = some o := by
  unfold gotHeap; rw [Heap.get?_update_ne _ _ _ _ (Nat.ne_of_lt (Heap.lt_size e))]; exact Heap.get?_push_of_some _ e
theorem collect_tup {t : Addr} {vs : List Value} {Q : List Value → Shared → Prop} (ht : IsTup s.heap t vs.toArray) (hz : vs.length ≤ sizeLine) (h : Q vs { s with heap := gotHeap s.heap vs }) : wpAny (model prog w) A (collect (.ref t)) Q E s := by
  obtain ⟨o, ho, hc, n, hd⟩ := id ht
  unfold collect; refine wpAny_bind (wpAny_runValue (codeAny_builtin entry_proto_collect' ?_))
  show wpAny _ _ (do again (.builtin "list.__iadd__" ⟨[← newList [], .ref t], []⟩)) _ _ s
  refine wpAny_bind (wpAny_newList (wpAny_pure ⟨Code.quiet_builtin _ (by decide +kernel), codeAny_builtin entry_list_iadd' ?_⟩)); show wpAny _ _ (Builtin.List.listExtendWith (.ref s.heap.objs.size) (.ref t) (.ref s.heap.objs.size)) _ _ { s with heap := s.heap.push (seqObj "list" #[] 0) }
  unfold Builtin.List.listExtendWith; have ho' : (s.heap.push (seqObj "list" #[] 0)).get? t = some o := Heap.get?_push_of_some _ ho
  refine wpAny_bind (wpAny_typeOf (T := "tuple") ⟨o, ho', hc⟩ ?_)
  rw [if_pos (by simp)]
  refine wpAny_bind (listItems_at ho' hd (wpAny_bind (listItems_at (xs := #[]) (n := 0) (Heap.get?_push_size _ rfl) rfl ?_)))
  rw [if_neg (by simp)]; refine wpAny_bind (listUpdate_at (xs := #[]) (n := 0) (Heap.get?_push_size _ rfl) rfl (wpAny_pure ?_) (Nat.zero_le _) (by show (#[] ++ vs.toArray).size ≤ sizeLine + 1; rw [Array.size_append, List.size_toArray]; simp only [List.size_toArray, List.length_nil]; omega))
  show wpAny (model prog w) A (load s.heap.objs.size >>= fun o => match o.data with | .seq xs _ => pure xs.toList | _ => unsupported "internal:collect") Q E { s with heap := gotHeap s.heap vs }
  refine wpAny_bind (wpAny_load (get?_update_seq (Heap.get?_push_size _ rfl) _) (show wpAny _ _ (pure ((#[] : Array Value) ++ vs.toArray).toList) Q E _ from ?_))
  rw [show ((#[] : Array Value) ++ vs.toArray).toList = vs by simp]; exact wpAny_pure h
theorem sorted_tup {t : Addr} {vs : List Value} {ns : List Int} {Q : Value → Shared → Prop} (ht : IsTup s.heap t vs.toArray) (hz : vs.length ≤ sizeLine) (hi : IntsAre vs ns)
    (h : ∀ out : List Value, SrtO.Srtd SrtO.ltIv out → SrtO.Stb SrtO.ltIv out vs → Q (.ref (s.heap.objs.size + 1)) { s with heap := sortedAll s.heap vs out.toArray }) : wpAny (model prog w) A (call (.builtin "sorted") [.ref t]) Q E s := by
  refine Calls.call_function_entry kind_sorted plain_sorted entry_sorted (args_sorted1 _) (show wpAny _ _ (Builtin.«sorted» _) _ _ _ from ?_)
  unfold Builtin.«sorted»; refine wpAny_bind (m := checkCount "sorted" 1 1 _) (wpAny_pure (wpAny_bind (collect_tup ht hz (wpAny_bind (wpAny_newList ?_ hz)))))
  have hoL : ((gotHeap s.heap vs).push (seqObj "list" vs.toArray 0)).get? (s.heap.objs.size + 1) = some (seqObj "list" vs.toArray 0) := by rw [← got_size s.heap vs]; exact Heap.get?_push_size _ rfl
  show wpAny _ _ _ _ _ { s with heap := (gotHeap s.heap vs).push (seqObj "list" vs.toArray 0) }
  rw [got_size]
  refine wpAny_bind (wpAny_holding (wpAny_call_entry slot_list_sort ⟨_, hoL, rfl⟩ entry_list_sort (SrtO.list_sort_ord SrtO.swo_int hoL hz (fun h2 => SrtO.ints_sortable hi h2) fun out hs hb => ⟨_, rfl, wpAny_pure ⟨_, rfl, h out hs hb⟩⟩) (args_list_sort _)))
end
def rSortedT (K : Frag) : List V → Hp → VK → Prop := fun vs H Q => ∃ (a : Addr) (ns : List Int), vs = [V.ref a] ∧ SqT K H a (ns.map V.int) ∧ ∀ (ns' : List Int) (p : Addr), ns'.Perm ns → ns'.Pairwise (· ≤ ·) → H p = none → Q (.ref p) (upd H p (.lst (ns'.map V.int)))
def rMinT (K : Frag) : List V → Hp → VK → Prop := fun vs H Q => ∃ (a : Addr) (ns : List Int), vs = [V.ref a] ∧ SqT K H a (ns.map V.int) ∧ ns ≠ [] ∧ ∀ m, m ∈ ns → (∀ y, y ∈ ns → m ≤ y) → Q (.int m) H
def rMaxT (K : Frag) : List V → Hp → VK → Prop := fun vs H Q => ∃ (a : Addr) (ns : List Int), vs = [V.ref a] ∧ SqT K H a (ns.map V.int) ∧ ns ≠ [] ∧ ∀ m, m ∈ ns → (∀ y, y ∈ ns → y ≤ m) → Q (.int m) H
section
variable {X : Cx}
theorem call_sortedT : CallR X (.builtin "sorted") (rSortedT X.K) := by
  intro pins s σ H vs us Q I r h
  obtain ⟨a, ns, rfl, hs, q⟩ := h
  obtain ⟨its, rv, ht, hz⟩ := I.tuple hs
  rw [Vals.ref1 r]
  have hi := rv.ints
  refine sorted_tup ht (by rw [← rv.length]; exact hz) hi fun out h1 h2 => ?_
  obtain ⟨k1, k2, k3⟩ := SrtO.ints_out hi h1 h2
  obtain ⟨ep, he'⟩ := PyProof.Rows.sortedAll_at s.heap its out.toArray
  have hlen : ((out.map SrtO.iv).map V.int).length ≤ sizeLine := by rw [List.length_map, k2.length_eq, ← List.length_map (f := V.int)]; exact hz
  exact ⟨.ref _, upd H _ (.lst ((out.map SrtO.iv).map V.int)), I.laid (t' := s.toks) (fun _ _ => PyProof.Rows.sortedAll_old) (Nat.le_succ _) ⟨hlen, out, ep, vals_of_ints k1, he'⟩, rfl, q _ _ k2 k3 (I.hok.fresh (Nat.le_succ _))⟩
theorem lt_int {a b : Int} : DatumOrd.lt a b = decide (a < b) := rfl
theorem minOf_int (x : Int) (xs : List Int) : minOf x xs ∈ x :: xs ∧ ∀ y ∈ x :: xs, minOf x xs ≤ y := by
  induction xs generalizing x with
  | nil => simp [minOf]
  | cons z zs ih =>
    have e : minOf x (z :: zs) = minOf (if z < x then z else x) zs := by
      show minOf (if DatumOrd.lt z x = true then z else x) zs = _
      rw [lt_int]
      by_cases h : z < x <;> simp [h]
    rw [e]
    obtain ⟨h1, h2⟩ := ih (if z < x then z else x)
    by_cases h : z < x
    · rw [if_pos h] at h1 h2 ⊢
      refine ⟨List.mem_cons_of_mem _ h1, fun y hy => ?_⟩
      rcases List.mem_cons.mp hy with rfl | hy
      · have := h2 z List.mem_cons_self
        omega
      · exact h2 y hy
    · rw [if_neg h] at h1 h2 ⊢
      refine ⟨?_, fun y hy => ?_⟩
      · rcases List.mem_cons.mp h1 with h1 | h1
        · rw [h1]; exact List.mem_cons_self
        · exact List.mem_cons_of_mem _ (List.mem_cons_of_mem _ h1)
      · rcases List.mem_cons.mp hy with rfl | hy
        · exact h2 _ List.mem_cons_self
        · rcases List.mem_cons.mp hy with rfl | hy
          · have := h2 x List.mem_cons_self
            omega
          · exact h2 y (List.mem_cons_of_mem _ hy)
theorem maxOf_int (x : Int) (xs : List Int) : maxOf x xs ∈ x :: xs ∧ ∀ y ∈ x :: xs, y ≤ maxOf x xs := by
  induction xs generalizing x with
  | nil => simp [maxOf]
  | cons z zs ih =>
    have e : maxOf x (z :: zs) = maxOf (if x < z then z else x) zs := by
      show maxOf (if DatumOrd.lt x z = true then z else x) zs = _
      rw [lt_int]
      by_cases h : x < z <;> simp [h]
    rw [e]
    obtain ⟨h1, h2⟩ := ih (if x < z then z else x)
    by_cases h : x < z
    · rw [if_pos h] at h1 h2 ⊢
      refine ⟨List.mem_cons_of_mem _ h1, fun y hy => ?_⟩
      rcases List.mem_cons.mp hy with rfl | hy
      · have := h2 z List.mem_cons_self
        omega
      · exact h2 y hy
    · rw [if_neg h] at h1 h2 ⊢
      refine ⟨?_, fun y hy => ?_⟩
      · rcases List.mem_cons.mp h1 with h1 | h1
        · rw [h1]; exact List.mem_cons_self
        · exact List.mem_cons_of_mem _ (List.mem_cons_of_mem _ h1)
      · rcases List.mem_cons.mp hy with rfl | hy
        · exact h2 _ List.mem_cons_self
        · rcases List.mem_cons.mp hy with rfl | hy
          · have := h2 x List.mem_cons_self
            omega
          · exact h2 y (List.mem_cons_of_mem _ hy)
theorem call_minT (hc : X.calm = true) (hu : X.A.units + 64 < cLine) : CallR X (.builtin "min") (rMinT X.K) := by
  intro pins s σ H vs us Q I r h
  obtain ⟨a, ns, rfl, hs, hne, q⟩ := h
  obtain ⟨its, rv, ht, hz⟩ := I.tuple hs
  rw [Vals.ref1 r]
  have hi := rv.ints
  cases ns with
  | nil => exact absurd rfl hne
  | cons x xs =>
    refine PySem.W.min_tuple_datum (α := Int) (I.ok.hd hc) ht (x := x) (xs := xs) (HoldAll.of_ints hi) (show X.A.units + 1 + 0 < cLine by omega) fun i v h' tk hi' hv hk => ?_
    obtain ⟨as, hv⟩ := hv
    cases hv
    exact ⟨.int _, H, I.kept hk, ⟨_, rfl⟩, q _ (minOf_int x xs).1 (minOf_int x xs).2⟩
theorem call_maxT (hc : X.calm = true) (hu : X.A.units + 64 < cLine) : CallR X (.builtin "max") (rMaxT X.K) := by
  intro pins s σ H vs us Q I r h
  obtain ⟨a, ns, rfl, hs, hne, q⟩ := h
  obtain ⟨its, rv, ht, hz⟩ := I.tuple hs
  rw [Vals.ref1 r]
  have hi := rv.ints
  cases ns with
  | nil => exact absurd rfl hne
  | cons x xs =>
    refine PySem.W.max_tuple_datum (α := Int) (I.ok.hd hc) ht (x := x) (xs := xs) (HoldAll.of_ints hi) (show X.A.units + 1 + 0 < cLine by omega) fun i v h' tk hi' hv hk => ?_
    obtain ⟨as, hv⟩ := hv
    cases hv
    exact ⟨.int _, H, I.kept hk, ⟨_, rfl⟩, q _ (maxOf_int x xs).1 (maxOf_int x xs).2⟩
end
/-! ### t[::-1] -/
theorem rev_at (xs : Array Value) : ((List.range xs.size).filterMap fun (k : Nat) => xs[((xs.size : Int) - 1 + (k : Int) * (-1)).toNat]?).toArray = xs.toList.reverse.toArray := by
  congr 1
  have key : ∀ n, n ≤ xs.size → (List.range n).filterMap (fun (k : Nat) => xs[((xs.size : Int) - 1 + (k : Int) * (-1)).toNat]?) = xs.toList.reverse.take n := by
    intro n
    induction n with
    | zero => intro _; simp
    | succ n ih =>
      intro hn
      have e : ((xs.size : Int) - 1 + (n : Int) * (-1)).toNat = xs.size - 1 - n := by omega
      have hx : xs.size - 1 - n < xs.size := by omega
      rw [List.range_succ, List.filterMap_append, ih (by omega)]
      simp only [List.filterMap_cons, List.filterMap_nil, e, Array.getElem?_eq_getElem hx]
      rw [List.take_succ, List.getElem?_reverse (by simp; omega)]
      simp only [Array.length_toList]
      rw [Array.getElem?_toList, Array.getElem?_eq_getElem hx]
      rfl
  rw [key _ (Nat.le_refl _), List.take_of_length_le (by simp)]
section
variable {prog : Program} {w : World} {A : Around} {E : Value → Shared → Prop} {s : Shared}
theorem applied_rev {sl : Addr} {vl vu vs : Value} {n : Nat} {Q : Int × Int × Nat → Shared → Prop} (hs : s.heap.IsSliceOf sl vl vu vs) (pl : IsPart vl none) (pu : IsPart vu none) (ps : IsPart vs (some (-1))) (h : Q ((n : Int) - 1, -1, n) s) :
    wpAny (model prog w) A (Builtin.Slice.sliceApplied (.ref sl) (pure (n : Int))) Q E s := by
  obtain ⟨os, hos, hcs, hds⟩ := id hs
  unfold Builtin.Slice.sliceApplied Builtin.Slice.sliceFields; refine wpAny_bind (wpAny_bind (wpAny_field hos hds (x := vl) rfl (wpAny_bind (wpAny_field hos hds (x := vu) rfl (wpAny_bind (wpAny_field hos hds (x := vs) rfl (wpAny_pure (wpAny_bind (HT.slicePart_ ps ?_)))))))))
  show wpAny _ _ (if ((-1 : Int) == 0) = true then _ else _) _ _ s
  rw [if_neg (by decide)]; refine wpAny_bind (HT.slicePart_ pl (wpAny_bind (HT.slicePart_ pu (wpAny_bind (wpAny_pure ?_)))))
  have e : Builtin.Slice.slicePlaces ((n : Int) - 1) (-1) (-1) = n := by
    unfold Builtin.Slice.slicePlaces
    rw [if_neg (by decide)]
    by_cases h0 : (n : Int) - 1 > -1
    · rw [if_pos h0, show (n : Int) - 1 - -1 - 1 = n - 1 from by omega, show (- -1 : Int) = 1 from rfl, Int.ediv_one]
      omega
    · rw [if_neg h0]
      omega
  show wpAny _ _ (pure ((n : Int) - 1, (-1 : Int), Builtin.Slice.slicePlaces ((n : Int) - 1) (-1) (-1))) _ _ s
  rw [e]
  exact wpAny_pure h
theorem getItem_tup_rev {t sl : Addr} {items : Array Value} {vl vu vs : Value} {Q : Value → Shared → Prop} (ht : IsTup s.heap t items) (hs : s.heap.IsSliceOf sl vl vu vs) (pl : IsPart vl none) (pu : IsPart vu none) (ps : IsPart vs (some (-1))) (hsz : items.size ≤ sizeLine)
    (h : Q (.ref s.heap.objs.size) { s with heap := s.heap.push { cls := .type "tuple", data := .seq items.toList.reverse.toArray } }) : wpAny (model prog w) A (getItem (.ref t) (.ref sl)) Q E s := by
  have hok : sizeOk (.seq items.toList.reverse.toArray) := by show items.toList.reverse.toArray.size ≤ sizeLine; simpa using hsz
  obtain ⟨os, hos, hcs, hds⟩ := id hs
  have hT : s.TypeIs (.ref sl) "slice" := ⟨os, hos, hcs⟩
  unfold getItem
  try with_reducible refine wpAny_holding ?_
  first | refine wpAny_bind (wpAny_pure ?_) | skip
  refine wpAny_bind (wpAny_sequenceKey ht.typeIs (by decide) (wpAny_bind (wpAny_callSpecial?_slot (name := Str.ofString "__getitem__") ht.typeIs PyProof.Rows.slot_tuple_getitem (wpAny_call_entry PyProof.Rows.slot_tuple_getitem ht.typeIs entry_tuple_getitem ?_ (args_tuple_getitem _ _)))))
  show wpAny _ _ (Builtin.Tuple.tupleItemsOf (.ref t) >>= _) _ _ s
  refine wpAny_bind (tupleItemsOf_ ht (wpAny_bind (wpAny_typeOf hT ?_)))
  rw [if_pos (by decide)]; refine wpAny_bind (applied_rev hs pl pu ps ?_)
  show wpAny _ _ (if ((((items.size : Int) - 1 == 0) && ((-1 : Int) == 1)) && (items.size == items.size)) = true then _ else _) _ _ s
  rw [if_neg (by rw [show ((-1 : Int) == 1) = false from rfl, Bool.and_false, Bool.false_and]; exact Bool.false_ne_true), rev_at]
  first
    | exact wpAny_bind (m := Builtin.Tuple.tupleExact _) (wpAny_newObj_type (wpAny_pure ⟨_, rfl, wpAny_pure h⟩) hok)
    | exact wpAny_bind (m := Builtin.Tuple.tupleExact _) (wpAny_newObj_type (wpAny_bind (wpAny_pure (wpAny_pure ⟨_, rfl, wpAny_pure h⟩))) hok)
    | exact wpAny_bind (wpAny_bind (m := Builtin.Tuple.tupleExact _) (wpAny_newObj_type (wpAny_pure (wpAny_pure ⟨_, rfl, wpAny_pure h⟩)) hok))
    | exact wpAny_bind (wpAny_bind (m := Builtin.Tuple.tupleExact _) (wpAny_newObj_type (wpAny_pure ⟨_, rfl, wpAny_pure h⟩) hok))
end
def rRevT (K : Frag) (Q : VK) : V → Hp → Prop := fun x H1 => ∃ a xs, x = .ref a ∧ SqT K H1 a xs ∧ ∀ p, H1 p = none → Q (.ref p) (upd H1 p (.tup xs.reverse))
def tRevT (K : Frag) (te : TE) : TE := fun σ H Q => te σ H (rRevT K Q)
theorem pe_revT {X : Cx} {e : Expr} {te : TE} {k : Nat} {p1 p2 p3 pos : Pos} (he : PE X e te) : PE X (.Subscript e (.Slice none none (some (.UnaryOp .USub (.Constant (.int 1) k p1) p2)) p3) pos) (tRevT X.K te) := by
  refine ⟨fun pins s σ H Q I h => ?_⟩
  refine Subscript_ (thn (he.run pins s σ H _ I h) fun v s1 ⟨x, H1, I1, r1, a, xs, ex, hx, q⟩ => ?_)
  subst ex
  cases r1
  have hst : PO X (some (.UnaryOp .USub (.Constant (.int 1) k p1) p2)) (tPart (tUn (rU fun i => .int (-i)) (tC (.int 1)))) := po_some (pe_un un_neg pe_int)
  refine wpAny_Slice (thn (po_none.run pins s1 σ H1 (fun o H2 => o = none ∧ H2 = H1) I1 ⟨rfl, rfl⟩) fun vl s2 ⟨l, H2, I2, pl, el, e2⟩ => thn (po_none.run pins s2 σ H2 (fun o H3 => o = none ∧ H3 = H2) I2 ⟨rfl, rfl⟩) fun vu s3 ⟨u, H3, I3, pu, eu, e3⟩ => ?_)
  subst el e2 eu e3
  refine thn (hst.run pins s3 σ H3 (fun o H4 => o = some (-1) ∧ H4 = H3) I3 ⟨1, rfl, -1, rfl, rfl, rfl⟩) fun vs s4 ⟨o, H4, I4, ps, eo, e4⟩ => ?_
  subst eo e4
  have I5 : Inv X pins σ H4 { s4 with heap := s4.heap.push { cls := .type "slice", data := .fields #[vl, vu, vs] } } := I4.kept (t' := s4.toks) fun b ob q => Heap.get?_push_of_some _ q
  obtain ⟨its, r, ht, hz⟩ := I5.tuple hx
  have hlen := r.length
  show wpAny (model X.prog X.w) X.A (subscriptTail e (.Slice none none (some (.UnaryOp .USub (.Constant (.int 1) k p1) p2)) p3) (.ref a) (.ref s4.heap.objs.size)) (EP X pins σ Q) X.xe { s4 with heap := s4.heap.push { cls := .type "slice", data := .fields #[vl, vu, vs] } }
  refine tail_any (ops := [.ref a, .ref s4.heap.objs.size]) ht.typeIs PyProof.Rows.slot_tuple_getitem.lookup ?_ (by with_unfolding_all rfl)
  refine getItem_tup_rev ht (Heap.IsSliceOf.new _ vl vu vs) pl pu ps (by rw [List.size_toArray, ← hlen]; exact hz) ?_
  exact ⟨.ref _, _, I5.laid (t' := s4.toks) (o := .tup xs.reverse) (fun b ob q => Heap.get?_push_of_some _ q) (Nat.le_refl _) ⟨by rw [List.length_reverse]; exact hz, _, r.reverse, IsTup.new _ _⟩, rfl, q _ (I5.hok.fresh (Nat.le_refl _))⟩
section
variable {K : Frag} {σ : L2.St} {H H' : Hp} {Q : VK} {te : TE} {a b : Addr} {xs ys : List V}
theorem x_revT (h : te σ H (rRevT K Q)) : tRevT K te σ H Q := h
theorem x_revt (h : SqT K H a xs) (q : ∀ p H', H p = none → Ex H H' → H' p = some (.tup xs.reverse) → Q (.ref p) H') : rRevT K Q (.ref a) H := ⟨a, xs, rfl, h, x_new q⟩
theorem x_sortedT {ns : List Int} (h : SqT K H a (ns.map V.int)) (q : ∀ (ns' : List Int) p H', ns'.Perm ns → ns'.Pairwise (· ≤ ·) → H p = none → Ex H H' → H' p = some (.lst (ns'.map V.int)) → Q (.ref p) H') : rSortedT K [.ref a] H Q :=
  ⟨a, ns, rfl, h, fun ns' p h1 h2 hp => q ns' p _ h1 h2 hp (Evl.Ex.new hp) upd_same⟩
theorem x_tupQ (h : Sq K H a xs) (q : ∀ p H', Ex H H' → SqT K H' p xs → Q (.ref p) H') : rTupOf K [.ref a] H Q := by
  rcases h with h | h
  · exact ⟨a, xs, rfl, .inl ⟨h, fun p hp => q p _ (Evl.Ex.new hp) (Evl.st_of upd_same)⟩⟩
  · exact ⟨a, xs, rfl, .inr ⟨h, q a H (Evl.Ex.refl H) h⟩⟩
theorem x_minT {ns : List Int} (h : SqT K H a (ns.map V.int)) (hn : ns ≠ []) (q : ∀ m, m ∈ ns → (∀ y, y ∈ ns → m ≤ y) → Q (.int m) H) : rMinT K [.ref a] H Q := ⟨a, ns, rfl, h, hn, q⟩
theorem x_maxT {ns : List Int} (h : SqT K H a (ns.map V.int)) (hn : ns ≠ []) (q : ∀ m, m ∈ ns → (∀ y, y ∈ ns → y ≤ m) → Q (.int m) H) : rMaxT K [.ref a] H Q := ⟨a, ns, rfl, h, hn, q⟩
/-- a part of a tuple -/
theorem x_slT {lo hi : Option Int} (h : SqT K H a xs) (q : ∀ p H', Ex H H' → SqT K H' p (cutV xs lo hi) → Q (.ref p) H') : rSlA K (.ref a) lo hi H Q := by
  refine ⟨a, xs, rfl, h, fun z => ?_, fun _ p hp => q p _ (Evl.Ex.new hp) (Evl.st_of upd_same)⟩
  refine q a H (Evl.Ex.refl H) ?_
  have e : cutV xs lo hi = xs := by
    unfold cutV
    rw [z.1, z.2, List.drop_zero, Nat.sub_zero, List.take_length]
  rw [e]
  exact h
theorem x_catT (h1 : SqT K H a xs) (h2 : SqT K H b ys) (hz : xs.length + ys.length ≤ 1000000) (q : ∀ p H', Ex H H' → SqT K H' p (xs ++ ys) → Q (.ref p) H') : rCatA K (.ref a) (.ref b) H Q := by
  refine ⟨a, b, xs, ys, rfl, rfl, h1, h2, sz hz, fun e => ?_, fun _ e => ?_, fun _ _ p hp => q p _ (Evl.Ex.new hp) (Evl.st_of upd_same)⟩
  · subst e
    exact q b H (Evl.Ex.refl H) h2
  · subst e
    exact q a H (Evl.Ex.refl H) (by rw [List.append_nil]; exact h1)
theorem x_ltT {ns ms : List Int} (h1 : SqT K H a (ns.map V.int)) (h2 : SqT K H b (ms.map V.int)) (q : Q (.bl (HT.lexLt ns ms)) H) : rLtT K (.ref a) (.ref b) H Q := ⟨a, b, ns, ms, rfl, rfl, h1, h2, q⟩
end
end B

namespace B
open PySem PySem.Spec PyProof.Rows L2
open PySem.W (Frag)
/-! ### what is said of a value stays when a list is changed -/
structure Lasts (Pe : V → Hp → Prop) : Prop where
  ex : ∀ {v H H'}, Ex H H' → Pe v H → Pe v H'
  up : ∀ {v H l xs ys}, H l = some (.lst xs) → Pe v H → Pe v (upd H l (.lst ys))
theorem Upd.getT {K : Frag} {H H' : Hp} {l b : Addr} {zs xs : List V} {o : HO} (u : Upd H l o H') (e : H l = some (.lst zs)) (h : SqT K H b xs) : SqT K H' b xs := by
  rcases h with (h | ⟨z, h⟩) | h
  · have n : b ≠ l := fun q => by rw [q, e] at h; cases h
    exact .inl (.inl (u.get n h))
  · have n : b ≠ l := fun q => by rw [q, e] at h; cases h
    exact .inl (.inr ⟨z, u.get n h⟩)
  · exact .inr h
theorem Lasts.of {Pe : V → Hp → Prop} (h : Lasts Pe) {v : V} {H H' : Hp} {l : Addr} {xs ys : List V} (u : Upd H l (.lst ys) H') (e : H l = some (.lst xs)) (p : Pe v H) : Pe v H' := by
  have : H' = upd H l (.lst ys) := by
    funext b
    by_cases c : b = l
    · subst c
      rw [upd_same, u.same]
    · rw [upd_ne c, u.other b c]
  rw [this]
  exact h.up e p
/-- a tuple of which something holds -/
def TupP (K : Frag) (P : List V → Prop) (v : V) (H : Hp) : Prop := ∃ p xs, v = .ref p ∧ SqT K H p xs ∧ P xs
theorem TupP.lasts {K : Frag} {P : List V → Prop} : Lasts (TupP K P) where
  ex := fun e ⟨p, xs, h1, h2, h3⟩ => ⟨p, xs, h1, Evl.ex_t e h2, h3⟩
  up := fun e ⟨p, xs, h1, h2, h3⟩ => ⟨p, xs, h1, Upd.getT .mk0 e h2, h3⟩
section
variable {K : Frag} {σ : L2.St} {H : Hp} {Q : VK} {j : Nat} {te : TE} {a : Addr} {vs : List Nat}
theorem x_lcRP {lo hi : Int} (Pe : Int → V → Hp → Prop) (ls : ∀ i, Lasts (Pe i)) (hz : (hi - lo).toNat ≤ 1000000) (hw : ∀ x, wipe ((wipe σ vs).set j (some x)) vs = wipe σ vs)
    (he : ∀ i, lo ≤ i → i < hi → ∀ H', Ex H H' → ∀ Q' : VK, (∀ v H2, Ex H' H2 → Pe i v H2 → Q' v H2) → te ((wipe σ vs).set j (some (.int i))) H' Q')
    (q : ∀ D H2 (zs : List V), H D = none → Ex H H2 → H2 D = some (.lst zs) → zs.length = (hi - lo).toNat → (∀ (k : Nat) v, zs[k]? = some v → Pe (lo + (k : Nat)) v H2) → Q (.ref D) H2) :
    LcRun (gName j) tYes te vs σ Q (Itr lo (hi - lo).toNat) H := by
  intro Dl hD
  refine lc_range (fun k H' => Ex H H' ∧ ∃ zs : List V, H' Dl = some (.lst zs) ∧ zs.length = k ∧ ∀ (i : Nat) v, zs[i]? = some v → Pe (lo + (i : Nat)) v H')
    ⟨Evl.Ex.new hD, [], by rw [upd_same], rfl, fun i v h => by simp at h⟩ (fun k H' hk pp => ?_) fun H' pp => ?_
  · obtain ⟨e1, zs, hzs, hlen, hall⟩ := pp
    refine ⟨hw _, ?_⟩
    refine x_true (B := True) ?_
    refine he (lo + (k : Nat)) (by omega) (by omega) H' e1 _ fun v H2 e2 hv => ?_
    have g2 := e2 _ _ hzs
    refine ⟨_, g2, by rw [hlen]; exact szl (by omega), Evl.Ex.mut (e1.trans e2) hD, zs ++ [v], by rw [upd_same], by rw [List.length_append, hlen]; rfl, fun i y hi => ?_⟩
    by_cases h : i < zs.length
    · rw [List.getElem?_append_left h] at hi
      exact (ls _).up g2 ((ls _).ex e2 (hall i y hi))
    · have h2 := (List.getElem?_eq_some_iff.mp hi).1
      rw [List.length_append, List.length_singleton] at h2
      have h3 : i = zs.length := by omega
      subst h3
      rw [List.getElem?_append_right (Nat.le_refl _), Nat.sub_self] at hi
      cases hi
      rw [hlen]
      exact (ls _).up g2 hv
  · obtain ⟨e1, zs, hzs, hlen, hall⟩ := pp
    exact q Dl H' zs hD e1 hzs hlen hall
theorem x_lcLP {α : Type} (as : List α) (f : α → V) (Pe : α → V → Hp → Prop) (ls : ∀ i, Lasts (Pe i)) (hl : SqL K H a (as.map f)) (hz : as.length ≤ 1000000) (hw : ∀ x, wipe ((wipe σ vs).set j (some x)) vs = wipe σ vs)
    (he : ∀ x ∈ as, ∀ H', Ex H H' → ∀ Q' : VK, (∀ v H2, Ex H' H2 → Pe x v H2 → Q' v H2) → te ((wipe σ vs).set j (some (f x))) H' Q')
    (q : ∀ D H2 (zs : List V), H D = none → Ex H H2 → H2 D = some (.lst zs) → zs.length = as.length → (∀ (k : Nat) x v, as[k]? = some x → zs[k]? = some v → Pe x v H2) → Q (.ref D) H2) :
    ∃ b, V.ref a = .ref b ∧ (∃ xs, SqL K H b xs) ∧ LcRun (gName j) tYes te vs σ Q (Itl K b) H := by
  refine ⟨a, rfl, ⟨_, hl⟩, fun Dl hD => lc_list (xs := as.map f) (fun k H' => Ex H H' ∧ ∃ zs : List V, H' Dl = some (.lst zs) ∧ zs.length = k ∧ ∀ (i : Nat) x v, as[i]? = some x → zs[i]? = some v → Pe x v H')
    ⟨Evl.Ex.new hD, [], by rw [upd_same], rfl, fun i x v _ h => by simp at h⟩ (fun k H' _ pp => Evl.ex_l pp.1 hl) (fun k x H' hx pp => ?_) fun H' pp => ?_⟩
  · rw [List.getElem?_map] at hx
    cases ex : as[k]? with
    | none => rw [ex] at hx; cases hx
    | some n =>
      rw [ex] at hx
      cases hx
      have hk : k < as.length := (List.getElem?_eq_some_iff.mp ex).1
      obtain ⟨e1, zs, hzs, hlen, hall⟩ := pp
      refine ⟨hw _, ?_⟩
      refine x_true (B := True) ?_
      refine he n (List.mem_of_getElem? ex) H' e1 _ fun v H2 e2 hv => ?_
      have g2 := e2 _ _ hzs
      refine ⟨_, g2, by rw [hlen]; exact szl (by omega), Evl.Ex.mut (e1.trans e2) hD, zs ++ [v], by rw [upd_same], by rw [List.length_append, hlen]; rfl, fun i x y hx hi => ?_⟩
      by_cases h : i < zs.length
      · rw [List.getElem?_append_left h] at hi
        exact (ls _).up g2 ((ls _).ex e2 (hall i x y hx hi))
      · have h2 := (List.getElem?_eq_some_iff.mp hi).1
        rw [List.length_append, List.length_singleton] at h2
        have h3 : i = zs.length := by omega
        subst h3
        rw [List.getElem?_append_right (Nat.le_refl _), Nat.sub_self] at hi
        cases hi
        rw [hlen, ex] at hx
        cases hx
        exact (ls _).up g2 hv
  · obtain ⟨e1, zs, hzs, hlen, hall⟩ := pp
    rw [List.length_map] at hlen
    exact q Dl H' zs hD e1 hzs hlen hall
theorem op_notBl0 {X : Cx} : OpR X (compareOp .IsNot) rNotB := op_notBl
theorem x_notB {c d : Bool} (q : Q (.bl (!decide (c = d))) H) : rNotB (.bl c) (.bl d) H Q := ⟨c, d, rfl, rfl, q⟩
theorem map_self (xs : List V) : xs.map (fun x => x) = xs := List.map_id' xs
end
end B

namespace B
open PySem PySem.Spec PyProof.Rows L2
open PySem.W (Frag)
/-! ### dict(xs) of pairs whose keys are tuples -/
def mergeT (kvs more : List (List Key × V)) : List (List Key × V) := more.foldl (fun acc kv => putK acc kv.1 kv.2) kvs
theorem putT_len (kvs : List (List Key × V)) (k : List Key) (v : V) : (putK kvs k v).length ≤ kvs.length + 1 := by
  unfold putK
  split
  · rw [List.length_map]; omega
  · rw [List.length_append]; exact Nat.le_refl _
theorem mergeT_len : ∀ (more kvs : List (List Key × V)), (mergeT kvs more).length ≤ kvs.length + more.length
  | [], _ => Nat.le_refl _
  | p :: r, kvs => by
    have h1 := mergeT_len r (putK kvs p.1 p.2)
    have h2 := putT_len kvs p.1 p.2
    rw [List.length_cons]
    show (mergeT (putK kvs p.1 p.2) r).length ≤ _
    omega
theorem ktAll {H : Hp} : ∀ {more : List (List Key × V)} {rs : List (List Key × Addr × Value)} {kvs : List (List Key × V)} {xs : List (List Key × Addr × Value)}, KT H more rs → KT H kvs xs → KT H (mergeT kvs more) (storedAllH xs rs)
  | _, _, _, _, .nil, r => r
  | _, _, kvs, xs, .cons (a := p) (b := q) h t, r => by
    obtain ⟨h1, h2, h3⟩ := h
    have k := KT.put r p.1 h2 h3
    rw [show storedH xs p.1 q.2.1 q.2.2 = storedH xs q.1 q.2.1 q.2.2 from by rw [h1]] at k
    exact ktAll (kvs := putK kvs p.1 p.2) (xs := storedH xs q.1 q.2.1 q.2.2) t k
theorem ktMem {H : Hp} : ∀ {kvs : List (List Key × V)} {rs : List (List Key × Addr × Value)}, KT H kvs rs → ∀ x ∈ rs, H x.2.1 = some (.tup (x.1.map kV))
  | _, _, .nil, _, hx => nomatch hx
  | _, _, .cons (a := p) (b := q) h t, x, hx => by
    rcases List.mem_cons.mp hx with rfl | hx
    · rw [← h.1]; exact h.2.1
    · exact ktMem t x hx
/-- a pair (tuple, value) at p -/
def PairT (K : Frag) (H : Hp) (p : Addr) (kv : List Key × V) : Prop := ∃ b, SqT K H p [.ref b, kv.2] ∧ H b = some (.tup (kv.1.map kV))
def rDictT (K : Frag) : List V → Hp → VK → Prop := fun vs H Q => ∃ (a : Addr) (ps : List Addr) (kvs : List (List Key × V)), vs = [.ref a] ∧ SqL K H a (ps.map V.ref) ∧ Paired (PairT K H) ps kvs ∧ ∀ d, H d = none → Q (.ref d) (upd H d (.dT (mergeT [] kvs)))
section
variable {X : Cx}
theorem pairs_ofT {pins : List (Addr × Obj)} {σ : L2.St} {H : Hp} {s : Shared} (I : Inv X pins σ H s) : ∀ {ps : List Addr} {kvs : List (List Key × V)}, Paired (PairT X.K H) ps kvs →
    ∃ rs : List (List Key × Addr × Value), KT H kvs rs ∧ rs.length = ps.length ∧ ∀ (j : Nat) (q : List Key × Addr × Value), rs[j]? = some q → ∃ p : Addr, ps[j]? = some p ∧ IsTup s.heap p #[.ref q.2.1, q.2.2]
  | _, _, .nil => ⟨[], .nil, rfl, fun j q e => by simp at e⟩
  | _, _, .cons (a := p) (b := kv) h t => by
    obtain ⟨rs, r, hl, hp⟩ := pairs_ofT I t
    obtain ⟨b, ht, hb⟩ := h
    obtain ⟨its, rv, hT, _⟩ := I.tuple ht
    obtain ⟨u, y, ei, ru, ry⟩ := vals2 rv
    subst ei
    cases ru
    refine ⟨(kv.1, b, y) :: rs, .cons ⟨rfl, hb, ry⟩ r, by rw [List.length_cons, List.length_cons, hl], fun j q e => ?_⟩
    cases j with
    | zero => cases e; exact ⟨p, rfl, hT⟩
    | succ j =>
      obtain ⟨p', e1, e2⟩ := hp j q (by simpa using e)
      exact ⟨p', by simpa using e1, e2⟩
theorem call_dictT (hc : X.calm = true) (hu : X.A.units + 64 < cLine) : CallR X (.type "dict") (rDictT X.K) := by
  intro pins s σ H vs us Q I r h
  obtain ⟨a, ps, kvs, rfl, hl, hp, q⟩ := h
  obtain ⟨its, rv, pl, hz⟩ := I.list hl
  rw [Vals.ref1 r]
  have ei := refs_at rv
  subst ei
  rw [List.length_map] at hz
  obtain ⟨rs, rel, hlen, hpr⟩ := pairs_ofT I hp
  obtain ⟨o, n, ho, hcl, hd, hdat⟩ := pl
  have P := PySem.PairArg.list (prog := X.prog) (w := X.w) a (ps.map Value.ref).toArray (fun j => ps.getD j 0) (rs.map fun q => (.ref q.2.1, q.2.2))
  have sz : (rs.map fun q => ((Value.ref q.2.1 : Value), q.2.2)).length = ps.length := by rw [List.length_map, hlen]
  refine PySem.call_dict_pairsH (knd := tupleKind (mixKind X.prog X.w)) (ps := rs) P (I.ok.hd hc) ?_ ⟨⟨o, n, ho, hcl, hd, hdat⟩, by simp [hlen], fun j k v e => ?_⟩ ⟨by rw [sz, hlen], fun i key v e => ?_⟩ (fun h' hk x hx => ?_) (by rw [sz]; exact hz) fun h' tk hd' hk => ?_
  · exact PySem.tupleKind_room_in1 (A := X.A.in1) (show X.A.units + 1 + 1 < cLine by omega)
  · rw [List.getElem?_map] at e
    cases er : rs[j]? with
    | none => rw [er] at e; cases e
    | some q =>
      rw [er] at e
      cases e
      obtain ⟨p, ep, hT⟩ := hpr j q er
      exact ⟨by simp [ep], .inl (by show s.heap.IsTuple (ps.getD j 0) _; rw [List.getD_eq_getElem?_getD, ep]; exact hT)⟩
  · have e : (rs.map fun q => ((Value.ref q.2.1 : Value), q.2.2))[i]? = some (key, v) := e
    rw [List.getElem?_map] at e
    cases er : rs[i]? with
    | none => rw [er] at e; cases e
    | some q => rw [er] at e; cases e; exact ⟨_, _, rfl, rfl⟩
  · obtain ⟨ob, items, m, g1, g2, g3, g4⟩ := key_of I.hok (ktMem rel x hx)
    exact ⟨ob, items, m, hk _ _ (Nat.ne_of_lt (Heap.lt_size g1)) (by simp) g1, g2, g3, g4⟩
  · have hm : (s.heap.objs.size == sysModules) = false := beq_eq_false_iff_ne.mpr (Nat.ne_of_gt I.big)
    have keep : ∀ b o, s.heap.get? b = some o → h'.get? b = some o := fun b o e => hk b o (by simp) e
    have lenT : (mergeT [] kvs).length ≤ sizeLine := by
      have := mergeT_len kvs []
      rw [List.length_nil, rel.length, hlen] at this
      omega
    have hn := I.hok.fresh (Nat.le_refl _)
    obtain ⟨od, es, ep, d1, d2, d3, d4, _, d5⟩ := hd'
    refine ⟨.ref s.heap.objs.size, upd H s.heap.objs.size (.dT (mergeT [] kvs)), I.laid (t' := tk) keep (Nat.le_refl _) ⟨lenT, hm, storedAllH [] rs, ?_, od, es, ep, d1, d2, d3, d4, d5⟩, rfl, q _ hn⟩
    refine KT.keeps (ktAll rel .nil) fun b ys e => ?_
    rw [upd_ne (ne_of_none e hn)]
    exact e
end
section
variable {K : Frag} {H : Hp} {Q : VK} {a b : Addr} {xs ys : List V} {v : V}
theorem x_dictT {ps : List Addr} {kvs : List (List Key × V)} (hl : SqL K H a (ps.map V.ref)) (hp : Paired (PairT K H) ps kvs) (q : ∀ d H', H d = none → Ex H H' → H' d = some (.dT (mergeT [] kvs)) → Q (.ref d) H') : rDictT K [.ref a] H Q := ⟨a, ps, kvs, rfl, hl, hp, x_new q⟩
/-- the first items of a tuple, not all -/
theorem x_slP {n : Nat} (h : SqT K H a xs) (hn : n < xs.length) (q : ∀ p H', H p = none → Ex H H' → H' p = some (.tup (xs.take n)) → Q (.ref p) H') : rSlA K (.ref a) none (some (n : Int)) H Q := by
  refine ⟨a, xs, rfl, h, fun z => ?_, fun _ p hp => q p _ hp (Evl.Ex.new hp) (by rw [upd_same, cut_to])⟩
  have e := cut_to xs n
  unfold cutV at e
  rw [z.1, z.2] at e
  have := congrArg List.length e
  rw [List.length_take, List.length_take, List.length_drop] at this
  omega
theorem x_catH (h1 : H a = some (.tup xs)) (h2 : H b = some (.tup ys)) (hz : xs.length + ys.length ≤ 1000000) (q : ∀ p H', Ex H H' → H' p = some (.tup (xs ++ ys)) → Q (.ref p) H') : rCatA K (.ref a) (.ref b) H Q := by
  refine ⟨a, b, xs, ys, rfl, rfl, Evl.st_of h1, Evl.st_of h2, sz hz, fun e => ?_, fun _ e => ?_, fun _ _ p hp => q p _ (Evl.Ex.new hp) upd_same⟩
  · subst e
    exact q b H (Evl.Ex.refl H) h2
  · subst e
    exact q a H (Evl.Ex.refl H) (by rw [List.append_nil]; exact h1)
/-- t in d, of a dict with tuple keys -/
theorem x_inT {kvs : List (List Key × V)} {k : List Key} (hd : H a = some (.dT kvs)) (hb : H b = some (.tup (k.map kV))) (q : Q (.bl (valV kvs k).isSome) H) : rDIn (.ref b) (.ref a) H Q := ⟨a, _, rfl, DGet.t hd hb, q⟩
end
theorem valT_put (kvs : List (List Key × V)) (k k' : List Key) (v : V) : (valV (putK kvs k v) k').isSome = (decide (k = k') || (valV kvs k').isSome) := by
  rw [← valV_any, ← valV_any]
  unfold putK
  by_cases c : (kvs.any fun kv => decide (kv.1 = k)) = true
  · rw [if_pos c, List.any_map]
    have e : ((fun kv : List Key × V => decide (kv.1 = k')) ∘ fun kv : List Key × V => if kv.1 = k then (kv.1, v) else kv) = fun kv => decide (kv.1 = k') := by
      funext kv
      show decide ((if kv.1 = k then (kv.1, v) else kv).1 = k') = decide (kv.1 = k')
      split <;> rfl
    rw [e]
    by_cases h : k = k'
    · subst h
      rw [c]
      simp
    · simp [h]
  · rw [if_neg c, List.any_append, List.any_cons, List.any_nil, Bool.or_false, Bool.or_comm]
theorem valT_merge : ∀ (more kvs : List (List Key × V)) (k : List Key), (valV (mergeT kvs more) k).isSome = (more.any (fun kv => decide (kv.1 = k)) || (valV kvs k).isSome)
  | [], _, _ => by simp [mergeT]
  | p :: r, kvs, k => by
    show (valV (mergeT (putK kvs p.1 p.2) r) k).isSome = _
    rw [valT_merge r, valT_put, List.any_cons, ← Bool.or_assoc, Bool.or_comm (r.any _)]
end B

namespace B
open PySem PySem.Spec PyProof.Rows L2
open PySem.W (Frag)
/-! ### while, any test -/
def WTurn (ts : TS) (D : Ends) (W : Nat → L2.St → Hp → Prop) (m : Nat) (σ : L2.St) : Bool → Hp → Prop := fun b H1 =>
  if b = true then ∃ N : L2.St → Hp → Prop, (∀ σ' H', N σ' H' → ∃ m', m' < m ∧ W m' σ' H') ∧ ts { D with nx := N, ct := N, bk := D.nx } σ H1 else D.nx σ H1
section
variable {σ : L2.St} {H : Hp} {tt : TT} {ts : TS} {D : Ends} {W : Nat → L2.St → Hp → Prop} {m : Nat} {b : Bool}
theorem x_whileG (W : Nat → L2.St → Hp → Prop) (m0 : Nat) (h0 : W m0 σ H) (hs : ∀ m σ' H', W m σ' H' → tt σ' H' (WTurn ts D W m σ')) : tWhile tt ts D σ H := ⟨W, ⟨m0, h0⟩, hs⟩
theorem x_wt (h : if b = true then ts { D with nx := fun σ2 H2 => ∃ m', m' < m ∧ W m' σ2 H2, ct := fun σ2 H2 => ∃ m', m' < m ∧ W m' σ2 H2, bk := D.nx } σ H else D.nx σ H) : WTurn ts D W m σ b H := by
  cases b with
  | true => exact ⟨_, fun _ _ q => q, h⟩
  | false => exact h
end
end B

namespace B
open PySem PySem.Spec PyProof.Rows L2
open PySem.W (Frag KeyPure kla_fn kla_obj EachIs AllAlike Sortable dataLe)
open LamX (CodeO TabS Tabs ExtN TabB)
/-! ### sorted(x, key=lambda n: held[n]) -/
/-- what reads an item of the captured thing u by v: it gives the number k, and no object is changed -/
def ItemIs (P : Program) (w : World) (h : Heap) (u v : Value) (k : Int) : Prop :=
  ∃ T id : String, typeLookup (.type T) "__getitem__" = pure (some (.builtin id)) ∧ ∀ (A : Around) (E Q : Value → Shared → Prop) (s : Shared), (∀ b o, h.get? b = some o → s.heap.get? b = some o) →
    s.TypeIs u T ∧ ((∀ t tk, Q (.int k t) { s with toks := tk }) → wpAny (model P w) A (getItem u v) Q E s)
section
variable {prog : Program} {w : World} {A : Around} {s : Shared}
theorem lam_item {f c' cell : Addr} {q x y : Str} {params : Arguments} {scope : Scope} {cl : List (Str × Addr)} {pm ctv v u : Value} {py px pp : Pos} {k : Int} {h0 : Heap}
    (hroom : A.depth < recursionLimit) (ho : s.heap.get? f = some (kla_obj "<lambda>" q params (.Subscript (.Name y py) (.Name x px) pp) scope cl pm c' ctv)) (hcd : s.heap.CodeRec (.ref c') q) (lim : s.heap.NoLimit)
    (hbind : bindArgs (kla_fn "<lambda>" q params (.Subscript (.Name y py) (.Name x px) pp) scope cl pm (.ref c') ctv) ⟨[v], []⟩ = pure [(x, v)])
    (hk : scope.kind = .function) (hco : scope.isCoroutine = false) (hgen : scope.isGenerator = false) (nocell : ∀ z ∈ scope.names, z.2 ≠ .cell) (hx : scope.names.lookup x = some .local) (hy : scope.names.lookup y = some .free)
    (hcl : cl.lookup y = some cell) (hcell : s.heap.IsCell cell (some u)) (dx : (x == ("__debug__" : Str)) = false) (dy : (y == ("__debug__" : Str)) = false) (cy : (y == ("__classdict__" : Str)) = false)
    (kp0 : ∀ b o, h0.get? b = some o → s.heap.get? b = some o) (get : ItemIs prog w h0 u v k) :
    wpAny (model prog w) A (call (.ref f) [v]) (KeyPure (.int k) s) (fun _ _ => False) s := by
  obtain ⟨T, id, hl, get⟩ := get
  refine wpAny_call (PySem.W.kla_callFunE hroom ho rfl hco hgen rfl hcd ?_)
  rw [hbind]
  refine wpAny_pure (wpAny_newFunctionEnv nocell (fun z hz => ?_) (fun h₁ hns hsb => ⟨lim.fresh _ hsb, PySem.W.kla_codeExpr ?_⟩) hk)
  · have : z = (x, v) := by simpa using hz
    rw [this]
    exact hx
  have kp : ∀ b o, s.heap.get? b = some o → h₁.get? b = some o := fun b o e => hsb.extBut b o (Nat.ne_of_lt (Heap.lt_size e)) (Heap.get?_push_of_some _ e)
  refine subD_of hl (fun _ _ => rfl) (wpAny_Name (wpAny_loadName_free (v := u) hk hy hcl ?_ (wpAny_Name (wpAny_loadName_local (m := fun z => ([(x, v)] : List (Str × Value)).reverse.lookup z) (v := v) hk hx hns ?_ ?_) dx) cy) dy)
  · obtain ⟨o, e1, e2⟩ := hcell
    exact ⟨o, kp _ _ e1, e2⟩
  · show ([(x, v)] : List (Str × Value)).reverse.lookup x = some v
    simp
  · obtain ⟨g1, g2⟩ := get _ _ _ { s with heap := h₁, toks := s.toks + ([(x, v)] : List (Str × Value)).length } fun b o e => kp b o (kp0 b o e)
    exact ⟨g1, g2 fun t tk => ⟨h₁, tk, rfl, kp, .int k t⟩⟩
end
section
variable {X : Cx} {pins : List (Addr × Obj)} {σ : L2.St} {H : Hp} {s : Shared}
theorem item_dict {d : Addr} {kvs : List (Key × V)} {n k : Int} {t : Tok} (I : Inv X pins σ H s) (e : H d = some (.dK kvs)) (hv : valV kvs (.inl n) = some (.int k)) : ItemIs X.prog X.w s.heap (.ref d) (.int n t) k :=
  ⟨"dict", _, PySem.F.slot_dict_getitem.lookup, fun A E Q s' kp => by
    have ok' : HOk X.prog X.w H s'.heap := I.hok.kept kp
    obtain ⟨_, _, vs, rel, dd⟩ := dk_of ok' e
    obtain ⟨w', hw, rw'⟩ := RelO.some_of (v := .int k) (o := valueAt vs (.inl n)) (by rw [← hv]; exact rel.val _)
    obtain ⟨t', rfl⟩ := rw'
    exact ⟨dd.typeIs, fun q => wpAny_getItem_of (kV_is (k := .inl n) ⟨t, rfl⟩) dd.mapOf hw (q t' _)⟩⟩
theorem item_list {d : Addr} {xs : List V} {n : Nat} {k : Int} {t : Tok} (I : Inv X pins σ H s) (e : H d = some (.lst xs)) (hv : xs[n]? = some (.int k)) : ItemIs X.prog X.w s.heap (.ref d) (.int (n : Nat) t) k :=
  ⟨"list", _, PySem.F.slot_list_getitem.lookup, fun A E Q s' kp => by
    have ok' : HOk X.prog X.w H s'.heap := I.hok.kept kp
    obtain ⟨hz, its, m, r, hob⟩ := (show ObjOk X.prog X.w H s'.heap d (.lst xs) from ok' d _ e)
    obtain ⟨u, eu, ru⟩ := r.get hv
    obtain ⟨t', rfl⟩ := ru
    have hl : n < xs.length := (List.getElem?_eq_some_iff.mp hv).1
    have hn := line63
    have il : s'.heap.IsList d its.toArray := ⟨_, hob, rfl, _, rfl⟩
    exact ⟨il.typeIs, fun q => wpAny_getItem_list (k := (n : Nat)) il (by omega) (by omega) (by simpa using eu) (q t' s'.toks)⟩⟩
/-- what is gone through by sorted: the keys of a dict, or a range -/
def Coll (H : Hp) (x : V) (ns : List Int) : Prop := (∃ d kvs, x = .ref d ∧ H d = some (.dK kvs) ∧ kvs.map (·.1) = ns.map Sum.inl) ∨ ∃ (r : Addr) (n : Nat), x = .ref r ∧ H r = some (.rng 0 (n : Nat)) ∧ ns = irange 0 (n : Nat) ∧ n ≤ 1000000
theorem ints_of_at : ∀ {us : List Value} {ns : List Int}, us.length = ns.length → (∀ (j : Nat) (v : Value), us[j]? = some v → ∃ n t, ns[j]? = some n ∧ v = .int n t) → IntsAre us ns
  | [], [], _, _ => .nil
  | [], _ :: _, h, _ => by simp at h
  | _ :: _, [], h, _ => by simp at h
  | u :: us, n :: ns, h, f => by
    obtain ⟨m, t, e1, rfl⟩ := f 0 u rfl
    have e1 : n = m := Option.some.inj e1
    subst e1
    refine .cons _ _ (ints_of_at (by simpa using h) fun j v e => ?_)
    obtain ⟨m, t, e1, e2⟩ := f (j + 1) v (by simpa using e)
    exact ⟨m, t, by simpa using e1, e2⟩
theorem collect_coll {A : Around} {E : Value → Shared → Prop} {R : List Value → Shared → Prop} {x : V} {u : Value} {ns : List Int} (hh : A.handled = none) (I : Inv X pins σ H s) (c : Coll H x ns) (rx : RelV x u)
    (h : ∀ h' tk us, (∀ b o, s.heap.get? b = some o → h'.get? b = some o) → IntsAre us ns → us.length ≤ 1000000 + sizeLine → us.length ≤ sizeLine → R us { s with heap := h', toks := tk }) : wpAny (model X.prog X.w) A (collect u) R E s := by
  rcases c with ⟨d, kvs, rfl, hd, hks⟩ | ⟨r, n, rfl, hr, rfl, hn⟩
  · obtain rfl : u = Value.ref d := rx
    obtain ⟨z, lo, vs, rel, dd⟩ := dk_of I.hok hd
    obtain ⟨ep, hat⟩ := dd.dictAt
    have hkeys : vs.map (·.1) = ns.map Sum.inl := rel.keys.symm.trans hks
    have hvl : vs.length ≤ sizeLine := by rw [← rel.length]; exact z
    have hl : vs.length = ns.length := by simpa using congrArg List.length hkeys
    refine PySem.W.kdu_collect (PySem.W.kdl_dict (knd := mixKind X.prog X.w) (kvs := vs) (ep := ep) lo) hh hat hvl fun h' tk acc hk hacc => ?_
    have hal : acc.toList.length = ns.length := by rw [Array.length_toList, hacc.1, hl]
    refine h h' tk acc.toList hk (ints_of_at hal fun j v e => ?_) (by omega) (by omega)
    obtain ⟨k, y, e1, e2⟩ := hacc.2 j v (by rw [← Array.getElem?_toList]; exact e)
    have e3 : (vs.map (·.1))[j]? = some k := by rw [List.getElem?_map, e1]; rfl
    rw [hkeys, List.getElem?_map] at e3
    cases e4 : ns[j]? with
    | none => rw [e4] at e3; cases e3
    | some m =>
      rw [e4] at e3
      have e5 : Sum.inl m = k := Option.some.inj e3
      subst e5
      rcases keyIs_shape (show keyIs (Sum.inl m) v = true from e2) with ⟨i, t, ek, ev⟩ | ⟨z, t, ek, ev⟩
      · cases ek
        exact ⟨_, t, rfl, ev⟩
      · cases ek
  · obtain rfl : u = Value.ref r := rx
    obtain ⟨t, u, v, hr'⟩ := (show ObjOk X.prog X.w H s.heap r (.rng 0 (n : Nat)) from I.hok r _ hr)
    have hsz : (1000000 : Nat) ≤ sizeLine := by decide
    refine collect_range (n := n) hh hr' (small_one (by omega) (by omega) (by omega) (by omega)) (by rw [rangeSize_nat]; simp) (by omega) fun h' tk acc hk hi => ?_
    have hal : acc.toList.length = n := by rw [Array.length_toList]; exact hi.1
    refine h h' tk acc.toList hk (ints_of_at (by rw [hal, irange_len]; simp) fun j v e => ?_) (by omega) (by omega)
    obtain ⟨t, rfl⟩ := hi.2 j v (by rw [← Array.getElem?_toList]; exact e)
    have hj : j < n := by
      have := (List.getElem?_eq_some_iff.mp e).1
      omega
    exact ⟨_, t, irange_at (by simpa using hj), by simp⟩
/-- the items of what is captured -/
def KeyAt (H : Hp) (d : Addr) (key : Int → Int) (ns : List Int) : Prop := (∃ kvs, H d = some (.dK kvs) ∧ ∀ n ∈ ns, valV kvs (.inl n) = some (.int (key n))) ∨ ∃ xs, H d = some (.lst xs) ∧ ∀ n ∈ ns, ∃ m : Nat, n = (m : Nat) ∧ xs[m]? = some (.int (key n))
theorem KeyAt.item {d : Addr} {key : Int → Int} {ns : List Int} {n : Int} {t : Tok} (I : Inv X pins σ H s) (h : KeyAt H d key ns) (hn : n ∈ ns) : ItemIs X.prog X.w s.heap (.ref d) (.int n t) (key n) := by
  rcases h with ⟨kvs, e, h⟩ | ⟨xs, e, h⟩
  · exact item_dict I e (h n hn)
  · obtain ⟨m, rfl, e2⟩ := h n hn
    exact item_list I e e2
theorem KeyAt.extN {H' : Hp} {d : Addr} {key : Int → Int} {ns : List Int} (e : ExtN H H') (h : KeyAt H d key ns) : KeyAt H' d key ns := by
  rcases h with ⟨kvs, e1, h⟩ | ⟨xs, e1, h⟩
  · exact .inl ⟨kvs, e _ _ e1 (fun ps z => by cases z), h⟩
  · exact .inr ⟨xs, e _ _ e1 (fun ps z => by cases z), h⟩
theorem Coll.extN {H' : Hp} {x : V} {ns : List Int} (e : ExtN H H') (h : Coll H x ns) : Coll H' x ns := by
  rcases h with ⟨d, kvs, h1, h2, h3⟩ | ⟨r, n, h1, h2, h3⟩
  · exact .inl ⟨d, kvs, h1, e _ _ h2 (fun ps z => by cases z), h3⟩
  · exact .inr ⟨r, n, h1, e _ _ h2 (fun ps z => by cases z), h3⟩
theorem each_ints : ∀ {us : List Value} {ns : List Int}, IntsAre us ns → EachIs (fun v n => ∃ t, v = .int n t) us ns
  | _, _, .nil => EachIs.nil
  | _, _, .cons _ _ h => EachIs.cons ⟨_, rfl⟩ (each_ints h)
theorem vals_each : ∀ {us : List Value} {ns : List Int}, EachIs (fun v n => ∃ t, v = .int n t) us ns → Vals (ns.map V.int) us
  | _, _, .nil => .nil
  | _, _, .cons ⟨t, e⟩ h => .cons ⟨t, e⟩ (vals_each h)
def SortAsk (T : List (Addr × Str)) (j : Nat) (σ : L2.St) (Q : VK) : List V → Hp → Prop := fun vs H1 => ∃ v, vs = [v] ∧ Tabs T H1 ∧ ∃ (d : Addr) (ns : List Int) (key : Int → Int), σ[j]? = some (some (.ref d)) ∧ Coll H1 v ns ∧ KeyAt H1 d key ns ∧
  ∀ (ns' : List Int) p Hm H2, ExtN H1 Hm → Tabs T Hm → Hm p = none → Ex Hm H2 → H2 p = some (.lst (ns'.map V.int)) → ns'.Perm ns → ns'.Pairwise (fun a b => key a ≤ key b) → Q (.ref p) H2
def tSortLam (T : List (Addr × Str)) (j : Nat) (te : TE) : TE := fun σ H Q => tCons te tNil σ H (SortAsk T j σ Q)
theorem pe_sortLam {T : List (Addr × Str)} {c P : Addr} {k j : Nat} {x y : Str} {e : Expr} {te : TE} {params : Arguments} {scope : Scope} {p py px pp lpos kpos pos : Pos} (hc : X.calm = true) (hr : Room (k + 1) X.A) (hg : Gl X "sorted") (hm : X.mg "sorted" = none) (he : PE X e te)
    (hN : X.N[j]? = some y) (hv : X.env.scope.names.lookup y = some .cell) (TB : TabB X.base X.mg c P) (hcode : X.env.code = .ref c) (hmT : (P, X.env.qual ++ "<lambda>") ∈ T) (hu : ∀ p ∈ T, p.1 = P → p.2 = X.env.qual ++ "<lambda>")
    (hdef : defaultsOf params X.env = ([], [])) (hbind : ∀ (q : Str) (cl : List (Str × Addr)) (pm cv ctv v : Value), bindArgs (kla_fn "<lambda>" q params (.Subscript (.Name y py) (.Name x px) pp) scope cl pm cv ctv) ⟨[v], []⟩ = pure [(x, v)])
    (hk : scope.kind = .function) (hco : scope.isCoroutine = false) (hgen : scope.isGenerator = false) (hnm : scope.names = [(x, .local), (y, .free)] ∨ scope.names = [(y, .free), (x, .local)]) (hxy : (x == y) = false)
    (dx : (x == ("__debug__" : Str)) = false) (dy : (y == ("__debug__" : Str)) = false) (cy : (y == ("__classdict__" : Str)) = false)
    (hs : starEach [e] X.env = (false, eval e X.env) :: starEach [] X.env := by rfl) :
    PE X (.Call (.Name "sorted" p) [e] [⟨some "key", .Lambda params (.Subscript (.Name y py) (.Name x px) pp) scope lpos, kpos⟩] pos) (tSortLam T j te) := by
  refine ⟨fun pins s σ H Q I h => ?_⟩
  have hyx : (y == x) = false := by
    cases c : (y == x) with
    | false => rfl
    | true => rw [eq_of_beq c] at hxy; simp at hxy
  have hx : scope.names.lookup x = some .local := by
    rcases hnm with e | e <;> rw [e] <;> simp [List.lookup, hxy]
  have hy : scope.names.lookup y = some .free := by
    rcases hnm with e | e <;> rw [e] <;> simp [List.lookup, hyx]
  have nocell : ∀ z ∈ scope.names, z.2 ≠ .cell := by
    rcases hnm with e | e <;> rw [e] <;> simp
  have ymem : (y, NameKind.free) ∈ scope.names := by
    rcases hnm with e | e <;> rw [e] <;> simp
  have hfree : ∀ z ∈ scope.names, z.2 = .free → ∃ c, X.env.cells.lookup z.1 = some c := by
    intro z hz ez
    have : z = (y, .free) := by
      rcases hnm with e | e <;> rw [e] at hz <;> simp at hz <;> rcases hz with rfl | rfl <;> first | rfl | (cases ez)
    rw [this]
    exact I.ok.has _ (.inl hv)
  refine wpAny_Call_Name_kw (ld_blt I hg hm boot_sorted ?_)
  refine PyProof.Rows.callWith_kw (thn ((show PA X [e] (tCons te tNil) from pa_cons he pa_nil hs).run pos pins s σ H _ I h) fun us s1 ⟨vs, H1, I1, r1, v, ev, hT, d, ns, key, hd, hcol, hkey, q⟩ => ?_) (by rw [hs]; rfl) (by rw [hs]; rfl)
  subst ev
  obtain ⟨u, rfl, ru⟩ := vals1 r1
  show wpAny _ _ (evalAll ((do let v ← eval (.Lambda params (.Subscript (.Name y py) (.Name x px) pp) scope lpos) X.env; standAt pos; pure v) :: [])) _ _ s1
  refine wpAny_evalAll_cons (wpAny_bind (LamX.lam_make2 I1 TB hcode hmT hu hT hdef hfree fun f c' pm' ctv H2 s2 I2 eN T2 hf hfn hfr hcd => wpAny_bind (wpAny_standAt (wpAny_pure (wpAny_evalAll_nil ?_)))))
  show wpAny _ _ (call (.builtin "sorted") [u] [(Str.ofString "key", .ref f)]) _ _ s2
  -- the captured cell
  obtain ⟨mm, hnm2, hl⟩ := I2.loc
  obtain ⟨w, rw', l⟩ := hl j y (.ref d) hN hd (.inr (.inl hv))
  obtain rfl : w = Value.ref d := rw'
  obtain ⟨cell, hcl, hcell⟩ : ∃ cell, X.env.cells.lookup y = some cell ∧ s2.heap.IsCell cell (some (.ref d)) := by
    rcases l with ⟨z, _⟩ | ⟨_, a', ha', hc'⟩
    · have z' : X.env.scope.names.lookup y = some .local := z
      rw [hv] at z'
      cases z'
    · exact ⟨a', ha', hc'⟩
  have hclo := NdefX.clo_has hfree ymem hcl
  refine PyProof.Rows.call_function_entry_kw PyProof.Rows.kind_sorted PyProof.Rows.plain_sorted PyProof.Rows.entry_sorted (PyProof.Rows.ksk_s1 _ _) ?_
  unfold Builtin.«sorted»
  refine wpAny_bind (m := checkCount "sorted" 1 1 _) (wpAny_pure ?_)
  refine wpAny_bind (collect_coll (A := X.A.in1) hr.hd I2 (hcol.extN eN) ru fun h' tk us hk' hi _ hz => ?_)
  have I3 : Inv X pins σ H2 { s2 with heap := h', toks := tk } := I2.kept hk'
  refine wpAny_bind (wpAny_newList ?_ hz)
  have hoL : (h'.push (seqObj "list" us.toArray 0)).get? h'.objs.size = some (seqObj "list" us.toArray 0) := Heap.get?_push_size _ rfl
  show wpAny _ _ _ _ _ { s2 with heap := h'.push (seqObj "list" us.toArray 0), toks := tk }
  have up : ∀ {g : Heap}, PySem.W.KeepsBut h'.objs.size (h'.push (seqObj "list" us.toArray 0)) g → ∀ b o, h'.get? b = some o → g.get? b = some o := fun {g} kp b o e =>
    kp b o (Nat.ne_of_lt (Heap.lt_size e)) (Heap.get?_push_of_some _ e)
  have el := each_ints hi
  have hlen : ns.length = us.length := hi.length.symm
  refine wpAny_bind (wpAny_holding (PyProof.Rows.wpAny_call_entry_kw PyProof.Rows.slot_list_sort ⟨_, hoL, rfl⟩ PyProof.Rows.entry_list_sort ?body (PyProof.Rows.ksk_l1 _ _)))
  rw [PyProof.Rows.ksk_t1]
  have hsortable : Sortable (ns.map fun n => PyData.int (key n)) := by
    unfold PySem.W.Sortable
    right
    intro d hd
    obtain ⟨_, _, rfl⟩ := List.mem_map.mp hd
    exact ⟨(by intro z; cases z), (by intro _ z; cases z)⟩
  refine PySem.W.keyH_tree (kz := ns.map fun n => PyData.int (key n)) (b := false) (s := { s2 with heap := h'.push (seqObj "list" us.toArray 0), toks := tk }) hoL (by rw [List.length_map, hlen]) hz (PySem.W.AllAlike.of fun _ _ => by simp [PySem.W.alike]) hsortable (fun d hd => ?_)
    (PySem.W.keyH_turns (s := { s2 with heap := h'.push (seqObj "list" us.toArray 0), toks := tk }) el fun v n ⟨t, ev⟩ hn g tk2 kp => ?_) fun g tk2 out c2 kp hD ko => ⟨_, rfl, wpAny_pure ⟨_, rfl, ?_⟩⟩
  · obtain ⟨_, _, rfl⟩ := List.mem_map.mp hd
    have := hr.un
    show X.A.units + 1 + 1 + 0 < cLine
    omega
  · subst ev
    have kg := up kp
    have ks : ∀ b o, s2.heap.get? b = some o → g.get? b = some o := fun b o e => kg b o (hk' b o e)
    refine lam_item (h0 := s2.heap) (by have := hr.dp; show X.A.depth < _; omega) (ks _ _ hf) (NdefX.codeO_at (I2.hok.kept ks) hcd) (I2.nolimit.keeps ks) (hbind _ _ _ _ _ _) hk hco hgen nocell hx hy hclo ?_ dx dy cy ks ((hkey.extN eN).item I2 hn)
    obtain ⟨o, e1, e2⟩ := hcell
    exact ⟨o, ks _ _ e1, e2⟩
  · have eo := PySem.W.keyedOut_each (fun n => PyData.int (key n)) ko el
    rw [PySem.W.dataLe_int] at eo
    have hp := List.mergeSort_perm ns (fun a b => decide (key a ≤ key b))
    have hn0 := I3.hok.fresh (Nat.le_refl _)
    refine ⟨.ref h'.objs.size, upd H2 h'.objs.size (.lst ((ns.mergeSort (fun a b => decide (key a ≤ key b))).map V.int)), I3.laid (t' := tk2) (up kp) (Nat.le_refl _) ⟨?_, out, c2, vals_each eo, hD⟩, rfl, q _ _ H2 _ eN T2 hn0 (Evl.Ex.new hn0) upd_same hp ?_⟩
    · rw [List.length_map, hp.length_eq, hlen]
      exact hz
    · have := List.pairwise_mergeSort (le := fun a b => decide (key a ≤ key b)) (fun a b c h1 h2 => by simp at *; omega) (fun a b => by simp; omega) ns
      exact this.imp fun h => by simpa using h
end
end B

namespace B
open PySem PySem.Spec PyProof.Rows L2
open PySem.W (Frag)
open LamX (CodeO TabS Tabs ExtN TabB)
/-! ### a def that makes a lambda: its code object is told -/
def StandsC (K : Frag) (mg : Str → Option Value) (x : Str) (st : Stmt) (c : Addr) : Prop :=
  ∃ (f : Addr) (oc : Value) (od : Option Addr) (kV doc pm : Value) (an : Option Addr) (ct : Value) (osl : Array (Option Value)),
    K.lookup f = some ⟨oc, od, .func (PySem.W.fnOf x x (defArgs st) (defBody st) (defScope st) .none kV doc pm an (.ref c) ct), osl⟩ ∧ PySem.W.codeIn K (.ref c) x = true ∧ PySem.W.keepIn K (.ref f) = true ∧ mg x = some (.ref f)
section
variable {P : Program} {w : World} {K : Frag} {mg : Str → Option Value} {base : Heap}
theorem has_ofC {x : Str} {st : Stmt} {c : Addr} {N ps : List Str} {k : Nat} {sp : Sp} (S : StandsC K mg x st c) (C : FnScope N ps (defScope st))
    (hb : ∀ (kV doc pm : Value) (an : Option Addr) (cdv ct : Value) (us : List Value), us.length = ps.length → bindArgs (PySem.W.fnOf x x (defArgs st) (defBody st) (defScope st) .none kV doc pm an cdv ct) ⟨us, []⟩ = pure (ps.zip us))
    (len : ∀ vs H Q E, sp vs H Q E → vs.length = ps.length)
    (hbody : ∀ (f : Addr) (A : Around) (outer : List Env) (s : Shared) (H : Hp) (vs : List V) (Q : VK) (E : XK), Room k (A.deeper (envOfC x (defScope st) s.heap.objs.size f (.ref c))) → sp vs H Q E →
      ∃ t, PSs (cxOf (L2.CX P w) P w K mg base N x (defScope st) f (.ref c) A outer s H E) (defBody st) t ∧ t { nx := fun _ H' => Q .non H', rt := Q } (start N vs) H) :
    Has P w K mg base x (k + 1) ps sp := by
  obtain ⟨f, oc, od, kV, doc, pm, an, ct, osl, lk, hcd, hk, hm⟩ := S
  have F : Fun K x x st f _ := fun_mk lk hcd hk
  exact ⟨f, _, fn_of lk hcd C len fun A outer s H vs Q E hr hsp => hbody f A outer s H vs Q E hr hsp, hm, hk, F.binds hb⟩
end
/-! ### edges along which tables may grow -/
theorem exgN {H H' : Hp} {a : Addr} {o : HO} (e : ExtN H H') (h : H a = some o) (n : ∀ ps, o ≠ .tbl ps) : H' a = some o := e a o h n
section
variable {K : Frag} {H H' H0 : Hp} {a l : Addr} {xs ys : List V} {x : V} {s : KS} {o : HO} {T : List (Addr × Str)}
theorem SqL.exN (e : ExtN H H') (h : SqL K H a xs) : SqL K H' a xs := by
  rcases h with (h | ⟨z, h⟩) | h
  · exact .inl (.inl (e _ _ h fun ps q => by cases q))
  · exact .inl (.inr ⟨z, e _ _ h fun ps q => by cases q⟩)
  · exact .inr h
theorem SqT.exN (e : ExtN H H') (h : SqT K H a xs) : SqT K H' a xs := by
  rcases h with (h | ⟨z, h⟩) | h
  · exact .inl (.inl (e _ _ h fun ps q => by cases q))
  · exact .inl (.inr ⟨z, e _ _ h fun ps q => by cases q⟩)
  · exact .inr h
theorem Sq.exN (e : ExtN H H') (h : Sq K H a xs) : Sq K H' a xs := h.elim (fun h => .inl (SqL.exN e h)) fun h => .inr (SqT.exN e h)
theorem Kind.exN (e : ExtN H H') (h : Kind K H x s) : Kind K H' x s := by
  cases h with
  | non => exact .non
  | bl b => exact .bl b
  | int i => exact .int i
  | str x => exact .str x
  | lst h => exact .lst (SqL.exN e h)
  | tup h => exact .tup (SqT.exN e h)
  | dct h => exact .dct (e _ _ h fun ps q => by cases q)
theorem Caught.exN {o : Option Addr} (e : ExtN H H') (h : Caught K H x o) : Caught K H' x o := by
  cases h with
  | no => exact .no
  | yes h => exact .yes (e _ _ h fun ps q => by unfold ExC at q; cases q)
theorem ExtN.ex (e : Ex H H') : ExtN H H' := ExtN.of e
theorem ExtN.upd (e : ExtN H0 H) (u : Upd H l o H') (f : ∃ Hk, ExtN H0 Hk ∧ Hk l = none) : ExtN H0 H' := fun b x h n => by
  obtain ⟨Hk, e1, h1⟩ := f
  have hb : b ≠ l := ne_of_none (e1 b x h n) h1
  rw [u.other b hb]
  exact e b x h n
theorem Tabs.upd (t : Tabs T H) (u : Upd H l o H') (h : ∃ x, H l = some x ∧ (∀ ps, x ≠ .tbl ps) ∧ ∀ c q, x ≠ CodeO c q) : Tabs T H' := fun p hp => by
  obtain ⟨x, hx, n1, n2⟩ := h
  obtain ⟨ps, h1, h2, h3⟩ := t p hp
  refine ⟨ps, u.get (fun z => ?_) h1, h2, fun pos cv hc => ?_⟩
  · rw [z, hx] at h1
    exact n1 ps (Option.some.inj h1)
  · obtain ⟨c, e1, e2⟩ := h3 pos cv hc
    refine ⟨c, e1, u.get (fun z => ?_) e2⟩
    rw [z, hx] at e2
    exact n2 _ _ (Option.some.inj e2)
theorem Tabs.updL (t : Tabs T H) (u : Upd H l o H') (h : H l = some (.lst xs)) : Tabs T H' := Tabs.upd t u ⟨_, h, (fun ps z => by cases z), (fun c q z => by unfold CodeO at z; cases z)⟩
theorem Tabs.ex (t : Tabs T H) (e : Ex H H') : Tabs T H' := LamX.Tabs.ext t e
end
end B

namespace B
open PySem PySem.Spec PyProof.Rows L2
open PySem.W (Frag)
/-! ### enumerate(t) of a tuple -/
def enumObj (a : Addr) : Obj := { cls := .type "enumerate", data := .fields #[.none, .bool false, .ref a, rawInt 0, .none, .none] }
theorem enum_new {v : Value} {oi : Obj} {Hd : Heap → Prop} (Bg : Begins v oi Hd) :
    Meets (Builtin.«enumerate.__new__» ⟨[.type "enumerate", v], []⟩) (fun _ R s => Hd s.heap ∧ R (.ok (.ret (.ref (s.heap.push oi).objs.size))) { s with heap := (s.heap.push oi).push (enumObj s.heap.objs.size) }) :=
  .of_wp fun prog w A R s hh => by
    obtain ⟨hp, g, d, tk, os⟩ := s
    obtain ⟨hd, hr⟩ := hh
    have hsub := sub_enumerate
    have start : ∀ {A' : Around} {E Q : Value → Shared → Prop}, Q (.ref hp.objs.size) ⟨hp.push oi, g, d, tk, os⟩ → wpAny (model prog w) A' (pyIter v) Q E ⟨hp, g, d, tk, os⟩ := fun q => Bg.iter prog w _ _ ⟨hp, g, d, tk, os⟩ _ hd q
    wp_walk using start
    refine wpAny_stack_any fun _ => wpAny_pure ?_
    split
    · rename_i c _ _ _ _ _
      cases (c == Value.type "enumerate") <;> (wp_walk using start; exact ⟨_, rfl, hr⟩)
    · wp_walk using start
      exact ⟨_, rfl, hr⟩
theorem call_enumB {prog : Program} {w : World} {A : Around} {E : Value → Shared → Prop} {s : Shared} {v : Value} {oi : Obj} {Hd : Heap → Prop} {Q : Value → Shared → Prop} (Bg : Begins v oi Hd) (hd : Hd s.heap)
    (h : ∀ h', IsEnum h' (s.heap.objs.size + 1) s.heap.objs.size 0 .none → h'.get? s.heap.objs.size = some oi → (∀ b o, s.heap.get? b = some o → h'.get? b = some o) → Q (.ref (s.heap.objs.size + 1)) { s with heap := h' }) :
    wpAny (model prog w) A (call (.type "enumerate") [v]) Q E s := by
  have sz1 : (s.heap.push oi).objs.size = s.heap.objs.size + 1 := Heap.size_push ..
  have made : IsEnum ((s.heap.push oi).push (enumObj s.heap.objs.size)) (s.heap.objs.size + 1) s.heap.objs.size 0 .none := by
    rw [← sz1]
    exact Heap.get?_push_size _ rfl
  refine callType_new F.called_enumerate (by decide) (F.typeCall_enumerate_1 _) (F.newCall_enumerate_1 _) (fun ob => F.args_object_init_2 ob _) F.entry_enumerate_new (enum_new Bg) ⟨hd, ?_⟩
  rw [sz1]
  exact ⟨⟨_, made, rfl⟩, h _ made (Heap.get?_push_of_some _ (Heap.get?_push_size _ Bg.free)) fun b o x => Heap.get?_push_of_some _ (Heap.get?_push_of_some _ x)⟩
/-- a tuple's items, each in a new pair with its place -/
def Iet (K : Frag) (a : Addr) : It :=
  ⟨fun i H => ∃ (xs : List V) (x : V), SqT K H a xs ∧ xs[i]? = some x,
   fun i H v H' => ∃ T x, v = .ref T ∧ H T = none ∧ H' = upd H T (.tup [.int (i : Nat), x]) ∧ ∀ xs, SqT K H a xs → xs[i]? = some x,
   fun i H => ∃ xs : List V, SqT K H a xs ∧ xs.length = i⟩
theorem rel_inj {x y : V} {u : Value} (h1 : RelV x u) (h2 : RelV y u) : x = y := L2.RelV.inj h1 h2
theorem vals_same {xs ys : List V} {us : List Value} (h1 : Vals xs us) (h2 : Vals ys us) : xs = ys := by
  induction h1 generalizing ys with
  | nil => cases h2; rfl
  | cons r t ih =>
    cases h2 with
    | cons r' t' => rw [rel_inj r r', ih t']
theorem tup_same {X : Cx} {pins : List (Addr × Obj)} {σ : L2.St} {H : Hp} {s : Shared} {a : Addr} {xs ys : List V} (I : Inv X pins σ H s) (h1 : SqT X.K H a xs) (h2 : SqT X.K H a ys) : xs = ys := by
  obtain ⟨i1, r1, ⟨o1, g1, _, n1, d1⟩, _⟩ := I.tuple h1
  obtain ⟨i2, r2, ⟨o2, g2, _, n2, d2⟩, _⟩ := I.tuple h2
  rw [g1] at g2
  cases g2
  rw [d1] at d2
  injection d2 with e _
  have e' : i1 = i2 := by simpa using e
  subst e'
  exact vals_same r1 r2
theorem turn_enumT {P : Program} {w : World} {K : Frag} {elts : List Expr} {kk : Nat} {tpos : Pos} (a e it : Addr) :
    Turn P w K (.Tuple elts kk tpos) (Iet K a) [e, it] e (fun i h => (∃ old, IsEnum h e it ((i : Nat) : Int) old) ∧ h.IsTupleIter it a i ∧ e ≠ it ∧ e ≠ a ∧ a ≠ it) where
  mem := List.mem_cons_self
  obj := fun i h st b hb => by
    obtain ⟨⟨old, he⟩, ⟨o, ho, _, hd⟩, _⟩ := st
    rcases List.mem_cons.mp hb with rfl | hb
    · exact ⟨_, he, fun v q => nomatch q⟩
    · obtain rfl : b = it := by simpa using hb
      exact ⟨o, ho, fun v q => by rw [hd] at q; cases q⟩
  keep := fun i h h' st k => by
    obtain ⟨⟨old, he⟩, hi, ne⟩ := st
    exact ⟨⟨old, k e List.mem_cons_self _ he⟩, hi.at fun o q => k it (by simp) o q, ne⟩
  item := by
    intro X hP hw hK calm i pins s σ H E I hf st hg
    subst hP hw hK
    obtain ⟨⟨old, he⟩, hit, ne1, ne2, ne3⟩ := st
    obtain ⟨xs, x, hq, hx⟩ := hg
    obtain ⟨its, rv, tp, _⟩ := I.tuple hq
    obtain ⟨u, hu, ru⟩ := rv.get hx
    have ile : i < its.toArray.size := by
      rw [List.size_toArray]
      exact (List.getElem?_eq_some_iff.mp hu).1
    have el : e < s.heap.objs.size := Heap.lt_size he
    have il : it < s.heap.objs.size := by
      obtain ⟨_, q, _⟩ := hit
      exact Heap.lt_size q
    refine wpAny_pyNext_enum_itemD (Draws.tuple (A := X.A.in1) (I.ok.hd calm) it a ne3 its.toArray) he ⟨hit, tp⟩ ile ne1 (by simp [ne1, ne2]) fun y h' tk hy hout st' hT _ hk => ?_
    have ey : y = u := by
      have : its.toArray[i]? = some y := hy
      rw [List.getElem?_toArray, hu] at this
      exact (Option.some.inj this).symm
    subst ey
    refine ⟨_, rfl, wpAny_letOwnedTupleGo_enum (s := { s with heap := h', toks := tk + 1 }) hout fun h2 he2 same => ?_⟩
    have hT2 : h2.get? s.heap.objs.size = some { cls := .type "tuple", data := .seq #[.int i tk, y] } := (same.2 _ (Nat.ne_of_gt el)).trans hT
    have ok : ObjOk X.prog X.w (upd H s.heap.objs.size (.tup [.int (i : Nat), x])) h2 s.heap.objs.size (.tup [.int (i : Nat), x]) := ⟨by show 2 ≤ sizeLine; decide, [.int i tk, y], .cons ⟨_, rfl⟩ (.cons ru .nil), ⟨_, hT2, rfl, _, rfl⟩⟩
    have J : Inv X pins σ (upd H s.heap.objs.size (.tup [.int (i : Nat), x])) { s with heap := h2, toks := tk + 1 } :=
      I.turnedNew (ch := [e, it]) (fun b ob hb q => (same.2 b fun z => hb (by simp [z])).trans (hk b ob (fun z => hb (by simp [z])) (fun z => hb (by simp [z])) q)) hf (Nat.le_refl _) ok
    refine ⟨.ref s.heap.objs.size, _, J, rfl, ⟨_, x, rfl, I.hok.fresh (Nat.le_refl _), rfl, fun ys hy => by rw [tup_same I hy hq]; exact hx⟩, ⟨⟨y, ?_⟩, st'.1.at fun o q => (same.2 it (Ne.symm ne1)).trans q, ne1, ne2, ne3⟩, fun b hb => ?_⟩
    · rw [show ((i + 1 : Nat) : Int) = (i : Int) + 1 from by omega]
      exact he2
    · have lt : b < s.heap.objs.size := by
        rcases List.mem_cons.mp hb with rfl | hb
        · exact el
        · obtain rfl : b = it := by simpa using hb
          exact il
      rw [upd_ne (Nat.ne_of_lt lt)]
      exact (hf b hb).1
  done := by
    intro X hP hw hK calm i pins s σ H E I hf st hg
    subst hP hw hK
    obtain ⟨⟨old, he⟩, hit, ne1, ne2, ne3⟩ := st
    obtain ⟨xs, hq, hx⟩ := hg
    obtain ⟨its, rv, tp, _⟩ := I.tuple hq
    have hl := rv.length
    obtain ⟨f0, f1, f2, f3, f4, f5⟩ := hf it (by simp)
    have sz : its.toArray.size = i := by
      rw [List.size_toArray]
      omega
    exact wpAny_pyNext_enum_endD (Draws.tuple (A := X.A.in1) (I.ok.hd calm) it a ne3 its.toArray) he ⟨by rw [sz]; exact hit, tp⟩ fun h' eb => ⟨rfl, I.turned (t' := s.toks) (fun b o hb q => eb b o hb q) f0 f1 f3 f4 f5⟩
  self := fun A i s Q E st h => by
    obtain ⟨⟨old, he⟩, _⟩ := st
    exact wpAny_pyIter_enum he h
def rEnumT (K : Frag) (R : It → Hp → Prop) : List V → Hp → Prop := fun vs H1 => ∃ a xs, vs = [.ref a] ∧ SqT K H1 a xs ∧ R (Iet K a) H1
def rEnumQ (K : Frag) (R : It → Hp → Prop) : List V → Hp → Prop := fun vs H1 => rEnum K R vs H1 ∨ rEnumT K R vs H1
def iEnumQ (K : Frag) (ta : TA) : TI := fun σ H R => ta σ H (rEnumQ K R)
theorem pi_enumT {X : Cx} {e : Expr} {ta : TA} {p pos tpos : Pos} {elts : List Expr} {kk : Nat} (hg : Gl X "enumerate") (hm : X.mg "enumerate" = none) (ha : PA X [e] ta) (hs : starEach [e] X.env = [(false, eval e X.env)] := by rfl) :
    PI X (.Tuple elts kk tpos) (.Call (.Name "enumerate" p) [e] [] pos) (iEnumQ X.K ta) := by
  refine ⟨fun pins s σ H R I hh => ?_⟩
  refine Call_ (ld_blt I hg hm boot_enumerate (callWith_type1 (thn (ha.run pos pins s σ H _ I hh) fun us s1 z => ?_) hs rfl))
  obtain ⟨vs, H1, I1, r1, z⟩ := z
  have fp : ∀ {H' : Hp} {h' : Heap}, (∀ b, s1.heap.objs.size ≤ b → H' b = none) → ∀ b ∈ [s1.heap.objs.size + 1, s1.heap.objs.size], FpOk X pins H' b := fun {H' h'} hn b hb => by
    have hle : s1.heap.objs.size ≤ b := by
      rcases List.mem_cons.mp hb with rfl | hb
      · exact Nat.le_succ _
      · obtain rfl : b = s1.heap.objs.size := by simpa using hb
        exact Nat.le_refl _
    exact I1.fpOk hle (hn b hle)
  rcases z with ⟨a, xs, rfl, hq, q⟩ | ⟨a, xs, rfl, hq, q⟩
  · obtain ⟨u, rfl, ru⟩ := vals1 r1
    obtain rfl : u = Value.ref a := ru
    obtain ⟨its, rv, pl, _⟩ := I1.list hq
    refine call_enumerate_list pl.isList fun h' he hit _ hk => wpAny_pyIter_enum he ⟨s1.heap.objs.size + 1, [s1.heap.objs.size + 1, s1.heap.objs.size], _, _, H1, rfl, I1.kept (t' := s1.toks) hk, turn_enum a _ _, ⟨⟨.none, he⟩, hit, Nat.succ_ne_self _⟩, fp (h' := h') fun b hb => I1.hok.fresh hb, q⟩
  · obtain ⟨u, rfl, ru⟩ := vals1 r1
    obtain rfl : u = Value.ref a := ru
    obtain ⟨its, rv, tp, _⟩ := I1.tuple hq
    have la : a < s1.heap.objs.size := by
      obtain ⟨o, e, _⟩ := tp
      exact Heap.lt_size e
    refine call_enumB (begins_tuple a its.toArray) tp fun h' he hit hk => wpAny_pyIter_enum he ⟨s1.heap.objs.size + 1, [s1.heap.objs.size + 1, s1.heap.objs.size], _, _, H1, rfl, I1.kept (t' := s1.toks) hk, turn_enumT a _ _, ⟨⟨.none, he⟩, ⟨_, hit, rfl, rfl⟩, Nat.succ_ne_self _, Nat.ne_of_gt (Nat.lt_succ_of_lt la), Nat.ne_of_lt la⟩, fp (h' := h') fun b hb => I1.hok.fresh hb, q⟩
section
variable {K : Frag} {σ : L2.St} {H : Hp} {i j : Nat} {D : Ends} {ts : TS} {a : Addr} {tr : TA}
theorem x_iEnumQ {R : It → Hp → Prop} (h : tr σ H (rEnumQ K R)) : iEnumQ K tr σ H R := h
/-- for i, x in enumerate(a list or a tuple that stands) -/
theorem x_forEQ {α : Type} (as : List α) (f : α → V) (Pv : List α → L2.St → Hp → Prop) (h0 : Pv [] σ H) (hl : (∀ pre σ' H', pre.length ≤ as.length → Pv pre σ' H' → SqL K H' a (as.map f)) ∨ ∀ pre σ' H', pre.length ≤ as.length → Pv pre σ' H' → SqT K H' a (as.map f))
    (mono : ∀ pre σ' H' H'', Pv pre σ' H' → Ex H' H'' → Pv pre σ' H'')
    (hs : ∀ pre x post σ' H', as = pre ++ x :: post → Pv pre σ' H' → ts { D with nx := Pv (pre ++ [x]), ct := Pv (pre ++ [x]), bk := D.nx } ((σ'.set i (some (.int (pre.length : Nat)))).set j (some (f x))) H')
    (hd : ∀ σ' H', Pv as σ' H' → D.nx σ' H') : rEnumQ K (ForRun (gTup K 2 (gCons (gName i) (gCons (gName j) gNil))) ts D σ) [.ref a] H := by
  rcases hl with hl | hl
  · exact .inl (x_forE as f Pv h0 hl mono hs hd)
  · refine .inr ⟨a, _, rfl, hl [] σ H (Nat.zero_le _) h0, fun k m σ' H' => m = as.length - k ∧ k ≤ as.length ∧ Pv (as.take k) σ' H', ⟨_, rfl, Nat.zero_le _, by rw [List.take_zero]; exact h0⟩, ?_⟩
    rintro k m σ' H' ⟨rfl, hk, p⟩
    have hq := hl _ σ' H' (by rw [List.length_take]; omega) p
    by_cases hlt : k < as.length
    · have ex : as[k]? = some as[k] := List.getElem?_eq_getElem hlt
      have ev : (as.map f)[k]? = some (f as[k]) := by rw [List.getElem?_map, ex]; rfl
      refine .inr ⟨⟨_, _, hq, ev⟩, Pv (as.take k ++ [as[k]]), fun σ'' H'' p' => ⟨as.length - (k + 1), by omega, rfl, hlt, by rw [take_snoc ex]; exact p'⟩, fun x H2 y => ?_⟩
      obtain ⟨T, x', rfl, hT, rfl, f1⟩ := y
      have e1 := Option.some.inj (ev.symm.trans (f1 _ hq))
      subst e1
      refine ⟨T, _, rfl, .inl (.inl upd_same), rfl, _, _, rfl, _, _, rfl, rfl, ?_⟩
      have q := hs (as.take k) as[k] (as.drop (k + 1)) σ' _ (split_at ex) (mono _ _ _ _ p (Evl.Ex.new (o := .tup [.int (k : Nat), f as[k]]) hT))
      have el : (as.take k).length = k := by rw [List.length_take]; omega
      rw [el] at q
      exact q
    · have e : k = as.length := by omega
      subst e
      refine .inl ⟨⟨_, hq, by rw [List.length_map]⟩, hd σ' H' ?_⟩
      rw [List.take_length] at p
      exact p
end
end B

namespace B
open PySem PySem.Spec PyProof.Rows L2
open PySem.W (Frag)
open LamX (Tabs ExtN)
/-- p is none of the things that stood -/
def Apart (H : Hp) (p : Addr) : Prop := ∀ b o, H b = some o → (∀ ps, o ≠ .tbl ps) → b ≠ p
theorem Apart.back {H H' : Hp} {p : Addr} (e : ExtN H H') (h : Apart H' p) : Apart H p := fun b o hb n => h b o (e b o hb n) n
theorem Apart.of {H : Hp} {p : Addr} (h : H p = none) : Apart H p := fun b o hb _ => ne_of_none hb h
section
variable {K : Frag} {σ : L2.St} {H : Hp} {Q : VK} {i j : Nat} {te : TE} {tt : TT} {a : Addr} {T : List (Addr × Str)}
theorem x_sortLam (h : tCons te tNil σ H (SortAsk T j σ Q)) : tSortLam T j te σ H Q := h
theorem x_lcQ {vs : List Nat} {α : Type} (as : List α) (f : α → V) (p : α → Bool) (v : α → V) (hv : σ[i]? = some (some (.ref a))) (hq : Sq K H a (as.map f)) (h : LcSay K j vs tt te σ H Q α as f p v) : iSq K (tVar i) σ H (LcRun (gName j) tt te vs σ Q) :=
  hq.elim (fun hq => .inl ⟨.ref a, hv, x_lcL as f p v hq h⟩) fun hq => .inr ⟨.ref a, hv, x_lcT as f p v hq h⟩
end
end B
namespace B
open PySem PySem.Spec PyProof.Rows L2
open LamX (Tabs ExtN)
section
variable {σ : L2.St} {H : Hp} {Q : VK} {ta tb tc : TE} {r r' : R2}
theorem x_chain (h : ta σ H fun x H1 => tb σ H1 fun y H2 => r x y H2 fun z H3 => ∃ k, z = .bl k ∧ (if k = true then tc σ H3 fun w' H4 => r' y w' H4 Q else Q (.bl false) H3)) : tChain r r' ta tb tc σ H Q := h
end
theorem cut_part (ns : List Int) (a b : Nat) : ∃ ms : List Int, cutV (ns.map V.int) (some (a : Int)) (some (b : Int)) = ms.map V.int ∧ ms.length ≤ b - a := by
  unfold cutV
  rw [HT.sIx_nat, HT.sIx_nat, List.length_map]
  refine ⟨(ns.drop (min a ns.length)).take (min b ns.length - min a ns.length), by rw [List.map_take, List.map_drop], ?_⟩
  rw [List.length_take]
  omega
theorem bl_decide (c : Prop) [Decidable c] (b : Bool) (h : b = true ↔ c) : b = decide c := by
  by_cases e : c
  · rw [decide_eq_true e, h.mpr e]
  · rw [decide_eq_false e]
    cases b with
    | false => rfl
    | true => exact absurd (h.mp rfl) e
end B
namespace B
theorem x_ntrue {A C : Prop} (h : C) : if (!true) = true then A else C := by rw [if_neg (by decide)]; exact h
theorem x_nfalse {A C : Prop} (h : A) : if (!false) = true then A else C := by rw [if_pos (by decide)]; exact h
end B

namespace B
open PySem PySem.Spec PyProof.Rows L2
open PySem.W (Frag)
open LamX (Tabs TabS ExtN TabB)
/-! ### the end of a law with a table -/
/-- where a def's code object and its table stand -/
theorem tab_in {K : Frag} {x : Str} {f c Pt : Addr} {oc oc2 : Value} {od od2 : Option Addr} {fd : FuncData} {sl sl2 : Array (Option Value)} {vs : Array Value} (a : PySem.W.nsIn K mainGlobals x = some (some (.ref f))) (l : K.lookup f = some ⟨oc, od, .func fd, sl⟩) (e : fd.code = .ref c)
    (lc : K.lookup c = some ⟨oc2, od2, .fields vs, sl2⟩) (h : vs[11]? = some (.ref Pt)) : PySem.W.tabIn K x = some (c, Pt) := by
  unfold PySem.W.tabIn
  simp only [a, l, e, lc, h]
theorem no_tab {K : Frag} {h : Heap} {Pt : Addr} (X : K.In h) (nt : PySem.W.noTabs K = true) (e : h.get? Pt = some (PySem.W.tabObj #[])) : K.lookup Pt = none := by
  cases q : K.lookup Pt with
  | none => rfl
  | some o =>
    have e2 := X Pt o q
    rw [e] at e2
    cases e2
    have h2 := List.all_eq_true.mp nt (Pt, _) (PySem.W.mem_of_lookupK q)
    exact absurd (show false = true from h2) Bool.false_ne_true
theorem tabs_one {H : Hp} {Pt : Addr} {q : Str} (h : H Pt = some (.tbl #[])) : Tabs [(Pt, q)] H := fun p hp => by
  rw [List.mem_singleton.mp hp]
  exact TabS.nil h
theorem walk_tab {l : PySem.W.OpenLaw} {n k : Nat} {q : Program} {loose : List Str} {XP : (Str → Option Value) → Heap → Prop} {YP : World → Heap → Prop} {d : DefRec} {K : Params → Frag} {x y ql : Str} {sp : Frag → Addr → Sp}
    (hn : l.most = some n) (hn2 : n ≤ sizeLine) (hdf : d.params.defaults = []) (hr : Room k callerA) (hY : ∀ (w : World) (h : Heap), YP w h → (K w.params).In h) (hnt : ∀ w : World, PySem.W.noTabs (K w.params) = true) (hrec : ∃ e, (recsOf q).find? (fun e => e.name == y) = some e)
    (hsp : ∀ (K : Frag) (Pt : Addr) (H : Hp) (a : Addr) (ns : List Int), ns.length ≤ n → (∀ z ∈ ns, Builtin.Int.intBits z ≤ 1048576) → Tabs [(Pt, ql)] H → SqL K H a (ns.map V.int) → sp K Pt [.ref a] H (fun v _ => v = .bl true) fun _ _ _ => False)
    (F : ∀ (w : World) (mg : Str → Option Value) (fa : Addr) (h : Heap), (K w.params).In h → h.Ns mainGlobals mg → mg d.name = some (.ref fa) →
      ∃ (fd : FuncData) (c Pt : Addr), PySem.W.tabIn (K w.params) y = some (c, Pt) ∧ (∀ (s : Shared) (u : Value), BindsTo s fd ⟨[u], []⟩ [(x, u)]) ∧
        ∀ base : Heap, (K w.params).In base → base.Ns mainGlobals mg → TabB base mg c Pt → FnOk l.prog w (K w.params) mg base (L2.CX l.prog w) k fa fd [x] (sp (K w.params) Pt)) :
    PySem.W.WalkO q loose XP YP l.row.toRowW d [] (fun f vs => PySem.call f vs) := by
  refine Att.attach_callB hn hdf fun w s₀ s₁ mg mb fa o pm cd doc a vs ns G Y ho hd hcd hmg hobj hints hlen hbits hg => ?_
  have KX := hY w _ Y
  obtain ⟨e, he⟩ := hrec
  obtain ⟨fd, c, Pt, ht, hb, hF⟩ := F w mg fa _ KX G.T.g hmg
  obtain ⟨g1, g2⟩ := PySem.W.tab_of G.T KX he ht
  refine LamX.law_callTs (cs := [(c, Pt)]) KX G.T.g G.T.b G.T.builtins G.T.nolimit hg (fun p hp => ?_) (fun p hp => ?_) (fun p hp => ?_) G.T.bmain hobj hints (Nat.le_trans hlen hn2) hr (fun base hK hN hT => hF base hK hN (hT _ List.mem_cons_self)) hb
    (fun H hH hS => hsp _ Pt H a ns hlen hbits (tabs_one (hH _ List.mem_cons_self)) hS) fun H e s' z => ?_
  · rw [List.mem_singleton.mp hp]
    exact g2
  · rw [List.mem_singleton.mp hp]
    exact no_tab KX (hnt w) g2
  · rw [List.mem_singleton.mp hp]
    exact g1
  · obtain ⟨_, _, _, _, _, _, _, _, _, _, _, _, z⟩ := z
    exact z
end B

namespace B
open PySem PySem.Spec PyProof.Rows L2
open PySem.W (Frag)
/-! ### d.get(k, x), d.setdefault(k, x) -/
section
variable {σ : L2.St} {H : Hp} {Q : VK} {td ty tx : TE} {a b : Addr} {kvs : List (Key × V)} {kts : List (List Key × V)} {z : V} {n : Int} {k : List Key}
def rDg (a : Addr) (Q : VK) (y z : V) (H3 : Hp) : Prop := ∃ o, DGet H3 a y o ∧ Q (o.getD z) H3
def rDg2 (ty tx : TE) (σ : L2.St) (Q : VK) : V → Hp → Prop := fun x H1 => ∃ a, x = .ref a ∧ IsD H1 a ∧ ty σ H1 fun y H2 => tx σ H2 fun z H3 => rDg a Q y z H3
theorem x_dget2 (h : td σ H (rDg2 ty tx σ Q)) : tDGet2 td ty tx σ H Q := h
theorem x_dg2K (hd : H a = some (.dK kvs)) (h : ty σ H fun y H2 => tx σ H2 fun z H3 => rDg a Q y z H3) : rDg2 ty tx σ Q (.ref a) H := ⟨a, rfl, .inl ⟨kvs, .inl hd⟩, h⟩
theorem x_dg2T (hd : H a = some (.dT kts)) (h : ty σ H fun y H2 => tx σ H2 fun z H3 => rDg a Q y z H3) : rDg2 ty tx σ Q (.ref a) H := ⟨a, rfl, .inr ⟨kts, .inl hd⟩, h⟩
theorem x_dgI (hd : H a = some (.dK kvs)) (q : Q ((valV kvs (.inl n)).getD z) H) : rDg a Q (.int n) z H := ⟨_, DGet.k (k := .inl n) hd, q⟩
theorem x_dgT (hd : H a = some (.dT kts)) (hb : H b = some (.tup (k.map kV))) (q : Q ((valV kts k).getD z) H) : rDg a Q (.ref b) z H := ⟨_, DGet.t hd hb, q⟩
def rSd (a : Addr) (Q : VK) (y z : V) (H3 : Hp) : Prop := ∃ (kvs : List (Key × V)) (k : Key), H3 a = some (.dK kvs) ∧ y = kV k ∧ kvs.length < sizeLine ∧ (∀ v, valV kvs k = some v → Q v H3) ∧ (valV kvs k = none → Q z (upd H3 a (.dK (putK kvs k z))))
def rSd2 (ty tx : TE) (σ : L2.St) (Q : VK) : V → Hp → Prop := fun x H1 => ∃ a, x = .ref a ∧ IsD H1 a ∧ ty σ H1 fun y H2 => tx σ H2 fun z H3 => rSd a Q y z H3
theorem x_dsetd (h : td σ H (rSd2 ty tx σ Q)) : tDSetd td ty tx σ H Q := h
theorem x_sd2 (hd : H a = some (.dK kvs)) (h : ty σ H fun y H2 => tx σ H2 fun z H3 => rSd a Q y z H3) : rSd2 ty tx σ Q (.ref a) H := ⟨a, rfl, .inl ⟨kvs, .inl hd⟩, h⟩
theorem x_sdI (hd : H a = some (.dK kvs)) (hz : kvs.length ≤ 1000000) (q1 : ∀ v, valV kvs (.inl n) = some v → Q v H) (q0 : valV kvs (.inl n) = none → ∀ H', Upd H a (.dK (putK kvs (.inl n) z)) H' → Q z H') : rSd a Q (.int n) z H := ⟨kvs, .inl n, hd, rfl, szl hz, q1, fun e => q0 e _ .mk0⟩
/-- d[t] = v, of a dict with tuple keys -/
theorem x_putT {v : V} {nx : Hp → Prop} (hd : H a = some (.dT kts)) (hb : H b = some (.tup (k.map kV))) (hz : kts.length ≤ 1000000) (q : ∀ H', Upd H a (.dT (putK kts k v)) H' → nx H') : rDPut v (.ref a) (.ref b) nx H := ⟨a, _, rfl, DPut.t hd hb (szl hz), q _ .mk0⟩
theorem x_dnewT (h : ∀ p H', H p = none → Ex H H' → H' p = some (.dT []) → Q (.ref p) H') : tDNewT σ H Q := fun p hp => h p _ hp (Evl.Ex.new hp) upd_same
end
end B
namespace B
open PySem PySem.Spec PyProof.Rows L2
section
variable {K : PySem.W.Frag} {H : Hp} {Q : VK} {p : Addr} {xs : List V}
theorem x_isLL (h : SqL K H p xs) (q : Q (.bl true) H) : rIsi K [.ref p, .ty "list"] H Q := x_isi_list (.lst h) q
theorem x_isTT (h : SqT K H p xs) (q : Q (.bl true) H) : rIsi K [.ref p, .ty "tuple"] H Q := x_isi_tuple (.tup h) q
end
end B

namespace B
open PySem PySem.Spec PyProof.Rows L2
open PySem.W (Frag)
/-! ### classes and their methods, by their names -/
/-- the class named c -/
structure IsCls (K : Frag) (mg : Str → Option Value) (c : Str) : Prop where
  at_ : mg c = some (.ref (B.at_ mg c))
  cls : Cls K (B.at_ mg c)
  makes : PySem.W.makesIn K (B.at_ mg c) = true
  kp : PySem.W.keepIn K (.ref (B.at_ mg c)) = true
/-- the method m of the class named c keeps the promise -/
def HasM (P : Program) (w : World) (K : Frag) (mg : Str → Option Value) (base : Heap) (c m : Str) (k : Nat) (ps : List Str) (sp : Sp) : Prop :=
  ∃ (f : Addr) (fd : FuncData), FnOk P w K mg base (L2.CX P w) k f fd ps sp ∧ Meth K (B.at_ mg c) m f ∧ Binds K fd ps []
/-- the def st stands as method m of the class c0; the class c has it -/
def StandsM (K : Frag) (mg : Str → Option Value) (c m qual : Str) (st : Stmt) : Prop := ∃ (f : Addr) (fd : FuncData), Fun K m qual st f fd ∧ Meth K (B.at_ mg c) m f
section
variable {P : Program} {w : World} {K : Frag} {mg : Str → Option Value} {base : Heap}
theorem hasM_of {c m qual : Str} {st : Stmt} {N ps : List Str} {k : Nat} {sp : Sp} (S : StandsM K mg c m qual st) (C : FnScope N ps (defScope st))
    (hb : ∀ (kV doc pm : Value) (an : Option Addr) (cdv ct : Value) (us : List Value), us.length = ps.length → bindArgs (PySem.W.fnOf m qual (defArgs st) (defBody st) (defScope st) .none kV doc pm an cdv ct) ⟨us, []⟩ = pure (ps.zip us))
    (len : ∀ vs H Q E, sp vs H Q E → vs.length = ps.length)
    (hbody : ∀ (f : Addr) (cdv : Value) (A : Around) (outer : List Env) (s : Shared) (H : Hp) (vs : List V) (Q : VK) (E : XK), Room k (A.deeper (envOfC qual (defScope st) s.heap.objs.size f cdv)) → sp vs H Q E →
      ∃ t, PSs (cxOf (L2.CX P w) P w K mg base N qual (defScope st) f cdv A outer s H E) (defBody st) t ∧ t { nx := fun _ H' => Q .non H', rt := Q } (start N vs) H) :
    HasM P w K mg base c m (k + 1) ps sp := by
  obtain ⟨f, fd, F, M⟩ := S
  exact ⟨f, fd, F.okX C len fun cdv A outer s H vs Q E hr h => hbody f cdv A outer s H vs Q E hr h, M, F.binds hb⟩
theorem hasM_ofN {c m qual : Str} {st : Stmt} {N ps : List Str} {k : Nat} {sp : Sp} (S : StandsM K mg c m qual st) (C : FnScope N ps (defScope st))
    (hb : ∀ (kV doc pm : Value) (an : Option Addr) (cdv ct : Value) (us : List Value), us.length = ps.length → bindArgs (PySem.W.fnOf m qual (defArgs st) (defBody st) (defScope st) .none kV doc pm an cdv ct) ⟨us, []⟩ = pure (ps.zip us))
    (len : ∀ vs H Q E, sp vs H Q E → vs.length = ps.length)
    (hbody : ∀ (f : Addr) (cdv : Value) (A : Around) (outer : List Env) (s : Shared) (H : Hp) (vs : List V) (Q : VK) (E : XK), Room k (A.deeper (envOfC qual (defScope st) s.heap.objs.size f cdv)) → sp vs H Q E →
      ∃ t, PSs (cxOf (L2.CX P w) P w K mg base N qual (defScope st) f cdv A outer s H E).nox (defBody st) t ∧ t { nx := fun _ H' => Q .non H', rt := Q } (start N vs) H) :
    HasM P w K mg base c m (k + 1) ps sp := hasM_of S C hb len fun f cdv A outer s H vs Q E hr h => by
  obtain ⟨t, ht, q⟩ := hbody f cdv A outer s H vs Q E hr h
  exact ⟨t, ht.nox, q⟩
end
/-! a family of classes: which of them an object is of is told by the heap -/
/-- S c sp: the class named c, its method's promise -/
def FamM (P : Program) (w : World) (K : Frag) (mg : Str → Option Value) (base : Heap) (m : Str) (k : Nat) (ps : List Str) (S : Str → Sp → Prop) : Prop := ∀ c sp, S c sp → IsCls K mg c ∧ HasM P w K mg base c m k ps sp
def rMethF (mg : Str → Option Value) (m : Str) (S : Str → Sp → Prop) (E : L2.St → XK) (t : TA) (σ : L2.St) (Q : VK) : V → Hp → Prop := fun x H1 => ∃ c sp a dx fs, S c sp ∧ x = .ref a ∧ H1 a = some (.ins (B.at_ mg c) dx fs) ∧ fs.lookup m = none ∧ t σ H1 fun vs H2 => sp (x :: vs) H2 Q (E σ)
def tMethF (mg : Str → Option Value) (m : Str) (S : Str → Sp → Prop) (E : L2.St → XK) (ta : TE) (t : TA) : TE := fun σ H Q => ta σ H (rMethF mg m S E t σ Q)
section
variable {X : Cx} {k j : Nat} {m : Str} {ps : List Str} {S : Str → Sp → Prop} {E : L2.St → XK} {p pos apos : Pos} {e o : Expr} {es : List Expr} {ta : TE} {t : TA}
theorem pe_methF {mg0 : Str → Option Value} {pl : Sem Bool} (he : PE X o ta) (A : FamM X.prog X.w X.K X.mg X.base m j ps S) (hr : Room k X.A) (hx : ∀ σ, PassesAt (L2.CX X.prog X.w) X σ (E σ)) (ha : PA X (e :: es) t) (hj : j ≤ k := by decide) (em : X.mg = mg0 := by rfl)
    (hst : starEach (e :: es) X.env = (false, eval e X.env) :: starEach es X.env := by rfl) (hpl : (backTo pos (starEach es X.env)).any (·.1) = false := by rfl)
    (ht : eval (.Call (.Attribute o m apos) (e :: es) [] pos) X.env = (do
      let vv ← eval o X.env
      standAt apos.atName
      let (ff, fst) ← holding [vv] (getMethod vv m pl)
      callWith pos ff fst (backTo pos (starEach (e :: es) X.env)) (backToKw pos (keywordEach [] X.env))) := by rfl) :
    PE X (.Call (.Attribute o m apos) (e :: es) [] pos) (tMethF mg0 m S E ta t) := by
  subst em
  constructor
  intro pins s σ H Q I hh
  refine PySem.W.methodCall_KW (pl := pl) (thn (he.run pins s σ H _ I hh) fun u s1 z => ?_) ht
  obtain ⟨x, H1, I1, rx, c, sp, a, dx, fs, hS, rfl, ea, l, q⟩ := z
  obtain rfl : u = Value.ref a := rx
  obtain ⟨ic, f, fd, F, M, b⟩ := A c sp hS
  refine getmeth_ok I1 ea ic.cls M l ?_
  refine PySem.W.callWith_K (first := [.ref a]) (h₀ := X.base) I.ok.mod.kin M.kp (thn (ha.run pos pins s1 σ H1 _ I1 q) fun us s2 z2 => ?_) hst hpl
  obtain ⟨vs, H2, I2, r, q2⟩ := z2
  exact ⟨I2.kIn, run_fnS (us := .ref a :: us) (vs := .ref a :: vs) F (hr.mono hj) b (hx σ) I2 (.cons rfl r) q2⟩
theorem pe_methF0 {mg0 : Str → Option Value} {pl : Sem Bool} (he : PE X o ta) (A : FamM X.prog X.w X.K X.mg X.base m j ps S) (hr : Room k X.A) (hx : ∀ σ, PassesAt (L2.CX X.prog X.w) X σ (E σ)) (hj : j ≤ k := by decide) (em : X.mg = mg0 := by rfl)
    (ht : eval (.Call (.Attribute o m apos) [] [] pos) X.env = (do
      let vv ← eval o X.env
      standAt apos.atName
      let (ff, fst) ← holding [vv] (getMethod vv m pl)
      callWith pos ff fst (backTo pos (starEach [] X.env)) (backToKw pos (keywordEach [] X.env))) := by rfl) :
    PE X (.Call (.Attribute o m apos) [] [] pos) (tMethF mg0 m S E ta tNil) := by
  subst em
  constructor
  intro pins s σ H Q I hh
  refine PySem.W.methodCall_KW (pl := pl) (thn (he.run pins s σ H _ I hh) fun u s1 z => ?_) ht
  obtain ⟨x, H1, I1, rx, c, sp, a, dx, fs, hS, rfl, ea, l, q⟩ := z
  obtain rfl : u = Value.ref a := rx
  obtain ⟨ic, f, fd, F, M, b⟩ := A c sp hS
  refine getmeth_ok I1 ea ic.cls M l ?_
  exact PySem.W.callWith_K0 (first := [.ref a]) I1.kIn M.kp (run_fnS (us := [.ref a]) (vs := [.ref a]) F (hr.mono hj) b (hx σ) I1 (.cons rfl .nil) q)
end
/-! a new object -/
def rMakeS (mg : Str → Option Value) (c : Str) (sp : Sp) (E : L2.St → XK) (σ : L2.St) (Q : VK) : List V → Hp → Prop := fun vs H1 => ∀ x dx, H1 x = none → H1 dx = none → dx ≠ x → sp (.ref x :: vs) (upd (upd H1 dx (.own x)) x (.ins (B.at_ mg c) dx [])) (fun v H2 => v = .non ∧ Q (.ref x) H2) (E σ)
def tMakeS (mg : Str → Option Value) (c : Str) (sp : Sp) (E : L2.St → XK) (t : TA) : TE := fun σ H Q => t σ H (rMakeS mg c sp E σ Q)
section
variable {X : Cx} {k j : Nat} {c : Str} {ps : List Str} {sp : Sp} {E : L2.St → XK} {p pos : Pos} {e : Expr} {es : List Expr} {t : TA}
theorem pe_makeS {mg0 : Str → Option Value} (ic : IsCls X.K X.mg c) (h : HasM X.prog X.w X.K X.mg X.base c "__init__" j ps sp) (hr : Room k X.A) (hx : ∀ σ, PassesAt (L2.CX X.prog X.w) X σ (E σ)) (ha : PA X (e :: es) t) (hj : j + 1 ≤ k := by decide) (em : X.mg = mg0 := by rfl) (hg : Gl X c := by rfl)
    (hdb : (c == ("__debug__" : Str)) = false := by decide) (he : starEach (e :: es) X.env = (false, eval e X.env) :: starEach es X.env := by rfl) (hpl : (backTo pos (starEach es X.env)).any (·.1) = false := by rfl) :
    PE X (.Call (.Name c p) (e :: es) [] pos) (tMakeS mg0 c sp E t) := by
  subst em
  obtain ⟨f, fd, F, M, b⟩ := h
  constructor
  intro pins s σ H Q I hh
  refine wpAny_Call_Name_kw (ld_glob I hg ic.at_ ?_ hdb)
  refine PySem.W.callWith_K (h₀ := X.base) I.ok.mod.kin ic.kp (thn (ha.run pos pins s σ H _ I hh) fun us s1 z => ?_) he hpl
  obtain ⟨vs, H1, I1, r, q⟩ := z
  refine ⟨I1.kIn, ?_⟩
  have hq := q (s1.heap.objs.size + 1) s1.heap.objs.size (I1.hok.fresh (Nat.le_succ _)) (I1.hok.fresh (Nat.le_refl _)) (Nat.ne_of_lt (Nat.lt_succ_self _))
  have I2 := Inv.made (C := B.at_ X.mg c) I1
  have r2 : Vals (V.ref (s1.heap.objs.size + 1) :: vs) (Value.ref (s1.heap.objs.size + 1) :: us) := .cons rfl r
  have hl : (Value.ref (s1.heap.objs.size + 1) :: us).length = ps.length := by
    rw [← F.len _ _ _ _ hq]
    exact r2.length.symm
  have hb := b _ (Value.ref (s1.heap.objs.size + 1) :: us) I2.kIn (by rw [List.append_nil]; exact hl)
  rw [List.append_nil] at hb
  refine wpAny_call (make_map (f := f) I1.kIn ic.makes M.at_ (beq_iff_eq.mp M.fn) (codeAny_mono (F.run _ X.stack _ _ ⟨Value.ref (s1.heap.objs.size + 1) :: us, []⟩ _ _ _ (E σ) ((hr.mono hj).make (B.at_ X.mg c) us []) (I2.env0.make (B.at_ X.mg c) us []) hb r2 hq) fun res s' hq' => ?_))
  match res, hq' with
  | .error ev, hq' => exact hx σ pins _ _ ev s' I2 hq'
  | .ok (.ret u), hq' =>
    obtain ⟨v, H', I3, rv, ev, q3⟩ := I2.after hq'
    subst ev
    exact ⟨rv, ⟨V.ref (s1.heap.objs.size + 1), H', I3, rfl, q3⟩⟩
  | .ok .next, hq' => exact False.elim hq'
  | .ok .brk, hq' => exact False.elim hq'
  | .ok .cont, hq' => exact False.elim hq'
/-- outside a try: what is raised is handed on -/
theorem pass0At {X : Cx} (σ : L2.St) : PassesAt (L2.CX X.prog X.w) X σ E0 := fun pins H s e s' I c => passL pins σ H s e s' I c
theorem passUAt {X : Cx} {E : XK} (tk : Takes X (fun cls d _ H => E cls d H)) (σ : L2.St) : PassesAt (L2.CX X.prog X.w) X σ E := fun pins H s e s' I c => passU tk pins σ H s e s' I c
end
section
variable {σ : L2.St} {H : Hp} {Q : VK} {mg : Str → Option Value} {c m : Str} {sp : Sp} {E : L2.St → XK} {t : TA} {ta : TE} {S : Str → Sp → Prop} {a dx : Addr} {fs : List (Str × V)} {vs : List V}
theorem x_makeS (h : t σ H (rMakeS mg c sp E σ Q)) : tMakeS mg c sp E t σ H Q := h
/-- the new object's heap -/
structure Born (mg : Str → Option Value) (c : Str) (H : Hp) (x dx : Addr) (H' : Hp) : Prop where
  ex : Ex H H'
  x0 : H x = none
  d0 : H dx = none
  ne : dx ≠ x
  ins : H' x = some (.ins (B.at_ mg c) dx [])
  own : H' dx = some (.own x)
theorem x_make (h : ∀ x dx H', Born mg c H x dx H' → sp (.ref x :: vs) H' (fun v H2 => v = .non ∧ Q (.ref x) H2) (E σ)) : rMakeS mg c sp E σ Q vs H := fun x dx hx hd ne => h x dx _
  { ex := (Evl.Ex.new hd).trans (Evl.Ex.new (by rw [upd_ne (Ne.symm ne)]; exact hx))
    x0 := hx
    d0 := hd
    ne := ne
    ins := upd_same
    own := by rw [upd_ne ne, upd_same] }
theorem x_methF (h : ta σ H (rMethF mg m S E t σ Q)) : tMethF mg m S E ta t σ H Q := h
theorem x_onM (hS : S c sp) (ha : H a = some (.ins (B.at_ mg c) dx fs)) (hl : fs.lookup m = none) (h : t σ H fun vs H2 => sp (.ref a :: vs) H2 Q (E σ)) : rMethF mg m S E t σ Q (.ref a) H := ⟨c, sp, a, dx, fs, hS, rfl, ha, hl, h⟩
end
end B

namespace B
open PySem PySem.Spec PyProof.Rows L2
open PySem.W (Frag)
open LamX (Tabs ExtN CodeO)
/-- an item by an index in its bounds -/
theorem at_mem {xs : List V} {k : Int} (h0 : 0 ≤ k) (h : k < xs.length) : ∃ v, atI xs k = some v ∧ v ∈ xs := by
  obtain ⟨j, rfl⟩ : ∃ j : Nat, k = (j : Nat) := ⟨k.toNat, by omega⟩
  have hj : j < xs.length := by omega
  exact ⟨xs[j], atI_nat (List.getElem?_eq_getElem hj), List.getElem_mem hj⟩
/-- all are ints of a kind -/
theorem ints_of {p : Int → Prop} : ∀ {zs : List V}, (∀ v ∈ zs, ∃ n, v = .int n ∧ p n) → ∃ ns : List Int, zs = ns.map V.int ∧ ∀ n ∈ ns, p n
  | [], _ => ⟨[], rfl, fun n h => nomatch h⟩
  | z :: zs, h => by
    obtain ⟨n, rfl, hn⟩ := h z List.mem_cons_self
    obtain ⟨ns, rfl, hs⟩ := ints_of fun v hv => h v (List.mem_cons_of_mem _ hv)
    refine ⟨n :: ns, rfl, fun m hm => ?_⟩
    rcases List.mem_cons.mp hm with rfl | hm
    · exact hn
    · exact hs m hm
/-! ### a comprehension over a range, by what holds of the heap -/
section
variable {K : Frag} {σ : L2.St} {H : Hp} {Q : VK} {j : Nat} {te : TE} {vs : List Nat}
theorem x_lcRN {lo : Int} {m : Nat} (Iv : Hp → Prop) (Pe : Int → V → Prop) (hz : m ≤ 1000000) (hw : ∀ x, wipe ((wipe σ vs).set j (some x)) vs = wipe σ vs) (h0 : Iv H) (stab : ∀ H' D ys, H D = none → Iv H' → (H' D = none ∨ ∃ xs, H' D = some (.lst xs)) → Iv (upd H' D (.lst ys)))
    (he : ∀ i, lo ≤ i → i < lo + m → ∀ H' D zs, H D = none → H' D = some (.lst zs) → Iv H' → ∀ Q' : VK, (∀ v H2, Pe i v → Iv H2 → H2 D = some (.lst zs) → Q' v H2) → te ((wipe σ vs).set j (some (.int i))) H' Q')
    (q : ∀ D H2 (zs : List V), H D = none → Iv H2 → H2 D = some (.lst zs) → zs.length = m → (∀ (k : Nat) v, zs[k]? = some v → Pe (lo + (k : Nat)) v) → Q (.ref D) H2) :
    LcRun (gName j) tYes te vs σ Q (Itr lo m) H := by
  intro Dl hD
  refine lc_range (fun k H' => Iv H' ∧ ∃ zs : List V, H' Dl = some (.lst zs) ∧ zs.length = k ∧ ∀ (i : Nat) v, zs[i]? = some v → Pe (lo + (i : Nat)) v)
    ⟨stab H Dl [] hD h0 (.inl hD), [], by rw [upd_same], rfl, fun i v h => by simp at h⟩ (fun k H' hk pp => ?_) fun H' pp => ?_
  · obtain ⟨e1, zs, hzs, hlen, hall⟩ := pp
    refine ⟨hw _, ?_⟩
    refine x_true (B := True) ?_
    refine he (lo + (k : Nat)) (by omega) (by omega) H' Dl zs hD hzs e1 _ fun v H2 hv e2 g2 => ?_
    refine ⟨_, g2, by rw [hlen]; exact szl (by omega), stab H2 Dl _ hD e2 (.inr ⟨_, g2⟩), zs ++ [v], by rw [upd_same], by rw [List.length_append, hlen]; rfl, fun i y hi => ?_⟩
    by_cases h : i < zs.length
    · rw [List.getElem?_append_left h] at hi
      exact hall i y hi
    · have h2 := (List.getElem?_eq_some_iff.mp hi).1
      rw [List.length_append, List.length_singleton] at h2
      have h3 : i = zs.length := by omega
      subst h3
      rw [List.getElem?_append_right (Nat.le_refl _), Nat.sub_self] at hi
      cases hi
      rw [hlen]
      exact hv
  · obtain ⟨e1, zs, hzs, hlen, hall⟩ := pp
    exact q Dl H' zs hD e1 hzs hlen hall
end
theorem updOf {H : Hp} {l : Addr} {o : HO} : Upd H l o (upd H l o) := .mk0
/-- tables and what stood -/
def Grown (T : List (Addr × Str)) (H H' : Hp) : Prop := ExtN H H' ∧ Tabs T H'
theorem Grown.refl {T : List (Addr × Str)} {H : Hp} (t : Tabs T H) : Grown T H H := ⟨LamX.ExtN.refl _, t⟩
theorem Grown.trans {T : List (Addr × Str)} {H H' H2 : Hp} (a : Grown T H H') (b : Grown T H' H2) : Grown T H H2 := ⟨LamX.ExtN.trans a.1 b.1, b.2⟩
theorem Grown.ex {T : List (Addr × Str)} {H H' H2 : Hp} (a : Grown T H H') (b : Ex H' H2) : Grown T H H2 := ⟨LamX.ExtN.trans a.1 (ExtN.ex b), LamX.Tabs.ext a.2 b⟩
theorem Grown.updF {T : List (Addr × Str)} {H H' : Hp} {D : Addr} {ys : List V} (a : Grown T H H') (hD : ∃ Hk, ExtN H Hk ∧ Hk D = none) (h : H' D = none ∨ ∃ xs, H' D = some (.lst xs)) : Grown T H (L2.upd H' D (.lst ys)) := by
  refine ⟨B.ExtN.upd a.1 updOf hD, ?_⟩
  rcases h with h | ⟨xs, h⟩
  · exact LamX.Tabs.ext a.2 (Evl.Ex.new h)
  · exact B.Tabs.updL a.2 updOf h
theorem Grown.upd {T : List (Addr × Str)} {H H' : Hp} {D : Addr} {ys : List V} (a : Grown T H H') (hD : H D = none) (h : H' D = none ∨ ∃ xs, H' D = some (.lst xs)) : Grown T H (L2.upd H' D (.lst ys)) := a.updF ⟨H, LamX.ExtN.refl _, hD⟩ h
/-! ### lists of texts compared -/
theorem eqv_strs : ∀ (as bs : List Str), PyData.eqvAll (as.map PyData.str) (bs.map PyData.str) = decide (as = bs)
  | [], [] => by simp [PyData.eqvAll]
  | [], _ :: _ => by simp [PyData.eqvAll]
  | _ :: _, [] => by simp [PyData.eqvAll]
  | a :: as, b :: bs => by
    show (PyData.eqv (.str a) (.str b) && PyData.eqvAll (as.map PyData.str) (bs.map PyData.str)) = _
    rw [eqv_strs as bs]
    by_cases e1 : a = b <;> by_cases e2 : as = bs <;> simp [e1, e2, PyData.eqv]
theorem dp_strs {K : Frag} {H : Hp} : ∀ as : List Str, DpAll K H (as.map V.str) (as.map PyData.str)
  | [] => .nil
  | a :: as => .cons (.str a) (dp_strs as)
theorem can_strs : ∀ as : List Str, (∀ s ∈ as, PyData.strOk s = true) → PyData.canLayAll0 (as.map PyData.str) = true ∧ PyData.depthAll (as.map PyData.str) ≤ 1
  | [], _ => by decide
  | a :: as, ok => by
    obtain ⟨h1, h2⟩ := can_strs as fun s hs => ok s (List.mem_cons_of_mem _ hs)
    have h3 := ok a List.mem_cons_self
    simp_all [PyData.canLayAll0, PyData.canLay0, PyData.depthAll, PyData.depth]
theorem shaped_strs {as : List Str} (ok : ∀ s ∈ as, PyData.strOk s = true) : SeqAt.shaped (.list (as.map PyData.str)) = true := by
  obtain ⟨h1, h2⟩ := can_strs as ok
  simp only [SeqAt.shaped, PyData.canLay0, PyData.depth, h1, Bool.true_and, decide_eq_true_eq]
  exact decide_eq_true (by omega)
section
variable {K : Frag} {H : Hp} {Q : VK} {a b : Addr} {ss ts : List Str}
theorem x_eqS (h1 : SqL K H a (ss.map V.str)) (h2 : SqL K H b (ts.map V.str)) (o1 : ∀ s ∈ ss, PyData.strOk s = true) (o2 : ∀ s ∈ ts, PyData.strOk s = true) (q : Q (.bl (decide (ss = ts))) H) : rEqD K (.ref a) (.ref b) H Q :=
  ⟨_, _, .lst h1 (dp_strs ss), .lst h2 (dp_strs ts), shaped_strs o1, shaped_strs o2, by rw [show PyData.eqv (.list (ss.map PyData.str)) (.list (ts.map PyData.str)) = PyData.eqvAll (ss.map PyData.str) (ts.map PyData.str) from by simp only [PyData.eqv], eqv_strs]; exact q⟩
theorem x_neS (h1 : SqL K H a (ss.map V.str)) (h2 : SqL K H b (ts.map V.str)) (o1 : ∀ s ∈ ss, PyData.strOk s = true) (o2 : ∀ s ∈ ts, PyData.strOk s = true) (q : Q (.bl (!decide (ss = ts))) H) : rNeD K (.ref a) (.ref b) H Q :=
  ⟨_, _, .lst h1 (dp_strs ss), .lst h2 (dp_strs ts), shaped_strs o1, shaped_strs o2, by rw [show PyData.eqv (.list (ss.map PyData.str)) (.list (ts.map PyData.str)) = PyData.eqvAll (ss.map PyData.str) (ts.map PyData.str) from by simp only [PyData.eqv], eqv_strs]; exact q⟩
end
/-! ### sep.join(xs) -/
section
variable {K : Frag} {σ : L2.St} {H : Hp} {Q : VK} {to te : TE} {p : Addr} {a : Str} {ys : List Str}
def rJoin (K : Frag) : V → List V → Hp → VK → Prop := fun x xs H Q => ∃ a p, ∃ ys : List Str, x = .str a ∧ xs = [.ref p] ∧ (SqL K H p (ys.map V.str) ∨ SqT K H p (ys.map V.str)) ∧ (ys.map (·.length)).sum + ys.length * a.length ≤ 16777216 ∧ Q (.str (Txt.join a ys)) H
def rM1 (r : V → List V → Hp → VK → Prop) (te : TE) (σ : L2.St) (Q : VK) : V → Hp → Prop := fun x H1 => (∃ a, x = .str a) ∧ te σ H1 fun y H2 => r x [y] H2 Q
theorem pe_join {X : Cx} {o e : Expr} {apos pos : Pos} (ho : PE X o to) (he : PE X e te) (hs : starEach [e] X.env = [(false, eval e X.env)] := by rfl) (hb : attributeBase o "join" X.env (eval o X.env) = eval o X.env := by rfl) (hl : (apos.endLine == pos.line) = true := by rfl) : PE X (.Call (.Attribute o "join" apos) [e] [] pos) (tM1 (rJoin X.K) to te) := L2.pe_join ho he hs hb hl
theorem x_M1 {r : V → List V → Hp → VK → Prop} (h : to σ H (rM1 r te σ Q)) : tM1 r to te σ H Q := h
theorem x_onS {r : V → List V → Hp → VK → Prop} (h : te σ H fun y H2 => r (.str a) [y] H2 Q) : rM1 r te σ Q (.str a) H := ⟨⟨a, rfl⟩, h⟩
theorem x_joinL (h : SqL K H p (ys.map V.str)) (hz : (ys.map (·.length)).sum + ys.length * a.length ≤ 16777216) (q : Q (.str (Txt.join a ys)) H) : rJoin K (.str a) [.ref p] H Q := ⟨a, p, ys, rfl, rfl, .inl h, hz, q⟩
end
end B

namespace B
open PySem PySem.Spec PyProof.Rows L2
open LamX (Tabs ExtN)
/-! ### range(n) as a value -/
def rRng1 : List V → Hp → VK → Prop := fun vs H Q => ∃ j, vs = [V.int j] ∧ ∀ p, H p = none → Q (.ref p) (L2.upd H p (.rng 0 j))
theorem call_rng1 {X : Cx} : CallR X (.type "range") rRng1 := by
  intro pins s σ H vs us Q I r h
  obtain ⟨j, rfl, q⟩ := h
  obtain ⟨u1, rfl, ri⟩ := vals1 r
  obtain ⟨t, rfl⟩ := ri
  refine call_range_1 ⟨.ref s.heap.objs.size, L2.upd H s.heap.objs.size (.rng 0 j), I.laid (t' := s.toks + 1 + 1) (fun b o e => Heap.get?_push_of_some _ e) (Nat.le_refl _) ?_, rfl, q _ (I.hok.fresh (Nat.le_refl _))⟩
  exact ⟨s.toks, t, s.toks + 1, Heap.get?_push_size _ rfl⟩
theorem x_rng1V {H : Hp} {Q : VK} {j : Int} (q : ∀ p H', H p = none → Evl.Ex H H' → H' p = some (.rng 0 j) → Q (.ref p) H') : rRng1 [.int j] H Q := ⟨j, rfl, fun p hp => q p _ hp (Evl.Ex.new hp) upd_same⟩
/-! ### len(set(xs)) -/
theorem nodup_le' : ∀ {l m : List Int}, l.Nodup → (∀ x ∈ l, x ∈ m) → l.length ≤ m.length
  | [], m, _, _ => Nat.zero_le _
  | a :: l, m, h, s => by
    obtain ⟨h1, h2⟩ := List.nodup_cons.mp h
    have ha := s a List.mem_cons_self
    have := nodup_le' (m := m.erase a) h2 fun x hx => by
      have hne : x ≠ a := fun z => h1 (z ▸ hx)
      exact (List.mem_erase_of_ne hne).mpr (s x (List.mem_cons_of_mem _ hx))
    rw [List.length_erase_of_mem ha] at this
    have := List.length_pos_of_mem ha
    rw [List.length_cons]
    omega
theorem nodup_of_count : ∀ {ns L : List Int}, L.Nodup → (∀ x ∈ L, x ∈ ns) → ns.length ≤ L.length → ns.Nodup
  | [], _, _, _, _ => List.nodup_nil
  | a :: t, L, hL, hs, hl => by
    have key : ∀ {M : List Int}, M.Nodup → (∀ x ∈ M, x ∈ t) → M.length ≤ t.length := fun h s => nodup_le' h s
    rw [List.length_cons] at hl
    by_cases ha : a ∈ L
    · have hE : (L.erase a).Nodup := hL.erase a
      have hm : ∀ x ∈ L.erase a, x ∈ t := fun x hx => by
        have h2 := (List.Nodup.mem_erase_iff hL).mp hx
        rcases List.mem_cons.mp (hs x h2.2) with z | z
        · exact absurd z h2.1
        · exact z
      have hlen := List.length_erase_of_mem ha
      refine List.nodup_cons.mpr ⟨fun at_ => ?_, nodup_of_count hE hm (by omega)⟩
      have := key hL fun x hx => by
        rcases List.mem_cons.mp (hs x hx) with z | z
        · rw [z]; exact at_
        · exact z
      omega
    · have := key hL fun x hx => by
        rcases List.mem_cons.mp (hs x hx) with z | z
        · rw [z] at hx; exact absurd hx ha
        · exact z
      omega
theorem step_nodup {l : List Int} {v : Int} (h : l.Nodup) : (step_dedup l v).Nodup := by
  unfold step_dedup
  split
  · exact h
  · next c =>
    refine List.nodup_append.mpr ⟨h, List.nodup_cons.mpr ⟨nofun, List.nodup_nil⟩, fun a ha b hb => ?_⟩
    rw [List.mem_singleton.mp hb]
    intro z
    subst z
    exact c (List.any_eq_true.mpr ⟨a, ha, beq_self_eq_true a⟩)
theorem met_nodup (val : Nat → Int) : ∀ i, (firstMet val i).Nodup
  | 0 => List.nodup_nil
  | i + 1 => by
    rw [firstMet_succ]
    exact step_nodup (met_nodup val i)
theorem met_mem (ns : List Int) : ∀ i, i ≤ ns.length → ∀ x ∈ firstMet (fun i => ns.getD i 0) i, x ∈ ns
  | 0, _, x, h => by cases h
  | i + 1, hi, x, h => by
    rw [firstMet_succ] at h
    unfold step_dedup at h
    split at h
    · exact met_mem ns i (by omega) x h
    · rcases List.mem_append.mp h with h | h
      · exact met_mem ns i (by omega) x h
      · rw [List.mem_singleton.mp h, List.getD_eq_getElem?_getD, List.getElem?_eq_getElem (by omega : i < ns.length)]
        exact List.getElem_mem _
theorem met_count (ns : List Int) : (firstMet (fun i => ns.getD i 0) ns.length).length = ns.length ↔ ns.Nodup := by
  constructor
  · intro h
    exact nodup_of_count (met_nodup _ _) (met_mem ns _ (Nat.le_refl _)) (by omega)
  · intro h
    have le := firstMet_length_le (fun i => ns.getD i 0) ns.length
    have ge := nodup_le' (m := firstMet (fun i => ns.getD i 0) ns.length) h fun x hx => by
      have e := firstMet_any (fun i => ns.getD i 0) ns.length x
      have t : ((List.range ns.length).map fun i => ns.getD i 0).any (· == x) = true := by
        obtain ⟨i, hi, rfl⟩ := List.getElem_of_mem hx
        refine List.any_eq_true.mpr ⟨ns[i], List.mem_map.mpr ⟨i, List.mem_range.mpr hi, ?_⟩, beq_self_eq_true _⟩
        rw [List.getD_eq_getElem?_getD, List.getElem?_eq_getElem hi]
        rfl
      rw [t] at e
      obtain ⟨y, hy, ey⟩ := List.any_eq_true.mp e
      rw [← eq_of_beq ey]
      exact hy
    omega
def tLenSetQ (K : PySem.W.Frag) (ta : TE) : TE := fun σ H Q => ta σ H fun x H1 => ∃ (l : Addr) (ns : List Int), x = .ref l ∧ Sq K H1 l (ns.map V.int) ∧ ns.length ≤ 4000 ∧ ∀ m : Nat, (m = ns.length ↔ ns.Nodup) → m ≤ ns.length → Q (.int (m : Nat)) H1
theorem pe_lenSetQ {X : Cx} {a : Expr} {ta : TE} {p p2 q pos : Pos} (hc : X.calm = true) (hg : Gl X "len") (hm : X.mg "len" = none) (hg2 : Gl X "set") (hm2 : X.mg "set" = none) (ha : PE X a ta)
    (na : starEach [a] X.env = (false, eval a X.env) :: starEach [] X.env := by rfl) : PE X (.Call (.Name "len" p) [.Call (.Name "set" p2) [a] [] q] [] pos) (tLenSetQ X.K ta) := by
  refine ⟨fun pins s σ H Q I h => ?_⟩
  refine Call_ (ld_blt I hg hm PySem.boot_len ?_)
  refine PyProof.Rows.callWith_builtin1 (PyProof.Rows.args_cons ?_ rfl) rfl rfl
  refine Call_ (ld_blt I hg2 hm2 PyProof.Rows.boot_set ?_)
  refine PyProof.Rows.callWith_type1 (PyProof.Rows.args_cons (thn (ha.run pins s σ H _ I h) fun v s1 ⟨x, H1, I1, r1, q1⟩ => PyProof.Rows.args_nil ?_) na) na rfl
  obtain ⟨l, ns, rfl, hq, h1, q1⟩ := q1
  cases r1
  rcases hq with hq | hq
  · obtain ⟨its, r, pl, hz⟩ := I1.list hq
    have hl : its.toArray.size = ns.length := by rw [List.size_toArray, ← r.length, List.length_map]
    refine call_set_list (I1.ok.hd hc) pl.isList (ns := ns) (by simpa using r.ints) (by unfold scanBound; omega) fun h' tk hS hk => ?_
    rw [hl] at hS
    refine PyProof.Rows.args_nil ?_
    obtain ⟨o, es, ep, t, ho, hex, hd, _, _, _, hf, hn⟩ := hS
    have I2 : Inv X pins σ H1 { s1 with heap := h', toks := tk } := I1.kept fun b o e => hk b o (Heap.lt_size e) e
    have le := firstMet_length_le (fun i => ns.getD i 0) ns.length
    refine call_len_set ho hex hd hf (by rw [hn] <;> omega) ⟨.int es.size, H1, I2.tok _, ⟨_, rfl⟩, q1 _ (by rw [hn]; exact met_count ns) (by rw [hn]; exact le)⟩
  · obtain ⟨its, r, pt, hz⟩ := I1.tuple hq
    refine call_set_tupI ns (I1.ok.hd hc) (show s1.heap.IsTuple l its.toArray from pt) (by simpa using r.ints) (by unfold scanBound; omega) fun h' tk c R1 hcn k => ?_
    refine PyProof.Rows.args_nil ?_
    obtain ⟨o, es, ep, t, ho, hex, hd, g, nd, hm2, hb, hf, hn, hr, hl2⟩ := R1
    have I2 : Inv X pins σ H1 { s1 with heap := h', toks := tk } := I1.kept fun b o e => k b o e
    have mem : ∀ x, x ∈ es.toList.map keyOf ↔ x ∈ ns := fun x => (hm2 x).symm.trans (by simp)
    have len : (es.toList.map keyOf).length = c := by rw [List.length_map, Array.length_toList, hn]
    refine call_len_set ho hex hd hf (by rw [hn] <;> omega) ⟨.int es.size, H1, I2.tok _, ⟨_, rfl⟩, q1 _ ?_ (by omega)⟩
    rw [hn]
    constructor
    · intro e
      exact nodup_of_count nd (fun x hx => (mem x).mp hx) (by omega)
    · intro hnd
      have := nodup_le' hnd fun x hx => (mem x).mpr hx
      omega
theorem x_lenSetQ {K : PySem.W.Frag} {ta : TE} {σ : L2.St} {H : Hp} {Q : VK} (h : ta σ H fun x H1 => ∃ (l : Addr) (ns : List Int), x = .ref l ∧ Sq K H1 l (ns.map V.int) ∧ ns.length ≤ 4000 ∧ ∀ m : Nat, (m = ns.length ↔ ns.Nodup) → m ≤ ns.length → Q (.int (m : Nat)) H1) : tLenSetQ K ta σ H Q := h
end B

namespace My
open PySem PySem.Spec PyProof.Rows L2 B
/-! ### the steps' rows -/
local macro_rules | `(tactic| walk_at "hx") => `(tactic| first
  | assumption
  | exact Evl.Ex.refl _
  | exact Upd.same (by assumption)
  | ((with_reducible refine' exg (by assumption) ?k1); (case k1 => walk_at "hx"))
  | ((with_reducible refine' Upd.get (by assumption) (by walk_at "ne") ?k1); (case k1 => walk_at "hx"))
  | ((with_reducible refine' Evl.Ex.trans ?k1 (by assumption)); (case k1 => walk_at "hx"))
  | ((with_reducible refine' Upd.ex (by assumption) ?k1 (by first | assumption | exact exn (by assumption) (by assumption))); (case k1 => walk_at "hx"))
  | ((with_reducible refine' Sq.l ?k1); (case k1 => walk_at "hx"))
  | ((with_reducible refine' Sq.t ?k1); (case k1 => walk_at "hx"))
  | ((with_reducible refine' Or.inl ?k1); (case k1 => walk_at "hx"))
  | ((with_reducible refine' Or.inr ?k1); (case k1 => walk_at "hx"))
  | ((with_reducible refine' Evl.sq_of ?k1); (case k1 => walk_at "hx"))
  | ((with_reducible refine' Evl.st_of ?k1); (case k1 => walk_at "hx"))
  | ((with_reducible refine' Evl.ex_l (by assumption) ?k1); (case k1 => walk_at "hx"))
  | ((with_reducible refine' Evl.ex_t (by assumption) ?k1); (case k1 => walk_at "hx"))
  | ((with_reducible refine' Sq.ex (by assumption) ?k1); (case k1 => walk_at "hx"))
  | ((with_reducible refine' Wishes.ex (by assumption) ?k1); (case k1 => walk_at "hx")))
local macro_rules | `(tactic| walk_at "ne") => `(tactic| first
  | assumption
  | exact Ne.symm (by assumption)
  | exact ne_of_none (by assumption) (by assumption)
  | exact Ne.symm (ne_of_none (by assumption) (by assumption)))
local macro_rules | `(tactic| walk_at "goa") => `(tactic| first
  | with_reducible refine x_nx ?_
  | with_reducible refine x_seq ?_
  | with_reducible refine x_next ?_
  | with_reducible refine x_rt ?_
  | with_reducible refine x_asg ?_
  | with_reducible refine x_ret ?_
  | with_reducible refine x_gName ?_
  | with_reducible refine x_ifS ?_
  | with_reducible refine B.x_wt ?_
  | with_reducible refine x_drop ?_
  | ((with_reducible refine' x_var ?k1 ?_); (case k1 => exact rfl))
  | with_reducible refine x_c ?_
  | with_reducible refine x_op ?_
  | with_reducible refine x_tup ?_
  | with_reducible refine x_lst ?_
  | with_reducible refine x_for ?_
  | with_reducible refine x_lc ?_
  | with_reducible refine x_iList ?_
  | with_reducible refine x_iTup ?_
  | with_reducible refine x_iZip ?_
  | with_reducible refine x_iRng3 ?_
  | with_reducible refine x_iEnum ?_
  | with_reducible refine x_augS ?_
  | with_reducible refine x_isB ?_
  | with_reducible refine x_revL ?_
  | with_reducible refine x_iRng1 ?_
  | with_reducible refine x_iRng2 ?_
  | with_reducible refine x_un ?_
  | with_reducible refine x_rI0 ?_
  | ((with_reducible refine x_rEq ?k1 ?_); (case k1 => exact rfl))
  | ((with_reducible refine x_rNe ?k1 ?_); (case k1 => exact rfl))
  | with_reducible refine x_rU ?_
  | with_reducible refine x_nil ?_
  | with_reducible refine x_cons ?_
  | with_reducible refine x_CB ?_
  | with_reducible refine x_call ?_
  | with_reducible refine x_test ?_
  | with_reducible refine x_B ?_
  | with_reducible refine x_bl ?_
  | with_reducible refine x_and ?_
  | with_reducible refine x_or ?_
  | with_reducible refine x_not ?_
  | with_reducible refine x_andV ?_
  | with_reducible refine x_orV ?_
  | with_reducible refine x_notV ?_
  | with_reducible refine x_blV ?_
  | with_reducible refine x_if ?_
  | with_reducible refine x_isN ?_
  | with_reducible refine x_notN ?_
  | with_reducible refine x_BM ?_
  | with_reducible refine x_BM0 ?_
  | with_reducible refine x_asgG ?_
  | with_reducible refine x_gSub ?_
  | with_reducible refine x_dIn ?_
  | with_reducible refine x_dNotIn ?_
  | with_reducible refine x_dGet ?_
  | with_reducible refine x_dPut ?_
  | with_reducible refine x_lstRg ?_
  | with_reducible refine x_rg1 ?_
  | with_reducible refine x_rg2 ?_
  | with_reducible refine x_CKw ?_
  | with_reducible refine x_sl ?_
  | with_reducible refine x_noPart ?_
  | with_reducible refine x_part ?_
  | with_reducible refine x_partI ?_
  | ((with_reducible refine' x_aug ?k1 ?_); (case k1 => exact rfl))
  | with_reducible refine x_ipI ?_
  | ((with_reducible refine' x_onL ?k1 ?_); (case k1 => walk_at "hx"))
  | ((with_reducible refine' x_onL0 ?k1 ?_); (case k1 => walk_at "hx"))
  | ((with_reducible refine' x_len ?k1 ?_); (case k1 => walk_at "hx"))
  | ((with_reducible refine' x_inI ?k1 ?_); (case k1 => walk_at "hx"))
  | ((with_reducible refine' x_inS ?k1 ?_); (case k1 => walk_at "hx"))
  | ((with_reducible refine' x_notInI ?k1 ?_); (case k1 => walk_at "hx"))
  | ((with_reducible refine' x_notInS ?k1 ?_); (case k1 => walk_at "hx"))
  | with_reducible refine x_brk ?_
  | with_reducible refine x_cont ?_
  | with_reducible refine x_true ?_
  | with_reducible refine x_false ?_)
local macro_rules | `(tactic| walk_at "go") => `(tactic| repeat walk_at "goa")


local macro_rules | `(tactic| walk_at "hx") => `(tactic| first
  | ((with_reducible refine' B.exgN (by assumption) ?k1 ?k2); (case k1 => walk_at "hx"); (case k2 => exact fun ps z => by cases z))
  | ((with_reducible refine' B.SqL.exN (by assumption) ?k1); (case k1 => walk_at "hx"))
  | ((with_reducible refine' B.SqT.exN (by assumption) ?k1); (case k1 => walk_at "hx"))
  | ((with_reducible refine' B.Sq.exN (by assumption) ?k1); (case k1 => walk_at "hx"))
  | ((with_reducible refine' LamX.ExtN.trans ?k1 (by assumption)); (case k1 => walk_at "hx"))
  | ((with_reducible refine' LamX.ExtN.trans ?k1 (B.ExtN.ex (by assumption))); (case k1 => walk_at "hx"))
  | exact LamX.ExtN.refl _)
local macro_rules | `(tactic| walk_at "tb") => `(tactic| first
  | assumption
  | ((with_reducible refine' B.Tabs.ex ?k1 (by assumption)); (case k1 => walk_at "tb"))
  | ((with_reducible refine' B.Tabs.updL ?k1 (by assumption) ?k2); (case k1 => walk_at "tb"); (case k2 => walk_at "hx")))
local macro_rules | `(tactic| walk_at "goa") => `(tactic| with_reducible refine B.x_iEnumQ ?_)
local macro_rules | `(tactic| walk_at "goa") => `(tactic| with_reducible refine B.x_sortLam ?_)
local macro_rules | `(tactic| walk_at "goa") => `(tactic| with_reducible refine B.x_chain ?_)
local macro_rules | `(tactic| walk_at "goa") => `(tactic| with_reducible refine B.x_ntrue ?_)
local macro_rules | `(tactic| walk_at "goa") => `(tactic| with_reducible refine B.x_nfalse ?_)

local macro_rules | `(tactic| walk_at "goa") => `(tactic| with_reducible refine B.x_dget2 ?_)
local macro_rules | `(tactic| walk_at "goa") => `(tactic| with_reducible refine B.x_dsetd ?_)
local macro_rules | `(tactic| walk_at "goa") => `(tactic| ((with_reducible refine' B.x_dg2K ?k1 ?_); (case k1 => walk_at "hx")))
local macro_rules | `(tactic| walk_at "goa") => `(tactic| ((with_reducible refine' B.x_dg2T ?k1 ?_); (case k1 => walk_at "hx")))
local macro_rules | `(tactic| walk_at "goa") => `(tactic| ((with_reducible refine' B.x_sd2 ?k1 ?_); (case k1 => walk_at "hx")))

def top (i : Nat) : Stmt := PySem.Challenge.pw_berthrow_k11_whole_who_lies_where.main.body.getD i (.Pass ⟨0, 0, 0, 0⟩)
abbrev s_is_number : Stmt := top 10
abbrev n_is_number : List Str := ["thing", "least", "most"]
theorem sc_is_number : FnScope n_is_number ["thing", "least", "most"] (defScope s_is_number) := ⟨rfl, rfl, rfl, by decide +kernel, rfl, by decide +kernel, by decide +kernel⟩
abbrev s_need_quay : Stmt := top 11
abbrev n_need_quay : List Str := ["berths"]
theorem sc_need_quay : FnScope n_need_quay ["berths"] (defScope s_need_quay) := ⟨rfl, rfl, rfl, by decide +kernel, rfl, by decide +kernel, by decide +kernel⟩
abbrev s_need_wishes : Stmt := top 12
abbrev n_need_wishes : List Str := ["berths", "wishes", "wish"]
theorem sc_need_wishes : FnScope n_need_wishes ["berths", "wishes"] (defScope s_need_wishes) := ⟨rfl, rfl, rfl, by decide +kernel, rfl, by decide +kernel, by decide +kernel⟩
abbrev s_placed : Stmt := top 13
abbrev n_placed : List Str := ["berths", "wishes", "held", "found", "wish", "berth"]
theorem sc_placed : FnScope n_placed ["berths", "wishes"] (defScope s_placed) := ⟨rfl, rfl, rfl, by decide +kernel, rfl, by decide +kernel, by decide +kernel⟩
abbrev s_crowded : Stmt := top 14
abbrev n_crowded : List Str := ["berths", "wishes", "wishing", "wish", "many", "berth"]
theorem sc_crowded : FnScope n_crowded ["berths", "wishes"] (defScope s_crowded) := ⟨rfl, rfl, rfl, by decide +kernel, rfl, by decide +kernel, by decide +kernel⟩
abbrev s_is_good : Stmt := top 15
abbrev n_is_good : List Str := ["berths", "wishes"]
theorem sc_is_good : FnScope n_is_good ["berths", "wishes"] (defScope s_is_good) := ⟨rfl, rfl, rfl, by decide +kernel, rfl, by decide +kernel, by decide +kernel⟩
abbrev s_need_full : Stmt := top 17
abbrev n_need_full : List Str := ["wishes"]
theorem sc_need_full : FnScope n_need_full ["wishes"] (defScope s_need_full) := ⟨rfl, rfl, rfl, by decide +kernel, rfl, by decide +kernel, by decide +kernel⟩
abbrev s_lies : Stmt := top 19
abbrev n_lies : List Str := ["wishes", "found"]
theorem sc_lies : FnScope n_lies ["wishes"] (defScope s_lies) := ⟨rfl, rfl, rfl, by decide +kernel, rfl, by decide +kernel, by decide +kernel⟩
abbrev s_need_order : Stmt := top 20
abbrev n_need_order : List Str := ["order", "ship"]
theorem sc_need_order : FnScope n_need_order ["order"] (defScope s_need_order) := ⟨rfl, rfl, rfl, by decide +kernel, rfl, by decide +kernel, by decide +kernel⟩
abbrev s_reaches : Stmt := top 21
abbrev n_reaches : List Str := ["order", "found", "place", "ship", "low"]
theorem sc_reaches : FnScope n_reaches ["order"] (defScope s_reaches) := ⟨rfl, rfl, rfl, by decide +kernel, rfl, by decide +kernel, by decide +kernel⟩
abbrev s_rows_to : Stmt := top 22
abbrev n_rows_to : List Str := ["order", "many", "low", "high"]
theorem sc_rows_to : FnScope n_rows_to ["order"] (defScope s_rows_to) := ⟨rfl, rfl, rfl, by decide +kernel, rfl, by decide +kernel, by decide +kernel⟩
abbrev s__law_cell_at : Stmt := top 24
abbrev n__law_cell_at : List Str := ["_law_script", "_law_k"]
theorem sc__law_cell_at : FnScope n__law_cell_at ["_law_script", "_law_k"] (defScope s__law_cell_at) := ⟨rfl, rfl, rfl, by decide +kernel, rfl, by decide +kernel, by decide +kernel⟩
abbrev s__law_mix : Stmt := top 25
abbrev n__law_mix : List Str := ["_law_state", "_law_cell"]
theorem sc__law_mix : FnScope n__law_mix ["_law_state", "_law_cell"] (defScope s__law_mix) := ⟨rfl, rfl, rfl, by decide +kernel, rfl, by decide +kernel, by decide +kernel⟩
abbrev s__law_whole : Stmt := top 26
abbrev n__law_whole : List Str := ["_law_found"]
theorem sc__law_whole : FnScope n__law_whole ["_law_found"] (defScope s__law_whole) := ⟨rfl, rfl, rfl, by decide +kernel, rfl, by decide +kernel, by decide +kernel⟩
abbrev s__law_order : Stmt := top 27
abbrev n__law_order : List Str := ["_law_script", "_law_many", "_law_first", "_law_state", "_law_some", "_law_order_here", "_law_turn"]
theorem sc__law_order : FnScope n__law_order ["_law_script", "_law_many", "_law_first"] (defScope s__law_order) := ⟨rfl, rfl, rfl, by decide +kernel, rfl, by decide +kernel, by decide +kernel⟩
abbrev s__law_word : Stmt := top 28
abbrev n__law_word : List Str := ["_law_act", "_law_thing", "_law_caught", "e", "_law_kinds"]
theorem sc__law_word : FnScope n__law_word ["_law_act", "_law_thing"] (defScope s__law_word) := ⟨rfl, rfl, rfl, by decide +kernel, rfl, by decide +kernel, by decide +kernel⟩
abbrev s__law_right : Stmt := top 29
abbrev n__law_right : List Str := ["_law_state", "_law_order_here", "_law_pairs", "_law_rows", "_law_many", "_law_ship", "_law_low", "_law_high", "_law_row", "_law_found", "_law_at", "_law_wish", "_law_other"]
theorem sc__law_right : FnScope n__law_right ["_law_state", "_law_order_here"] (defScope s__law_right) := ⟨rfl, rfl, rfl, by decide +kernel, rfl, by decide +kernel, by decide +kernel⟩
abbrev s_law : Stmt := top 30
abbrev n_law : List Str := ["_law_script", "_law_k", "_law_cell", "_law_many", "_law_order_here", "_law_state", "_law_bad", "_law_thing"]
theorem sc_law : FnScope n_law ["_law_script"] (defScope s_law) := ⟨rfl, rfl, rfl, by decide +kernel, rfl, by decide +kernel, by decide +kernel⟩
structure Nms (K : PySem.W.Frag) (mg : Str → Option Value) : Prop where
  n_len : mg "len" = none
  n_isinstance : mg "isinstance" = none
  n_min : mg "min" = none
  n_sorted : mg "sorted" = none
  n_range : mg "range" = none
  n_enumerate : mg "enumerate" = none
  n_all : mg "all" = none
  n_int : mg "int" = none
  n_bool : mg "bool" = none
  n_list : mg "list" = none
  n_tuple : mg "tuple" = none
  n_set : mg "set" = none
  n_ValueError : mg "ValueError" = none
  c_MOST : B.Const mg "MOST" (.int 400)
  x_NoQuay : B.Err K mg "NoQuay"
  x_NoWishes : B.Err K mg "NoWishes"
  x_NoOrder : B.Err K mg "NoOrder"
  m_lies : mg "lies" = some (.ref (B.at_ mg "lies"))
  m_reaches : mg "reaches" = some (.ref (B.at_ mg "reaches"))
  m_rows_to : mg "rows_to" = some (.ref (B.at_ mg "rows_to"))
  m_BerthError : mg "BerthError" = some (.ref (B.at_ mg "BerthError"))
  m_NoCount : mg "NoCount" = some (.ref (B.at_ mg "NoCount"))
  m_NoTree : mg "NoTree" = some (.ref (B.at_ mg "NoTree"))
  m_NoQuay : mg "NoQuay" = some (.ref (B.at_ mg "NoQuay"))
  m_TooMany : mg "TooMany" = some (.ref (B.at_ mg "TooMany"))
  m_NoOrder : mg "NoOrder" = some (.ref (B.at_ mg "NoOrder"))
  m_NoWishes : mg "NoWishes" = some (.ref (B.at_ mg "NoWishes"))
  k_NoOrder : ExcC K (B.at_ mg "NoOrder")
  e_NoOrder : PySem.W.exmOne K (.ref (B.at_ mg "NoOrder")) (.ref (B.at_ mg "BerthError")) = some true
  k_NoWishes : ExcC K (B.at_ mg "NoWishes")
  e_NoWishes : PySem.W.exmOne K (.ref (B.at_ mg "NoWishes")) (.ref (B.at_ mg "BerthError")) = some true
  i_NoOrder_NoCount : PySem.W.kitOne K (.ref (B.at_ mg "NoOrder")) (.ref (B.at_ mg "NoCount")) = some false
  i_NoOrder_NoTree : PySem.W.kitOne K (.ref (B.at_ mg "NoOrder")) (.ref (B.at_ mg "NoTree")) = some false
  i_NoOrder_NoQuay : PySem.W.kitOne K (.ref (B.at_ mg "NoOrder")) (.ref (B.at_ mg "NoQuay")) = some false
  i_NoOrder_TooMany : PySem.W.kitOne K (.ref (B.at_ mg "NoOrder")) (.ref (B.at_ mg "TooMany")) = some false
  i_NoOrder_NoOrder : PySem.W.kitOne K (.ref (B.at_ mg "NoOrder")) (.ref (B.at_ mg "NoOrder")) = some true
  i_NoOrder_NoWishes : PySem.W.kitOne K (.ref (B.at_ mg "NoOrder")) (.ref (B.at_ mg "NoWishes")) = some false
  i_NoWishes_NoCount : PySem.W.kitOne K (.ref (B.at_ mg "NoWishes")) (.ref (B.at_ mg "NoCount")) = some false
  i_NoWishes_NoTree : PySem.W.kitOne K (.ref (B.at_ mg "NoWishes")) (.ref (B.at_ mg "NoTree")) = some false
  i_NoWishes_NoQuay : PySem.W.kitOne K (.ref (B.at_ mg "NoWishes")) (.ref (B.at_ mg "NoQuay")) = some false
  i_NoWishes_TooMany : PySem.W.kitOne K (.ref (B.at_ mg "NoWishes")) (.ref (B.at_ mg "TooMany")) = some false
  i_NoWishes_NoOrder : PySem.W.kitOne K (.ref (B.at_ mg "NoWishes")) (.ref (B.at_ mg "NoOrder")) = some false
  i_NoWishes_NoWishes : PySem.W.kitOne K (.ref (B.at_ mg "NoWishes")) (.ref (B.at_ mg "NoWishes")) = some true
  i_none_NoCount : PySem.W.kitOne K (.type "NoneType") (.ref (B.at_ mg "NoCount")) = some false
  i_none_NoTree : PySem.W.kitOne K (.type "NoneType") (.ref (B.at_ mg "NoTree")) = some false
  i_none_NoQuay : PySem.W.kitOne K (.type "NoneType") (.ref (B.at_ mg "NoQuay")) = some false
  i_none_TooMany : PySem.W.kitOne K (.type "NoneType") (.ref (B.at_ mg "TooMany")) = some false
  i_none_NoOrder : PySem.W.kitOne K (.type "NoneType") (.ref (B.at_ mg "NoOrder")) = some false
  i_none_NoWishes : PySem.W.kitOne K (.type "NoneType") (.ref (B.at_ mg "NoWishes")) = some false
/-! ### promises of the program: numbers, quays, wishes -/
open PySem PySem.Spec PyProof.Rows L2 B
/-- an exception of the class x leaves -/
def Bad (mg : Str → Option Value) (x : Str) (H : Hp) (E : XK) : Prop := ∀ (C : Addr) (H' : Hp), mg x = some (.ref C) → Ex H H' → E (.ref C) none H'
theorem Bad.ex {mg : Str → Option Value} {x : Str} {H H' : Hp} {E : XK} (e : Ex H H') (b : Bad mg x H E) : Bad mg x H' E := fun C H2 m e2 => b C H2 m (e.trans e2)
def sp_is_number (K : PySem.W.Frag) : Sp := fun vs H Q _ => ∃ x s lo hi, vs = [x, .int lo, .int hi] ∧ Kind K H x s ∧ Q (.bl (inB x lo hi)) H
def sp_need_quay (K : PySem.W.Frag) (mg : Str → Option Value) : Sp := fun vs H Q E => ∃ b s, vs = [b] ∧ Kind K H b s ∧ (inB b 1 400 = true → Q .non H) ∧ (inB b 1 400 = false → Bad mg "NoQuay" H E)
/-- x is wishes for n berths: their numbers -/
def Wishes (K : PySem.W.Frag) (H : Hp) (x : V) (n : Int) (ns : List Int) : Prop := ∃ a, x = .ref a ∧ Sq K H a (ns.map V.int) ∧ ns.length ≤ 400 ∧ ∀ w ∈ ns, 1 ≤ w ∧ w ≤ n
theorem Wishes.ex {K : PySem.W.Frag} {H H' : Hp} {x : V} {n : Int} {ns : List Int} (e : Ex H H') (h : Wishes K H x n ns) : Wishes K H' x n ns := by
  obtain ⟨a, h1, h2, h3⟩ := h
  exact ⟨a, h1, h2.ex e, h3⟩
/-- x is something else: no list or tuple, too long, or with something that is no berth -/
def NoW (K : PySem.W.Frag) (H : Hp) (x : V) (n : Int) : Prop := (∃ s, Kind K H x s ∧ s ≠ .lst ∧ s ≠ .tup) ∨ ∃ a xs, x = .ref a ∧ Sq K H a xs ∧ (400 < xs.length ∨ (xs.length ≤ 400 ∧ (∀ y ∈ xs, ∃ s, Kind K H y s) ∧ ∃ y ∈ xs, inB y 1 n = false))
theorem NoW.ex {K : PySem.W.Frag} {H H' : Hp} {x : V} {n : Int} (e : Ex H H') (h : NoW K H x n) : NoW K H' x n := by
  rcases h with ⟨s, h1, h2⟩ | ⟨a, xs, h1, h2, h3⟩
  · exact .inl ⟨s, h1.ex e, h2⟩
  · refine .inr ⟨a, xs, h1, h2.ex e, ?_⟩
    rcases h3 with h3 | ⟨h3, h4, h5⟩
    · exact .inl h3
    · exact .inr ⟨h3, fun y hy => by obtain ⟨s, q⟩ := h4 y hy; exact ⟨s, q.ex e⟩, h5⟩
/-- how wishes for a quay are met: refused as no quay, as no wishes, or good for n berths, with what is then due -/
def Asked (K : PySem.W.Frag) (mg : Str → Option Value) (H : Hp) (E : XK) (b x : V) (due : Int → List Int → Prop) : Prop :=
  (∃ s, Kind K H b s ∧ inB b 1 400 = false ∧ Bad mg "NoQuay" H E) ∨ ∃ n, b = .int n ∧ 1 ≤ n ∧ n ≤ 400 ∧ ((NoW K H x n ∧ Bad mg "NoWishes" H E) ∨ ∃ ns, Wishes K H x n ns ∧ due n ns)
def sp_need_wishes (K : PySem.W.Frag) (mg : Str → Option Value) : Sp := fun vs H Q E => ∃ b x, vs = [b, x] ∧ Asked K mg H E b x fun _ _ => ∀ H', Ex H H' → Q .non H'
theorem Asked.len {K : PySem.W.Frag} {mg : Str → Option Value} {H : Hp} {E : XK} {vs : List V} {due : V → V → Int → List Int → Prop} (h : ∃ b x, vs = [b, x] ∧ Asked K mg H E b x (due b x)) : vs.length = 2 := by
  obtain ⟨b, x, rfl, _⟩ := h
  rfl

theorem has_is_number {P : Program} {w : World} {K : PySem.W.Frag} {mg : Str → Option Value} {base : Heap}  (S : B.Stands K mg "is_number" s_is_number) (N : Nms K mg)  : B.Has P w K mg base "is_number" 1 ["thing", "least", "most"] (sp_is_number K) := by
  refine B.has_ofN S sc_is_number (fun _ _ _ _ _ _ us hl => match us, hl with | [_, _, _], _ => rfl) (fun vs H Q E h => ?_)
    (fun f cdv A outer s H vs Q E hr h => ⟨_, (pss_one (ps_ret (pe_and (pe_callB (r := rIsi K) call_isi (by rfl) N.n_isinstance B.boot_isinstance (pa_cons (pv 0) (pa_cons (pe_bltn (v := .ty "int") (by rfl) N.n_int B.boot_int rfl) pa_nil))) (pe_and (pe_not (pe_callB (r := rIsi K) call_isi (by rfl) N.n_isinstance B.boot_isinstance (pa_cons (pv 0) (pa_cons (pe_bltn (v := .ty "bool") (by rfl) N.n_bool B.boot_bool rfl) pa_nil)))) (pe_and (pe_cmpR op_le (pv 1) (pv 0) (nomark _)) (pe_one (pe_cmpR op_le (pv 0) (pv 2) (nomark _)))))))), ?_⟩)
  · obtain ⟨x, s, lo, hi, rfl, _⟩ := h
    rfl
  · obtain ⟨x, s, lo, hi, rfl, k, q⟩ := h
    walk_at "go"
    have no : s.isA "int" = false → inB x lo hi = false := by intro e; cases k <;> first | rfl | (exact absurd e (by decide))
    have bo : s.isA "bool" = true → inB x lo hi = false := by intro e; cases k <;> first | rfl | (exact absurd e (by decide))
    have yes : s.isA "int" = true → s.isA "bool" = false → ∃ i, x = .int i := by
      intro e e2
      cases k <;> first | exact ⟨_, rfl⟩ | (exact absurd e (by decide)) | (exact absurd e2 (by decide))
    refine x_isi_int k ?_
    walk_at "go"
    refine x_b (fun e => ?_) (fun e => ?_)
    · walk_at "go"
      refine x_isi_bool k ?_
      walk_at "go"
      refine x_bN (fun e2 => ?_) (fun e2 => ?_)
      · obtain ⟨i, rfl⟩ := yes e e2
        walk_at "go"
        refine x_dec (fun c => ?_) (fun c => ?_)
        · walk_at "go"
          rw [show inB (.int i) lo hi = decide (i ≤ hi) from by simp [inB, c]] at q
          exact q
        · walk_at "go"
          rw [show inB (.int i) lo hi = false from by simp [inB, c]] at q
          exact q
      · rw [bo e2] at q
        exact q
    · rw [no e] at q
      exact q

theorem has_need_quay {P : Program} {w : World} {K : PySem.W.Frag} {mg : Str → Option Value} {base : Heap}  (S : B.Stands K mg "need_quay" s_need_quay) (N : Nms K mg) (h_is_number : B.Has P w K mg base "is_number" 1 ["thing", "least", "most"] (sp_is_number K)) : B.Has P w K mg base "need_quay" 2 ["berths"] (sp_need_quay K mg) := by
  refine B.has_of S sc_need_quay (fun _ _ _ _ _ _ us hl => match us, hl with | [_], _ => rfl) (fun vs H Q E h => ?_)
    (fun f cdv A outer s H vs Q E hr h => ⟨_, (pss_one (ps_if (pt_not (pt_val (B.pe_has h_is_number hr B.passL (pa_cons (pv 0) (pa_cons pe_int (pa_cons (B.pe_const N.c_MOST) pa_nil)))))) (pss_one (ps_raise rfl (takes_of rfl rfl rfl rfl) (B.pmk N.x_NoQuay))) pss_nil)), ?_⟩)
  · obtain ⟨b, s, rfl, _⟩ := h
    rfl
  · obtain ⟨b, s, rfl, k, q1, q2⟩ := h
    walk_at "go"
    refine ⟨b, s, 1, 400, rfl, k, ?_⟩
    walk_at "go"
    refine x_bN (fun e => ?_) (fun e => ?_)
    · walk_at "go"
      exact fun C m => q2 e C H m (Evl.Ex.refl H)
    · walk_at "go"
      exact q1 e

theorem is_lt {s : KS} : (s.isA "list" || s.isA "tuple") = true ↔ s = .lst ∨ s = .tup := by cases s <;> decide
theorem sq_kind {K : PySem.W.Frag} {H : Hp} {a : Addr} {xs : List V} (h : Sq K H a xs) : ∃ s, Kind K H (.ref a) s ∧ (s = .lst ∨ s = .tup) := by
  rcases h with h | h
  · exact ⟨_, .lst h, .inl rfl⟩
  · exact ⟨_, .tup h, .inr rfl⟩
theorem inB_int {n m : Int} {ns : List Int} (h : ∀ w ∈ ns, 1 ≤ w ∧ w ≤ n) : ∀ y ∈ ns.map V.int, inB y 1 n = true := fun y hy => by
  obtain ⟨w, hw, rfl⟩ := List.mem_map.mp hy
  simp [inB, h w hw]
theorem has_need_wishes {P : Program} {w : World} {K : PySem.W.Frag} {mg : Str → Option Value} {base : Heap}  (S : B.Stands K mg "need_wishes" s_need_wishes) (N : Nms K mg) (h_need_quay : B.Has P w K mg base "need_quay" 2 ["berths"] (sp_need_quay K mg)) (h_is_number : B.Has P w K mg base "is_number" 1 ["thing", "least", "most"] (sp_is_number K)) : B.Has P w K mg base "need_wishes" 3 ["berths", "wishes"] (sp_need_wishes K mg) := by
  refine B.has_of S sc_need_wishes (fun _ _ _ _ _ _ us hl => match us, hl with | [_, _], _ => rfl) (fun vs H Q E h => ?_)
    (fun f cdv A outer s H vs Q E hr h => ⟨_, (pss_cons (ps_expr (B.pe_has h_need_quay hr (B.passU (takes_of rfl rfl rfl rfl)) (pa_cons (pv 0) pa_nil)))
    (pss_cons (ps_if (PW.pt (pw_or (pt_not (pt_val (pe_callB (r := rIsiT K) call_isiT (by rfl) N.n_isinstance B.boot_isinstance (pa_cons (pv 1) (pa_cons (pe_tup (pa_cons (pe_bltn (v := .ty "list") (by rfl) N.n_list B.boot_list rfl) (pa_cons (pe_bltn (v := .ty "tuple") (by rfl) N.n_tuple B.boot_tuple rfl) pa_nil))) pa_nil))))) (pw_or1 (pt_cmpR op_gt (pe_callB (r := B.rLen K) B.call_len (by rfl) N.n_len PySem.boot_len (pa_cons (pv 1) pa_nil)) (B.pe_const N.c_MOST) (nomark _))))) (pss_one (ps_raise rfl (takes_of rfl rfl rfl rfl) (B.pmk N.x_NoWishes))) pss_nil)
    (pss_one (ps_for (passes_of rfl) rfl (B.pi_sq (pv 1)) (pg_name (i := 2) sc_need_wishes.nd rfl (by first | exact Or.inl rfl | exact Or.inr rfl)) (pss_one (ps_if (pt_not (pt_val (B.pe_has h_is_number hr B.passL (pa_cons (pv 2) (pa_cons pe_int (pa_cons (pv 0) pa_nil)))))) (pss_one (ps_raise rfl (takes_of rfl rfl rfl rfl) (B.pmk N.x_NoWishes))) pss_nil)))))), ?_⟩)
  · exact Asked.len h
  · obtain ⟨b, x, rfl, h⟩ := h
    walk_at "go"
    rcases h with ⟨s, k, e, bad⟩ | ⟨n, rfl, n1, n2, h⟩
    · exact ⟨b, s, rfl, k, fun e2 => absurd (e.symm.trans e2) (by decide), fun _ => bad⟩
    refine ⟨.int n, .int, rfl, .int n, fun _ => ?_, fun e => absurd e (by simp [inB, n1, n2])⟩
    walk_at "go"
    refine x_mkT (by simp) fun p H1 hp e1 h1 => ?_
    walk_at "go"
    have main : ∃ s, Kind K H x s ∧ ((¬ (s = .lst ∨ s = .tup) ∧ Bad mg "NoWishes" H E) ∨ ((s = .lst ∨ s = .tup) ∧ ∃ a xs, x = .ref a ∧ Sq K H a xs ∧ ((400 < xs.length ∧ Bad mg "NoWishes" H E) ∨
        (xs.length ≤ 400 ∧ (∀ y ∈ xs, ∃ s, Kind K H y s) ∧ (((∃ y ∈ xs, inB y 1 n = false) ∧ Bad mg "NoWishes" H E) ∨ ((∀ y ∈ xs, inB y 1 n = true) ∧ ∀ H', Ex H H' → Q .non H')))))) := by
      rcases h with ⟨h, bad⟩ | ⟨ns, ⟨a, rfl, q, hl, hw⟩, due⟩
      · rcases h with ⟨s, h1, h2, h3⟩ | ⟨a, xs, rfl, q, h3⟩
        · exact ⟨s, h1, .inl ⟨fun z => z.elim h2 h3, bad⟩⟩
        · obtain ⟨s, k, hs⟩ := sq_kind q
          refine ⟨s, k, .inr ⟨hs, a, xs, rfl, q, ?_⟩⟩
          rcases h3 with h3 | ⟨h3, h4, h5⟩
          · exact .inl ⟨h3, bad⟩
          · exact .inr ⟨h3, h4, .inl ⟨h5, bad⟩⟩
      · obtain ⟨s, k, hs⟩ := sq_kind q
        refine ⟨s, k, .inr ⟨hs, a, _, rfl, q, .inr ⟨by rw [List.length_map]; exact hl, fun y hy => ?_, .inr ⟨inB_int (m := n) hw, due⟩⟩⟩⟩
        obtain ⟨w, _, rfl⟩ := List.mem_map.mp hy
        exact ⟨_, .int w⟩
    obtain ⟨s, k, h⟩ := main
    refine x_isiLT (k.ex e1) h1 ?_
    walk_at "go"
    refine x_bN (fun e => ?_) (fun e => ?_)
    · -- no list, no tuple
      walk_at "go"
      rcases h with ⟨_, bad⟩ | ⟨hs, _⟩
      · exact fun C m => bad C H1 m e1
      · rw [is_lt.mpr hs] at e
        cases e
    rcases h with ⟨hs, _⟩ | ⟨_, a, xs, rfl, hq, h⟩
    · exact absurd (is_lt.mp e) hs
    walk_at "go"
    refine x_dec (fun c => ?_) (fun c => ?_)
    · walk_at "go"
      rcases h with ⟨_, bad⟩ | ⟨hl, _⟩
      · exact fun C m => bad C H1 m e1
      · omega
    rcases h with ⟨hl, _⟩ | ⟨hl, hk, h⟩
    · omega
    walk_at "go"
    refine x_forQ (H0 := H) (a := a) xs (fun y => y) rfl (by rw [List.map_id']; exact hq) (fun pre σ' H' => (∃ v, σ' = [some (.int n), some (.ref a), v]) ∧ Ex H H' ∧ ∀ y ∈ pre, inB y 1 n = true) ⟨⟨_, rfl⟩, e1, fun y hy => nomatch hy⟩ (fun pre σ' H' _ p => p.2.1) (fun pre y post σ' H' ea p => ?_) (fun σ' H' p => ?_)
    · obtain ⟨⟨v, rfl⟩, e2, hp⟩ := p
      obtain ⟨s, ky⟩ := hk y (by rw [ea]; simp)
      walk_at "go"
      refine ⟨y, s, 1, n, rfl, ky.ex e2, ?_⟩
      walk_at "go"
      refine x_bN (fun c => ?_) (fun c => ?_)
      · walk_at "go"
        rcases h with ⟨_, bad⟩ | ⟨hg, _⟩
        · exact fun C m => bad C H' m e2
        · rw [hg y (by rw [ea]; simp)] at c
          cases c
      · walk_at "go"
        refine ⟨⟨_, rfl⟩, e2, fun z hz => ?_⟩
        rcases List.mem_append.mp hz with hz | hz
        · exact hp z hz
        · rw [List.mem_singleton.mp hz]
          exact c
    · obtain ⟨_, e2, hp⟩ := p
      rcases h with ⟨⟨y, hy, e3⟩, _⟩ | ⟨_, q⟩
      · rw [hp y hy] at e3
        cases e3
      · exact q H' e2
theorem Asked.imp {K : PySem.W.Frag} {mg : Str → Option Value} {H : Hp} {E : XK} {b x : V} {due due' : Int → List Int → Prop} (h : Asked K mg H E b x due) (f : ∀ n ns, b = .int n → 1 ≤ n → n ≤ 400 → Wishes K H x n ns → due n ns → due' n ns) : Asked K mg H E b x due' := by
  rcases h with h | ⟨n, rfl, n1, n2, h⟩
  · exact .inl h
  · refine .inr ⟨n, rfl, n1, n2, ?_⟩
    rcases h with h | ⟨ns, h, d⟩
    · exact .inl h
    · exact .inr ⟨ns, h, f n ns rfl n1 n2 h d⟩
theorem Asked.ok {K : PySem.W.Frag} {mg : Str → Option Value} {H : Hp} {E : XK} {n : Int} {x : V} {ns : List Int} {due : Int → List Int → Prop} (n1 : 1 ≤ n) (n2 : n ≤ 400) (h : Wishes K H x n ns) (d : due n ns) : Asked K mg H E (.int n) x due :=
  .inr ⟨n, rfl, n1, n2, .inr ⟨ns, h, d⟩⟩

/-! ### where ships lie: the plain law -/
/-- the berths that are taken -/
def occ (st : List (Option Int)) : List Int := st.filterMap id
/-- the first free berth at or beyond a wish -/
def firstFree (n : Int) (held : List Int) (w : Int) : Option Int := (irange w (n + 1)).find? fun b => !held.contains b
def placeStep (n : Int) (st : List (Option Int)) (w : Int) : List (Option Int) := st ++ [firstFree n (occ st) w]
def place (n : Int) (ns : List Int) : List (Option Int) := ns.foldl (placeStep n) []
theorem place_snoc (n : Int) (ns : List Int) (w : Int) : place n (ns ++ [w]) = placeStep n (place n ns) w := by
  unfold place
  rw [List.foldl_append]
  rfl
theorem place_length (n : Int) : ∀ ns : List Int, (place n ns).length = ns.length := by
  have h : ∀ (ns : List Int) st, (ns.foldl (placeStep n) st).length = st.length + ns.length := by
    intro ns
    induction ns with
    | nil => intro st; rfl
    | cons w ns ih =>
      intro st
      rw [List.foldl_cons, ih, List.length_cons]
      show (st ++ [_]).length + ns.length = _
      rw [List.length_append, List.length_singleton]
      omega
  intro ns
  unfold place
  rw [h ns []]
  exact Nat.zero_add _
theorem irange_succ {lo hi : Int} (h : lo < hi) : irange lo hi = lo :: irange (lo + 1) hi := by
  unfold irange
  have e : (hi - lo).toNat = (hi - (lo + 1)).toNat + 1 := by omega
  rw [e, List.range_succ_eq_map, List.map_cons, List.map_map]
  congr 1
  · show lo + ((0 : Nat) : Int) = lo
    omega
  · apply List.map_congr_left
    intro k _
    show lo + ((k + 1 : Nat) : Int) = lo + 1 + (k : Int)
    omega
theorem irange_nil {lo hi : Int} (h : hi ≤ lo) : irange lo hi = [] := by
  unfold irange
  have e : (hi - lo).toNat = 0 := by omega
  rw [e]
  rfl
theorem firstFree_skip {n w : Int} {held : List Int} (hw : w ≤ n) (h : w ∈ held) : firstFree n held w = firstFree n held (w + 1) := by
  unfold firstFree
  rw [irange_succ (by omega), List.find?_cons]
  simp [h]
theorem firstFree_here {n w : Int} {held : List Int} (hw : w ≤ n) (h : w ∉ held) : firstFree n held w = some w := by
  unfold firstFree
  rw [irange_succ (by omega), List.find?_cons]
  simp [h]
theorem firstFree_none {n w : Int} {held : List Int} (hw : n < w) : firstFree n held w = none := by
  unfold firstFree
  rw [irange_nil (by omega)]
  rfl
theorem firstFree_some {n w b : Int} {held : List Int} (h : firstFree n held w = some b) : w ≤ b ∧ b ≤ n ∧ b ∉ held := by
  unfold firstFree at h
  have h1 := List.mem_of_find?_eq_some h
  have h2 := List.find?_some h
  rw [mem_irange] at h1
  refine ⟨h1.1, by omega, ?_⟩
  simpa using h2
theorem occ_snoc (st : List (Option Int)) (o : Option Int) : occ (st ++ [o]) = occ st ++ o.toList := by
  unfold occ
  rw [List.filterMap_append]
  cases o <;> rfl
theorem occ_place {n : Int} {ns : List Int} (hw : ∀ w ∈ ns, 1 ≤ w) : ∀ b ∈ occ (place n ns), 1 ≤ b ∧ b ≤ n := by
  have h : ∀ (ns : List Int) st, (∀ w ∈ ns, 1 ≤ w) → (∀ b ∈ occ st, 1 ≤ b ∧ b ≤ n) → ∀ b ∈ occ (ns.foldl (placeStep n) st), 1 ≤ b ∧ b ≤ n := by
    intro ns
    induction ns with
    | nil => intro st _ h; exact h
    | cons w ns ih =>
      intro st hw hst
      rw [List.foldl_cons]
      refine ih _ (fun v hv => hw v (List.mem_cons_of_mem _ hv)) fun b hb => ?_
      have hb : b ∈ occ (st ++ [firstFree n (occ st) w]) := hb
      rw [occ_snoc] at hb
      rcases List.mem_append.mp hb with hb | hb
      · exact hst b hb
      · cases e : firstFree n (occ st) w with
        | none => rw [e] at hb; cases hb
        | some c =>
          rw [e] at hb
          have hb : b ∈ [c] := hb
          rw [List.mem_singleton.mp hb]
          obtain ⟨h1, h2, _⟩ := firstFree_some e
          have := hw w List.mem_cons_self
          omega
  exact h ns [] hw fun b hb => nomatch hb
/-- the dict of the berths taken -/
def heldD (held : List Int) : List (Key × V) := held.map fun b => (Sum.inl b, V.bl true)
theorem heldD_get (held : List Int) (b : Int) : valV (heldD held) (.inl b) = if b ∈ held then some (.bl true) else none := by
  unfold valV heldD
  induction held with
  | nil => rfl
  | cons c cs ih =>
    rw [List.map_cons, List.find?_cons]
    by_cases e : c = b
    · subst e
      simp
    · have e1 : decide ((Sum.inl c : Key) = Sum.inl b) = false := decide_eq_false fun z => e (Sum.inl.inj z)
      rw [e1]
      simp only [List.mem_cons, show ¬ b = c from fun z => e z.symm, false_or]
      exact ih
theorem heldD_put {held : List Int} {b : Int} (h : b ∉ held) : putK (heldD held) (.inl b) (.bl true) = heldD (held ++ [b]) := by
  rw [putK_new _ (by rw [heldD_get, if_neg h])]
  unfold heldD
  rw [List.map_append]
  rfl
theorem occ_le (st : List (Option Int)) : (occ st).length ≤ st.length := List.length_filterMap_le _ _


def sp_placed (K : PySem.W.Frag) (mg : Str → Option Value) : Sp := fun vs H Q E => ∃ b x, vs = [b, x] ∧ Asked K mg H E b x fun n ns => ∀ p H', H p = none → Ex H H' → H' p = some (.lst ((place n ns).map optV)) → Q (.ref p) H'
theorem has_placed {P : Program} {w : World} {K : PySem.W.Frag} {mg : Str → Option Value} {base : Heap}  (S : B.Stands K mg "placed" s_placed) (N : Nms K mg) (h_need_wishes : B.Has P w K mg base "need_wishes" 3 ["berths", "wishes"] (sp_need_wishes K mg)) : B.Has P w K mg base "placed" 4 ["berths", "wishes"] (sp_placed K mg) := by
  refine B.has_of S sc_placed (fun _ _ _ _ _ _ us hl => match us, hl with | [_, _], _ => rfl) (fun vs H Q E h => ?_)
    (fun f cdv A outer s H vs Q E hr h => ⟨_, (pss_cons (ps_expr (B.pe_has h_need_wishes hr (B.passU (takes_of rfl rfl rfl rfl)) (pa_cons (pv 0) (pa_cons (pv 1) pa_nil))))
    (pss_cons (ps_set (i := 2) sc_placed.nd rfl (by first | exact Or.inl rfl | exact Or.inr rfl) pe_dnewK)
    (pss_cons (ps_set (i := 3) sc_placed.nd rfl (by first | exact Or.inl rfl | exact Or.inr rfl) (pe_lst pa_nil))
    (pss_cons (ps_for (passes_of rfl) rfl (B.pi_sq (pv 1)) (pg_name (i := 4) sc_placed.nd rfl (by first | exact Or.inl rfl | exact Or.inr rfl)) (pss_cons (ps_set (i := 5) sc_placed.nd rfl (by first | exact Or.inl rfl | exact Or.inr rfl) (pv 4))
    (pss_cons (ps_while (passes_of rfl) (pt_cmp (pc_din (hu_of hr) (pv 5) (pv 2))) (pss_one (ps_aug (i := 5) sc_placed.nd rfl (by first | exact Or.inl rfl | exact Or.inr rfl) pe_int ip_add)))
    (pss_one (ps_if (pt_cmpR op_gt (pv 5) (pv 0) (nomark _)) (pss_one (ps_expr (pe_bm PySem.F.plainAttrs_list PySem.F.slot_list_append PySem.F.type_list_append mt_append (pv 3) (pa_cons pe_non pa_nil)))) (pss_cons (ps_dput (hu_of hr) (pv 2) (pv 5) pe_bl rfl)
    (pss_one (ps_expr (pe_bm PySem.F.plainAttrs_list PySem.F.slot_list_append PySem.F.type_list_append mt_append (pv 3) (pa_cons (pv 5) pa_nil))))))))))
    (pss_one (ps_ret (pv 3))))))), ?_⟩)
  · exact Asked.len h
  · obtain ⟨b, x, rfl, h⟩ := h
    walk_at "go"
    refine ⟨b, x, rfl, ?_⟩
    rcases h with h | ⟨n, rfl, n1, n2, h⟩
    · exact .inl h
    refine .inr ⟨n, rfl, n1, n2, ?_⟩
    rcases h with h | ⟨ns, hns, due⟩
    · exact .inl h
    refine .inr ⟨ns, hns, fun H0 e0 => ?_⟩
    obtain ⟨a, rfl, hq, hl, hw⟩ := hns
    walk_at "go"
    refine x_dnew fun d H1 d0 e1 hd => ?_
    walk_at "go"
    refine x_mkL (by simp) fun f H2 f0 e2 hf => ?_
    walk_at "go"
    have hdf : d ≠ f := ne_of_none hd f0
    have dn : H d = none := exn e0 d0
    have fn : H f = none := exn e0 (exn e1 f0)
    refine x_forQ (H0 := H) (a := a) ns V.int rfl hq (fun pre σ' H' => (∃ v u, σ' = [some (.int n), some (.ref a), some (.ref d), some (.ref f), v, u]) ∧ Ex H H' ∧ H' d = some (.dK (heldD (occ (place n pre)))) ∧ H' f = some (.lst ((place n pre).map optV)))
      ⟨⟨_, _, rfl⟩, by walk_at "hx", by walk_at "hx", by walk_at "hx"⟩ (fun pre σ' H' _ p => p.2.1) (fun pre w post σ' H' ea p => ?_) (fun σ' H' p => ?_)
    · obtain ⟨⟨v, u, rfl⟩, ex, hd, hf⟩ := p
      have w1 : 1 ≤ w ∧ w ≤ n := hw w (by rw [ea]; simp)
      have pl : pre.length ≤ 400 := by
        have := congrArg List.length ea
        rw [List.length_append, List.length_cons] at this
        omega
      have ob := occ_place (n := n) (ns := pre) fun v hv => (hw v (by rw [ea]; simp [hv])).1
      have pz : (place n pre).length ≤ 400 := by rw [place_length]; exact pl
      have oz := occ_le (place n pre)
      walk_at "go"
      refine x_while (fun m σ'' H'' => H'' = H' ∧ ∃ c : Int, σ'' = [some (.int n), some (.ref a), some (.ref d), some (.ref f), some (.int w), some (.int c)] ∧ w ≤ c ∧ firstFree n (occ (place n pre)) w = firstFree n (occ (place n pre)) c ∧ m = (n + 1 - c).toNat)
        _ ⟨rfl, w, rfl, by omega, rfl, rfl⟩ ?_ ?_
      · rintro m σ'' H'' ⟨rfl, c, rfl, wc, hc, rfl⟩
        walk_at "go"
        rw [heldD_get]
        by_cases hm : c ∈ occ (place n pre)
        · have cb := ob c hm
          rw [if_pos hm]
          refine x_true ?_
          walk_at "go"
          exact ⟨_, by omega, rfl, c + 1, rfl, by omega, by rw [hc, firstFree_skip cb.2 hm], rfl⟩
        · rw [if_neg hm]
          refine x_false ?_
          walk_at "go"
          refine x_dec (fun hn => ?_) (fun hn => ?_)
          · walk_at "go"
            refine x_append hf (by rw [List.length_map]; omega) fun H3 u3 => ?_
            walk_at "go"
            rw [place_snoc]
            unfold placeStep
            rw [hc, firstFree_none hn]
            refine ⟨⟨_, _, rfl⟩, by walk_at "hx", ?_, ?_⟩
            · rw [occ_snoc]
              simp only [Option.toList, List.append_nil]
              walk_at "hx"
            · rw [List.map_append]
              walk_at "hx"
          · walk_at "go"
            refine x_putI hd (by unfold heldD; rw [List.length_map]; omega) fun H3 u3 => ?_
            rw [heldD_put hm] at u3
            walk_at "go"
            have hf3 : H3 f = some (.lst ((place n pre).map optV)) := by walk_at "hx"
            refine x_append hf3 (by rw [List.length_map]; omega) fun H4 u4 => ?_
            walk_at "go"
            rw [place_snoc]
            unfold placeStep
            rw [hc, firstFree_here (by omega) hm]
            refine ⟨⟨_, _, rfl⟩, by walk_at "hx", ?_, ?_⟩
            · rw [occ_snoc]
              show H4 d = some (.dK (heldD (occ (place n pre) ++ [c])))
              walk_at "hx"
            · rw [List.map_append]
              walk_at "hx"
      · rintro σ H Q Q' hQ ⟨v, e, v2, e2, q⟩
        exact ⟨v, e, v2, e2, by
          obtain ⟨a, o, h1, h2, c, h3, h4⟩ := q
          exact ⟨a, o, h1, h2, c, h3, hQ _ _ h4⟩⟩
    · obtain ⟨⟨v, u, rfl⟩, ex, hd, hf⟩ := p
      walk_at "go"
      exact due f H' fn ex hf

theorem irange_sorted (lo hi : Int) : (irange lo hi).Pairwise (· < ·) := by
  unfold irange
  rw [List.pairwise_map]
  exact List.pairwise_lt_range.imp fun h => by omega
/-! ### counting -/
def cntGe (ns : List Int) (b : Int) : Nat := ns.countP fun w => decide (b ≤ w)
theorem cntGe_snoc (ns : List Int) (w b : Int) : cntGe (ns ++ [w]) b = cntGe ns b + if b ≤ w then 1 else 0 := by
  unfold cntGe
  rw [List.countP_append]
  congr 1
  by_cases h : b ≤ w <;> simp [h]
/-- the pigeonhole -/
theorem nodup_le : ∀ {l m : List Int}, l.Nodup → (∀ x ∈ l, x ∈ m) → l.length ≤ m.length
  | [], _, _, _ => Nat.zero_le _
  | a :: l, m, hn, h => by
    rw [List.nodup_cons] at hn
    have ha : a ∈ m := h a List.mem_cons_self
    have h2 : l.length ≤ (m.erase a).length := nodup_le hn.2 fun x hx => by
      have hne : x ≠ a := fun z => hn.1 (z ▸ hx)
      exact (List.mem_erase_of_ne hne).mpr (h x (List.mem_cons_of_mem _ hx))
    rw [List.length_erase_of_mem ha] at h2
    have : 0 < m.length := List.length_pos_of_mem ha
    rw [List.length_cons]
    omega
theorem irange_nodup (lo hi : Int) : (irange lo hi).Nodup := (irange_sorted lo hi).imp fun h => Int.ne_of_lt h
/-! ### what place does -/
theorem occ_mono (n : Int) (ns : List Int) (w : Int) : ∀ b ∈ occ (place n ns), b ∈ occ (place n (ns ++ [w])) := fun b hb => by
  rw [place_snoc]
  unfold placeStep
  rw [occ_snoc]
  exact List.mem_append_left _ hb
theorem snoc_ind {α : Type} {P : List α → Prop} (h0 : P []) (h1 : ∀ l a, P l → P (l ++ [a])) : ∀ l, P l := fun l => by
  have h : ∀ m : List α, P m.reverse := by
    intro m
    induction m with
    | nil => exact h0
    | cons a m ih =>
      rw [List.reverse_cons]
      exact h1 _ _ ih
  have := h l.reverse
  rw [List.reverse_reverse] at this
  exact this
theorem occ_nodup (n : Int) : ∀ ns, (occ (place n ns)).Nodup := by
  refine snoc_ind (by exact List.nodup_nil) fun ns w ih => ?_
  rw [place_snoc]
  unfold placeStep
  rw [occ_snoc]
  cases e : firstFree n (occ (place n ns)) w with
  | none => simpa using ih
  | some b =>
    obtain ⟨_, _, hb⟩ := firstFree_some e
    show (occ (place n ns) ++ [b]).Nodup
    rw [List.nodup_append]
    refine ⟨ih, by simp, ?_⟩
    intro x hx y hy z
    rw [List.mem_singleton.mp hy] at z
    exact hb (z ▸ hx)
theorem firstFree_all : ∀ (k : Nat) {n w : Int} {held : List Int}, (n + 1 - w).toNat = k → firstFree n held w = none → ∀ y, w ≤ y → y ≤ n → y ∈ held
  | 0, n, w, held, e, _, y, h1, h2 => by omega
  | k + 1, n, w, held, e, h, y, h1, h2 => by
    by_cases hw : w ∈ held
    · by_cases hy : y = w
      · rw [hy]; exact hw
      · rw [firstFree_skip (by omega) hw] at h
        exact firstFree_all k (by omega) h y (by omega) h2
    · rw [firstFree_here (by omega) hw] at h
      cases h
theorem firstFree_gap : ∀ (k : Nat) {n w b : Int} {held : List Int}, (n + 1 - w).toNat = k → firstFree n held w = some b → ∀ y, w ≤ y → y < b → y ∈ held
  | 0, n, w, b, held, e, h, y, h1, h2 => by
    rw [firstFree_none (by omega)] at h
    cases h
  | k + 1, n, w, b, held, e, h, y, h1, h2 => by
    by_cases hw : w ∈ held
    · by_cases hy : y = w
      · rw [hy]; exact hw
      · rw [firstFree_skip (by omega) hw] at h
        exact firstFree_gap k (by omega) h y (by omega) h2
    · rw [firstFree_here (by omega) hw] at h
      cases h
      omega
/-- a ship that lies: its wish, and no free berth between -/
theorem place_at (n : Int) : ∀ (ns : List Int) (k : Nat) (c : Int), (place n ns)[k]? = some (some c) → ∃ w, ns[k]? = some w ∧ w ≤ c ∧ c ≤ n ∧ ∀ y, w ≤ y → y < c → y ∈ occ (place n ns) := by
  refine snoc_ind (fun k c h => by simp [place] at h) fun ns w ih k c h => ?_
  have hl := place_length n ns
  rw [place_snoc] at h
  unfold placeStep at h
  by_cases hk : k < ns.length
  · rw [List.getElem?_append_left (by omega)] at h
    obtain ⟨v, h1, h2, h3, h4⟩ := ih k c h
    exact ⟨v, by rw [List.getElem?_append_left hk]; exact h1, h2, h3, fun y y1 y2 => occ_mono n ns w y (h4 y y1 y2)⟩
  · rw [List.getElem?_append_right (by omega)] at h
    have hk2 : k = ns.length := by
      have := (List.getElem?_eq_some_iff.mp h).1
      simp at this
      omega
    subst hk2
    rw [hl] at h
    simp at h
    obtain ⟨h1, h2, _⟩ := firstFree_some h
    exact ⟨w, by simp, h1, h2, fun y y1 y2 => occ_mono n ns w y (firstFree_gap _ rfl h y y1 y2)⟩
theorem place_away (n : Int) : ∀ (ns : List Int) (k : Nat), (place n ns)[k]? = some none → ∃ w, ns[k]? = some w ∧ ∀ y, w ≤ y → y ≤ n → y ∈ occ (place n ns) := by
  refine snoc_ind (fun k h => by simp [place] at h) fun ns w ih k h => ?_
  have hl := place_length n ns
  rw [place_snoc] at h
  unfold placeStep at h
  by_cases hk : k < ns.length
  · rw [List.getElem?_append_left (by omega)] at h
    obtain ⟨v, h1, h2⟩ := ih k h
    exact ⟨v, by rw [List.getElem?_append_left hk]; exact h1, fun y y1 y2 => occ_mono n ns w y (h2 y y1 y2)⟩
  · rw [List.getElem?_append_right (by omega)] at h
    have hk2 : k = ns.length := by
      have := (List.getElem?_eq_some_iff.mp h).1
      simp at this
      omega
    subst hk2
    rw [hl] at h
    simp at h
    exact ⟨w, by simp, fun y y1 y2 => occ_mono n ns w y (firstFree_all _ rfl h y y1 y2)⟩
/-- counting along two rows: of each ship that lies in P its wish is in P' -/
theorem cnt_le {P P' : Int → Bool} : ∀ {st : List (Option Int)} {ns : List Int}, (∀ (k : Nat) (c : Int), st[k]? = some (some c) → P c = true → ∃ w, ns[k]? = some w ∧ P' w = true) → (occ st).countP P ≤ ns.countP P'
  | [], _, _ => Nat.zero_le _
  | o :: st, [], h => by
    have : (occ (o :: st)).countP P = 0 := by
      rw [List.countP_eq_zero]
      intro c hc
      unfold occ at hc
      rw [List.mem_filterMap] at hc
      obtain ⟨o', ho, rfl⟩ := hc
      obtain ⟨k, hk⟩ := List.getElem?_of_mem ho
      intro hp
      obtain ⟨w, hw, _⟩ := h k c hk hp
      simp at hw
    omega
  | o :: st, w :: ns, h => by
    have ih : (occ st).countP P ≤ ns.countP P' := cnt_le fun k c hk hp => by
      obtain ⟨v, h1, h2⟩ := h (k + 1) c hk hp
      exact ⟨v, h1, h2⟩
    cases o with
    | none =>
      show (occ st).countP P ≤ _
      rw [List.countP_cons]
      omega
    | some c =>
      show (c :: occ st).countP P ≤ _
      rw [List.countP_cons, List.countP_cons]
      by_cases hp : P c = true
      · obtain ⟨v, h1, h2⟩ := h 0 c rfl hp
        cases h1
        rw [if_pos hp, if_pos h2]
        omega
      · rw [if_neg hp]
        omega
/-- each wish in P belongs to a ship that lies in P' -/
theorem cnt_ge {P P' : Int → Bool} : ∀ {st : List (Option Int)} {ns : List Int}, (∀ (k : Nat) (w : Int), ns[k]? = some w → P w = true → ∃ c, st[k]? = some (some c) ∧ P' c = true) → ns.countP P ≤ (occ st).countP P'
  | _, [], _ => Nat.zero_le _
  | [], w :: ns, h => by
    have : (w :: ns).countP P = 0 := by
      rw [List.countP_eq_zero]
      intro v hv hp
      obtain ⟨k, hk⟩ := List.getElem?_of_mem hv
      obtain ⟨c, hc, _⟩ := h k v hk hp
      simp at hc
    omega
  | o :: st, w :: ns, h => by
    have ih : ns.countP P ≤ (occ st).countP P' := cnt_ge fun k v hk hp => by
      obtain ⟨c, h1, h2⟩ := h (k + 1) v hk hp
      exact ⟨c, h1, h2⟩
    by_cases hp : P w = true
    · obtain ⟨c, h1, h2⟩ := h 0 w rfl hp
      cases h1
      show _ ≤ (c :: occ st).countP P'
      rw [List.countP_cons, List.countP_cons, if_pos hp, if_pos h2]
      omega
    · rw [List.countP_cons, if_neg hp]
      cases o with
      | none => exact ih
      | some c =>
        show _ ≤ (c :: occ st).countP P'
        rw [List.countP_cons]
        omega
/-- the start of the row of taken berths that b is in -/
theorem row_start {held : List Int} : ∀ (k : Nat) (w n : Int), w.toNat = k → 1 ≤ w → (∀ y, w ≤ y → y ≤ n → y ∈ held) → ∃ a, 1 ≤ a ∧ a ≤ w ∧ (∀ y, a ≤ y → y ≤ n → y ∈ held) ∧ (a = 1 ∨ a - 1 ∉ held)
  | 0, w, n, e, h1, _ => by omega
  | k + 1, w, n, e, h1, h => by
    by_cases hw : w = 1
    · exact ⟨w, h1, Int.le_refl _, h, .inl hw⟩
    · by_cases hm : w - 1 ∈ held
      · obtain ⟨a, a1, a2, a3, a4⟩ := row_start k (w - 1) n (by omega) (by omega) fun y y1 y2 => by
          by_cases hy : y = w - 1
          · rw [hy]; exact hm
          · exact h y (by omega) y2
        exact ⟨a, a1, by omega, a3, a4⟩
      · exact ⟨w, h1, Int.le_refl _, h, .inr hm⟩
theorem countP_range_le {l : List Int} (hn : l.Nodup) (a b : Int) : l.countP (fun w => decide (a ≤ w) && decide (w ≤ b)) ≤ (b + 1 - a).toNat := by
  rw [List.countP_eq_length_filter, ← irange_len a (b + 1)]
  refine nodup_le (hn.filter _) fun x hx => ?_
  rw [List.mem_filter] at hx
  simp at hx
  rw [mem_irange]
  omega
theorem countP_range_ge {l : List Int} (a b : Int) (h : ∀ y, a ≤ y → y ≤ b → y ∈ l) : (b + 1 - a).toNat ≤ l.countP (fun w => decide (a ≤ w) && decide (w ≤ b)) := by
  rw [List.countP_eq_length_filter, ← irange_len a (b + 1)]
  refine nodup_le (irange_nodup _ _) fun x hx => ?_
  rw [mem_irange] at hx
  rw [List.mem_filter]
  refine ⟨h x hx.1 (by omega), ?_⟩
  simp
  omega
theorem countP_same {l : List Int} {P P' : Int → Bool} (h : ∀ x ∈ l, P x = P' x) : l.countP P = l.countP P' := by
  apply List.countP_congr
  intro x hx
  rw [h x hx]
/-! ### good wishes -/
def Good (n : Int) (ns : List Int) : Prop := ∀ b, 1 ≤ b → b ≤ n → (cntGe ns b : Int) ≤ n + 1 - b
theorem good_of_lie {n : Int} {ns : List Int} (hw : ∀ w ∈ ns, 1 ≤ w ∧ w ≤ n) (h : ∀ o ∈ place n ns, o ≠ none) : Good n ns := fun b b1 b2 => by
  have h1 : ns.countP (fun w => decide (b ≤ w)) ≤ (occ (place n ns)).countP (fun c => decide (b ≤ c) && decide (c ≤ n)) := by
    refine cnt_ge fun k w hk hp => ?_
    have hl := place_length n ns
    have hk' : k < (place n ns).length := by rw [hl]; exact (List.getElem?_eq_some_iff.mp hk).1
    cases e : (place n ns)[k]'hk' with
    | none => exact absurd e (h _ (List.getElem_mem hk'))
    | some c =>
      have e2 : (place n ns)[k]? = some (some c) := by rw [List.getElem?_eq_getElem hk', e]
      obtain ⟨v, h1, h2, h3, _⟩ := place_at n ns k c e2
      rw [hk] at h1
      cases h1
      refine ⟨c, e2, ?_⟩
      simp at hp ⊢
      omega
  have h2 := countP_range_le (occ_nodup n ns) b n
  unfold cntGe
  omega
theorem lie_of_good {n : Int} {ns : List Int} (hw : ∀ w ∈ ns, 1 ≤ w ∧ w ≤ n) (g : Good n ns) : ∀ o ∈ place n ns, o ≠ none := by
  intro o ho e
  subst e
  obtain ⟨k, hk⟩ := List.getElem?_of_mem ho
  obtain ⟨w, h1, h2⟩ := place_away n ns k hk
  have w1 := hw w (List.mem_of_getElem? h1)
  obtain ⟨a, a1, a2, a3, a4⟩ := row_start _ w n rfl w1.1 h2
  have ob := occ_place (n := n) (ns := ns) fun v hv => (hw v hv).1
  -- the berths from a on are all taken, by ships that wish them: and one more wishes so
  have c1 := countP_range_ge a n a3
  have c2 : (occ (place n ns)).countP (fun c => decide (a ≤ c) && decide (c ≤ n)) ≤ (ns.eraseIdx k).countP (fun v => decide (a ≤ v)) := by
    have hlen := place_length n ns
    have kl : k < ns.length := (List.getElem?_eq_some_iff.mp h1).1
    have e1 : occ (place n ns) = occ ((place n ns).eraseIdx k) := by
      have kp : k < (place n ns).length := by omega
      have es := split_at hk
      rw [List.eraseIdx_eq_take_drop_succ]
      conv => lhs; rw [es]
      unfold occ
      rw [List.filterMap_append, List.filterMap_append]
      rfl
    rw [e1]
    refine cnt_le fun j c hj hp => ?_
    have hj2 : (place n ns)[if j < k then j else j + 1]? = some (some c) := by
      rw [List.getElem?_eraseIdx] at hj
      split <;> simp_all
    obtain ⟨v, v1, v2, v3, v4⟩ := place_at n ns _ c hj2
    refine ⟨v, ?_, ?_⟩
    · rw [List.getElem?_eraseIdx]
      split <;> simp_all
    · simp at hp ⊢
      refine Classical.byContradiction fun z => ?_
      rcases a4 with a4 | a4
      · have := (hw v (List.mem_of_getElem? v1)).1
        omega
      · exact a4 (v4 (a - 1) (by omega) (by omega))
  have c3 : (ns.eraseIdx k).countP (fun v => decide (a ≤ v)) + 1 ≤ cntGe ns a := by
    have es := split_at h1
    unfold cntGe
    rw [List.eraseIdx_eq_take_drop_succ]
    conv => rhs; rw [es]
    rw [List.countP_append, List.countP_append, List.countP_cons, if_pos (by simp; omega)]
    omega
  have := g a a1 (by omega)
  omega

def SortOf (ms ns : List Int) : Prop := ms.Perm ns ∧ ms.Pairwise (· ≤ ·)
/-! ### good wishes by their order -/
def GoodS (n : Int) (ms : List Int) : Prop := ∀ (i : Nat) (v : Int), ms[i]? = some v → v ≤ n - ms.length + i + 1
theorem cntGe_perm {ms ns : List Int} (h : ms.Perm ns) (b : Int) : cntGe ms b = cntGe ns b := h.countP_eq _
theorem sorted_ge {ms : List Int} (hs : ms.Pairwise (· ≤ ·)) {i : Nat} {v b : Int} (h : ms[i]? = some v) (hb : b ≤ v) : ms.length - i ≤ cntGe ms b := by
  have es := split_at h
  have hi : i < ms.length := (List.getElem?_eq_some_iff.mp h).1
  unfold cntGe
  rw [es] at hs
  rw [List.pairwise_append] at hs
  obtain ⟨_, h2, _⟩ := hs
  rw [List.pairwise_cons] at h2
  conv => rhs; rw [es]
  rw [List.countP_append]
  have h3 : (v :: ms.drop (i + 1)).countP (fun w => decide (b ≤ w)) = (v :: ms.drop (i + 1)).length := by
    rw [List.countP_eq_length]
    intro x hx
    rcases List.mem_cons.mp hx with rfl | hx
    · simp [hb]
    · have := h2.1 x hx
      simp
      omega
  rw [h3, List.length_cons, List.length_drop]
  omega
theorem sorted_lt {ms : List Int} (hs : ms.Pairwise (· ≤ ·)) {i : Nat} {v b : Int} (h : ms[i]? = some v) (hb : v < b) : cntGe ms b + i + 1 ≤ ms.length := by
  have es := split_at h
  have hi : i < ms.length := (List.getElem?_eq_some_iff.mp h).1
  unfold cntGe
  rw [es] at hs
  rw [List.pairwise_append] at hs
  obtain ⟨_, _, h3⟩ := hs
  conv => lhs; rw [es]
  rw [List.countP_append, List.countP_cons, if_neg (by simp; omega)]
  have h4 : (ms.take i).countP (fun w => decide (b ≤ w)) = 0 := by
    rw [List.countP_eq_zero]
    intro x hx
    have := h3 x hx v List.mem_cons_self
    simp
    omega
  have h5 := List.countP_le_length (p := fun w => decide (b ≤ w)) (l := ms.drop (i + 1))
  rw [List.length_drop] at h5
  omega
theorem good_sorted {n : Int} {ms ns : List Int} (h : SortOf ms ns) (hw : ∀ w ∈ ns, 1 ≤ w ∧ w ≤ n) : Good n ns ↔ GoodS n ms := by
  obtain ⟨hp, hs⟩ := h
  constructor
  · intro g i v hv
    refine Classical.byContradiction fun z => ?_
    have hi : i < ms.length := (List.getElem?_eq_some_iff.mp hv).1
    have h1 := sorted_ge hs hv (Int.le_refl v)
    have vw := hw v (hp.mem_iff.mp (List.mem_of_getElem? hv))
    have h2 := g v vw.1 vw.2
    rw [← cntGe_perm hp] at h2
    omega
  · intro g b b1 b2
    refine Classical.byContradiction fun z => ?_
    rw [← cntGe_perm hp] at z
    have hc : cntGe ms b ≤ ms.length := List.countP_le_length
    have hi : ms.length - cntGe ms b < ms.length := by omega
    have hv := List.getElem?_eq_getElem hi
    have h1 := g _ _ hv
    by_cases hb : ms[ms.length - cntGe ms b] < b
    · have := sorted_lt hs hv hb
      omega
    · omega
/-- the last berth from which on more wish than there are -/
def IsCrowded (n : Int) (ns : List Int) : Option Int → Prop
  | none => Good n ns
  | some c => 1 ≤ c ∧ c ≤ n ∧ n + 1 - c < (cntGe ns c : Int) ∧ ∀ b, c < b → b ≤ n → (cntGe ns b : Int) ≤ n + 1 - b
theorem crowded_same {n : Int} {ns : List Int} : ∀ {o o' : Option Int}, IsCrowded n ns o → IsCrowded n ns o' → o = o'
  | none, none, _, _ => rfl
  | none, some c, g, ⟨h1, h2, h3, _⟩ => absurd (g c h1 h2) (by omega)
  | some c, none, ⟨h1, h2, h3, _⟩, g => absurd (g c h1 h2) (by omega)
  | some c, some d, ⟨h1, h2, h3, h4⟩, ⟨g1, g2, g3, g4⟩ => by
    rcases Int.lt_trichotomy c d with h | h | h
    · exact absurd (h4 d h g2) (by omega)
    · rw [h]
    · exact absurd (g4 c h h2) (by omega)
theorem crowded_good {n : Int} {ns : List Int} {o : Option Int} (h : IsCrowded n ns o) : o = none ↔ Good n ns := by
  cases o with
  | none => exact ⟨fun _ => h, fun _ => rfl⟩
  | some c =>
    obtain ⟨h1, h2, h3, _⟩ := h
    exact ⟨fun z => (nomatch z), fun g => absurd (g c h1 h2) (by omega)⟩
theorem good_low {n : Int} {ns : List Int} (hl : (ns.length : Int) ≤ n) (h : ∀ (i : Nat) (v : Int), ns[i]? = some v → v ≤ i + 1) : Good n ns := fun b b1 b2 => by
  unfold cntGe
  have e : ns = ns.take (b - 1).toNat ++ ns.drop (b - 1).toNat := (List.take_append_drop _ _).symm
  rw [e, List.countP_append]
  have h1 : (ns.take (b - 1).toNat).countP (fun w => decide (b ≤ w)) = 0 := by
    rw [List.countP_eq_zero]
    intro x hx
    obtain ⟨i, hi⟩ := List.getElem?_of_mem hx
    rw [List.getElem?_take] at hi
    split at hi
    · have := h i x hi
      simp
      omega
    · cases hi
  have h2 := List.countP_le_length (p := fun w => decide (b ≤ w)) (l := ns.drop (b - 1).toNat)
  rw [List.length_drop] at h2
  omega
/-- how many wish just a berth: the program's table -/
def tally (n : Int) (ns : List Int) : List Int := (irange 0 (n + 1)).map fun k => (ns.countP (fun w => decide (w = k)) : Int)
theorem tally_len (n : Int) (ns : List Int) : (tally n ns).length = (n + 1).toNat := by
  unfold tally
  rw [List.length_map, irange_len]
  omega
theorem tally_at {n k : Int} (ns : List Int) (h0 : 0 ≤ k) (h1 : k ≤ n) : (tally n ns)[k.toNat]? = some (ns.countP (fun w => decide (w = k)) : Int) := by
  unfold tally
  rw [List.getElem?_map, irange_at (by omega)]
  show some (((ns.countP fun w => decide (w = 0 + ((k.toNat : Nat) : Int))) : Nat) : Int) = _
  rw [show (0 : Int) + ((k.toNat : Nat) : Int) = k from by omega]
theorem tally_snoc {n w : Int} (ns : List Int) (h0 : 0 ≤ w) (h1 : w ≤ n) : (tally n ns).set w.toNat ((ns.countP (fun v => decide (v = w)) : Int) + 1) = tally n (ns ++ [w]) := by
  apply List.ext_getElem?
  intro i
  by_cases hi : i < (n + 1).toNat
  · have e : ∀ ms, (tally n ms)[i]? = some (ms.countP (fun v => decide (v = (i : Int))) : Int) := fun ms => by
      have := tally_at (n := n) (k := (i : Int)) ms (by omega) (by omega)
      simpa using this
    by_cases hw : w.toNat = i
    · have ew : w = (i : Int) := by omega
      rw [List.getElem?_set, if_pos hw, if_pos (by rw [tally_len]; omega), e, List.countP_append]
      subst ew
      simp
    · rw [List.getElem?_set, if_neg hw, e, e, List.countP_append]
      have ew : ¬ w = (i : Int) := by omega
      simp [ew]
  · rw [List.getElem?_eq_none (by rw [List.length_set, tally_len]; omega), List.getElem?_eq_none (by rw [tally_len]; omega)]
theorem tally_nil (n : Int) (h : 0 ≤ n) : tally n [] = List.replicate (n + 1).toNat 0 := by
  unfold tally
  rw [List.eq_replicate_iff]
  constructor
  · rw [List.length_map, irange_len]
    omega
  · intro x hx
    obtain ⟨k, _, rfl⟩ := List.mem_map.mp hx
    rfl
theorem cntGe_succ (ns : List Int) (b : Int) : cntGe ns b = cntGe ns (b + 1) + ns.countP (fun w => decide (w = b)) := by
  unfold cntGe
  induction ns with
  | nil => rfl
  | cons w ns ih =>
    rw [List.countP_cons, List.countP_cons, List.countP_cons, ih]
    rcases Int.lt_trichotomy w b with h | h | h
    · rw [if_neg (by simp; omega), if_neg (by simp; omega), if_neg (by simp; omega)]
      omega
    · rw [if_pos (by simp; omega), if_neg (by simp; omega), if_pos (by simp; omega)]
      omega
    · rw [if_pos (by simp; omega), if_pos (by simp; omega), if_neg (by simp; omega)]
      omega
theorem cntGe_top {n : Int} {ns : List Int} (hw : ∀ w ∈ ns, w ≤ n) : cntGe ns (n + 1) = 0 := by
  unfold cntGe
  rw [List.countP_eq_zero]
  intro w h
  have := hw w h
  simp
  omega

/-! ### crowded, is_good -/
def sp_crowded (K : PySem.W.Frag) (mg : Str → Option Value) : Sp := fun vs H Q E => ∃ b x, vs = [b, x] ∧ Asked K mg H E b x fun n ns => ∀ o H', IsCrowded n ns o → Ex H H' → Q (optV o) H'
theorem has_crowded {P : Program} {w : World} {K : PySem.W.Frag} {mg : Str → Option Value} {base : Heap}  (S : B.Stands K mg "crowded" s_crowded) (N : Nms K mg) (h_need_wishes : B.Has P w K mg base "need_wishes" 3 ["berths", "wishes"] (sp_need_wishes K mg)) : B.Has P w K mg base "crowded" 4 ["berths", "wishes"] (sp_crowded K mg) := by
  refine B.has_of S sc_crowded (fun _ _ _ _ _ _ us hl => match us, hl with | [_, _], _ => rfl) (fun vs H Q E h => ?_)
    (fun f cdv A outer s H vs Q E hr h => ⟨_, (pss_cons (ps_expr (B.pe_has h_need_wishes hr (B.passU (takes_of rfl rfl rfl rfl)) (pa_cons (pv 0) (pa_cons (pv 1) pa_nil))))
    (pss_cons (ps_set (i := 2) sc_crowded.nd rfl (by first | exact Or.inl rfl | exact Or.inr rfl) (pe_op op_rep (pe_lst (pa_cons pe_int pa_nil)) (pe_op op_add (pv 0) pe_int)))
    (pss_cons (ps_for (passes_of rfl) rfl (B.pi_sq (pv 1)) (pg_name (i := 3) sc_crowded.nd rfl (by first | exact Or.inl rfl | exact Or.inr rfl)) (pss_one (B.ps_augL (pv 2) (pv 3) pe_int ip_add)))
    (pss_cons (ps_set (i := 4) sc_crowded.nd rfl (by first | exact Or.inl rfl | exact Or.inr rfl) pe_int)
    (pss_cons (ps_for (passes_of rfl) rfl (pi_range3 rfl N.n_range (pa_cons (pv 0) (pa_cons pe_int (pa_cons (pe_un un_neg pe_int) pa_nil)))) (pg_name (i := 5) sc_crowded.nd rfl (by first | exact Or.inl rfl | exact Or.inr rfl)) (pss_cons (ps_aug (i := 4) sc_crowded.nd rfl (by first | exact Or.inl rfl | exact Or.inr rfl) (pe_ix (r := rIxL K) ix_list (pv 2) (pv 5) (fun _ _ => rfl)) ip_add)
    (pss_one (ps_if (pt_cmpR op_gt (pv 4) (pe_op op_sub (pe_op op_add (pv 0) pe_int) (pv 5)) (nomark _)) (pss_one (ps_ret (pv 5))) pss_nil))))
    (pss_one (ps_ret pe_non))))))), ?_⟩)
  · exact Asked.len h
  · obtain ⟨b, x, rfl, h⟩ := h
    walk_at "go"
    refine ⟨b, x, rfl, h.imp fun n ns eb n1 n2 hns due H1 e1 => ?_⟩
    obtain ⟨a, rfl, hq, hl, hw⟩ := hns
    subst eb
    walk_at "go"
    refine x_mkL (by simp) fun z H2 z0 e2 hz => ?_
    walk_at "go"
    refine x_rep (n := n + 1) hz (by omega) (by omega) (by simp) fun t H3 t0 e3 ht => ?_
    have ht : H3 t = some (.lst ((tally n []).map V.int)) := by
      rw [ht, tally_nil n (by omega)]
      simp [List.flatten_replicate_singleton]
    walk_at "go"
    have tn : H t = none := exn e1 (exn e2 t0)
    refine x_forQ (H0 := H) (a := a) ns V.int rfl hq (fun pre σ' H' => (∃ v, σ' = [some (.int n), some (.ref a), some (.ref t), v, none, none]) ∧ Ex H H' ∧ H' t = some (.lst ((tally n pre).map V.int)))
      ⟨⟨_, rfl⟩, by walk_at "hx", ht⟩ (fun pre σ' H' _ p => p.2.1) (fun pre w post σ' H' ea p => ?_) (fun σ' H' p => ?_)
    · obtain ⟨⟨v, rfl⟩, ex, ht'⟩ := p
      have w1 : 1 ≤ w ∧ w ≤ n := hw w (by rw [ea]; simp)
      obtain ⟨k, rfl⟩ : ∃ k : Nat, w = (k : Nat) := ⟨w.toNat, by omega⟩
      walk_at "go"
      have hk := tally_at (n := n) (k := (k : Int)) pre (by omega) (by omega)
      refine x_getN (v := .int (pre.countP (fun v => decide (v = (k : Int))) : Int)) (by walk_at "hx") (by rw [List.getElem?_map, show k = ((k : Int)).toNat from by simp, hk]; rfl) ?_
      walk_at "go"
      refine x_setC ht' (by rw [List.length_map, tally_len]; omega) fun H4 u4 => ?_
      walk_at "go"
      refine ⟨⟨_, rfl⟩, by walk_at "hx", ?_⟩
      have es := tally_snoc (n := n) (w := (k : Int)) pre (by omega) (by omega)
      rw [← es, List.map_set]
      simp only [Int.toNat_natCast]
      exact u4.same
    · obtain ⟨⟨v, rfl⟩, ex, ht'⟩ := p
      walk_at "go"
      refine x_down (by omega) (by decide) ?_
      refine x_forC (fun k σ' H' => (∃ v', σ' = [some (.int n), some (.ref a), some (.ref t), v, some (.int (cntGe ns (n + 1 - k) : Int)), v']) ∧ Ex H H' ∧ H' t = some (.lst ((tally n ns).map V.int)) ∧ (k : Int) ≤ n ∧ ∀ c, n - k < c → c ≤ n → (cntGe ns c : Int) ≤ n + 1 - c)
        ⟨⟨_, by rw [show n + 1 - ((0 : Nat) : Int) = n + 1 from by omega, cntGe_top fun w h => (hw w h).2]; rfl⟩, ex, ht', by omega, fun c c1 c2 => by omega⟩ (fun k σ' H' hk p => ?_) (fun σ' H' p => ?_)
      · obtain ⟨⟨v', rfl⟩, ex, ht', k2, hc⟩ := p
        have kn : (k : Int) < n := by omega
        obtain ⟨c, hcn⟩ : ∃ c : Nat, n + (k : Int) * -1 = (c : Nat) := ⟨(n - k).toNat, by omega⟩
        have hcn' : n - k = (c : Int) := by omega
        rw [hcn]
        walk_at "go"
        have hk2 := tally_at (n := n) (k := (c : Int)) ns (by omega) (by omega)
        refine x_ixL (v := .int (ns.countP (fun v => decide (v = (c : Int))) : Int)) (by walk_at "hx") (atI_nat (by rw [List.getElem?_map, show c = ((c : Int)).toNat from by simp, hk2]; rfl)) ?_
        walk_at "go"
        have ec : (cntGe ns (n + 1 - k) : Int) + (ns.countP (fun v => decide (v = (c : Int))) : Int) = (cntGe ns (c : Int) : Int) := by
          have := cntGe_succ ns (c : Int)
          rw [show (c : Int) + 1 = n + 1 - k from by omega] at this
          omega
        rw [ec]
        refine x_dec (fun hb => ?_) (fun hb => ?_)
        · walk_at "go"
          exact due (some (c : Int)) H' ⟨by omega, by omega, by omega, fun b b1 b2 => hc b (by omega) b2⟩ ex
        · walk_at "go"
          refine ⟨⟨_, by rw [show n + 1 - ((k + 1 : Nat) : Int) = (c : Int) from by omega]; rfl⟩, ex, ht', by omega, fun b b1 b2 => ?_⟩
          by_cases e : b = (c : Int)
          · subst e
            omega
          · exact hc b (by omega) b2
      · obtain ⟨⟨v', rfl⟩, ex, ht', k2, hc⟩ := p
        walk_at "go"
        exact due none H' (fun b b1 b2 => hc b (by omega) b2) ex
def sp_is_good (K : PySem.W.Frag) (mg : Str → Option Value) : Sp := fun vs H Q E => ∃ b x, vs = [b, x] ∧ Asked K mg H E b x fun n ns => ∀ (g : Bool) H', (g = true ↔ Good n ns) → Ex H H' → Q (.bl g) H'
theorem has_is_good {P : Program} {w : World} {K : PySem.W.Frag} {mg : Str → Option Value} {base : Heap}  (S : B.Stands K mg "is_good" s_is_good) (N : Nms K mg) (h_crowded : B.Has P w K mg base "crowded" 4 ["berths", "wishes"] (sp_crowded K mg)) : B.Has P w K mg base "is_good" 5 ["berths", "wishes"] (sp_is_good K mg) := by
  refine B.has_of S sc_is_good (fun _ _ _ _ _ _ us hl => match us, hl with | [_, _], _ => rfl) (fun vs H Q E h => ?_)
    (fun f cdv A outer s H vs Q E hr h => ⟨_, (pss_one (ps_ret (pe_cmp (pc_isN (B.pe_has h_crowded hr (B.passU (takes_of rfl rfl rfl rfl)) (pa_cons (pv 0) (pa_cons (pv 1) pa_nil)))) rfl))), ?_⟩)
  · exact Asked.len h
  · obtain ⟨b, x, rfl, h⟩ := h
    walk_at "go"
    refine ⟨b, x, rfl, h.imp fun n ns eb n1 n2 hns due o H1 ho e1 => ?_⟩
    walk_at "go"
    refine due _ H1 ?_ e1
    rw [← crowded_good ho]
    cases o <;> simp [optV]

/-! ### a round quay: the plain law -/
/-- the next berth round -/
def suc (n b : Int) : Int := b % n + 1
/-- going round from b, at most k steps -/
def rfree (n : Int) (held : List Int) : Nat → Int → Int
  | 0, b => b
  | k + 1, b => if b ∈ held then rfree n held k (suc n b) else b
def placeR (n : Int) (ns : List Int) : List Int := ns.foldl (fun acc w => acc ++ [rfree n acc n.toNat w]) []
theorem placeR_snoc (n : Int) (ns : List Int) (w : Int) : placeR n (ns ++ [w]) = placeR n ns ++ [rfree n (placeR n ns) n.toNat w] := by
  unfold placeR
  rw [List.foldl_append]
  rfl
theorem placeR_len (n : Int) (ns : List Int) : (placeR n ns).length = ns.length := by
  induction ns using snoc_ind with
  | h0 => rfl
  | h1 l a ih => rw [placeR_snoc, List.length_append, List.length_append, ih, List.length_singleton, List.length_singleton]
theorem suc_in {n b : Int} (n1 : 1 ≤ n) : 1 ≤ suc n b ∧ suc n b ≤ n := by
  unfold suc
  have h1 := Int.emod_nonneg b (show n ≠ 0 by omega)
  have h2 := Int.emod_lt_of_pos b (show 0 < n by omega)
  omega
/-- the berth j steps round from w -/
def at_ (n w : Int) (j : Nat) : Int := (w - 1 + j) % n + 1
theorem at_in {n w : Int} (n1 : 1 ≤ n) (j : Nat) : 1 ≤ at_ n w j ∧ at_ n w j ≤ n := by
  unfold at_
  have h1 := Int.emod_nonneg (w - 1 + j) (show n ≠ 0 by omega)
  have h2 := Int.emod_lt_of_pos (w - 1 + j) (show 0 < n by omega)
  omega
theorem at_zero {n w : Int} (w1 : 1 ≤ w ∧ w ≤ n) : at_ n w 0 = w := by
  unfold at_
  rw [Int.emod_eq_of_lt (by omega) (by omega)]
  omega
theorem suc_at (n w : Int) (j : Nat) : suc n (at_ n w j) = at_ n w (j + 1) := by
  unfold suc at_
  rw [Int.emod_add_emod]
  congr 2
  omega
theorem rfree_at {n : Int} {held : List Int} {w : Int} {k : Nat} (hk : at_ n w k ∉ held) : ∀ (m j : Nat), j ≤ k → k ≤ j + m → (∀ i, j ≤ i → i < k → at_ n w i ∈ held) → rfree n held m (at_ n w j) = at_ n w k
  | 0, j, h1, h2, _ => by
    have : j = k := by omega
    subst this
    rfl
  | m + 1, j, h1, h2, h => by
    by_cases e : j = k
    · subst e
      exact if_neg hk
    · have hj : at_ n w j ∈ held := h j (Nat.le_refl _) (by omega)
      show (if at_ n w j ∈ held then rfree n held m (suc n (at_ n w j)) else at_ n w j) = _
      rw [if_pos hj, suc_at]
      exact rfree_at hk m (j + 1) (by omega) (by omega) fun i h3 h4 => h i (by omega) h4
theorem least_of {p : Nat → Prop} (hp : ∃ k, p k) : ∃ k, p k ∧ ∀ j, j < k → ¬ p j := by
  obtain ⟨k, hk⟩ := hp
  induction k using Nat.strongRecOn with
  | _ k ih =>
    by_cases h : ∃ j, j < k ∧ p j
    · obtain ⟨j, h1, h2⟩ := h
      exact ih j h1 h2
    · exact ⟨k, hk, fun j h1 h2 => h ⟨j, h1, h2⟩⟩
theorem at_covers {n w y : Int} (w1 : 1 ≤ w ∧ w ≤ n) (y1 : 1 ≤ y ∧ y ≤ n) : ∃ j : Nat, (j : Int) < n ∧ at_ n w j = y := by
  refine ⟨((y - w) % n).toNat, ?_, ?_⟩
  · have h1 := Int.emod_nonneg (y - w) (show n ≠ 0 by omega)
    have h2 := Int.emod_lt_of_pos (y - w) (show 0 < n by omega)
    omega
  · have h1 := Int.emod_nonneg (y - w) (show n ≠ 0 by omega)
    unfold at_
    rw [Int.toNat_of_nonneg h1, Int.add_emod_emod, show w - 1 + (y - w) = y - 1 from by omega, Int.emod_eq_of_lt (by omega) (by omega)]
    omega
/-- some berth is free: the first one on the way round -/
theorem rfree_ends {n w : Int} {held : List Int} (w1 : 1 ≤ w ∧ w ≤ n) (hl : (held.length : Int) < n) : ∃ k : Nat, (k : Int) < n ∧ at_ n w k ∉ held ∧ ∀ j, j < k → at_ n w j ∈ held := by
  have h : ∃ k : Nat, (k : Int) < n ∧ at_ n w k ∉ held := by
    refine Classical.byContradiction fun z => ?_
    have all : ∀ y ∈ irange 1 (n + 1), y ∈ held := fun y hy => by
      have := mem_irange.mp hy
      obtain ⟨j, h1, h2⟩ := at_covers w1 (y := y) ⟨by omega, by omega⟩
      refine Classical.byContradiction fun c => z ⟨j, h1, ?_⟩
      rw [h2]
      exact c
    have := nodup_le (irange_nodup 1 (n + 1)) all
    rw [irange_len] at this
    omega
  obtain ⟨k, ⟨h1, h2⟩, h3⟩ := least_of h
  exact ⟨k, h1, h2, fun j hj => Classical.byContradiction fun c => h3 j hj ⟨by omega, c⟩⟩
theorem rfree_is {n w : Int} {held : List Int} {k : Nat} (w1 : 1 ≤ w ∧ w ≤ n) (h1 : (k : Int) < n) (h2 : at_ n w k ∉ held) (h3 : ∀ j, j < k → at_ n w j ∈ held) : rfree n held n.toNat w = at_ n w k := by
  have := rfree_at h2 n.toNat 0 (Nat.zero_le _) (by omega) fun i _ hi => h3 i hi
  rw [at_zero w1] at this
  exact this
theorem rfree_free {n w : Int} {held : List Int} (w1 : 1 ≤ w ∧ w ≤ n) (hl : (held.length : Int) < n) : rfree n held n.toNat w ∉ held ∧ 1 ≤ rfree n held n.toNat w ∧ rfree n held n.toNat w ≤ n := by
  obtain ⟨k, h1, h2, h3⟩ := rfree_ends w1 hl
  rw [rfree_is w1 h1 h2 h3]
  exact ⟨h2, at_in (by omega) k⟩
theorem placeR_ok {n : Int} (ns : List Int) : (∀ w ∈ ns, 1 ≤ w ∧ w ≤ n) → (ns.length : Int) ≤ n → (placeR n ns).Nodup ∧ ∀ b ∈ placeR n ns, 1 ≤ b ∧ b ≤ n := by
  induction ns using snoc_ind with
  | h0 => exact fun _ _ => ⟨List.nodup_nil, fun b hb => nomatch hb⟩
  | h1 l a ih =>
    intro hw hl
    rw [List.length_append, List.length_singleton] at hl
    obtain ⟨i1, i2⟩ := ih (fun w h => hw w (List.mem_append_left _ h)) (by omega)
    obtain ⟨f1, f2⟩ := rfree_free (held := placeR n l) (hw a (by simp)) (by rw [placeR_len]; omega)
    rw [placeR_snoc]
    refine ⟨?_, fun b hb => ?_⟩
    · rw [List.nodup_append]
      refine ⟨i1, by simp, fun x hx y hy => ?_⟩
      obtain rfl : y = _ := by simpa using hy
      exact fun e => f1 (e ▸ hx)
    · rcases List.mem_append.mp hb with hb | hb
      · exact i2 b hb
      · obtain rfl : b = _ := by simpa using hb
        exact f2
/-! turned -/
def tn (n by_ b : Int) : Int := (b - 1 + by_) % n + 1
theorem tn_in {n by_ b : Int} (n1 : 1 ≤ n) : 1 ≤ tn n by_ b ∧ tn n by_ b ≤ n := by
  unfold tn
  have h1 := Int.emod_nonneg (b - 1 + by_) (show n ≠ 0 by omega)
  have h2 := Int.emod_lt_of_pos (b - 1 + by_) (show 0 < n by omega)
  omega
theorem tn_suc (n by_ b : Int) : tn n by_ (suc n b) = suc n (tn n by_ b) := by
  unfold tn suc
  rw [show b % n + 1 - 1 + by_ = b % n + by_ from by omega, Int.emod_add_emod, Int.emod_add_emod]
  congr 2
  omega
theorem mod_inj {n a b : Int} (h : (a - b) % n = 0) (h1 : a - b < n) (h2 : b - a < n) : a = b := by
  have d := Int.dvd_of_emod_eq_zero h
  rcases (by omega : a = b ∨ 0 < a - b ∨ 0 < b - a) with e | e | e
  · exact e
  · have := Int.le_of_dvd e d
    omega
  · have d2 : n ∣ b - a := by
      obtain ⟨c, hc⟩ := d
      exact ⟨-c, by rw [Int.mul_neg]; omega⟩
    have := Int.le_of_dvd e d2
    omega
theorem tn_inj {n by_ a b : Int} (ha : 1 ≤ a ∧ a ≤ n) (hb : 1 ≤ b ∧ b ≤ n) (h : tn n by_ a = tn n by_ b) : a = b := by
  unfold tn at h
  have h1 : (a - 1 + by_) % n = (b - 1 + by_) % n := by omega
  have h2 := Int.emod_eq_emod_iff_emod_sub_eq_zero.mp h1
  rw [show a - 1 + by_ - (b - 1 + by_) = a - b from by omega] at h2
  exact mod_inj h2 (by omega) (by omega)
theorem tn_onto {n by_ y : Int} (hy : 1 ≤ y ∧ y ≤ n) : ∃ b, (1 ≤ b ∧ b ≤ n) ∧ tn n by_ b = y := by
  refine ⟨tn n (-by_) y, tn_in (by omega), ?_⟩
  unfold tn
  rw [show (y - 1 + -by_) % n + 1 - 1 + by_ = (y - 1 + -by_) % n + by_ from by omega, Int.emod_add_emod, show y - 1 + -by_ + by_ = y - 1 from by omega, Int.emod_eq_of_lt (by omega) (by omega)]
  omega
theorem tn_mem {n by_ b : Int} {held : List Int} (hh : ∀ c ∈ held, 1 ≤ c ∧ c ≤ n) (hb : 1 ≤ b ∧ b ≤ n) : tn n by_ b ∈ held.map (tn n by_) ↔ b ∈ held := by
  rw [List.mem_map]
  constructor
  · rintro ⟨c, h1, h2⟩
    rw [← tn_inj (hh c h1) hb h2]
    exact h1
  · exact fun h => ⟨b, h, rfl⟩
theorem rfree_tn {n by_ : Int} {held : List Int} (n1 : 1 ≤ n) (hh : ∀ c ∈ held, 1 ≤ c ∧ c ≤ n) : ∀ (k : Nat) (b : Int), 1 ≤ b ∧ b ≤ n → rfree n (held.map (tn n by_)) k (tn n by_ b) = tn n by_ (rfree n held k b)
  | 0, _, _ => rfl
  | k + 1, b, hb => by
    show (if tn n by_ b ∈ held.map (tn n by_) then rfree n (held.map (tn n by_)) k (suc n (tn n by_ b)) else tn n by_ b) = tn n by_ (if b ∈ held then rfree n held k (suc n b) else b)
    by_cases c : b ∈ held
    · rw [if_pos c, if_pos ((tn_mem hh hb).mpr c), ← tn_suc]
      exact rfree_tn n1 hh k _ (suc_in n1)
    · rw [if_neg c, if_neg fun z => c ((tn_mem hh hb).mp z)]
theorem placeR_tn {n by_ : Int} (n1 : 1 ≤ n) (ns : List Int) : (∀ w ∈ ns, 1 ≤ w ∧ w ≤ n) → (ns.length : Int) ≤ n → placeR n (ns.map (tn n by_)) = (placeR n ns).map (tn n by_) := by
  induction ns using snoc_ind with
  | h0 => exact fun _ _ => rfl
  | h1 l a ih =>
    intro hw hl
    rw [List.length_append, List.length_singleton] at hl
    have hw' : ∀ w ∈ l, 1 ≤ w ∧ w ≤ n := fun w h => hw w (List.mem_append_left _ h)
    have i1 := ih hw' (by omega)
    rw [List.map_append, List.map_cons, List.map_nil, placeR_snoc, placeR_snoc, List.map_append, i1, rfree_tn n1 (placeR_ok l hw' (by omega)).2 _ _ (hw a (by simp))]
    rfl
/-- the berths that are left -/
def leftR (n : Int) (ns : List Int) : List Int := (irange 1 (n + 1)).filter fun b => !decide (b ∈ placeR n ns)
theorem mem_leftR {n b : Int} {ns : List Int} : b ∈ leftR n ns ↔ (1 ≤ b ∧ b ≤ n) ∧ b ∉ placeR n ns := by
  unfold leftR
  rw [List.mem_filter, mem_irange]
  simp
  omega
theorem leftR_sorted (n : Int) (ns : List Int) : (leftR n ns).Pairwise (· < ·) := (irange_sorted _ _).filter _
theorem leftR_len {n : Int} (n2 : n ≤ 400) (ns : List Int) : (leftR n ns).length ≤ 400 := by
  unfold leftR
  refine Nat.le_trans (List.length_filter_le _ _) ?_
  rw [irange_len]
  omega
theorem nodup_map_on {α β : Type} {f : α → β} : ∀ {l : List α}, l.Nodup → (∀ a ∈ l, ∀ b ∈ l, f a = f b → a = b) → (l.map f).Nodup
  | [], _, _ => List.nodup_nil
  | a :: l, h, hf => by
    rw [List.nodup_cons] at h
    rw [List.map_cons, List.nodup_cons]
    refine ⟨fun z => ?_, nodup_map_on h.2 fun x hx y hy => hf x (List.mem_cons_of_mem _ hx) y (List.mem_cons_of_mem _ hy)⟩
    obtain ⟨b, hb, e⟩ := List.mem_map.mp z
    have := hf b (List.mem_cons_of_mem _ hb) a List.mem_cons_self e
    subst this
    exact h.1 hb
theorem leftR_tn {n by_ : Int} {ns : List Int} (n1 : 1 ≤ n) (hw : ∀ w ∈ ns, 1 ≤ w ∧ w ≤ n) (hl : (ns.length : Int) ≤ n) : (leftR n (ns.map (tn n by_))).Perm ((leftR n ns).map (tn n by_)) := by
  have lin : ∀ a ∈ leftR n ns, 1 ≤ a ∧ a ≤ n := fun a ha => (mem_leftR.mp ha).1
  have nd : ∀ ms, (leftR n ms).Nodup := fun ms => (leftR_sorted n ms).imp fun h => Int.ne_of_lt h
  rw [List.perm_ext_iff_of_nodup (nd _) (nodup_map_on (nd _) fun a ha b hb e => tn_inj (lin a ha) (lin b hb) e)]
  intro y
  have pin := (placeR_ok ns hw hl).2
  rw [mem_leftR, placeR_tn n1 ns hw hl]
  constructor
  · rintro ⟨y1, y2⟩
    obtain ⟨b, b1, rfl⟩ := tn_onto (by_ := by_) y1
    exact List.mem_map.mpr ⟨b, mem_leftR.mpr ⟨b1, fun z => y2 ((tn_mem pin b1).mpr z)⟩, rfl⟩
  · intro hy
    obtain ⟨b, hb, rfl⟩ := List.mem_map.mp hy
    obtain ⟨b1, b2⟩ := mem_leftR.mp hb
    exact ⟨tn_in n1, fun z => b2 ((tn_mem pin b1).mp z)⟩
/-- the dict of the ships by their berths -/
def heldR (bs : List Int) : List (Key × V) := bs.mapIdx fun i b => (Sum.inl b, V.int (i : Nat))
theorem heldR_snoc (bs : List Int) (b : Int) : heldR (bs ++ [b]) = heldR bs ++ [(Sum.inl b, V.int (bs.length : Nat))] := by
  unfold heldR
  rw [List.mapIdx_append]
  simp
theorem heldR_keys (bs : List Int) : (heldR bs).map (·.1) = bs.map Sum.inl := by
  induction bs using snoc_ind with
  | h0 => rfl
  | h1 l a ih => rw [heldR_snoc, List.map_append, ih, List.map_append]; rfl
theorem heldR_some (bs : List Int) (b : Int) : (valV (heldR bs) (.inl b)).isSome = decide (b ∈ bs) := by
  rw [← valV_any]
  have : ((heldR bs).any fun kv => decide (kv.1 = Sum.inl b)) = ((heldR bs).map (·.1)).any fun k => decide (k = Sum.inl b) := by
    rw [List.any_map]
    rfl
  rw [this, heldR_keys, List.any_map, Bool.eq_iff_iff, List.any_eq_true, decide_eq_true_eq]
  constructor
  · rintro ⟨x, hx, e⟩
    have := Sum.inl.inj (of_decide_eq_true e)
    rw [← this]
    exact hx
  · exact fun h => ⟨b, h, by simp⟩
theorem heldR_put {bs : List Int} {b : Int} (h : b ∉ bs) : putK (heldR bs) (.inl b) (.int (bs.length : Nat)) = heldR (bs ++ [b]) := by
  rw [heldR_snoc]
  refine putK_new _ ?_
  have := heldR_some bs b
  rw [decide_eq_false h] at this
  cases e : valV (heldR bs) (.inl b) with
  | none => rfl
  | some v => rw [e] at this; cases this
theorem heldR_get : ∀ {bs : List Int} {i : Nat} {b : Int}, bs.Nodup → bs[i]? = some b → valV (heldR bs) (.inl b) = some (.int (i : Nat)) := by
  intro bs
  induction bs using snoc_ind with
  | h0 => intro i b _ h; simp at h
  | h1 l a ih =>
    intro i b nd h
    rw [List.nodup_append] at nd
    obtain ⟨n1, _, n2⟩ := nd
    rw [heldR_snoc]
    have app : ∀ (xs ys : List (Key × V)) (k : Key), valV (xs ++ ys) k = (valV xs k).or (valV ys k) := by
      intro xs ys k
      unfold valV
      rw [List.find?_append]
      cases List.find? (fun kv => decide (kv.1 = k)) xs <;> rfl
    rw [app]
    by_cases c : i < l.length
    · rw [List.getElem?_append_left c] at h
      rw [ih n1 h]
      rfl
    · have h5 := (List.getElem?_eq_some_iff.mp h).1
      rw [List.length_append, List.length_singleton] at h5
      have h6 : i = l.length := by omega
      subst h6
      rw [List.getElem?_append_right (Nat.le_refl _), Nat.sub_self] at h
      cases h
      have : valV (heldR l) (.inl a) = none := by
        have := heldR_some l a
        rw [decide_eq_false fun z => n2 a z a (by simp) rfl] at this
        cases e : valV (heldR l) (.inl a) with
        | none => rfl
        | some v => rw [e] at this; cases this
      rw [this]
      unfold valV
      simp
/-- sorted by their places, the items stand as they stood -/
theorem sort_places {bs ms : List Int} {key : Int → Int} (nd : bs.Nodup) (hk : ∀ (i : Nat) b, bs[i]? = some b → key b = i) (hp : ms.Perm bs) (hs : ms.Pairwise fun a b => key a ≤ key b) : ms = bs := by
  have bsort : bs.Pairwise fun a b => key a ≤ key b := by
    rw [List.pairwise_iff_getElem]
    intro i j hi hj hij
    rw [hk i _ (List.getElem?_eq_getElem hi), hk j _ (List.getElem?_eq_getElem hj)]
    omega
  refine List.Perm.eq_of_pairwise (le := fun a b => key a ≤ key b) (fun a b ha hb h1 h2 => ?_) hs bsort hp
  obtain ⟨i, hi⟩ := List.getElem?_of_mem (hp.mem_iff.mp ha)
  obtain ⟨j, hj⟩ := List.getElem?_of_mem hb
  rw [hk i a hi, hk j b hj] at h1 h2
  have : i = j := by omega
  subst this
  rw [hi] at hj
  exact Option.some.inj hj

/-! ### one ship fewer than berths on a round quay -/
theorem left_len {n : Int} {ns : List Int} (n1 : 1 ≤ n) (hw : ∀ w ∈ ns, 1 ≤ w ∧ w ≤ n) (hl : (ns.length : Int) ≤ n) : ((leftR n ns).length : Int) = n - ns.length := by
  obtain ⟨nd, pin⟩ := placeR_ok ns hw hl
  have ld : (leftR n ns).Nodup := (leftR_sorted n ns).imp fun h => Int.ne_of_lt h
  have hp : (placeR n ns ++ leftR n ns).Perm (irange 1 (n + 1)) := by
    rw [List.perm_ext_iff_of_nodup ?_ (irange_nodup _ _)]
    · intro y
      rw [List.mem_append, mem_leftR, mem_irange]
      constructor
      · rintro (h | h)
        · have := pin y h
          omega
        · omega
      · intro h
        by_cases c : y ∈ placeR n ns
        · exact .inl c
        · exact .inr ⟨by omega, c⟩
    · rw [List.nodup_append]
      exact ⟨nd, ld, fun x hx y hy e => (mem_leftR.mp hy).2 (e ▸ hx)⟩
  have := hp.length_eq
  rw [List.length_append, placeR_len, irange_len] at this
  omega
theorem left_one {n : Int} {ns : List Int} (n1 : 1 ≤ n) (hw : ∀ w ∈ ns, 1 ≤ w ∧ w ≤ n) (hl : (ns.length : Int) = n - 1) : ∃ L, leftR n ns = [L] ∧ 1 ≤ L ∧ L ≤ n := by
  have h := left_len n1 hw (by omega)
  have : (leftR n ns).length = 1 := by omega
  obtain ⟨L, e⟩ := List.length_eq_one_iff.mp this
  have := mem_leftR.mp (show L ∈ leftR n ns by rw [e]; exact List.mem_cons_self)
  exact ⟨L, e, this.1⟩
theorem left_turned {n by_ L : Int} {ns : List Int} (n1 : 1 ≤ n) (hw : ∀ w ∈ ns, 1 ≤ w ∧ w ≤ n) (hl : (ns.length : Int) = n - 1) (h : leftR n ns = [L]) : leftR n (ns.map (tn n by_)) = [tn n by_ L] := by
  have hp := leftR_tn (by_ := by_) n1 hw (show (ns.length : Int) ≤ n by omega)
  rw [h] at hp
  exact List.perm_singleton.mp hp
theorem turn_last {n L t : Int} (L1 : 1 ≤ L ∧ L ≤ n) (t1 : 0 ≤ t ∧ t < n) : tn n t L = n ↔ t = n - L := by
  unfold tn
  constructor
  · intro h
    have h1 : (L - 1 + t) % n = n - 1 := by omega
    by_cases c : L - 1 + t < n
    · rw [Int.emod_eq_of_lt (by omega) c] at h1
      omega
    · have h2 : (L - 1 + t) % n = L - 1 + t - n := by
        rw [show L - 1 + t = L - 1 + t - n + n from by omega, Int.add_emod_right, Int.emod_eq_of_lt (by omega) (by omega)]
        omega
      omega
  · rintro rfl
    rw [show L - 1 + (n - L) = n - 1 from by omega, Int.emod_eq_of_lt (by omega) (by omega)]
    omega
theorem at_plain {n w : Int} {j : Nat} (w1 : 1 ≤ w) (h : w + j ≤ n) : at_ n w j = w + j := by
  unfold at_
  rw [Int.emod_eq_of_lt (by omega) (by omega)]
  omega
theorem firstFree_run {n : Int} {held : List Int} : ∀ (k : Nat) (w : Int), (∀ j : Nat, j < k → w + j ∈ held) → w + k ∉ held → w + k ≤ n → firstFree n held w = some (w + k)
  | 0, w, _, h2, h3 => by
    have : w + ((0 : Nat) : Int) = w := by omega
    rw [this] at h2 h3 ⊢
    exact firstFree_here h3 h2
  | k + 1, w, h1, h2, h3 => by
    have h0 := h1 0 (by omega)
    rw [show w + ((0 : Nat) : Int) = w from by omega] at h0
    rw [firstFree_skip (by omega) h0, firstFree_run k (w + 1) (fun j hj => by
      have := h1 (j + 1) (by omega)
      rw [show w + ((j + 1 : Nat) : Int) = w + 1 + j from by omega] at this
      exact this) (by rw [show w + 1 + (k : Int) = w + ((k + 1 : Nat) : Int) from by omega]; exact h2) (by omega)]
    congr 1
    omega
theorem occ_some (l : List Int) : occ (l.map some) = l := by
  unfold occ
  rw [List.filterMap_map]
  induction l with
  | nil => rfl
  | cons a l ih => simpa using ih
theorem round_to {n : Int} (ns : List Int) : (∀ w ∈ ns, 1 ≤ w ∧ w ≤ n) → (ns.length : Int) ≤ n → n ∉ placeR n ns → n ∉ ns ∧ place (n - 1) ns = (placeR n ns).map some := by
  induction ns using snoc_ind with
  | h0 => exact fun _ _ _ => ⟨by simp, rfl⟩
  | h1 l w ih =>
    intro hw hl hn
    rw [List.length_append, List.length_singleton] at hl
    rw [placeR_snoc, List.mem_append, not_or] at hn
    obtain ⟨i1, i2⟩ := ih (fun v h => hw v (List.mem_append_left _ h)) (by omega) hn.1
    have w1 := hw w (by simp)
    obtain ⟨k, k1, k2, k3⟩ := rfree_ends (held := placeR n l) w1 (by rw [placeR_len]; omega)
    have hb : rfree n (placeR n l) n.toNat w ≠ n := fun e => hn.2 (by rw [e]; simp)
    rw [rfree_is w1 k1 k2 k3] at hb
    have lt : w + k < n := by
      refine Classical.byContradiction fun c => ?_
      have e : at_ n w (n - w).toNat = n := by
        rw [at_plain w1.1 (by omega)]
        omega
      by_cases c2 : (n - w).toNat = k
      · rw [c2] at e
        exact hb e
      · have := k3 (n - w).toNat (by omega)
        rw [e] at this
        exact hn.1 this
    have hat : ∀ j : Nat, j ≤ k → at_ n w j = w + j := fun j hj => at_plain w1.1 (by omega)
    refine ⟨fun z => ?_, ?_⟩
    · rcases List.mem_append.mp z with z | z
      · exact i1 z
      · have : n = w := by simpa using z
        omega
    · rw [place_snoc, placeR_snoc, rfree_is w1 k1 k2 k3, hat k (Nat.le_refl _), List.map_append]
      unfold placeStep
      rw [i2, occ_some]
      have : firstFree (n - 1) (placeR n l) w = some (w + k) := firstFree_run k w (fun j hj => by rw [← hat j (by omega)]; exact k3 j hj) (by rw [← hat k (Nat.le_refl _)]; exact k2) (by omega)
      rw [this]
      rfl
theorem round_of {n : Int} (ns : List Int) : (∀ w ∈ ns, 1 ≤ w ∧ w ≤ n) → (ns.length : Int) ≤ n → (∀ o ∈ place (n - 1) ns, o ≠ none) → place (n - 1) ns = (placeR n ns).map some := by
  induction ns using snoc_ind with
  | h0 => exact fun _ _ _ => rfl
  | h1 l w ih =>
    intro hw hl hp
    rw [List.length_append, List.length_singleton] at hl
    rw [place_snoc] at hp
    unfold placeStep at hp
    have i2 := ih (fun v h => hw v (List.mem_append_left _ h)) (by omega) fun o ho => hp o (List.mem_append_left _ ho)
    have w1 := hw w (by simp)
    rw [i2, occ_some] at hp
    have hq := hp (firstFree (n - 1) (placeR n l) w) (by simp)
    cases e : firstFree (n - 1) (placeR n l) w with
    | none => exact absurd e hq
    | some b =>
      obtain ⟨b1, b2, b3⟩ := firstFree_some e
      have gap := firstFree_gap _ rfl e
      have hat : ∀ j : Nat, j ≤ (b - w).toNat → at_ n w j = w + j := fun j hj => at_plain w1.1 (by omega)
      have r := rfree_is (held := placeR n l) (k := (b - w).toNat) w1 (by omega) (by rw [hat _ (Nat.le_refl _), show w + ((b - w).toNat : Int) = b from by omega]; exact b3) fun j hj => by
        rw [hat j (by omega)]
        exact gap _ (by omega) (by omega)
      rw [place_snoc, placeR_snoc, r, hat _ (Nat.le_refl _), List.map_append]
      unfold placeStep
      rw [i2, occ_some, e]
      rw [show w + ((b - w).toNat : Int) = b from by omega]
      rfl
theorem round_good {n L : Int} {ns : List Int} (n1 : 2 ≤ n) (hw : ∀ w ∈ ns, 1 ≤ w ∧ w ≤ n) (hl : (ns.length : Int) = n - 1) (h : leftR n ns = [L]) : L = n ↔ n ∉ ns ∧ Good (n - 1) ns := by
  have ml : ∀ y, y ∈ leftR n ns ↔ y = L := fun y => by rw [h]; simp
  constructor
  · rintro rfl
    have hn : L ∉ placeR L ns := (mem_leftR.mp ((ml L).mpr rfl)).2
    obtain ⟨h1, h2⟩ := round_to ns hw (by omega) hn
    refine ⟨h1, good_of_lie (fun w hw' => ⟨(hw w hw').1, ?_⟩) fun o ho => ?_⟩
    · have := (hw w hw').2
      have : w ≠ L := fun e => h1 (e ▸ hw')
      omega
    · rw [h2] at ho
      obtain ⟨x, _, rfl⟩ := List.mem_map.mp ho
      exact fun z => nomatch z
  · rintro ⟨h1, g⟩
    have hw' : ∀ w ∈ ns, 1 ≤ w ∧ w ≤ n - 1 := fun w hm => by
      have := hw w hm
      have : w ≠ n := fun e => h1 (e ▸ hm)
      omega
    have e := round_of ns hw (by omega) (lie_of_good hw' g)
    have hn : n ∉ placeR n ns := fun z => by
      have hp : n ∈ occ (place (n - 1) ns) := by rw [e, occ_some]; exact z
      have := occ_place (fun w hm => (hw' w hm).1) n hp
      omega
    exact ((ml n).mp (mem_leftR.mpr ⟨⟨by omega, Int.le_refl _⟩, hn⟩)).symm

/-! ### who lies where: the plain law -/
/-- how low a ship may wish that shall lie at place i: places from 0 -/
def lowAt (p : List Int) (s : Int) : Nat → Nat
  | 0 => 0
  | k + 1 => if p.getD k 0 < s then lowAt p s k else k + 1
theorem lowAt_le (p : List Int) (s : Int) : ∀ k, lowAt p s k ≤ k
  | 0 => Nat.le_refl _
  | k + 1 => by
    unfold lowAt
    split
    · have := lowAt_le p s k
      omega
    · omega
theorem lowAt_in (p : List Int) (s : Int) : ∀ k j, lowAt p s k ≤ j → j < k → p.getD j 0 < s
  | 0, j, _, h => by omega
  | k + 1, j, h1, h2 => by
    unfold lowAt at h1
    split at h1
    · next c =>
      by_cases e : j = k
      · rw [e]
        exact c
      · exact lowAt_in p s k j h1 (by omega)
    · omega
theorem lowAt_stop (p : List Int) (s : Int) : ∀ k, lowAt p s k = 0 ∨ ¬ p.getD (lowAt p s k - 1) 0 < s
  | 0 => .inl rfl
  | k + 1 => by
    unfold lowAt
    split
    · exact lowAt_stop p s k
    · next c =>
      right
      simpa using c
def lowOf (p : List Int) (s : Int) : Int := ((lowAt p s (p.idxOf s) : Nat) : Int) + 1
def highOf (p : List Int) (s : Int) : Int := ((p.idxOf s : Nat) : Int) + 1
def Ord (p : List Int) : Prop := p.Perm (irange 0 p.length)
theorem ord_mem {p : List Int} (h : Ord p) {s : Int} : s ∈ p ↔ 0 ≤ s ∧ s < (p.length : Int) := by
  rw [h.mem_iff, mem_irange]
theorem ord_nodup {p : List Int} (h : Ord p) : p.Nodup := h.nodup_iff.mpr (irange_nodup _ _)
theorem idx_at {p : List Int} {s : Int} (h : s ∈ p) : p[p.idxOf s]? = some s := by
  have hl := List.idxOf_lt_length_of_mem h
  rw [List.getElem?_eq_getElem hl, List.getElem_idxOf hl]
theorem idx_lt {p : List Int} {s : Int} (h : s ∈ p) : p.idxOf s < p.length := List.idxOf_lt_length_of_mem h
theorem at_idx {p : List Int} (hn : p.Nodup) {i : Nat} {s : Int} (h : p[i]? = some s) : p.idxOf s = i := by
  obtain ⟨hi, e⟩ := List.getElem?_eq_some_iff.mp h
  have hm : s ∈ p := List.mem_of_getElem? h
  have h2 := idx_at hm
  have hl := idx_lt hm
  have pw := List.pairwise_iff_getElem.mp hn
  have e2 : p[p.idxOf s] = s := List.getElem_idxOf hl
  rcases Nat.lt_trichotomy (p.idxOf s) i with c | c | c
  · exact absurd (e2.trans e.symm) (pw _ _ hl hi c)
  · exact c
  · exact absurd (e.trans e2.symm) (pw _ _ hi hl c)
theorem getD_of {p : List Int} {i : Nat} {s : Int} (h : p[i]? = some s) : p.getD i 0 = s := by
  rw [List.getD_eq_getElem?_getD, h]
  rfl
theorem highs_at {p : List Int} (k : Nat) (y : Int) : y ∈ (irange 0 k).map (highOf p) ↔ ∃ t, 0 ≤ t ∧ t < (k : Int) ∧ highOf p t = y := by
  rw [List.mem_map]
  constructor
  · rintro ⟨t, ht, e⟩
    rw [mem_irange] at ht
    exact ⟨t, ht.1, ht.2, e⟩
  · rintro ⟨t, h0, h1, e⟩
    exact ⟨t, mem_irange.mpr ⟨h0, h1⟩, e⟩
theorem irange_snoc (k : Nat) : irange 0 ((k + 1 : Nat) : Int) = irange 0 (k : Nat) ++ [(k : Int)] := by
  unfold irange
  rw [show (((k + 1 : Nat) : Int) - 0).toNat = k + 1 from by omega, show (((k : Nat) : Int) - 0).toNat = k from by omega, List.range_succ, List.map_append]
  simp
theorem high_inj {p : List Int} {s t : Int} (hs : s ∈ p) (ht : t ∈ p) (h : highOf p s = highOf p t) : s = t := by
  have e : p.idxOf s = p.idxOf t := by unfold highOf at h; omega
  have h1 := idx_at hs
  rw [e, idx_at ht] at h1
  exact (Option.some.inj h1).symm
theorem high_le {p : List Int} {s : Int} (h : s ∈ p) : 1 ≤ highOf p s ∧ highOf p s ≤ (p.length : Int) := by
  have := idx_lt h
  unfold highOf
  omega
theorem low_le (p : List Int) (s : Int) : 1 ≤ lowOf p s ∧ lowOf p s ≤ highOf p s := by
  have := lowAt_le p s (p.idxOf s)
  unfold lowOf highOf
  omega
/-- wishes from the least to the greatest lead to the order -/
theorem place_order {p ws : List Int} (hp : Ord p) (wl : ws.length = p.length) (h : ∀ (s : Nat) w, ws[s]? = some w → lowOf p s ≤ w ∧ w ≤ highOf p s) :
    ∀ k : Nat, k ≤ p.length → place p.length (ws.take k) = (irange 0 k).map fun s => some (highOf p s)
  | 0, _ => rfl
  | k + 1, hk => by
    obtain ⟨w, hw⟩ : ∃ w, ws[k]? = some w := ⟨_, List.getElem?_eq_getElem (by omega)⟩
    obtain ⟨w1, w2⟩ := h k w hw
    have sm : (k : Int) ∈ p := (ord_mem hp).mpr (by omega)
    obtain ⟨b1, b2⟩ := high_le sm
    rw [take_snoc hw, place_snoc, place_order hp wl h k (by omega), irange_snoc, List.map_append]
    unfold placeStep
    congr 1
    have eo : occ ((irange 0 (k : Nat)).map fun s => some (highOf p s)) = (irange 0 (k : Nat)).map (highOf p) := by
      rw [← occ_some ((irange 0 (k : Nat)).map (highOf p)), List.map_map]
      rfl
    rw [eo]
    have run := firstFree_run (n := (p.length : Int)) (held := (irange 0 (k : Nat)).map (highOf p)) (highOf p k - w).toNat w (fun j hj => ?_) ?_ (by omega)
    · rw [run, show w + (((highOf p k - w).toNat : Nat) : Int) = highOf p k from by omega]
      rfl
    · rw [highs_at]
      obtain ⟨y, hy⟩ : ∃ y : Nat, w + (j : Int) = (y : Int) + 1 := ⟨(w + j - 1).toNat, by have := (low_le p k).1; omega⟩
      have y1 : lowAt p k (p.idxOf (k : Int)) ≤ y := by unfold lowOf at w1; omega
      have y2 : y < p.idxOf (k : Int) := by unfold highOf at hj; omega
      have yl : y < p.length := by have := idx_lt sm; omega
      obtain ⟨t, ht⟩ : ∃ t, p[y]? = some t := ⟨_, List.getElem?_eq_getElem yl⟩
      have lt := lowAt_in p k _ y y1 y2
      rw [getD_of ht] at lt
      have tm := (ord_mem hp).mp (List.mem_of_getElem? ht)
      refine ⟨t, tm.1, lt, ?_⟩
      unfold highOf
      rw [at_idx (ord_nodup hp) ht]
      omega
    · rw [show w + (((highOf p k - w).toNat : Nat) : Int) = highOf p k from by omega, highs_at]
      rintro ⟨t, t0, t1, e⟩
      have := high_inj ((ord_mem hp).mpr ⟨t0, by omega⟩) sm e
      omega
theorem place_order_all {p ws : List Int} (hp : Ord p) (wl : ws.length = p.length) (h : ∀ (s : Nat) w, ws[s]? = some w → lowOf p s ≤ w ∧ w ≤ highOf p s) :
    place p.length ws = (irange 0 p.length).map fun s => some (highOf p s) := by
  have := place_order hp wl h p.length (Nat.le_refl _)
  rwa [List.take_of_length_le (by omega)] at this
theorem place_take (n : Int) (ws : List Int) : ∀ k : Nat, k ≤ ws.length → place n (ws.take k) = (place n ws).take k := by
  intro k hk
  have h : ∀ vs : List Int, (place n (ws.take k ++ vs)).take k = place n (ws.take k) := fun vs => by
    refine snoc_ind (P := fun vs => (place n (ws.take k ++ vs)).take k = place n (ws.take k)) ?_ (fun vs v ih => ?_) vs
    · rw [List.append_nil, List.take_of_length_le]
      rw [place_length, List.length_take]
      omega
    · rw [← List.append_assoc, place_snoc]
      unfold placeStep
      rw [List.take_append_of_le_length, ih]
      rw [place_length, List.length_append, List.length_take]
      omega
  have := h (ws.drop k)
  rw [List.take_append_drop] at this
  exact this.symm
/-- and none but these -/
theorem order_wishes {p ws : List Int} (hp : Ord p) (wl : ws.length = p.length) (hw : ∀ w ∈ ws, 1 ≤ w) (h : place p.length ws = (irange 0 p.length).map fun s => some (highOf p s)) (k : Nat) (w : Int) (e : ws[k]? = some w) : lowOf p k ≤ w ∧ w ≤ highOf p k := by
  have hk : k < ws.length := (List.getElem?_eq_some_iff.mp e).1
  have t1 := place_take p.length ws k (by omega)
  have t2 := place_take p.length ws (k + 1) (by omega)
  rw [take_snoc e, place_snoc, t1, h] at t2
  have pre : ((irange 0 p.length).map fun s => some (highOf p s)).take k = (irange 0 (k : Nat)).map fun s => some (highOf p s) := by
    rw [← List.map_take]
    unfold irange
    rw [← List.map_take, List.take_range]
    rw [show min k ((p.length : Int) - 0).toNat = ((k : Int) - 0).toNat from by omega]
  have pre1 : ((irange 0 p.length).map fun s => some (highOf p s)).take (k + 1) = (irange 0 ((k + 1 : Nat) : Int)).map fun s => some (highOf p s) := by
    rw [← List.map_take]
    unfold irange
    rw [← List.map_take, List.take_range]
    rw [show min (k + 1) ((p.length : Int) - 0).toNat = (((k + 1 : Nat) : Int) - 0).toNat from by omega]
  rw [pre, pre1, irange_snoc, List.map_append] at t2
  unfold placeStep at t2
  have t3 := List.append_cancel_left t2
  have t4 : firstFree (p.length : Int) (occ ((irange 0 (k : Nat)).map fun s => some (highOf p s))) w = some (highOf p k) := by
    have := List.cons.inj t3
    exact this.1
  have eo : occ ((irange 0 (k : Nat)).map fun s => some (highOf p s)) = (irange 0 (k : Nat)).map (highOf p) := by
    rw [← occ_some ((irange 0 (k : Nat)).map (highOf p)), List.map_map]
    rfl
  rw [eo] at t4
  obtain ⟨s1, _, _⟩ := firstFree_some t4
  refine ⟨?_, s1⟩
  have sm : (k : Int) ∈ p := (ord_mem hp).mpr (by omega)
  rcases lowAt_stop p k (p.idxOf (k : Int)) with z | z
  · have := hw w (List.mem_of_getElem? e)
    unfold lowOf
    rw [z]
    omega
  · refine Classical.byContradiction fun c => ?_
    have w1 := hw w (List.mem_of_getElem? e)
    have le := lowAt_le p k (p.idxOf (k : Int))
    have lz : lowAt p k (p.idxOf (k : Int)) ≠ 0 := fun z0 => c (by unfold lowOf; rw [z0]; omega)
    have g := firstFree_gap _ rfl t4 ((lowAt p k (p.idxOf (k : Int)) : Nat) : Int) (by unfold lowOf at c; omega) (by unfold highOf; omega)
    obtain ⟨t, t0, t1, et⟩ := (highs_at k _).mp g
    have tm : t ∈ p := (ord_mem hp).mpr ⟨t0, by omega⟩
    have ei : p.idxOf t = lowAt p k (p.idxOf (k : Int)) - 1 := by unfold highOf at et; omega
    have := idx_at tm
    rw [ei] at this
    rw [getD_of this] at z
    omega
theorem perm_all {l m : List Int} (hl : l.Nodup) (hm : m.Nodup) (e : l.length = m.length) (h : ∀ x ∈ l, x ∈ m) : l.Perm m := by
  refine (List.perm_ext_iff_of_nodup hl hm).mpr fun x => ⟨h x, fun hx => ?_⟩
  refine Classical.byContradiction fun c => ?_
  have := nodup_le (l := x :: l) (m := m) (List.nodup_cons.mpr ⟨c, hl⟩) fun y hy => by
    rcases List.mem_cons.mp hy with rfl | hy
    · exact hx
    · exact h y hy
  rw [List.length_cons] at this
  omega
/-- the ships by their berths -/
def berthOf (n : Int) (ws : List Int) (s : Int) : Int := ((place n ws).getD s.toNat none).getD 0
theorem lies_order {p ws ms : List Int} (hp : Ord p) (h : place p.length ws = (irange 0 p.length).map fun s => some (highOf p s)) (hm : ms.Perm (irange 0 p.length)) (hs : ms.Pairwise fun a b => berthOf p.length ws a ≤ berthOf p.length ws b) : ms = p := by
  have hb : ∀ s : Int, 0 ≤ s → s < (p.length : Int) → berthOf p.length ws s = highOf p s := fun s s0 s1 => by
    unfold berthOf
    rw [h, List.getD_eq_getElem?_getD, List.getElem?_map]
    unfold irange
    rw [List.getElem?_map, List.getElem?_range (by omega)]
    simp only [Option.map_some, Option.getD_some]
    congr 1
    omega
  refine sort_places (key := fun s => berthOf p.length ws s - 1) (ord_nodup hp) (fun i b hi => ?_) (hm.trans hp.symm) (hs.imp fun h => by omega)
  have bm := (ord_mem hp).mp (List.mem_of_getElem? hi)
  rw [hb b bm.1 bm.2]
  unfold highOf
  rw [at_idx (ord_nodup hp) hi]
  omega
theorem order_lies {p ws : List Int} (hp : Ord p) (wl : ws.length = p.length) (hw : ∀ w ∈ ws, 1 ≤ w ∧ w ≤ (p.length : Int)) (g : ∀ o ∈ place p.length ws, o ≠ none) (hs : p.Pairwise fun a b => berthOf p.length ws a ≤ berthOf p.length ws b) : place p.length ws = (irange 0 p.length).map fun s => some (highOf p s) := by
  -- the berths are all of them
  have pl := place_length p.length ws
  have all : ∃ bs : List Int, place p.length ws = bs.map some := by
    clear hs pl
    generalize place p.length ws = st at g
    induction st with
    | nil => exact ⟨[], rfl⟩
    | cons o st ih =>
      obtain ⟨bs, e⟩ := ih fun o ho => g o (List.mem_cons_of_mem _ ho)
      cases o with
      | none => exact absurd rfl (g none List.mem_cons_self)
      | some b => exact ⟨b :: bs, by rw [e]; rfl⟩
  obtain ⟨bs, eb⟩ := all
  have bl : bs.length = p.length := by rw [eb, List.length_map] at pl; omega
  have nd : bs.Nodup := by
    have := occ_nodup p.length ws
    rwa [eb, occ_some] at this
  have inr : ∀ b ∈ bs, 1 ≤ b ∧ b ≤ (p.length : Int) := fun b hb => by
    refine occ_place (n := p.length) (fun w h => (hw w h).1) b ?_
    rw [eb, occ_some]
    exact hb
  have key : ∀ s ∈ p, ∃ b, bs[s.toNat]? = some b ∧ berthOf p.length ws s = b := fun s hs => by
    have sm := (ord_mem hp).mp hs
    refine ⟨_, List.getElem?_eq_getElem (by omega : s.toNat < bs.length), ?_⟩
    unfold berthOf
    rw [eb, List.getD_eq_getElem?_getD, List.getElem?_map, List.getElem?_eq_getElem (by omega : s.toNat < bs.length)]
    rfl
  have pm : (p.map (berthOf p.length ws)).Perm (irange 1 (p.length + 1)) := by
    have e : (irange 0 p.length).map (berthOf p.length ws) = bs := by
      refine List.ext_getElem? fun i => ?_
      unfold irange
      rw [List.map_map, List.getElem?_map]
      by_cases hi : i < p.length
      · rw [List.getElem?_range (by omega)]
        obtain ⟨b, h1, h2⟩ := key (i : Nat) ((ord_mem hp).mpr (by omega))
        have h1 : bs[i]? = some b := h1
        rw [h1]
        show some (berthOf p.length ws (0 + (i : Nat))) = some b
        rw [Int.zero_add, h2]
      · rw [List.getElem?_eq_none (by rw [List.length_range]; omega), List.getElem?_eq_none (by omega)]
        rfl
    refine (hp.map _).trans ?_
    rw [e]
    refine perm_all nd (irange_nodup _ _) (by rw [bl, irange_len]; omega) fun b hb => ?_
    have := inr b hb
    exact mem_irange.mpr (by omega)
  have e2 : p.map (berthOf p.length ws) = irange 1 (p.length + 1) := PySem.W.ksm_same pm (List.pairwise_map.mpr hs) ((irange_sorted _ _).imp fun h => Int.le_of_lt h)
  have hb : ∀ s ∈ p, berthOf p.length ws s = highOf p s := fun s hs => by
    have h1 := idx_at hs
    have h2 := congrArg (fun l : List Int => l[p.idxOf s]?) e2
    have h2 : (p.map (berthOf p.length ws))[p.idxOf s]? = (irange 1 (p.length + 1))[p.idxOf s]? := h2
    rw [List.getElem?_map, h1] at h2
    unfold irange at h2
    rw [List.getElem?_map, List.getElem?_range (by have := idx_lt hs; omega)] at h2
    have h2 : berthOf p.length ws s = 1 + ((p.idxOf s : Nat) : Int) := Option.some.inj h2
    rw [h2]
    unfold highOf
    omega
  rw [eb]
  refine List.ext_getElem? fun i => ?_
  unfold irange
  rw [List.map_map, List.getElem?_map, List.getElem?_map]
  by_cases hi : i < p.length
  · rw [List.getElem?_range (by omega)]
    have im : ((i : Nat) : Int) ∈ p := (ord_mem hp).mpr (by omega)
    obtain ⟨b, h1, h2⟩ := key (i : Nat) im
    have h1 : bs[i]? = some b := h1
    rw [h1]
    show some (some b) = some (some (highOf p (0 + (i : Nat))))
    rw [Int.zero_add, ← hb _ im, h2]
  · rw [List.getElem?_eq_none (show bs.length ≤ i by omega), List.getElem?_eq_none (show (List.range ((p.length : Int) - 0).toNat).length ≤ i by rw [List.length_range]; omega)]
    rfl

/-! ### full rows, orders: the program -/
open LamX (Tabs TabB ExtN)
/-- the table of lies' code object -/
def TT (Pt : Addr) : List (Addr × Str) := [(Pt, Str.ofString "lies" ++ ".<locals>." ++ "<lambda>")]
/-- something that is no full row -/
def NotFull (K : PySem.W.Frag) (H : Hp) (x : V) : Prop := (∃ s, Kind K H x s ∧ s ≠ .lst ∧ s ≠ .tup) ∨ ∃ a xs, x = .ref a ∧ Sq K H a xs ∧ (xs.length = 0 ∨ 400 < xs.length ∨ (1 ≤ xs.length ∧ xs.length ≤ 400 ∧
  (((∀ y ∈ xs, ∃ s, Kind K H y s) ∧ ∃ y ∈ xs, inB y 1 (xs.length : Nat) = false) ∨ ∃ ns : List Int, xs = ns.map V.int ∧ (∀ w ∈ ns, 1 ≤ w ∧ w ≤ (ns.length : Nat)) ∧ ¬ Good (ns.length : Nat) ns)))
/-- x is the full row ns -/
def FullRow (K : PySem.W.Frag) (H : Hp) (x : V) (ns : List Int) : Prop := ∃ a, x = .ref a ∧ Sq K H a (ns.map V.int) ∧ 1 ≤ ns.length ∧ ns.length ≤ 400 ∧ (∀ w ∈ ns, 1 ≤ w ∧ w ≤ (ns.length : Nat)) ∧ Good (ns.length : Nat) ns
def AskedF (K : PySem.W.Frag) (mg : Str → Option Value) (H : Hp) (E : XK) (x : V) (due : List Int → Prop) : Prop := (NotFull K H x ∧ Bad mg "NoWishes" H E) ∨ ∃ ns, FullRow K H x ns ∧ due ns
def sp_need_full (K : PySem.W.Frag) (mg : Str → Option Value) : Sp := fun vs H Q E => ∃ x, vs = [x] ∧ AskedF K mg H E x fun _ => ∀ H', Ex H H' → Q .non H'
theorem has_need_full {P : Program} {w : World} {K : PySem.W.Frag} {mg : Str → Option Value} {base : Heap}  (S : B.Stands K mg "need_full" s_need_full) (N : Nms K mg) (h_is_good : B.Has P w K mg base "is_good" 5 ["berths", "wishes"] (sp_is_good K mg)) : B.Has P w K mg base "need_full" 6 ["wishes"] (sp_need_full K mg) := by
  refine B.has_of S sc_need_full (fun _ _ _ _ _ _ us hl => match us, hl with | [_], _ => rfl) (fun vs H Q E h => ?_)
    (fun f cdv A outer s H vs Q E hr h => ⟨_, (pss_one (ps_if (PW.pt (pw_or (pt_not (pt_val (pe_callB (r := rIsiT K) call_isiT (by rfl) N.n_isinstance B.boot_isinstance (pa_cons (pv 0) (pa_cons (pe_tup (pa_cons (pe_bltn (v := .ty "list") (by rfl) N.n_list B.boot_list rfl) (pa_cons (pe_bltn (v := .ty "tuple") (by rfl) N.n_tuple B.boot_tuple rfl) pa_nil))) pa_nil))))) (pw_or (pt_not (pt_chain op_le op_le pe_int (pe_callB (r := B.rLen K) B.call_len (by rfl) N.n_len PySem.boot_len (pa_cons (pv 0) pa_nil)) (B.pe_const N.c_MOST))) (pw_or1 (pt_not (pt_val (B.pe_has h_is_good hr (B.passU (takes_of rfl rfl rfl rfl)) (pa_cons (pe_callB (r := B.rLen K) B.call_len (by rfl) N.n_len PySem.boot_len (pa_cons (pv 0) pa_nil)) (pa_cons (pv 0) pa_nil))))))))) (pss_one (ps_raise rfl (takes_of rfl rfl rfl rfl) (B.pmk N.x_NoWishes))) pss_nil)), ?_⟩)
  · obtain ⟨x, rfl, _⟩ := h
    rfl
  · obtain ⟨x, rfl, h⟩ := h
    walk_at "go"
    refine x_mkT (by simp) fun p H1 hp e1 h1 => ?_
    have main : ∃ s, Kind K H x s ∧ ((¬ (s = .lst ∨ s = .tup) ∧ Bad mg "NoWishes" H E) ∨ ((s = .lst ∨ s = .tup) ∧ ∃ a xs, x = .ref a ∧ Sq K H a xs ∧ (((xs.length = 0 ∨ 400 < xs.length) ∧ Bad mg "NoWishes" H E) ∨
        (1 ≤ xs.length ∧ xs.length ≤ 400 ∧ ((NoW K H x (xs.length : Nat) ∧ Bad mg "NoWishes" H E) ∨ ∃ ns, xs = ns.map V.int ∧ Wishes K H x (ns.length : Nat) ns ∧ ((¬ Good (ns.length : Nat) ns ∧ Bad mg "NoWishes" H E) ∨ (Good (ns.length : Nat) ns ∧ ∀ H', Ex H H' → Q .non H'))))))) := by
      rcases h with ⟨h, bad⟩ | ⟨ns, ⟨a, rfl, q, l1, l2, hw, g⟩, due⟩
      · rcases h with ⟨s, h1, h2, h3⟩ | ⟨a, xs, rfl, q, h3⟩
        · exact ⟨s, h1, .inl ⟨fun z => z.elim h2 h3, bad⟩⟩
        · obtain ⟨s, k, hs⟩ := sq_kind q
          refine ⟨s, k, .inr ⟨hs, a, xs, rfl, q, ?_⟩⟩
          rcases h3 with h3 | h3 | ⟨l1, l2, h3⟩
          · exact .inl ⟨.inl h3, bad⟩
          · exact .inl ⟨.inr h3, bad⟩
          · refine .inr ⟨l1, l2, ?_⟩
            rcases h3 with ⟨h4, h5⟩ | ⟨ns, rfl, hw, ng⟩
            · exact .inl ⟨.inr ⟨a, xs, rfl, q, .inr ⟨l2, h4, h5⟩⟩, bad⟩
            · rw [List.length_map] at l2
              exact .inr ⟨ns, rfl, ⟨a, rfl, q, l2, hw⟩, .inl ⟨ng, bad⟩⟩
      · obtain ⟨s, k, hs⟩ := sq_kind q
        exact ⟨s, k, .inr ⟨hs, a, _, rfl, q, .inr ⟨by rw [List.length_map]; exact l1, by rw [List.length_map]; exact l2, .inr ⟨ns, rfl, ⟨a, rfl, q, l2, hw⟩, .inr ⟨g, due⟩⟩⟩⟩⟩
    obtain ⟨s, k, h⟩ := main
    walk_at "go"
    refine x_isiLT (k.ex e1) h1 ?_
    walk_at "go"
    refine x_bN (fun e => ?_) (fun e => ?_)
    · walk_at "go"
      rcases h with ⟨_, bad⟩ | ⟨hs, _⟩
      · exact fun C m => bad C H1 m e1
      · rw [is_lt.mpr hs] at e
        cases e
    rcases h with ⟨hs, _⟩ | ⟨_, a, xs, rfl, hq, h⟩
    · exact absurd (is_lt.mp e) hs
    walk_at "go"
    have bads : (xs.length = 0 ∨ 400 < xs.length) → Bad mg "NoWishes" H E := fun z => by
      rcases h with ⟨_, bad⟩ | ⟨l1, l2, _⟩
      · exact bad
      · omega
    refine x_dec (fun c => ?_) (fun c => ?_)
    · walk_at "go"
      refine x_decN (fun c2 => ?_) (fun c2 => ?_)
      · walk_at "go"
        exact fun C m => bads (.inr (by omega)) C H1 m e1
      · walk_at "go"
        rcases h with ⟨z, _⟩ | ⟨l1, l2, h⟩
        · omega
        refine ⟨.int (xs.length : Nat), .ref a, rfl, .inr ⟨_, rfl, by omega, by omega, ?_⟩⟩
        rcases h with ⟨nw, bad⟩ | ⟨ns, rfl, hw, h⟩
        · exact .inl ⟨nw.ex e1, bad.ex e1⟩
        · rw [List.length_map]
          refine .inr ⟨ns, hw.ex e1, fun g H2 hg e2 => ?_⟩
          walk_at "go"
          refine x_bN (fun e => ?_) (fun e => ?_)
          · walk_at "go"
            rcases h with ⟨_, bad⟩ | ⟨g', _⟩
            · exact fun C m => bad C H2 m (e1.trans e2)
            · rw [hg.mpr g'] at e
              cases e
          · walk_at "go"
            rcases h with ⟨ng, _⟩ | ⟨_, due⟩
            · exact absurd (hg.mp e) ng
            · exact due H2 (e1.trans e2)
    · walk_at "go"
      exact fun C m => bads (.inl (by omega)) C H1 m e1
def sp_lies (K : PySem.W.Frag) (mg : Str → Option Value) (Pt : Addr) : Sp := fun vs H Q E => ∃ x, vs = [x] ∧ AskedF K mg H E x fun ns => Tabs (TT Pt) H ∧
  ∀ (p : Addr) (H' : Hp) (ms : List Int), ms.Perm (irange 0 (ns.length : Nat)) → ms.Pairwise (fun a b => berthOf (ns.length : Nat) ns a ≤ berthOf (ns.length : Nat) ns b) → ExtN H H' → Tabs (TT Pt) H' → SqT K H' p (ms.map V.int) → Q (.ref p) H'
theorem has_lies {P : Program} {w : World} {K : PySem.W.Frag} {mg : Str → Option Value} {base : Heap} {Pt : Addr} {cc : Addr} (S : B.StandsC K mg "lies" s_lies cc) (TB : LamX.TabB base mg cc Pt) (N : Nms K mg) (h_need_full : B.Has P w K mg base "need_full" 6 ["wishes"] (sp_need_full K mg)) (h_placed : B.Has P w K mg base "placed" 4 ["berths", "wishes"] (sp_placed K mg)) : B.Has P w K mg base "lies" 7 ["wishes"] (sp_lies K mg Pt) := by
  refine B.has_ofC S sc_lies (fun _ _ _ _ _ _ us hl => match us, hl with | [_], _ => rfl) (fun vs H Q E h => ?_)
    (fun f A outer s H vs Q E hr h => ⟨_, (pss_cons (ps_expr (B.pe_has h_need_full hr (B.passU (takes_of rfl rfl rfl rfl)) (pa_cons (pv 0) pa_nil)))
    (pss_cons (ps_set (i := 1) sc_lies.nd rfl (by first | exact Or.inl rfl | exact Or.inr rfl) (B.pe_has h_placed hr (B.passU (takes_of rfl rfl rfl rfl)) (pa_cons (pe_callB (r := B.rLen K) B.call_len (by rfl) N.n_len PySem.boot_len (pa_cons (pv 0) pa_nil)) (pa_cons (pv 0) pa_nil))))
    (pss_one (ps_ret (pe_callTy (r := B.rTupOf K) B.call_tupOf (by rfl) N.n_tuple B.boot_tuple (pa_cons (B.pe_sortLam (T := TT Pt) (j := 1) rfl hr (by rfl) N.n_sorted (pe_callTy (r := B.rRng1) B.call_rng1 (by rfl) N.n_range PyProof.Rows.boot_range (pa_cons (pe_callB (r := B.rLen K) B.call_len (by rfl) N.n_len PySem.boot_len (pa_cons (pv 1) pa_nil)) pa_nil)) rfl rfl TB rfl (List.mem_singleton.mpr rfl) (fun p hp _ => by rw [List.mem_singleton.mp hp]; rfl) rfl (fun _ _ _ _ _ _ => rfl) rfl rfl rfl (by first | exact Or.inl rfl | exact Or.inr rfl) (by decide) (by decide) (by decide) (by decide)) pa_nil)))))), ?_⟩)
  · obtain ⟨x, rfl, _⟩ := h
    rfl
  · obtain ⟨x, rfl, h⟩ := h
    walk_at "go"
    refine ⟨x, rfl, ?_⟩
    rcases h with h | ⟨ns, fr, tb, q⟩
    · exact .inl h
    refine .inr ⟨ns, fr, fun H1 e1 => ?_⟩
    obtain ⟨a, rfl, hq, l1, l2, hw, g⟩ := fr
    walk_at "go"
    rw [List.length_map]
    refine ⟨.int (ns.length : Nat), .ref a, rfl, .inr ⟨_, rfl, by omega, by omega, .inr ⟨ns, ⟨a, rfl, hq.ex e1, l2, hw⟩, fun f H2 f0 e2 hf => ?_⟩⟩⟩
    walk_at "go"
    rw [List.length_map, place_length]
    refine x_rng1V fun r H3 r0 e3 hr => ?_
    walk_at "go"
    have ex3 : Ex H H3 := e1.trans (e2.trans e3)
    refine ⟨_, rfl, LamX.Tabs.ext tb ex3, f, irange 0 (ns.length : Nat), fun s => berthOf (ns.length : Nat) ns s, rfl, .inr ⟨r, ns.length, rfl, hr, rfl, by omega⟩, .inr ⟨_, e3 _ _ hf, fun s hs => ?_⟩, fun ms p Hm H4 eN tb2 p0 e4 hp4 perm srt => ?_⟩
    · rw [mem_irange] at hs
      refine ⟨s.toNat, by omega, ?_⟩
      have pl := place_length (ns.length : Nat) ns
      have hs2 : s.toNat < (place (ns.length : Nat) ns).length := by omega
      obtain ⟨b, hb⟩ : ∃ b, (place (ns.length : Nat) ns)[s.toNat]? = some (some b) := by
        cases e : (place (ns.length : Nat) ns)[s.toNat]? with
        | none => exact absurd (List.getElem?_eq_none_iff.mp e) (by omega)
        | some o =>
          cases o with
          | none => exact absurd rfl (lie_of_good hw g none (List.mem_of_getElem? e))
          | some b => exact ⟨b, rfl⟩
      rw [List.getElem?_map, hb]
      have eb : berthOf (ns.length : Nat) ns s = b := by
        unfold berthOf
        rw [List.getD_eq_getElem?_getD, hb]
        rfl
      show some (V.int b) = some (V.int (berthOf (ns.length : Nat) ns s))
      rw [eb]
    · walk_at "go"
      refine x_tupOf (Evl.sq_of hp4) fun t H5 t0 e5 ht => ?_
      exact q t H5 ms perm srt (LamX.ExtN.trans (LamX.ExtN.trans (ExtN.ex ex3) eN) (ExtN.ex (e4.trans e5))) (LamX.Tabs.ext tb2 (e4.trans e5)) (Evl.st_of ht)
/-- something that is no order -/
def NoOrd (K : PySem.W.Frag) (H : Hp) (x : V) : Prop := (∃ s, Kind K H x s ∧ s ≠ .lst ∧ s ≠ .tup) ∨ ∃ a xs, x = .ref a ∧ Sq K H a xs ∧ (xs.length = 0 ∨ 400 < xs.length ∨ (1 ≤ xs.length ∧ xs.length ≤ 400 ∧
  (((∀ y ∈ xs, ∃ s, Kind K H y s) ∧ ∃ y ∈ xs, inB y 0 ((xs.length : Nat) - 1) = false) ∨ ∃ ns : List Int, xs = ns.map V.int ∧ ¬ ns.Nodup)))
def OrdX (K : PySem.W.Frag) (H : Hp) (x : V) (p : List Int) : Prop := ∃ a, x = .ref a ∧ Sq K H a (p.map V.int) ∧ 1 ≤ p.length ∧ p.length ≤ 400 ∧ Ord p
def AskedO (K : PySem.W.Frag) (mg : Str → Option Value) (H : Hp) (E : XK) (x : V) (due : List Int → Prop) : Prop := (NoOrd K H x ∧ Bad mg "NoOrder" H E) ∨ ∃ p, OrdX K H x p ∧ due p
def sp_need_order (K : PySem.W.Frag) (mg : Str → Option Value) : Sp := fun vs H Q E => ∃ x, vs = [x] ∧ AskedO K mg H E x fun _ => ∀ H', Ex H H' → Q .non H'
theorem has_need_order {P : Program} {w : World} {K : PySem.W.Frag} {mg : Str → Option Value} {base : Heap}  (S : B.Stands K mg "need_order" s_need_order) (N : Nms K mg) (h_is_number : B.Has P w K mg base "is_number" 1 ["thing", "least", "most"] (sp_is_number K)) : B.Has P w K mg base "need_order" 2 ["order"] (sp_need_order K mg) := by
  refine B.has_of S sc_need_order (fun _ _ _ _ _ _ us hl => match us, hl with | [_], _ => rfl) (fun vs H Q E h => ?_)
    (fun f cdv A outer s H vs Q E hr h => ⟨_, (pss_cons (ps_if (PW.pt (pw_or (pt_not (pt_val (pe_callB (r := rIsiT K) call_isiT (by rfl) N.n_isinstance B.boot_isinstance (pa_cons (pv 0) (pa_cons (pe_tup (pa_cons (pe_bltn (v := .ty "list") (by rfl) N.n_list B.boot_list rfl) (pa_cons (pe_bltn (v := .ty "tuple") (by rfl) N.n_tuple B.boot_tuple rfl) pa_nil))) pa_nil))))) (pw_or1 (pt_not (pt_chain op_le op_le pe_int (pe_callB (r := B.rLen K) B.call_len (by rfl) N.n_len PySem.boot_len (pa_cons (pv 0) pa_nil)) (B.pe_const N.c_MOST)))))) (pss_one (ps_raise rfl (takes_of rfl rfl rfl rfl) (B.pmk N.x_NoOrder))) pss_nil)
    (pss_one (ps_if (PW.pt (pw_or (pt_not (pt_val (pe_callB (r := rAll K) (cr_all rfl) (by rfl) N.n_all B.boot_all (pa_cons (pe_lc (own := [("ship", 1)]) (g := (gName 1)) rfl sc_need_order.nd (B.pi_sq (pv 0)) (blkOk_by (own := [("ship", 1)]) (N := n_need_order) (sc := defScope s_need_order) (by decide +kernel)) (fun _ _ _ _ _ => (pg_name (i := 1) sc_need_order.nd rfl (by first | exact Or.inl rfl | exact Or.inr rfl))) (fun _ _ _ _ _ => pts_nil) (fun _ _ _ _ _ => (B.pe_has h_is_number hr B.passL (pa_cons (pv 1) (pa_cons pe_int (pa_cons (pe_op op_sub (pe_callB (r := B.rLen K) B.call_len (by rfl) N.n_len PySem.boot_len (pa_cons (pv 0) pa_nil)) pe_int) pa_nil)))))) pa_nil)))) (pw_or1 (pt_cmpR op_ne (B.pe_lenSetQ rfl (by rfl) N.n_len (by rfl) N.n_set (pv 0)) (pe_callB (r := B.rLen K) B.call_len (by rfl) N.n_len PySem.boot_len (pa_cons (pv 0) pa_nil)) (nomark _))))) (pss_one (ps_raise rfl (takes_of rfl rfl rfl rfl) (B.pmk N.x_NoOrder))) pss_nil))), ?_⟩)
  · obtain ⟨x, rfl, _⟩ := h
    rfl
  · obtain ⟨x, rfl, h⟩ := h
    walk_at "go"
    refine x_mkT (by simp) fun p H1 hp e1 h1 => ?_
    have main : ∃ s, Kind K H x s ∧ ((¬ (s = .lst ∨ s = .tup) ∧ Bad mg "NoOrder" H E) ∨ ((s = .lst ∨ s = .tup) ∧ ∃ a xs, x = .ref a ∧ Sq K H a xs ∧ (((xs.length = 0 ∨ 400 < xs.length) ∧ Bad mg "NoOrder" H E) ∨
        (1 ≤ xs.length ∧ xs.length ≤ 400 ∧ (∀ y ∈ xs, ∃ s, Kind K H y s) ∧ (((∃ y ∈ xs, inB y 0 ((xs.length : Nat) - 1) = false) ∧ Bad mg "NoOrder" H E) ∨ ∃ ns : List Int, xs = ns.map V.int ∧ ((¬ ns.Nodup ∧ Bad mg "NoOrder" H E) ∨ (ns.Nodup ∧ (∀ y ∈ xs, inB y 0 ((xs.length : Nat) - 1) = true) ∧ ∀ H', Ex H H' → Q .non H'))))))) := by
      rcases h with ⟨h, bad⟩ | ⟨ns, ⟨a, rfl, q, l1, l2, hw⟩, due⟩
      · rcases h with ⟨s, h1, h2, h3⟩ | ⟨a, xs, rfl, q, h3⟩
        · exact ⟨s, h1, .inl ⟨fun z => z.elim h2 h3, bad⟩⟩
        · obtain ⟨s, k, hs⟩ := sq_kind q
          refine ⟨s, k, .inr ⟨hs, a, xs, rfl, q, ?_⟩⟩
          rcases h3 with h3 | h3 | ⟨l1, l2, h3⟩
          · exact .inl ⟨.inl h3, bad⟩
          · exact .inl ⟨.inr h3, bad⟩
          · refine .inr ⟨l1, l2, ?_⟩
            rcases h3 with ⟨h4, h5⟩ | ⟨ns, rfl, ng⟩
            · exact ⟨h4, .inl ⟨h5, bad⟩⟩
            · refine ⟨fun y hy => ?_, .inr ⟨ns, rfl, .inl ⟨ng, bad⟩⟩⟩
              obtain ⟨w, _, rfl⟩ := List.mem_map.mp hy
              exact ⟨_, .int w⟩
      · obtain ⟨s, k, hs⟩ := sq_kind q
        refine ⟨s, k, .inr ⟨hs, a, _, rfl, q, .inr ⟨by rw [List.length_map]; exact l1, by rw [List.length_map]; exact l2, fun y hy => ?_, .inr ⟨ns, rfl, .inr ⟨ord_nodup hw, fun y hy => ?_, due⟩⟩⟩⟩⟩
        · obtain ⟨w, _, rfl⟩ := List.mem_map.mp hy
          exact ⟨_, .int w⟩
        · obtain ⟨w, hw', rfl⟩ := List.mem_map.mp hy
          have := (ord_mem hw).mp hw'
          rw [List.length_map]
          simp [inB]
          omega
    obtain ⟨s, k, h⟩ := main
    walk_at "go"
    refine x_isiLT (k.ex e1) h1 ?_
    walk_at "go"
    refine x_bN (fun e => ?_) (fun e => ?_)
    · walk_at "go"
      rcases h with ⟨_, bad⟩ | ⟨hs, _⟩
      · exact fun C m => bad C H1 m e1
      · rw [is_lt.mpr hs] at e
        cases e
    rcases h with ⟨hs, _⟩ | ⟨_, a, xs, rfl, hq, h⟩
    · exact absurd (is_lt.mp e) hs
    have bads : (xs.length = 0 ∨ 400 < xs.length) → Bad mg "NoOrder" H E := fun z => by
      rcases h with ⟨_, bad⟩ | ⟨l1, l2, _⟩
      · exact bad
      · omega
    walk_at "go"
    refine x_dec (fun c => ?_) (fun c => ?_)
    · walk_at "go"
      refine x_decN (fun c2 => ?_) (fun c2 => ?_)
      · walk_at "go"
        exact fun C m => bads (.inr (by omega)) C H1 m e1
      · rcases h with ⟨z, _⟩ | ⟨l1, l2, hk, h⟩
        · omega
        walk_at "go"
        refine x_lcQ (K := K) xs (fun y => y) (fun _ => true) (fun y => .bl (inB y 0 ((xs.length : Nat) - 1))) rfl (by rw [List.map_id']; exact hq.ex e1) ⟨by omega, fun _ => rfl, fun y _ H' e' QT k => ?_, fun y hy _ H' e' Q' k => ?_, fun l H2 l0 e2 h2 => ?_⟩
        · exact k H' (Evl.Ex.refl _)
        · obtain ⟨s, ky⟩ := hk y hy
          walk_at "go"
          refine ⟨y, s, 0, _, rfl, ky.ex (e1.trans e'), ?_⟩
          exact k H' (Evl.Ex.refl _)
        walk_at "go"
        rw [List.filter_eq_self.mpr (fun _ _ => rfl)] at h2
        refine ⟨l, xs.map fun y => inB y 0 ((xs.length : Nat) - 1), rfl, ?_, ?_⟩
        · rw [List.map_map]
          exact Evl.sq_of h2
        walk_at "go"
        have all : ((xs.map fun y => inB y 0 ((xs.length : Nat) - 1)).all id = true) ↔ ∀ y ∈ xs, inB y 0 ((xs.length : Nat) - 1) = true := by
          rw [List.all_map, List.all_eq_true]
          rfl
        refine x_bN (fun e => ?_) (fun e => ?_)
        · walk_at "go"
          rcases h with ⟨_, bad⟩ | ⟨ns, ex, h⟩
          · exact fun C m => bad C H2 m (e1.trans e2)
          · rcases h with ⟨_, bad⟩ | ⟨_, h6, _⟩
            · exact fun C m => bad C H2 m (e1.trans e2)
            · rw [all.mpr h6] at e
              cases e
        · have e := all.mp e
          rcases h with ⟨⟨y, hy, h5⟩, _⟩ | ⟨ns, ex, h⟩
          · rw [e y hy] at h5
            cases h5
          subst ex
          walk_at "go"
          refine x_lenSetQ ?_
          walk_at "go"
          refine ⟨a, ns, rfl, hq.ex (e1.trans e2), by rw [List.length_map] at l2; omega, fun m hm _ => ?_⟩
          walk_at "go"
          rw [List.length_map]
          refine x_decN (fun c3 => ?_) (fun c3 => ?_)
          · walk_at "go"
            rcases h with ⟨_, bad⟩ | ⟨nd, _⟩
            · exact fun C m => bad C H2 m (e1.trans e2)
            · exact absurd (by rw [hm.mpr nd]) c3
          · walk_at "go"
            rcases h with ⟨nd, _⟩ | ⟨_, _, due⟩
            · exact absurd (hm.mp (by have := V.int.inj c3; omega)) nd
            · exact due H2 (e1.trans e2)
    · walk_at "go"
      exact fun C m => bads (.inl (by omega)) C H1 m e1
def sp_reaches (K : PySem.W.Frag) (mg : Str → Option Value) : Sp := fun vs H Q E => ∃ x, vs = [x] ∧ AskedO K mg H E x fun p =>
  ∀ (d : Addr) (H' : Hp) (rs : List Addr), rs.length = p.length → (∀ (s : Nat) r, rs[s]? = some r → H' r = some (.tup [.int (lowOf p s), .int (highOf p s)])) → H d = none → Ex H H' → H' d = some (.lst (rs.map V.ref)) → Q (.ref d) H'
/-- what is found so far: a pair for each ship met -/
def Found (p : List Int) (k : Nat) (d : Addr) (H : Hp) : Prop := ∃ rs : List Addr, H d = some (.lst (rs.map V.ref)) ∧ rs.length = p.length ∧ ∀ (i : Nat) (s : Nat) r, i < k → p[i]? = some (s : Int) → rs[s]? = some r → H r = some (.tup [.int (lowOf p s), .int (highOf p s)])
theorem Found.ex {p : List Int} {k : Nat} {d : Addr} {H H' : Hp} (e : Ex H H') (h : Found p k d H) : Found p k d H' := by
  obtain ⟨rs, h1, h2, h3⟩ := h
  exact ⟨rs, e _ _ h1, h2, fun i s r hi hs hr => e _ _ (h3 i s r hi hs hr)⟩
theorem x_ixQ {K : PySem.W.Frag} {H : Hp} {Q : VK} {a : Addr} {xs : List V} {k : Int} {v : V} (h : Sq K H a xs) (e : atI xs k = some v) (q : Q v H) : rIxQ K (.ref a) (.int k) H Q := h.elim (fun h => .inl (x_ixL h e q)) fun h => .inr (x_ixT h e q)
theorem found_set {p : List Int} {k : Nat} {d r : Addr} {H' H5 H6 : Hp} {rs : List Addr} {s : Nat} {lo hi : Int} (nd : p.Nodup) (pk : p[k]? = some (s : Int)) (hrs : H' d = some (.lst (rs.map V.ref))) (rl : rs.length = p.length)
    (hfd : ∀ (i : Nat) (s : Nat) r, i < k → p[i]? = some (s : Int) → rs[s]? = some r → H' r = some (.tup [.int (lowOf p s), .int (highOf p s)])) (e5 : Ex H' H5) (hr : H5 r = some (.tup [.int lo, .int hi])) (el : lo = lowOf p s) (eh : hi = highOf p s) (rd : d ≠ r) (u : Upd H5 d (.lst ((rs.map V.ref).set s (.ref r))) H6) : Found p (k + 1) d H6 := by
  refine ⟨rs.set s r, by rw [u.same, List.map_set], by rw [List.length_set]; exact rl, fun i s' r' hi hs' hr' => ?_⟩
  rw [List.getElem?_set] at hr'
  by_cases e : i = k
  · subst e
    rw [pk] at hs'
    have es : s = s' := by have := Option.some.inj hs'; omega
    subst es
    rw [if_pos rfl] at hr'
    split at hr'
    · obtain rfl := Option.some.inj hr'
      rw [← el, ← eh]
      exact u.get (Ne.symm rd) hr
    · cases hr'
  · have es : s ≠ s' := fun z => by
      subst z
      have h1 := at_idx nd pk
      have h2 := at_idx nd hs'
      omega
    rw [if_neg es] at hr'
    have h := hfd i s' r' (by omega) hs' hr'
    refine u.get (fun z => ?_) (e5 _ _ h)
    rw [z, hrs] at h
    cases h
theorem has_reaches {P : Program} {w : World} {K : PySem.W.Frag} {mg : Str → Option Value} {base : Heap}  (S : B.Stands K mg "reaches" s_reaches) (N : Nms K mg) (h_need_order : B.Has P w K mg base "need_order" 2 ["order"] (sp_need_order K mg)) : B.Has P w K mg base "reaches" 3 ["order"] (sp_reaches K mg) := by
  refine B.has_of S sc_reaches (fun _ _ _ _ _ _ us hl => match us, hl with | [_], _ => rfl) (fun vs H Q E h => ?_)
    (fun f cdv A outer s H vs Q E hr h => ⟨_, (pss_cons (ps_expr (B.pe_has h_need_order hr (B.passU (takes_of rfl rfl rfl rfl)) (pa_cons (pv 0) pa_nil)))
    (pss_cons (ps_set (i := 1) sc_reaches.nd rfl (by first | exact Or.inl rfl | exact Or.inr rfl) (pe_op op_rep (pe_lst (pa_cons (pe_tup (pa_cons pe_int (pa_cons pe_int pa_nil))) pa_nil)) (pe_callB (r := B.rLen K) B.call_len (by rfl) N.n_len PySem.boot_len (pa_cons (pv 0) pa_nil))))
    (pss_cons (ps_for (passes_of rfl) rfl (B.pi_enumT (by rfl) N.n_enumerate (pa_cons (pv 0) pa_nil)) (pg_tup rfl (pgs_cons (pg_name (i := 2) sc_reaches.nd rfl (by first | exact Or.inl rfl | exact Or.inr rfl)) (pgs_cons (pg_name (i := 3) sc_reaches.nd rfl (by first | exact Or.inl rfl | exact Or.inr rfl)) pgs_nil))) (pss_cons (ps_set (i := 4) sc_reaches.nd rfl (by first | exact Or.inl rfl | exact Or.inr rfl) (pv 2))
    (pss_cons (ps_while (passes_of rfl) (PW.pt (pw_and (pt_cmpR op_gt (pv 4) pe_int (nomark _)) (pw_and1 (pt_cmpR op_lt (pe_ix (r := B.rIxQ K) B.ix_sq (pv 0) (pe_op op_sub (pv 4) pe_int) (fun _ _ => rfl)) (pv 3) (nomark _))))) (pss_one (ps_aug (i := 4) sc_reaches.nd rfl (by first | exact Or.inl rfl | exact Or.inr rfl) pe_int ip_sub)))
    (pss_one (ps_asg (pe_tup (pa_cons (pe_op op_add (pv 4) pe_int) (pa_cons (pe_op op_add (pv 2) pe_int) pa_nil))) (pg_sub (pv 1) (pv 3) set_list))))))
    (pss_one (ps_ret (pv 1)))))), ?_⟩)
  · obtain ⟨x, rfl, _⟩ := h
    rfl
  · obtain ⟨x, rfl, h⟩ := h
    walk_at "go"
    refine ⟨x, rfl, ?_⟩
    rcases h with h | ⟨p, op, q⟩
    · exact .inl h
    refine .inr ⟨p, op, fun H1 e1 => ?_⟩
    obtain ⟨a, rfl, hq, l1, l2, hp⟩ := op
    walk_at "go"
    refine x_mkT (by simp) fun t H2 t0 e2 ht => ?_
    walk_at "go"
    refine x_mkL (by simp) fun z H3 z0 e3 hz => ?_
    walk_at "go"
    rw [List.length_map]
    refine x_rep (n := (p.length : Nat)) hz (by omega) (by omega) (by simp) fun d H4 d0 e4 hd => ?_
    have ex4 : Ex H H4 := e1.trans (e2.trans (e3.trans e4))
    have hd : H4 d = some (.lst ((List.replicate p.length t).map V.ref)) := by
      rw [hd, List.map_replicate]
      simp [List.flatten_replicate_singleton]
    have dn : H d = none := exn (e1.trans (e2.trans e3)) d0
    walk_at "go"
    refine x_forEQ p V.int (fun pre σ' H' => (∃ v2 v3 v4, σ' = [some (.ref a), some (.ref d), v2, v3, v4]) ∧ Far H H' ∧ Found p pre.length d H')
      ⟨⟨_, _, _, rfl⟩, .of ex4, _, hd, by simp, fun i s r hi => absurd hi (by simp)⟩
      (hq.elim (fun h => .inl fun pre σ' H' _ p => Evl.ex_l p.2.1.e h) (fun h => .inr fun pre σ' H' _ p => Evl.ex_t p.2.1.e h))
      (fun pre σ' H' H'' p e => ⟨p.1, .of (p.2.1.e.trans e), p.2.2.ex e⟩) (fun pre s post σ' H' ea pp => ?_) (fun σ' H' pp => ?_)
    · obtain ⟨⟨v2, v3, v4, rfl⟩, far, rs, hrs, rl, hfd⟩ := pp
      have pk : p[pre.length]? = some s := by rw [ea]; simp
      have sm := (ord_mem hp).mp (List.mem_of_getElem? pk)
      obtain ⟨s, rfl⟩ : ∃ m : Nat, s = (m : Int) := ⟨s.toNat, by omega⟩
      have kl := (List.getElem?_eq_some_iff.mp pk).1
      have ik := at_idx (ord_nodup hp) pk
      walk_at "go"
      refine x_whileG (fun m σ'' H'' => H'' = H' ∧ ∃ l : Nat, m = l ∧ l ≤ pre.length ∧ lowAt p s l = lowAt p s pre.length ∧ σ'' = [some (.ref a), some (.ref d), some (.int (pre.length : Nat)), some (.int (s : Nat)), some (.int (l : Nat))]) _ ⟨rfl, pre.length, rfl, Nat.le_refl _, rfl, rfl⟩ ?_
      rintro m σ'' H'' ⟨rfl, l, rfl, hl, hk, rfl⟩
      walk_at "go"
      refine x_dec (fun c => ?_) (fun c => ?_)
      · obtain ⟨j, rfl⟩ : ∃ j, m = j + 1 := ⟨m - 1, by omega⟩
        obtain ⟨t0', ht'⟩ : ∃ t, p[j]? = some t := ⟨_, List.getElem?_eq_getElem (by omega)⟩
        walk_at "go"
        refine x_ixQ (v := .int t0') (hq.ex far.e) (by rw [show ((j + 1 : Nat) : Int) - 1 = (j : Nat) from by omega]; exact atI_nat (by rw [List.getElem?_map, ht']; rfl)) ?_
        walk_at "go"
        refine x_dec (fun c2 => ?_) (fun c2 => ?_)
        · walk_at "go"
          refine ⟨j, by omega, rfl, j, rfl, by omega, ?_, by rw [show ((j + 1 : Nat) : Int) - 1 = (j : Nat) from by omega]; rfl⟩
          rw [← hk]
          show _ = (if p.getD j 0 < (s : Int) then lowAt p s j else j + 1)
          rw [getD_of ht', if_pos c2]
        · have hk : lowAt p s pre.length = j + 1 := by
            rw [← hk]
            show (if p.getD j 0 < (s : Int) then lowAt p s j else j + 1) = j + 1
            rw [getD_of ht', if_neg c2]
          walk_at "go"
          refine x_mkT (by simp) fun r H5 r0 e5 hr => ?_
          walk_at "go"
          refine x_setL (n := s) (e5 _ _ hrs) (by rw [List.length_map]; omega) fun H6 u6 => ?_
          walk_at "go"
          refine ⟨⟨_, _, _, rfl⟩, .of (u6.ex (far.e.trans e5) dn), ?_⟩
          rw [List.length_append, List.length_singleton]
          exact found_set (ord_nodup hp) pk hrs rl hfd e5 hr (by unfold lowOf; rw [ik, hk]) (by unfold highOf; rw [ik]) (ne_of_none (show H'' d = _ from hrs) r0) u6
      · have m0 : m = 0 := by omega
        subst m0
        have hk : lowAt p s pre.length = 0 := hk.symm
        walk_at "go"
        refine x_mkT (by simp) fun r H5 r0 e5 hr => ?_
        walk_at "go"
        refine x_setL (n := s) (e5 _ _ hrs) (by rw [List.length_map]; omega) fun H6 u6 => ?_
        walk_at "go"
        refine ⟨⟨_, _, _, rfl⟩, .of (u6.ex (far.e.trans e5) dn), ?_⟩
        rw [List.length_append, List.length_singleton]
        exact found_set (ord_nodup hp) pk hrs rl hfd e5 hr (by unfold lowOf; rw [ik, hk]) (by unfold highOf; rw [ik]) (ne_of_none (show H'' d = _ from hrs) r0) u6
    · obtain ⟨⟨v2, v3, v4, rfl⟩, far, rs, hrs, rl, hfd⟩ := pp
      walk_at "go"
      refine q d H' rs rl (fun s r hr => ?_) dn far.e hrs
      have hs : s < p.length := by rw [← rl]; exact (List.getElem?_eq_some_iff.mp hr).1
      have hm : ((s : Nat) : Int) ∈ p := (ord_mem hp).mpr (by omega)
      exact hfd _ s r (idx_lt hm) (idx_at hm) hr
theorem x_gTup2 {K : PySem.W.Frag} {a : Addr} {x y : V} {σ : L2.St} {H : Hp} {Q : L2.St → Hp → Prop} {i j : Nat} (h : SqT K H a [x, y]) (q : Q ((σ.set i (some x)).set j (some y)) H) : gTup K 2 (gCons (gName i) (gCons (gName j) gNil)) (.ref a) σ H Q := ⟨a, [x, y], rfl, h, rfl, x, [y], rfl, y, [], rfl, rfl, q⟩
/-- how many full rows lead to an order -/
def waysTo (p : List Int) (k : Nat) : Int := (irange 0 (k : Nat)).foldl (fun m s => m * (highOf p s + 1 - lowOf p s)) 1
theorem waysTo_succ (p : List Int) (k : Nat) : waysTo p (k + 1) = waysTo p k * (highOf p k + 1 - lowOf p k) := by
  unfold waysTo
  rw [irange_snoc, List.foldl_append]
  rfl
def sp_rows_to (K : PySem.W.Frag) (mg : Str → Option Value) : Sp := fun vs H Q E => ∃ x, vs = [x] ∧ AskedO K mg H E x fun p => ∀ H', Ex H H' → Q (.int (waysTo p p.length)) H'
theorem has_rows_to {P : Program} {w : World} {K : PySem.W.Frag} {mg : Str → Option Value} {base : Heap}  (S : B.Stands K mg "rows_to" s_rows_to) (N : Nms K mg) (h_reaches : B.Has P w K mg base "reaches" 3 ["order"] (sp_reaches K mg)) : B.Has P w K mg base "rows_to" 4 ["order"] (sp_rows_to K mg) := by
  refine B.has_of S sc_rows_to (fun _ _ _ _ _ _ us hl => match us, hl with | [_], _ => rfl) (fun vs H Q E h => ?_)
    (fun f cdv A outer s H vs Q E hr h => ⟨_, (pss_cons (ps_set (i := 1) sc_rows_to.nd rfl (by first | exact Or.inl rfl | exact Or.inr rfl) pe_int)
    (pss_cons (ps_for (passes_of rfl) rfl (pi_list (B.pe_has h_reaches hr (B.passU (takes_of rfl rfl rfl rfl)) (pa_cons (pv 0) pa_nil))) (pg_tup rfl (pgs_cons (pg_name (i := 2) sc_rows_to.nd rfl (by first | exact Or.inl rfl | exact Or.inr rfl)) (pgs_cons (pg_name (i := 3) sc_rows_to.nd rfl (by first | exact Or.inl rfl | exact Or.inr rfl)) pgs_nil))) (pss_one (ps_aug (i := 1) sc_rows_to.nd rfl (by first | exact Or.inl rfl | exact Or.inr rfl) (pe_op op_sub (pe_op op_add (pv 3) pe_int) (pv 2)) B.ip_mul)))
    (pss_one (ps_ret (pv 1))))), ?_⟩)
  · obtain ⟨x, rfl, _⟩ := h
    rfl
  · obtain ⟨x, rfl, h⟩ := h
    walk_at "go"
    refine ⟨x, rfl, ?_⟩
    rcases h with h | ⟨p, op, q⟩
    · exact .inl h
    refine .inr ⟨p, op, fun d H1 rs rl hrs d0 e1 hd => ?_⟩
    obtain ⟨a, rfl, hq, l1, l2, hp⟩ := op
    walk_at "go"
    refine x_forL rs V.ref (fun pre σ' H' => (∃ v2 v3, σ' = [some (.ref a), some (.int (waysTo p pre.length)), v2, v3]) ∧ Far H1 H')
      ⟨⟨_, _, rfl⟩, .of (Evl.Ex.refl _)⟩ (fun pre σ' H' _ pp => Evl.ex_l pp.2.e (Evl.sq_of hd)) (fun pre r post σ' H' ea pp => ?_) (fun σ' H' pp => ?_)
    · obtain ⟨⟨v2, v3, rfl⟩, far⟩ := pp
      have pk : rs[pre.length]? = some r := by rw [ea]; simp
      have kl := (List.getElem?_eq_some_iff.mp pk).1
      have hr := hrs _ _ pk
      have km : ((pre.length : Nat) : Int) ∈ p := (ord_mem hp).mpr (by omega)
      have b1 := high_le km
      have b2 := low_le p (pre.length : Nat)
      refine x_gTup2 (Evl.st_of (far.e _ _ hr)) ?_
      walk_at "go"
      refine x_ipM (.inr (by omega)) ?_
      walk_at "go"
      rw [List.length_append, List.length_singleton, waysTo_succ]
      exact ⟨⟨_, _, rfl⟩, far⟩
    · obtain ⟨⟨v2, v3, rfl⟩, far⟩ := pp
      rw [rl]
      walk_at "go"
      exact q H' (e1.trans far.e)

/-! ### the law's readers -/
def sp__law_cell_at (K : PySem.W.Frag) : Sp := fun vs H Q _ => ∃ (a : Addr) (ns : List Int) (k : Nat), vs = [.ref a, .int (k : Nat)] ∧ SqL K H a (ns.map V.int) ∧ ns.length ≤ 63 ∧ Q (.int (ns.getD k 0)) H
theorem has__law_cell_at {P : Program} {w : World} {K : PySem.W.Frag} {mg : Str → Option Value} {base : Heap}  (S : B.Stands K mg "_law_cell_at" s__law_cell_at) (N : Nms K mg)  : B.Has P w K mg base "_law_cell_at" 1 ["_law_script", "_law_k"] (sp__law_cell_at K) := by
  refine B.has_ofN S sc__law_cell_at (fun _ _ _ _ _ _ us hl => match us, hl with | [_, _], _ => rfl) (fun vs H Q E h => ?_)
    (fun f cdv A outer s H vs Q E hr h => ⟨_, (pss_cons (ps_if (pt_cmpR op_lt (pv 1) (pe_callB (r := B.rLen K) B.call_len (by rfl) N.n_len PySem.boot_len (pa_cons (pv 0) pa_nil)) (nomark _)) (pss_one (ps_ret (pe_ix (r := rIxL K) ix_list (pv 0) (pv 1) (fun _ _ => rfl)))) pss_nil)
    (pss_one (ps_ret pe_int))), ?_⟩)
  · obtain ⟨a, ns, k, rfl, _⟩ := h
    rfl
  · obtain ⟨a, ns, k, rfl, hs, hl, q⟩ := h
    have hq : Sq K H a (ns.map V.int) := .inl hs
    walk_at "go"
    refine x_dec (fun c => ?_) (fun c => ?_)
    · rw [List.length_map] at c
      have hk : k < ns.length := by omega
      walk_at "go"
      refine x_ixL hs (v := .int (ns.getD k 0)) (atI_nat ?_) ?_
      · rw [List.getElem?_map, List.getElem?_eq_getElem hk, List.getD_eq_getElem?_getD, List.getElem?_eq_getElem hk]
        rfl
      · walk_at "go"
        exact q
    · rw [List.length_map] at c
      walk_at "go"
      rw [show ns.getD k 0 = 0 from by rw [List.getD_eq_getElem?_getD, List.getElem?_eq_none (by omega)]; rfl] at q
      exact q
/-- an item of a short written list, by an index in its bounds -/
theorem at3 {x y z : V} {k : Int} (h0 : 0 ≤ k) (h : k < 3) : ∃ v, atI [x, y, z] k = some v ∧ (v = x ∨ v = y ∨ v = z) := by
  rcases (by omega : k = 0 ∨ k = 1 ∨ k = 2) with rfl | rfl | rfl
  · exact ⟨x, rfl, .inl rfl⟩
  · exact ⟨y, rfl, .inr (.inl rfl)⟩
  · exact ⟨z, rfl, .inr (.inr rfl)⟩
theorem at4 {x y z u : V} {k : Int} (h0 : 0 ≤ k) (h : k < 4) : ∃ v, atI [x, y, z, u] k = some v ∧ (v = x ∨ v = y ∨ v = z ∨ v = u) := by
  rcases (by omega : k = 0 ∨ k = 1 ∨ k = 2 ∨ k = 3) with rfl | rfl | rfl | rfl
  · exact ⟨x, rfl, .inl rfl⟩
  · exact ⟨y, rfl, .inr (.inl rfl)⟩
  · exact ⟨z, rfl, .inr (.inr (.inl rfl))⟩
  · exact ⟨u, rfl, .inr (.inr (.inr rfl))⟩
theorem x_mod {i j : Int} {H : Hp} {Q : VK} (h : 0 < j) (q : ∀ r, 0 ≤ r → r < j → r = i % j → Q (.int r) H) : rI (fun _ j => 0 < j) (fun i j => .int (i % j)) (.int i) (.int j) H Q :=
  x_rI h (q _ (Int.emod_nonneg _ (by omega)) (Int.emod_lt_of_pos _ h) rfl)
theorem x_fdiv {i j : Int} {H : Hp} {Q : VK} (h : 0 < j ∧ j < 1073741824) (q : Q (.int (i / j)) H) : rI CDiv (fun i j => .int (i / j)) (.int i) (.int j) H Q := x_rI h q

def sp__law_mix (K : PySem.W.Frag) : Sp := fun vs H Q _ => ∃ (a : Addr) (s c : Int), vs = [.ref a, .int c] ∧ H a = some (.lst [.int s]) ∧ 0 ≤ s ∧ s < 2147483648 ∧
  ∀ (r s' : Int) (H' : Hp), 0 ≤ r → r < 2147483647 → 0 ≤ s' → s' < 2147483648 → Upd H a (.lst [.int s']) H' → Q (.int r) H'
theorem has__law_mix {P : Program} {w : World} {K : PySem.W.Frag} {mg : Str → Option Value} {base : Heap}  (S : B.Stands K mg "_law_mix" s__law_mix) (N : Nms K mg)  : B.Has P w K mg base "_law_mix" 1 ["_law_state", "_law_cell"] (sp__law_mix K) := by
  refine B.has_ofN S sc__law_mix (fun _ _ _ _ _ _ us hl => match us, hl with | [_, _], _ => rfl) (fun vs H Q E h => ?_)
    (fun f cdv A outer s H vs Q E hr h => ⟨_, (pss_cons (ps_asg (pe_op op_mod (pe_op op_add (pe_op op_add (pe_op op_mul (pe_ix (r := rIxL K) ix_list (pv 0) pe_int (fun _ _ => rfl)) pe_int) (pe_op op_mul (pv 1) pe_int)) pe_int) pe_int) (pg_sub (pv 0) pe_int set_list))
    (pss_one (ps_ret (pe_op op_fdiv (pe_op op_mod (pe_op op_mul (pe_ix (r := rIxL K) ix_list (pv 0) pe_int (fun _ _ => rfl)) (pe_ix (r := rIxL K) ix_list (pv 0) pe_int (fun _ _ => rfl))) pe_int) pe_int)))), ?_⟩)
  · obtain ⟨a, s, c, rfl, _⟩ := h
    rfl
  · obtain ⟨a, s, c, rfl, ha, s0, s1, q⟩ := h
    walk_at "go"
    refine x_ixL (v := .int s) (by walk_at "hx") at_head ?_
    walk_at "go"
    refine x_rI (.inr (by decide)) ?_
    walk_at "go"
    refine x_rI (.inr (by decide)) ?_
    walk_at "go"
    refine x_mod (by decide) fun r r0 r1 _ => ?_
    walk_at "go"
    refine x_setL (n := 0) ha (by simp) fun H1 u1 => ?_
    have h1 : H1 a = some (.lst [.int r]) := u1.same
    walk_at "go"
    refine x_ixL (v := .int r) (by walk_at "hx") at_head ?_
    walk_at "go"
    refine x_ixL (v := .int r) (by walk_at "hx") at_head ?_
    refine x_rI (.inl (by omega)) ?_
    walk_at "go"
    refine x_mod (by decide) fun t t0 t1 _ => ?_
    walk_at "go"
    refine x_fdiv (by decide) ?_
    exact q _ r H1 (by omega) (by omega) r0 (by omega) u1

def sp__law_order (K : PySem.W.Frag) : Sp := fun vs H Q _ => ∃ (a : Addr) (ns : List Int) (m k : Nat), vs = [.ref a, .int (m : Nat), .int (k : Nat)] ∧ SqL K H a (ns.map V.int) ∧ ns.length ≤ 63 ∧ m ≤ 400 ∧
  ∀ (p : Addr) (H' : Hp) (os : List Int), os.Perm (irange 0 m) → H p = none → Ex H H' → H' p = some (.lst (os.map V.int)) → Q (.ref p) H'
theorem erase_map (as : List Int) (j : Nat) : (as.map V.int).eraseIdx j = (as.eraseIdx j).map V.int := by
  rw [List.eraseIdx_eq_take_drop_succ, List.eraseIdx_eq_take_drop_succ, List.map_append, List.map_take, List.map_drop]
theorem pop_perm {as os : List Int} {k : Nat} {x : Int} (h : as[k]? = some x) : (os ++ [x] ++ as.eraseIdx k).Perm (os ++ as) := by
  have es := split_at h
  rw [List.eraseIdx_eq_take_drop_succ]
  conv => rhs; rw [es]
  rw [List.append_assoc]
  refine List.Perm.append_left os ?_
  exact (List.perm_middle (l₁ := as.take k) (a := x) (l₂ := as.drop (k + 1))).symm
theorem has__law_order {P : Program} {w : World} {K : PySem.W.Frag} {mg : Str → Option Value} {base : Heap}  (S : B.Stands K mg "_law_order" s__law_order) (N : Nms K mg) (h__law_cell_at : B.Has P w K mg base "_law_cell_at" 1 ["_law_script", "_law_k"] (sp__law_cell_at K)) (h__law_mix : B.Has P w K mg base "_law_mix" 1 ["_law_state", "_law_cell"] (sp__law_mix K)) : B.Has P w K mg base "_law_order" 2 ["_law_script", "_law_many", "_law_first"] (sp__law_order K) := by
  refine B.has_ofN S sc__law_order (fun _ _ _ _ _ _ us hl => match us, hl with | [_, _, _], _ => rfl) (fun vs H Q E h => ?_)
    (fun f cdv A outer s H vs Q E hr h => ⟨_, (pss_cons (ps_set (i := 3) sc__law_order.nd rfl (by first | exact Or.inl rfl | exact Or.inr rfl) (pe_lst (pa_cons (pe_op op_add pe_int (pe_op op_mod (B.pe_has h__law_cell_at hr B.passL (pa_cons (pv 0) (pa_cons (pv 2) pa_nil))) pe_int)) pa_nil)))
    (pss_cons (ps_set (i := 4) sc__law_order.nd rfl (by first | exact Or.inl rfl | exact Or.inr rfl) (pe_listRg rfl (by rfl) N.n_list (prg_1 (by rfl) N.n_range (pv 1))))
    (pss_cons (ps_set (i := 5) sc__law_order.nd rfl (by first | exact Or.inl rfl | exact Or.inr rfl) (pe_lst pa_nil))
    (pss_cons (ps_for PassesOwn.never rfl (pi_range1 rfl N.n_range (pa_cons (pv 1) pa_nil)) (pg_name (i := 6) sc__law_order.nd rfl (by first | exact Or.inl rfl | exact Or.inr rfl)) (pss_one (ps_expr (pe_bm PySem.F.plainAttrs_list PySem.F.slot_list_append PySem.F.type_list_append mt_append (pv 5) (pa_cons (pe_bm PySem.F.plainAttrs_list PySem.F.slot_list_pop PySem.F.type_list_pop mt_popAt (pv 4) (pa_cons (pe_op op_mod (B.pe_has h__law_mix hr B.passL (pa_cons (pv 3) (pa_cons (B.pe_has h__law_cell_at hr B.passL (pa_cons (pv 0) (pa_cons (pe_op op_add (pe_op op_add (pv 2) pe_int) (pe_op op_mod (pv 6) pe_int)) pa_nil))) pa_nil))) (pe_callB (r := B.rLen K) B.call_len (by rfl) N.n_len PySem.boot_len (pa_cons (pv 4) pa_nil))) pa_nil)) pa_nil)))))
    (pss_one (ps_ret (pv 5))))))), ?_⟩)
  · obtain ⟨a, ns, m, k, rfl, _⟩ := h
    rfl
  · obtain ⟨a, ns, m, k, rfl, hs, hl, hm, q⟩ := h
    walk_at "go"
    refine ⟨a, ns, k, rfl, hs, hl, ?_⟩
    walk_at "go"
    refine x_mod (by decide) fun r r0 r1 _ => ?_
    walk_at "go"
    refine x_mkL (by simp) fun st H1 st0 e1 hst => ?_
    walk_at "go"
    refine x_mkRg1 (by omega) fun so H2 so0 e2 hso => ?_
    walk_at "go"
    refine x_mkL (by simp) fun l H3 l0 e3 hl3 => ?_
    walk_at "go"
    refine x_rng1 (by omega) ?_
    rw [Int.toNat_natCast]
    have n1 : st ≠ so := ne_of_none hst so0
    have n2 : st ≠ l := ne_of_none (show H2 st = some _ by walk_at "hx") l0
    have n3 : so ≠ l := ne_of_none hso l0
    have stn : H st = none := st0
    have son : H so = none := exn e1 so0
    have ln : H l = none := exn e1 (exn e2 l0)
    refine x_forR (fun i σ' H' => (∃ v, σ' = [some (.ref a), some (.int (m : Nat)), some (.int (k : Nat)), some (.ref st), some (.ref so), some (.ref l), v]) ∧ Ex H H' ∧ (∃ s, H' st = some (.lst [.int s]) ∧ 0 ≤ s ∧ s < 2147483648) ∧
        ∃ as os : List Int, H' so = some (.lst (as.map V.int)) ∧ H' l = some (.lst (os.map V.int)) ∧ (os ++ as).Perm (irange 0 m) ∧ os.length = i)
      ⟨⟨_, rfl⟩, by walk_at "hx", ⟨1 + r, by walk_at "hx", by omega, by omega⟩, irange 0 m, [], by walk_at "hx", by walk_at "hx", List.Perm.refl _, rfl⟩ (fun i σ' H' hi p => ?_) (fun σ' H' p => ?_)
    · obtain ⟨⟨v, rfl⟩, ex, ⟨s, hst', s0, s1⟩, as, os, hso', hl', hp, ho⟩ := p
      have lens := hp.length_eq
      rw [List.length_append, irange_len] at lens
      have hS : SqL K H' a (ns.map V.int) := Evl.ex_l ex hs
      walk_at "go"
      refine x_mod (by decide) fun t t0 t1 _ => ?_
      walk_at "go"
      refine ⟨a, ns, (k + 1 + t.toNat), ?_, hS, hl, ?_⟩
      · show [V.ref a, V.int ((k : Int) + 1 + t)] = [V.ref a, V.int ((k + 1 + t.toNat : Nat) : Int)]
        rw [show ((k : Int) + 1 + t) = ((k + 1 + t.toNat : Nat) : Int) from by omega]
      walk_at "go"
      refine ⟨st, s, _, rfl, hst', s0, s1, fun mx s' H4 mx0 mx1 s'0 s'1 u4 => ?_⟩
      have hso4 : H4 so = some (.lst (as.map V.int)) := u4.get (Ne.symm n1) hso'
      have hl4 : H4 l = some (.lst (os.map V.int)) := u4.get (Ne.symm n2) hl'
      walk_at "go"
      rw [List.length_map]
      refine x_mod (by omega) fun j j0 j1 _ => ?_
      obtain ⟨j, rfl⟩ : ∃ j' : Nat, j = (j' : Nat) := ⟨j.toNat, by omega⟩
      have hj : j < as.length := by omega
      have hjx := List.getElem?_eq_getElem hj
      walk_at "go"
      refine x_popAt (y := .int as[j]) hso4 (by rw [List.length_map]; omega) (by rw [List.getElem?_map, hjx]; rfl) fun H5 u5 => ?_
      have hl5 : H5 l = some (.lst (os.map V.int)) := u5.get (Ne.symm n3) hl4
      walk_at "go"
      refine x_append hl5 (by rw [List.length_map]; omega) fun H6 u6 => ?_
      walk_at "go"
      refine ⟨⟨_, rfl⟩, (u6.ex (u5.ex (u4.ex ex stn) son) ln), ⟨s', u6.get n2 (u5.get n1 u4.same), s'0, s'1⟩, as.eraseIdx j, os ++ [as[j]], ?_, ?_, (pop_perm hjx).trans hp, ?_⟩
      · refine u6.get n3 ?_
        rw [← erase_map]
        exact u5.same
      · rw [List.map_append]
        exact u6.same
      · rw [List.length_append, ho]
        rfl
    · obtain ⟨⟨v, rfl⟩, ex, _, as, os, hso', hl', hp, ho⟩ := p
      have lens := hp.length_eq
      rw [List.length_append, irange_len] at lens
      have ea : as = [] := List.eq_nil_of_length_eq_zero (by omega)
      subst ea
      rw [List.append_nil] at hp
      walk_at "go"
      exact q l H' os hp ln ex hl'

/-! ### the law's own -/
theorem x_callF1 {σ : L2.St} {H : Hp} {Q : VK} {i j : Nat} {S : Addr → Sp → Prop} {E : L2.St → XK} {f : Addr} {x : V} (hf : σ[i]? = some (some (.ref f))) (hx : σ[j]? = some (some x)) (h : ∃ sp, S f sp ∧ sp [x] H Q (E σ)) :
    tCallF i S E (tCons (tVar j) tNil) σ H Q := by
  obtain ⟨sp, h1, h2⟩ := h
  exact ⟨f, sp, hf, h1, x, hx, h2⟩
def Acts (K : PySem.W.Frag) (mg : Str → Option Value) (Pt : Addr) : Addr → Sp → Prop := fun f sp => (f = B.at_ mg "lies" ∧ sp = sp_lies K mg Pt) ∨ (f = B.at_ mg "reaches" ∧ sp = sp_reaches K mg) ∨ (f = B.at_ mg "rows_to" ∧ sp = sp_rows_to K mg)
theorem fam_acts {P : Program} {w : World} {K : PySem.W.Frag} {mg : Str → Option Value} {base : Heap} {Pt : Addr} {ps qs rs : List Str} (h1 : B.Has P w K mg base "lies" 7 ps (sp_lies K mg Pt)) (h2 : B.Has P w K mg base "reaches" 3 qs (sp_reaches K mg)) (h3 : B.Has P w K mg base "rows_to" 4 rs (sp_rows_to K mg)) :
    Fam P w K mg base 7 (Acts K mg Pt) := by
  rintro f sp (⟨rfl, rfl⟩ | ⟨rfl, rfl⟩ | ⟨rfl, rfl⟩)
  · exact h1.held (by decide)
  · exact h2.held (by decide)
  · exact h3.held (by decide)
def sp__law_word (K : PySem.W.Frag) (mg : Str → Option Value) (Pt : Addr) : Sp := fun vs H Q _ => ∃ f x w, vs = [.ref f, x] ∧ ((f = B.at_ mg "lies" ∧ NotFull K H x ∧ w = "wishes") ∨ ((f = B.at_ mg "reaches" ∨ f = B.at_ mg "rows_to") ∧ NoOrd K H x ∧ w = "order")) ∧ ∀ H', Ex H H' → Q (.str w) H'
theorem has__law_word {P : Program} {w : World} {K : PySem.W.Frag} {mg : Str → Option Value} {base : Heap} {Pt : Addr} (S : B.Stands K mg "_law_word" s__law_word) (N : Nms K mg) (h_lies : B.Has P w K mg base "lies" 7 ["wishes"] (sp_lies K mg Pt)) (h_reaches : B.Has P w K mg base "reaches" 3 ["order"] (sp_reaches K mg)) (h_rows_to : B.Has P w K mg base "rows_to" 4 ["order"] (sp_rows_to K mg)) : B.Has P w K mg base "_law_word" 8 ["_law_act", "_law_thing"] (sp__law_word K mg Pt) := by
  refine B.has_ofN S sc__law_word (fun _ _ _ _ _ _ us hl => match us, hl with | [_, _], _ => rfl) (fun vs H Q E h => ?_)
    (fun f cdv A outer s H vs Q E hr h => ⟨_, (pss_cons (ps_set (i := 2) sc__law_word.nd rfl (by first | exact Or.inl rfl | exact Or.inr rfl) pe_non)
    (pss_cons (B.ps_try_keep (i := 3) (j := 2) rfl rfl rfl sc__law_word.nd rfl rfl ⟨rfl, by decide, .inl N.m_BerthError⟩ takes0 (fun W pn xe tk _ => (pss_one (ps_expr (B.pe_callF (i := 0) (S := Acts K mg Pt) (E := WE W) (fam_acts h_lies h_reaches h_rows_to) hr (fun σ => passAt tk σ) (pa_cons (pv 1) pa_nil))))) (fun a oe pn => pss_one (ps_set (i := 2) sc__law_word.nd rfl (Or.inl rfl) (pv 3))))
    (pss_cons (ps_set (i := 4) sc__law_word.nd rfl (by first | exact Or.inl rfl | exact Or.inr rfl) (pe_lst (pa_cons (pe_callB (r := B.rIsiC K) B.call_isiC (by rfl) N.n_isinstance B.boot_isinstance (pa_cons (pv 2) (pa_cons (B.pe_cls N.m_NoCount) pa_nil))) (pa_cons (pe_callB (r := B.rIsiC K) B.call_isiC (by rfl) N.n_isinstance B.boot_isinstance (pa_cons (pv 2) (pa_cons (B.pe_cls N.m_NoTree) pa_nil))) (pa_cons (pe_callB (r := B.rIsiC K) B.call_isiC (by rfl) N.n_isinstance B.boot_isinstance (pa_cons (pv 2) (pa_cons (B.pe_cls N.m_NoQuay) pa_nil))) pa_nil)))))
    (pss_cons (ps_if (PW.pt (pw_or (pt_cmpR (r := rIn K false) op_in_seq pe_bl (pv 4) (by rfl)) (pw_or (pt_val (pe_callB (r := B.rIsiC K) B.call_isiC (by rfl) N.n_isinstance B.boot_isinstance (pa_cons (pv 2) (pa_cons (B.pe_cls N.m_TooMany) pa_nil)))) (pw_or1 (pt_cmp (pc_isN (pv 2))))))) (pss_one (ps_ret pe_str)) pss_nil)
    (pss_one (ps_ret (pe_op op_add_str (pe_ix (r := rIxL K) ix_list (pe_lst (pa_cons pe_str (pa_cons pe_str pa_nil))) (pe_callTy B.call_int1 (by rfl) N.n_int B.boot_int (pa_cons (pe_callB (r := B.rIsiC K) B.call_isiC (by rfl) N.n_isinstance B.boot_isinstance (pa_cons (pv 2) (pa_cons (B.pe_cls N.m_NoOrder) pa_nil))) pa_nil)) (fun _ _ => rfl)) (pe_ix (r := rIxL K) ix_list (pe_lst (pa_cons pe_str (pa_cons pe_str pa_nil))) (pe_callTy B.call_int1 (by rfl) N.n_int B.boot_int (pa_cons (pe_callB (r := B.rIsiC K) B.call_isiC (by rfl) N.n_isinstance B.boot_isinstance (pa_cons (pv 2) (pa_cons (B.pe_cls N.m_NoWishes) pa_nil))) pa_nil)) (fun _ _ => rfl))))))))), ?_⟩)
  · obtain ⟨f, x, w, rfl, _⟩ := h
    rfl
  · obtain ⟨f, x, w, rfl, hf, q⟩ := h
    walk_at "go"
    have act : ∀ {Q' : VK} {E' : XK}, (∀ D, (D = "NoWishes" ∧ w = "wishes") ∨ (D = "NoOrder" ∧ w = "order") → Bad mg D H E') → ∃ sp, Acts K mg Pt f sp ∧ sp [x] H Q' E' := fun {Q' E'} bad => by
      rcases hf with ⟨hf, nf, hw⟩ | ⟨hf | hf, no, hw⟩
      · exact ⟨_, .inl ⟨hf, rfl⟩, x, rfl, .inl ⟨nf, bad _ (.inl ⟨rfl, hw⟩)⟩⟩
      · exact ⟨_, .inr (.inl ⟨hf, rfl⟩), x, rfl, .inl ⟨no, bad _ (.inr ⟨rfl, hw⟩)⟩⟩
      · exact ⟨_, .inr (.inr ⟨hf, rfl⟩), x, rfl, .inl ⟨no, bad _ (.inr ⟨rfl, hw⟩)⟩⟩
    refine x_callF1 (f := f) (x := x) rfl rfl (act fun D hD C H1 hC e1 => ?_)
    obtain rfl : B.at_ mg D = C := at_of hC
    rcases hD with ⟨rfl, rfl⟩ | ⟨rfl, rfl⟩
    · refine x_kept N.e_NoWishes fun a H2 a0 e2 ha2 => ?_
      have hF : ∀ D0, some (B.at_ mg "NoWishes") = some D0 → ExcC K D0 := fun D0 z => by cases z; exact N.k_NoWishes
      have cau : ∀ H', Ex H2 H' → Caught K H' (.ref a) (some (B.at_ mg "NoWishes")) := fun H' e => .yes (e _ _ ha2)
      walk_at "go"
      refine x_isiC (.own _) (cau _ (Evl.Ex.refl _)) hF N.i_NoWishes_NoCount ?_
      walk_at "go"
      refine x_isiC (.own _) (cau _ (Evl.Ex.refl _)) hF N.i_NoWishes_NoTree ?_
      walk_at "go"
      refine x_isiC (.own _) (cau _ (Evl.Ex.refl _)) hF N.i_NoWishes_NoQuay ?_
      walk_at "go"
      refine x_mkL (by simp) fun l H3 _ e3 h3 => ?_
      walk_at "go"
      refine x_inL (Evl.sq_of h3) rfl (b := false) rfl rfl ?_
      walk_at "go"
      refine x_isiC (.own _) (cau _ e3) hF N.i_NoWishes_TooMany ?_
      walk_at "go"
      rw [decide_eq_false (show ¬ V.ref a = V.non from nofun)]
      walk_at "go"
      refine x_mkL (by simp) fun l4 H4 _ e4 h4 => ?_
      walk_at "go"
      refine x_isiC (.own _) (cau _ (e3.trans e4)) hF N.i_NoWishes_NoOrder ?_
      walk_at "go"
      refine x_intB ?_
      refine x_ixL (v := .str "") (by walk_at "hx") rfl ?_
      walk_at "go"
      refine x_mkL (by simp) fun l5 H5 _ e5 h5 => ?_
      walk_at "go"
      refine x_isiC (.own _) (cau _ (e3.trans (e4.trans e5))) hF N.i_NoWishes_NoWishes ?_
      walk_at "go"
      refine x_intB ?_
      refine x_ixL (v := .str "wishes") (by walk_at "hx") rfl ?_
      refine ⟨_, _, rfl, rfl, by decide, ?_⟩
      exact q H5 (e1.trans (e2.trans (e3.trans (e4.trans e5))))
    · refine x_kept N.e_NoOrder fun a H2 a0 e2 ha2 => ?_
      have hF : ∀ D0, some (B.at_ mg "NoOrder") = some D0 → ExcC K D0 := fun D0 z => by cases z; exact N.k_NoOrder
      have cau : ∀ H', Ex H2 H' → Caught K H' (.ref a) (some (B.at_ mg "NoOrder")) := fun H' e => .yes (e _ _ ha2)
      walk_at "go"
      refine x_isiC (.own _) (cau _ (Evl.Ex.refl _)) hF N.i_NoOrder_NoCount ?_
      walk_at "go"
      refine x_isiC (.own _) (cau _ (Evl.Ex.refl _)) hF N.i_NoOrder_NoTree ?_
      walk_at "go"
      refine x_isiC (.own _) (cau _ (Evl.Ex.refl _)) hF N.i_NoOrder_NoQuay ?_
      walk_at "go"
      refine x_mkL (by simp) fun l H3 _ e3 h3 => ?_
      walk_at "go"
      refine x_inL (Evl.sq_of h3) rfl (b := false) rfl rfl ?_
      walk_at "go"
      refine x_isiC (.own _) (cau _ e3) hF N.i_NoOrder_TooMany ?_
      walk_at "go"
      rw [decide_eq_false (show ¬ V.ref a = V.non from nofun)]
      walk_at "go"
      refine x_mkL (by simp) fun l4 H4 _ e4 h4 => ?_
      walk_at "go"
      refine x_isiC (.own _) (cau _ (e3.trans e4)) hF N.i_NoOrder_NoOrder ?_
      walk_at "go"
      refine x_intB ?_
      refine x_ixL (v := .str "order") (by walk_at "hx") rfl ?_
      walk_at "go"
      refine x_mkL (by simp) fun l5 H5 _ e5 h5 => ?_
      walk_at "go"
      refine x_isiC (.own _) (cau _ (e3.trans (e4.trans e5))) hF N.i_NoOrder_NoWishes ?_
      walk_at "go"
      refine x_intB ?_
      refine x_ixL (v := .str "") (by walk_at "hx") rfl ?_
      refine ⟨_, _, rfl, rfl, by decide, ?_⟩
      exact q H5 (e1.trans (e2.trans (e3.trans (e4.trans e5))))
def sp__law_whole (K : PySem.W.Frag) : Sp := fun vs H Q _ => ∃ x s, vs = [x] ∧ Kind K H x s ∧ Q (.bl (s.isA "int" && !s.isA "bool")) H
theorem has__law_whole {P : Program} {w : World} {K : PySem.W.Frag} {mg : Str → Option Value} {base : Heap}  (S : B.Stands K mg "_law_whole" s__law_whole) (N : Nms K mg)  : B.Has P w K mg base "_law_whole" 1 ["_law_found"] (sp__law_whole K) := by
  refine B.has_ofN S sc__law_whole (fun _ _ _ _ _ _ us hl => match us, hl with | [_], _ => rfl) (fun vs H Q E h => ?_)
    (fun f cdv A outer s H vs Q E hr h => ⟨_, (pss_one (ps_ret (pe_and (pe_callB (r := rIsi K) call_isi (by rfl) N.n_isinstance B.boot_isinstance (pa_cons (pv 0) (pa_cons (pe_bltn (v := .ty "int") (by rfl) N.n_int B.boot_int rfl) pa_nil))) (pe_one (pe_not (pe_callB (r := rIsi K) call_isi (by rfl) N.n_isinstance B.boot_isinstance (pa_cons (pv 0) (pa_cons (pe_bltn (v := .ty "bool") (by rfl) N.n_bool B.boot_bool rfl) pa_nil)))))))), ?_⟩)
  · obtain ⟨x, s, rfl, _⟩ := h
    rfl
  · obtain ⟨x, s, rfl, k, q⟩ := h
    walk_at "go"
    refine x_isi_int k ?_
    walk_at "go"
    refine x_b (fun e => ?_) (fun e => ?_)
    · walk_at "go"
      refine x_isi_bool k ?_
      walk_at "go"
      rw [e] at q
      exact q
    · rw [e] at q
      exact q


/-- what stood still stands, but for four -/
def KeptBut (a b c d : Addr) (H H' : Hp) : Prop := ∀ z o, H z = some o → z ≠ a → z ≠ b → z ≠ c → z ≠ d → H' z = some o
theorem KeptBut.upd {a b c d l : Addr} {o : HO} {H H' H2 : Hp} (k : KeptBut a b c d H H') (u : Upd H' l o H2) (hl : l = a ∨ l = b ∨ l = c ∨ l = d) : KeptBut a b c d H H2 := fun z x hz h1 h2 h3 h4 => u.get (by rcases hl with rfl | rfl | rfl | rfl <;> assumption) (k z x hz h1 h2 h3 h4)
theorem KeptBut.ex {a b c d : Addr} {H H' H2 : Hp} (k : KeptBut a b c d H H') (e : Ex H' H2) : KeptBut a b c d H H2 := fun z x hz h1 h2 h3 h4 => e _ _ (k z x hz h1 h2 h3 h4)
theorem row_ok {p L : List Int} (hp : Ord p) (e : L.length = p.length) (h : ∀ (i : Nat) w, L[i]? = some w → lowOf p i ≤ w ∧ w ≤ highOf p i) : (∀ w ∈ L, 1 ≤ w ∧ w ≤ (L.length : Nat)) ∧ Good (L.length : Nat) L ∧ place (L.length : Nat) L = (irange 0 p.length).map fun s => some (highOf p s) := by
  have pl := place_order_all hp e h
  rw [← e] at pl
  have hin : ∀ w ∈ L, 1 ≤ w ∧ w ≤ (L.length : Nat) := fun w hw => by
    obtain ⟨i, hi⟩ := List.getElem?_of_mem hw
    have h1 := h i w hi
    have hl := (List.getElem?_eq_some_iff.mp hi).1
    have h2 := high_le ((ord_mem hp).mpr (show 0 ≤ ((i : Nat) : Int) ∧ ((i : Nat) : Int) < (p.length : Int) by omega))
    have h3 := (low_le p (i : Nat)).1
    omega
  rw [← e]
  refine ⟨hin, good_of_lie hin fun o ho => ?_, pl⟩
  rw [pl] at ho
  obtain ⟨s, _, rfl⟩ := List.mem_map.mp ho
  nofun
theorem lows_at {p : List Int} {k : Nat} (f : Int → Int) (i : Nat) (w : Int) (h : ((irange 0 (k : Nat)).map f)[i]? = some w) : w = f i := by
  rw [List.getElem?_map] at h
  unfold irange at h
  rw [List.getElem?_map] at h
  by_cases hi : i < k
  · rw [List.getElem?_range (by omega)] at h
    have := Option.some.inj h
    rw [← this]
    show f (0 + (i : Int)) = f i
    rw [Int.zero_add]
  · rw [List.getElem?_eq_none (by rw [List.length_range]; omega)] at h
    cases h
def sp__law_right (K : PySem.W.Frag) (Pt : Addr) : Sp := fun vs H Q _ => ∃ (st o : Addr) (s : Int) (p : List Int) (H0 : Hp), vs = [.ref st, .ref o] ∧ Grown (TT Pt) H0 H ∧ (∃ Hk, ExtN H0 Hk ∧ Hk st = none) ∧ H st = some (.lst [.int s]) ∧ 0 ≤ s ∧ s < 2147483648 ∧ H o = some (.lst (p.map V.int)) ∧ st ≠ o ∧ Ord p ∧ 1 ≤ p.length ∧ p.length ≤ 400 ∧ ∀ H', Grown (TT Pt) H0 H' → Q (.bl true) H'
theorem has__law_right {P : Program} {w : World} {K : PySem.W.Frag} {mg : Str → Option Value} {base : Heap} {Pt : Addr} (S : B.Stands K mg "_law_right" s__law_right) (N : Nms K mg) (h_reaches : B.Has P w K mg base "reaches" 3 ["order"] (sp_reaches K mg)) (h_rows_to : B.Has P w K mg base "rows_to" 4 ["order"] (sp_rows_to K mg)) (h__law_mix : B.Has P w K mg base "_law_mix" 1 ["_law_state", "_law_cell"] (sp__law_mix K)) (h_lies : B.Has P w K mg base "lies" 7 ["wishes"] (sp_lies K mg Pt)) (h__law_whole : B.Has P w K mg base "_law_whole" 1 ["_law_found"] (sp__law_whole K)) (h_is_good : B.Has P w K mg base "is_good" 5 ["berths", "wishes"] (sp_is_good K mg)) : B.Has P w K mg base "_law_right" 8 ["_law_state", "_law_order_here"] (sp__law_right K Pt) := by
  refine B.has_ofN S sc__law_right (fun _ _ _ _ _ _ us hl => match us, hl with | [_, _], _ => rfl) (fun vs H Q E h => ?_)
    (fun f cdv A outer s H vs Q E hr h => ⟨_, (pss_cons (ps_set (i := 2) sc__law_right.nd rfl (by first | exact Or.inl rfl | exact Or.inr rfl) (B.pe_has h_reaches hr B.passL (pa_cons (pe_callTy (r := B.rListOf K) B.call_listOf (by rfl) N.n_list B.boot_list (pa_cons (pv 1) pa_nil)) pa_nil)))
    (pss_cons (ps_if (PW.pt (pw_or (pt_not (pt_val (pe_callB (r := rIsi K) call_isi (by rfl) N.n_isinstance B.boot_isinstance (pa_cons (pv 2) (pa_cons (pe_bltn (v := .ty "list") (by rfl) N.n_list B.boot_list rfl) pa_nil))))) (pw_or1 (pt_cmpR op_ne (pe_callB (r := B.rLen K) B.call_len (by rfl) N.n_len PySem.boot_len (pa_cons (pv 2) pa_nil)) (pe_callB (r := B.rLen K) B.call_len (by rfl) N.n_len PySem.boot_len (pa_cons (pv 1) pa_nil)) (nomark _))))) (pss_one (ps_ret pe_bl)) pss_nil)
    (pss_cons (ps_set (i := 3) sc__law_right.nd rfl (by first | exact Or.inl rfl | exact Or.inr rfl) (pe_lst (pa_cons (pe_lst pa_nil) (pa_cons (pe_lst pa_nil) (pa_cons (pe_lst pa_nil) pa_nil)))))
    (pss_cons (ps_set (i := 4) sc__law_right.nd rfl (by first | exact Or.inl rfl | exact Or.inr rfl) pe_int)
    (pss_cons (ps_for PassesOwn.never rfl (pi_range1 rfl N.n_range (pa_cons (pe_callB (r := B.rLen K) B.call_len (by rfl) N.n_len PySem.boot_len (pa_cons (pv 1) pa_nil)) pa_nil)) (pg_name (i := 5) sc__law_right.nd rfl (by first | exact Or.inl rfl | exact Or.inr rfl)) (pss_cons (ps_asg (pe_ix (r := rIxL K) ix_list (pv 2) (pv 5) (fun _ _ => rfl)) (pg_tup rfl (pgs_cons (pg_name (i := 6) sc__law_right.nd rfl (by first | exact Or.inl rfl | exact Or.inr rfl)) (pgs_cons (pg_name (i := 7) sc__law_right.nd rfl (by first | exact Or.inl rfl | exact Or.inr rfl)) pgs_nil))))
    (pss_cons (ps_if (PW.pt (pw_or (pt_not (pt_val (pe_callB (r := rIsi K) call_isi (by rfl) N.n_isinstance B.boot_isinstance (pa_cons (pe_ix (r := rIxL K) ix_list (pv 2) (pv 5) (fun _ _ => rfl)) (pa_cons (pe_bltn (v := .ty "tuple") (by rfl) N.n_tuple B.boot_tuple rfl) pa_nil))))) (pw_or (pt_not (pt_chain op_le op_le pe_int (pv 6) (pv 7))) (pw_or1 (pt_cmpR op_ne (pv 7) (pe_op op_add (pe_bm PySem.F.plainAttrs_list PySem.F.slot_list_index PySem.F.type_list_index mt_index (pv 1) (pa_cons (pv 5) pa_nil)) pe_int) (nomark _)))))) (pss_one (ps_ret pe_bl)) pss_nil)
    (pss_cons (ps_set (i := 4) sc__law_right.nd rfl (by first | exact Or.inl rfl | exact Or.inr rfl) (pe_op op_mul (pv 4) (pe_op op_sub (pe_op op_add (pv 7) pe_int) (pv 6))))
    (pss_cons (ps_expr (pe_bm PySem.F.plainAttrs_list PySem.F.slot_list_append PySem.F.type_list_append mt_append (pe_ix (r := rIxL K) ix_list (pv 3) pe_int (fun _ _ => rfl)) (pa_cons (pv 6) pa_nil)))
    (pss_cons (ps_expr (pe_bm PySem.F.plainAttrs_list PySem.F.slot_list_append PySem.F.type_list_append mt_append (pe_ix (r := rIxL K) ix_list (pv 3) pe_int (fun _ _ => rfl)) (pa_cons (pv 7) pa_nil)))
    (pss_one (ps_expr (pe_bm PySem.F.plainAttrs_list PySem.F.slot_list_append PySem.F.type_list_append mt_append (pe_ix (r := rIxL K) ix_list (pv 3) pe_int (fun _ _ => rfl)) (pa_cons (pe_op op_add (pv 6) (pe_op op_mod (B.pe_has h__law_mix hr B.passL (pa_cons (pv 0) (pa_cons (pv 5) pa_nil))) (pe_op op_sub (pe_op op_add (pv 7) pe_int) (pv 6)))) pa_nil))))))))))
    (pss_cons (ps_for PassesOwn.never rfl (pi_list (pv 3)) (pg_name (i := 8) sc__law_right.nd rfl (by first | exact Or.inl rfl | exact Or.inr rfl)) (pss_one (ps_if (pt_cmpR (r := rNeD K) (op_neD hr.units) (B.pe_has h_lies hr B.passL (pa_cons (pv 8) pa_nil)) (pe_callTy (r := B.rTupOf K) B.call_tupOf (by rfl) N.n_tuple B.boot_tuple (pa_cons (pv 1) pa_nil)) (nomark _)) (pss_one (ps_ret pe_bl)) pss_nil)))
    (pss_cons (ps_set (i := 9) sc__law_right.nd rfl (by first | exact Or.inl rfl | exact Or.inr rfl) (B.pe_has h_rows_to hr B.passL (pa_cons (pe_callTy (r := B.rTupOf K) B.call_tupOf (by rfl) N.n_tuple B.boot_tuple (pa_cons (pv 1) pa_nil)) pa_nil)))
    (pss_cons (ps_if (PW.pt (pw_or (pt_not (pt_val (B.pe_has h__law_whole hr B.passL (pa_cons (pv 9) pa_nil)))) (pw_or1 (pt_cmpR op_ne (pv 9) (pv 4) (nomark _))))) (pss_one (ps_ret pe_bl)) pss_nil)
    (pss_cons (ps_set (i := 10) sc__law_right.nd rfl (by first | exact Or.inl rfl | exact Or.inr rfl) (pe_op op_mod (B.pe_has h__law_mix hr B.passL (pa_cons (pv 0) (pa_cons pe_int pa_nil))) (pe_callB (r := B.rLen K) B.call_len (by rfl) N.n_len PySem.boot_len (pa_cons (pv 1) pa_nil))))
    (pss_cons (ps_for PassesOwn.never rfl (pi_list (pe_lst (pa_cons (pe_op op_sub (pe_ix (r := rIxT K) ix_tup (pe_ix (r := rIxL K) ix_list (pv 2) (pv 10) (fun _ _ => rfl)) pe_int (fun _ _ => rfl)) pe_int) (pa_cons (pe_op op_add (pe_ix (r := rIxT K) ix_tup (pe_ix (r := rIxL K) ix_list (pv 2) (pv 10) (fun _ _ => rfl)) pe_int (fun _ _ => rfl)) pe_int) pa_nil)))) (pg_name (i := 11) sc__law_right.nd rfl (by first | exact Or.inl rfl | exact Or.inr rfl)) (pss_cons (ps_set (i := 12) sc__law_right.nd rfl (by first | exact Or.inl rfl | exact Or.inr rfl) (pe_op op_cat (pe_op op_cat (pe_slice (r := rSlL K) sl_list (pe_ix (r := rIxL K) ix_list (pv 3) pe_int (fun _ _ => rfl)) po_none (po_some (pv 10))) (pe_lst (pa_cons (pv 11) pa_nil))) (pe_slice (r := rSlL K) sl_list (pe_ix (r := rIxL K) ix_list (pv 3) pe_int (fun _ _ => rfl)) (po_some (pe_op op_add (pv 10) pe_int)) po_none)))
    (pss_one (ps_if (PW.pt (pw_and (pt_chain op_le op_le pe_int (pv 11) (pe_callB (r := B.rLen K) B.call_len (by rfl) N.n_len PySem.boot_len (pa_cons (pv 1) pa_nil))) (pw_and (pt_val (B.pe_has h_is_good hr B.passL (pa_cons (pe_callB (r := B.rLen K) B.call_len (by rfl) N.n_len PySem.boot_len (pa_cons (pv 1) pa_nil)) (pa_cons (pv 12) pa_nil)))) (pw_and1 (pt_cmpR (r := rEqD K) (op_eqD hr.units) (B.pe_has h_lies hr B.passL (pa_cons (pv 12) pa_nil)) (pe_callTy (r := B.rTupOf K) B.call_tupOf (by rfl) N.n_tuple B.boot_tuple (pa_cons (pv 1) pa_nil)) (nomark _)))))) (pss_one (ps_ret pe_bl)) pss_nil))))
    (pss_one (ps_ret pe_bl)))))))))))), ?_⟩)
  · obtain ⟨st, o, s, p, H0, rfl, _⟩ := h
    rfl
  · obtain ⟨st, o, s, p, H0, rfl, g0, stn, hst, s0, s1, ho, sto, hp, l1, l2, q⟩ := h
    walk_at "go"
    refine x_listOf (.inl (Evl.sq_of ho)) fun c H1 c0 e1 hc => ?_
    walk_at "go"
    refine ⟨.ref c, rfl, .inr ⟨p, ⟨c, rfl, .inl (Evl.sq_of hc), l1, l2, hp⟩, fun d H2 rs rl hrs d0 e2 hd => ?_⟩⟩
    walk_at "go"
    refine x_isi_list (.lst (Evl.sq_of hd)) ?_
    rw [show KS.isA KS.lst "list" = true from rfl]
    walk_at "go"
    have ho2 : H2 o = some (.lst (p.map V.int)) := e2 _ _ (e1 _ _ ho)
    have hst2 : H2 st = some (.lst [.int s]) := e2 _ _ (e1 _ _ hst)
    rw [List.length_map, List.length_map, rl]
    walk_at "go"
    refine x_decN (fun z => absurd rfl z) fun _ => ?_
    walk_at "go"
    refine x_mkL (by simp) fun r0 H3 r00 e3 h3 => ?_
    walk_at "go"
    refine x_mkL (by simp) fun r1 H4 r10 e4 h4 => ?_
    walk_at "go"
    refine x_mkL (by simp) fun r2 H5 r20 e5 h5 => ?_
    walk_at "go"
    refine x_mkL (by simp) fun rw_ H6 rw0 e6 h6 => ?_
    walk_at "go"
    rw [List.length_map]
    refine x_rng1 ⟨by omega, by omega⟩ ?_
    have ex6 : Ex H H6 := e1.trans (e2.trans (e3.trans (e4.trans (e5.trans e6))))
    have ex26 : Ex H2 H6 := e3.trans (e4.trans (e5.trans e6))
    have g6 : Grown (TT Pt) H0 H6 := g0.ex ex6
    have stS : H st ≠ none := by rw [hst]; nofun
    have hr0 : H6 r0 = some (.lst []) := e6 _ _ (e5 _ _ (e4 _ _ h3))
    have hr1 : H6 r1 = some (.lst []) := e6 _ _ (e5 _ _ h4)
    have hr2 : H6 r2 = some (.lst []) := e6 _ _ h5
    have n0 : H2 r0 = none := r00
    have n1 : H2 r1 = none := exn e3 r10
    have n2 : H2 r2 = none := exn (e3.trans e4) r20
    have r01 : r0 ≠ r1 := ne_of_none h3 r10
    have r02 : r0 ≠ r2 := ne_of_none (e4 _ _ h3) r20
    have r12 : r1 ≠ r2 := ne_of_none h4 r20
    have st_r0 : st ≠ r0 := ne_of_none hst2 n0
    have st_r1 : st ≠ r1 := ne_of_none hst2 n1
    have st_r2 : st ≠ r2 := ne_of_none hst2 n2
    have f0 : ∃ Hk, ExtN H0 Hk ∧ Hk r0 = none := ⟨_, (g0.ex (e1.trans e2)).1, n0⟩
    have f1 : ∃ Hk, ExtN H0 Hk ∧ Hk r1 = none := ⟨_, (g0.ex (e1.trans e2)).1, n1⟩
    have f2 : ∃ Hk, ExtN H0 Hk ∧ Hk r2 = none := ⟨_, (g0.ex (e1.trans e2)).1, n2⟩
    refine x_forR (fun k σ' H' => (∃ z5 z6 z7, σ' = [some (.ref st), some (.ref o), some (.ref d), some (.ref rw_), some (.int (waysTo p k)), z5, z6, z7, none, none, none, none, none]) ∧ Grown (TT Pt) H0 H' ∧ KeptBut st r0 r1 r2 H6 H' ∧ (∃ s, H' st = some (.lst [.int s]) ∧ 0 ≤ s ∧ s < 2147483648) ∧
        H' r0 = some (.lst (((irange 0 (k : Nat)).map (lowOf p)).map V.int)) ∧ H' r1 = some (.lst (((irange 0 (k : Nat)).map (highOf p)).map V.int)) ∧ ∃ ws : List Int, H' r2 = some (.lst (ws.map V.int)) ∧ ws.length = k ∧ ∀ (i : Nat) w, ws[i]? = some w → lowOf p i ≤ w ∧ w ≤ highOf p i)
      ⟨⟨_, _, _, rfl⟩, g6, fun z x h _ _ _ _ => h, ⟨s, ex26 _ _ hst2, s0, s1⟩, hr0, hr1, [], hr2, rfl, fun i w h => by simp at h⟩ (fun k σ' H' hk pp => ?_) (fun σ' H' pp => ?_)
    · obtain ⟨⟨z5, z6, z7, rfl⟩, g, kp, ⟨s', hst', s0', s1'⟩, hl0, hl1, ws, hl2, wl, hws⟩ := pp
      have kn : k < p.length := by omega
      have km : (k : Int) ∈ p := (ord_mem hp).mpr (by omega)
      have b1 := high_le km
      have b2 := low_le p (k : Nat)
      obtain ⟨r, hr⟩ : ∃ r, rs[k]? = some r := ⟨_, List.getElem?_eq_getElem (by omega)⟩
      have htup := hrs k r hr
      have dR : d ≠ st ∧ d ≠ r0 ∧ d ≠ r1 ∧ d ≠ r2 := ⟨Ne.symm (ne_of_none (e1 _ _ hst) (by exact d0)), ne_of_none hd n0, ne_of_none hd n1, ne_of_none hd n2⟩
      have rR : r ≠ st ∧ r ≠ r0 ∧ r ≠ r1 ∧ r ≠ r2 := ⟨(fun z => by rw [z, hst2] at htup; cases htup), ne_of_none htup n0, ne_of_none htup n1, ne_of_none htup n2⟩
      have oR : o ≠ st ∧ o ≠ r0 ∧ o ≠ r1 ∧ o ≠ r2 := ⟨Ne.symm sto, ne_of_none ho2 n0, ne_of_none ho2 n1, ne_of_none ho2 n2⟩
      have wR : rw_ ≠ st ∧ rw_ ≠ r0 ∧ rw_ ≠ r1 ∧ rw_ ≠ r2 := ⟨Ne.symm (ne_of_none ((e3.trans (e4.trans e5)) _ _ hst2) rw0), Ne.symm (ne_of_none (e5 _ _ (e4 _ _ h3)) rw0), Ne.symm (ne_of_none (e5 _ _ h4) rw0), Ne.symm (ne_of_none h5 rw0)⟩
      have hd' : H' d = some (.lst (rs.map V.ref)) := kp _ _ (ex26 _ _ hd) dR.1 dR.2.1 dR.2.2.1 dR.2.2.2
      have hr' : H' r = some (.tup [.int (lowOf p (k : Nat)), .int (highOf p (k : Nat))]) := kp _ _ (ex26 _ _ htup) rR.1 rR.2.1 rR.2.2.1 rR.2.2.2
      have ho' : H' o = some (.lst (p.map V.int)) := kp _ _ (ex26 _ _ ho2) oR.1 oR.2.1 oR.2.2.1 oR.2.2.2
      have hw' : H' rw_ = some (.lst [.ref r0, .ref r1, .ref r2]) := kp _ _ h6 wR.1 wR.2.1 wR.2.2.1 wR.2.2.2
      walk_at "go"
      rw [Int.zero_add]
      refine x_ixL (v := .ref r) (Evl.sq_of hd') (atI_nat (by rw [List.getElem?_map, hr]; rfl)) ?_
      refine x_gTup2 (Evl.st_of hr') ?_
      walk_at "go"
      refine x_ixL (v := .ref r) (Evl.sq_of hd') (atI_nat (by rw [List.getElem?_map, hr]; rfl)) ?_
      walk_at "go"
      refine x_isi_tuple (.tup (Evl.st_of hr')) ?_
      rw [show KS.isA KS.tup "tuple" = true from rfl]
      walk_at "go"
      rw [decide_eq_true b2.1]
      walk_at "go"
      rw [decide_eq_true b2.2]
      walk_at "go"
      refine ⟨o, p.map V.int, .int (k : Nat), p.idxOf (k : Int), .int (k : Nat), rfl, rfl, Evl.sq_of ho', rfl, by simp [flatV], by rw [List.getElem?_map, idx_at km]; rfl, by simp [eqV], fun m z' hm hz' => ?_, ?_⟩
      · rw [List.getElem?_map] at hz'
        cases e : p[m]? with
        | none => rw [e] at hz'; cases hz'
        | some y =>
          rw [e] at hz'
          obtain rfl : V.int y = z' := Option.some.inj hz'
          have := at_idx (ord_nodup hp) e
          have ne : y ≠ (k : Int) := fun z => by rw [z] at this; omega
          simp [eqV, ne]
      walk_at "go"
      refine x_decN (fun z => absurd (show V.int (highOf p (k : Nat)) = _ from rfl) z) fun _ => ?_
      walk_at "go"
      refine x_rI (.inr (by omega)) ?_
      walk_at "go"
      refine x_ixL (v := .ref r0) (Evl.sq_of hw') rfl ?_
      walk_at "go"
      have kl : (irange 0 (k : Nat)).length ≤ 400 := by rw [irange_len]; omega
      refine x_append hl0 (by rw [List.length_map, List.length_map]; omega) fun H7 u7 => ?_
      have hw7 := u7.get wR.2.1 hw'
      have hl17 := u7.get (Ne.symm r01) hl1
      have hl27 := u7.get (Ne.symm r02) hl2
      have hst7 := u7.get st_r0 hst'
      have hl07 := u7.same
      walk_at "go"
      refine x_ixL (v := .ref r1) (Evl.sq_of hw7) rfl ?_
      walk_at "go"
      refine x_append hl17 (by rw [List.length_map, List.length_map]; omega) fun H8 u8 => ?_
      have hw8 := u8.get wR.2.2.1 hw7
      have hl08 := u8.get r01 hl07
      have hl18 := u8.same
      have hl28 := u8.get (Ne.symm r12) hl27
      have hst8 := u8.get st_r1 hst7
      walk_at "go"
      refine x_ixL (v := .ref r2) (Evl.sq_of hw8) rfl ?_
      walk_at "go"
      refine ⟨st, s', k, rfl, hst8, s0', s1', fun t s'' H9 t0 t1 s0'' s1'' u9 => ?_⟩
      have hl09 := u9.get (Ne.symm st_r0) hl08
      have hl19 := u9.get (Ne.symm st_r1) hl18
      have hl29 := u9.get (Ne.symm st_r2) hl28
      have hst9 := u9.same
      walk_at "go"
      refine x_mod (by omega) fun w w0 w1 _ => ?_
      walk_at "go"
      refine x_append hl29 (by rw [List.length_map]; omega) fun H10 u10 => ?_
      have hl010 := u10.get r02 hl09
      have hl110 := u10.get r12 hl19
      have hst10 := u10.get st_r2 hst9
      have hl210 := u10.same
      walk_at "go"
      refine ⟨⟨_, _, _, by rw [waysTo_succ]; rfl⟩, ?_, ?_, ⟨s'', hst10, s0'', s1''⟩, ?_, ?_, ws ++ [lowOf p (k : Nat) + w], ?_, ?_, fun i w' hi => ?_⟩
      · exact ⟨B.ExtN.upd (B.ExtN.upd (B.ExtN.upd (B.ExtN.upd g.1 u7 f0) u8 f1) u9 stn) u10 f2, B.Tabs.updL (B.Tabs.updL (B.Tabs.updL (B.Tabs.updL g.2 u7 hl0) u8 hl17) u9 hst8) u10 hl29⟩
      · exact (((kp.upd u7 (by simp)).upd u8 (by simp)).upd u9 (by simp)).upd u10 (by simp)
      · rw [irange_snoc, List.map_append, List.map_append]
        exact hl010
      · rw [irange_snoc, List.map_append, List.map_append]
        exact hl110
      · rw [List.map_append]
        exact hl210
      · rw [List.length_append, List.length_singleton, wl]
      · by_cases h : i < ws.length
        · rw [List.getElem?_append_left h] at hi
          exact hws i w' hi
        · have h2 := (List.getElem?_eq_some_iff.mp hi).1
          rw [List.length_append, List.length_singleton] at h2
          have h3 : i = ws.length := by omega
          rw [h3, List.getElem?_append_right (Nat.le_refl _), Nat.sub_self] at hi
          obtain rfl := Option.some.inj hi
          rw [h3, wl]
          omega
    · obtain ⟨⟨z5, z6, z7, rfl⟩, g, kp, ⟨s', hst', s0', s1'⟩, hl0, hl1, ws, hl2, wl, hws⟩ := pp
      rw [show ((p.length : Nat) : Int).toNat = p.length from by omega] at hl0 hl1 wl
      have oR : o ≠ st ∧ o ≠ r0 ∧ o ≠ r1 ∧ o ≠ r2 := ⟨Ne.symm sto, ne_of_none ho2 n0, ne_of_none ho2 n1, ne_of_none ho2 n2⟩
      have wR : rw_ ≠ st ∧ rw_ ≠ r0 ∧ rw_ ≠ r1 ∧ rw_ ≠ r2 := ⟨Ne.symm (ne_of_none ((e3.trans (e4.trans e5)) _ _ hst2) rw0), Ne.symm (ne_of_none (e5 _ _ (e4 _ _ h3)) rw0), Ne.symm (ne_of_none (e5 _ _ h4) rw0), Ne.symm (ne_of_none h5 rw0)⟩
      have dR : d ≠ st ∧ d ≠ r0 ∧ d ≠ r1 ∧ d ≠ r2 := ⟨Ne.symm (ne_of_none (e1 _ _ hst) (by exact d0)), ne_of_none hd n0, ne_of_none hd n1, ne_of_none hd n2⟩
      have hd' : H' d = some (.lst (rs.map V.ref)) := kp _ _ (ex26 _ _ hd) dR.1 dR.2.1 dR.2.2.1 dR.2.2.2
      have ho' : H' o = some (.lst (p.map V.int)) := kp _ _ (ex26 _ _ ho2) oR.1 oR.2.1 oR.2.2.1 oR.2.2.2
      have hw' : H' rw_ = some (.lst [.ref r0, .ref r1, .ref r2]) := kp _ _ h6 wR.1 wR.2.1 wR.2.2.1 wR.2.2.2
      have rows : ∀ x ∈ [r0, r1, r2], ∃ L : List Int, H' x = some (.lst (L.map V.int)) ∧ L.length = p.length ∧ ∀ (i : Nat) w, L[i]? = some w → lowOf p i ≤ w ∧ w ≤ highOf p i := fun x hx => by
        simp only [List.mem_cons, List.not_mem_nil, or_false] at hx
        rcases hx with rfl | rfl | rfl
        · refine ⟨_, hl0, by rw [List.length_map, irange_len]; omega, fun i w h => ?_⟩
          rw [lows_at (p := p) _ i w h]
          exact ⟨by omega, (low_le p i).2⟩
        · refine ⟨_, hl1, by rw [List.length_map, irange_len]; omega, fun i w h => ?_⟩
          rw [lows_at (p := p) _ i w h]
          exact ⟨(low_le p i).2, by omega⟩
        · exact ⟨ws, hl2, wl, hws⟩
      walk_at "go"
      refine x_forL [r0, r1, r2] V.ref (fun _ σ'' H'' => (∃ y, σ'' = [some (.ref st), some (.ref o), some (.ref d), some (.ref rw_), some (.int (waysTo p p.length)), z5, z6, z7, y, none, none, none, none]) ∧ Grown (TT Pt) H' H'')
        ⟨⟨_, by rw [show ((p.length : Nat) : Int).toNat = p.length from by omega]⟩, .refl g.2⟩ (fun pre σ'' H'' _ pp => Evl.sq_of (pp.2.1 _ _ hw' nofun)) (fun pre x post σ'' H'' ea pp => ?_) (fun σ'' H'' pp => ?_)
      · obtain ⟨⟨y, rfl⟩, gg⟩ := pp
        obtain ⟨L, hL, Ll, hin⟩ := rows x (by rw [ea]; simp)
        obtain ⟨rin, rgood, rpl⟩ := row_ok hp Ll hin
        walk_at "go"
        refine ⟨.ref x, rfl, .inr ⟨L, ⟨x, rfl, .inl (Evl.sq_of (gg.1 _ _ hL nofun)), by omega, by omega, rin, rgood⟩, gg.2, fun t H7 ms perm srt eN tb7 ht => ?_⟩⟩
        rw [Ll] at perm srt rpl
        obtain rfl : ms = p := lies_order hp rpl perm srt
        have g7 := gg.trans ⟨eN, tb7⟩
        walk_at "go"
        refine x_tupOf (Evl.sq_of (g7.1 _ _ ho' nofun)) fun t2 H8 t20 e8 ht2 => ?_
        refine x_neT (Evl.ex_t e8 ht) (Evl.st_of ht2) (plain_ints _) (plain_ints _) ?_
        walk_at "go"
        refine x_decN (fun z => absurd rfl z) fun _ => ?_
        walk_at "go"
        exact ⟨⟨_, rfl⟩, g7.ex e8⟩
      · obtain ⟨⟨y, rfl⟩, gg⟩ := pp
        have ho'' : H'' o = some (.lst (p.map V.int)) := gg.1 _ _ ho' nofun
        walk_at "go"
        refine x_tupOf (Evl.sq_of ho'') fun t2 H8 t20 e8 ht2 => ?_
        walk_at "go"
        refine ⟨.ref t2, rfl, .inr ⟨p, ⟨t2, rfl, .inr (Evl.st_of ht2), l1, l2, hp⟩, fun H9 e9 => ?_⟩⟩
        walk_at "go"
        refine ⟨.int (waysTo p p.length), .int, rfl, .int _, ?_⟩
        rw [show (KS.isA KS.int "int" && !KS.isA KS.int "bool") = true from rfl]
        walk_at "go"
        refine x_decN (fun z => absurd rfl z) fun _ => ?_
        walk_at "go"
        have x09 : ∀ z x, H' z = some x → (∀ ps, x ≠ .tbl ps) → H9 z = some x := fun z x h n => e9 _ _ (e8 _ _ (gg.1 _ _ h n))
        have hst9 : H9 st = some (.lst [.int s']) := x09 _ _ hst' nofun
        have g9 : Grown (TT Pt) H0 H9 := ((g.trans gg).ex e8).ex e9
        refine ⟨st, s', 1, rfl, hst9, s0', s1', fun t s'' H10 t0 t1 s0'' s1'' u10 => ?_⟩
        have g10 : Grown (TT Pt) H0 H10 := ⟨B.ExtN.upd g9.1 u10 stn, B.Tabs.updL g9.2 u10 hst9⟩
        have ho10 : H10 o = some (.lst (p.map V.int)) := u10.get oR.1 (x09 _ _ ho' nofun)
        have hd10 : H10 d = some (.lst (rs.map V.ref)) := u10.get dR.1 (x09 _ _ hd' nofun)
        have hw10 : H10 rw_ = some (.lst [.ref r0, .ref r1, .ref r2]) := u10.get wR.1 (x09 _ _ hw' nofun)
        have hl10 : H10 r2 = some (.lst (ws.map V.int)) := u10.get (Ne.symm st_r2) (x09 _ _ hl2 nofun)
        walk_at "go"
        rw [List.length_map]
        refine x_mod (by omega) fun j j0 j1 _ => ?_
        obtain ⟨j, rfl⟩ : ∃ j' : Nat, j = (j' : Nat) := ⟨j.toNat, by omega⟩
        obtain ⟨r, hr⟩ : ∃ r, rs[j]? = some r := ⟨_, List.getElem?_eq_getElem (by omega)⟩
        have htup := hrs j r hr
        have rR : r ≠ st ∧ r ≠ r0 ∧ r ≠ r1 ∧ r ≠ r2 := ⟨(fun z => by rw [z, hst2] at htup; cases htup), ne_of_none htup n0, ne_of_none htup n1, ne_of_none htup n2⟩
        have hr10 : H10 r = some (.tup [.int (lowOf p (j : Nat)), .int (highOf p (j : Nat))]) := u10.get rR.1 (x09 _ _ (kp _ _ (ex26 _ _ htup) rR.1 rR.2.1 rR.2.2.1 rR.2.2.2) nofun)
        walk_at "go"
        refine x_ixL (v := .ref r) (Evl.sq_of hd10) (atI_nat (by rw [List.getElem?_map, hr]; rfl)) ?_
        walk_at "go"
        refine x_ixT (v := .int (lowOf p (j : Nat))) (Evl.st_of hr10) rfl ?_
        walk_at "go"
        refine x_ixL (v := .ref r) (Evl.sq_of hd10) (atI_nat (by rw [List.getElem?_map, hr]; rfl)) ?_
        walk_at "go"
        refine x_ixT (v := .int (highOf p (j : Nat))) (Evl.st_of hr10) rfl ?_
        walk_at "go"
        refine x_mkL (by simp) fun wl_ H11 _ e11 h11 => ?_
        have g11 := g10.ex e11
        refine x_forL [lowOf p (j : Nat) - 1, highOf p (j : Nat) + 1] V.int (fun _ σ'' H'' => (∃ y1 y2, σ'' = [some (.ref st), some (.ref o), some (.ref d), some (.ref rw_), some (.int (waysTo p p.length)), z5, z6, z7, y, some (.int (waysTo p p.length)), some (.int (j : Nat)), y1, y2]) ∧ Grown (TT Pt) H11 H'')
          ⟨⟨_, _, rfl⟩, .refl g11.2⟩ (fun pre σ'' H'' _ pp => Evl.sq_of (pp.2.1 _ _ h11 nofun)) (fun pre w post σ'' H12 ea pp => ?_) (fun σ'' H12 pp => ?_)
        · obtain ⟨⟨y1, y2, rfl⟩, g12⟩ := pp
          have wout : w < lowOf p (j : Nat) ∨ highOf p (j : Nat) < w := by
            have : w ∈ [lowOf p (j : Nat) - 1, highOf p (j : Nat) + 1] := by rw [ea]; simp
            simp only [List.mem_cons, List.not_mem_nil, or_false] at this
            rcases this with rfl | rfl <;> omega
          walk_at "go"
          have hw12 := g12.1 _ _ (e11 _ _ hw10) nofun
          have hl12 := g12.1 _ _ (e11 _ _ hl10) nofun
          have ho12 := g12.1 _ _ (e11 _ _ ho10) nofun
          refine x_ixL (v := .ref r2) (Evl.sq_of hw12) rfl ?_
          walk_at "go"
          refine x_slL (hi := some ((j : Nat) : Int)) (Evl.sq_of hl12) fun p1 H13 _ e13 h13 => ?_
          rw [cut_to, ← List.map_take] at h13
          walk_at "go"
          refine x_mkL (by simp) fun p2 H14 _ e14 h14 => ?_
          walk_at "go"
          refine x_cat (ys := [w].map V.int) (e14 _ _ h13) h14 (by simp; omega) fun p3 H15 _ e15 h15 => ?_
          rw [← List.map_append] at h15
          walk_at "go"
          have ex15 : Ex H12 H15 := e13.trans (e14.trans e15)
          refine x_ixL (v := .ref r2) (Evl.sq_of (ex15 _ _ hw12)) rfl ?_
          walk_at "go"
          rw [show ((j : Nat) : Int) + 1 = ((j + 1 : Nat) : Int) from by omega]
          refine x_slL (lo := some ((j + 1 : Nat) : Int)) (Evl.sq_of (ex15 _ _ hl12)) fun p4 H16 _ e16 h16 => ?_
          rw [cut_from, ← List.map_drop] at h16
          walk_at "go"
          refine x_cat (e16 _ _ h15) h16 (by simp; omega) fun p5 H17 _ e17 h17 => ?_
          rw [← List.map_append] at h17
          have ex17 : Ex H12 H17 := ex15.trans (e16.trans e17)
          walk_at "go"
          refine x_dec (fun c1 => ?_) (fun c1 => ?_)
          · walk_at "go"
            rw [List.length_map]
            refine x_dec (fun c2 => ?_) (fun c2 => ?_)
            · walk_at "go"
              obtain ⟨L, hL⟩ : ∃ L, L = ws.take j ++ [w] ++ ws.drop (j + 1) := ⟨_, rfl⟩
              rw [← hL] at h17
              have Ll : L.length = p.length := by
                rw [hL]
                simp
                omega
              have Lj : L[j]? = some w := by
                rw [hL, List.append_assoc, List.getElem?_append_right (by rw [List.length_take]; omega), List.length_take, show j - min j ws.length = 0 from by omega]
                rfl
              have hin : ∀ x ∈ L, 1 ≤ x ∧ x ≤ (p.length : Nat) := fun x hx => by
                rw [hL] at hx
                have old : ∀ y ∈ ws, 1 ≤ y ∧ y ≤ (p.length : Nat) := fun y hy => by
                  have := (row_ok hp wl hws).1 y hy
                  omega
                rcases List.mem_append.mp hx with hx | hx
                · rcases List.mem_append.mp hx with hx | hx
                  · exact old x (List.mem_of_mem_take hx)
                  · rw [List.mem_singleton.mp hx]
                    omega
                · exact old x (List.mem_of_mem_drop hx)
              clear hL
              refine ⟨.int (p.length : Nat), .ref p5, by rw [List.length_map]; rfl, .inr ⟨_, rfl, by omega, by omega, .inr ⟨L, ⟨p5, rfl, .inl (Evl.sq_of h17), by omega, hin⟩, fun g H18 hg e18 => ?_⟩⟩⟩
              walk_at "go"
              refine x_b (fun e => ?_) (fun e => ?_)
              · walk_at "go"
                have gd := hg.mp e
                have g18 := g12.ex (ex17.trans e18)
                refine ⟨.ref p5, rfl, .inr ⟨L, ⟨p5, rfl, .inl (Evl.sq_of (e18 _ _ h17)), by omega, by omega, by rw [Ll]; exact hin, by rw [Ll]; exact gd⟩, g18.2, fun t H19 ms perm srt eN tb19 ht => ?_⟩⟩
                rw [Ll] at perm srt
                have g19 := g18.trans ⟨eN, tb19⟩
                walk_at "go"
                refine x_tupOf (Evl.sq_of (g19.1 _ _ (e11 _ _ ho10) nofun)) fun t2 H20 t20 e20 ht2 => ?_
                refine x_eqT (Evl.ex_t e20 ht) (Evl.st_of ht2) (plain_ints _) (plain_ints _) ?_
                walk_at "go"
                refine x_dec (fun c3 => ?_) (fun _ => ?_)
                · exfalso
                  obtain rfl : ms = p := ints_inj.mp c3
                  have pl := order_lies hp Ll hin (lie_of_good hin gd) srt
                  have := order_wishes hp Ll (fun w hw => (hin w hw).1) pl j w Lj
                  omega
                · walk_at "go"
                  exact ⟨⟨_, _, rfl⟩, g19.ex e20⟩
              · walk_at "go"
                exact ⟨⟨_, _, rfl⟩, g12.ex (ex17.trans e18)⟩
            · walk_at "go"
              exact ⟨⟨_, _, rfl⟩, g12.ex ex17⟩
          · walk_at "go"
            exact ⟨⟨_, _, rfl⟩, g12.ex ex17⟩
        · obtain ⟨⟨y1, y2, rfl⟩, g12⟩ := pp
          walk_at "go"
          exact q H12 (g11.trans g12)

def sp_law (K : PySem.W.Frag) (Pt : Addr) : Sp := fun vs H Q _ => ∃ (a : Addr) (ns : List Int), vs = [.ref a] ∧ SqL K H a (ns.map V.int) ∧ ns.length ≤ 63 ∧ Tabs (TT Pt) H ∧ ∀ H', Q (.bl true) H'

open LamX (ExtN Tabs)
theorem x_disp1 {σ : L2.St} {H : Hp} {Q : VK} {m n : Int} (q : ∀ p H', H p = none → Ex H H' → H' p = some (.dK [(.inl m, .int n)]) → Q (.ref p) H') : tDisp [(tC (.int m), tC (.int n))] σ H Q := fun p hp =>
  ⟨upd_same, [(.inl m, .int n)], rfl, by simp, q p _ hp (fun b x e => by rw [upd_ne (ne_of_none e hp), upd_ne (ne_of_none e hp)]; exact e) upd_same⟩
theorem x_tupRg1 {σ : L2.St} {H : Hp} {Q : VK} {n : Int} (hn : n ≤ 1000000 ∧ -1000000 ≤ n) (q : ∀ p H', H p = none → Ex H H' → H' p = some (.tup ((irange 0 n).map V.int)) → Q (.ref p) H') : tTupRg (tRg1 (tC (.int n))) σ H Q :=
  ⟨n, rfl, ⟨by omega, by omega, by omega, by omega, by omega⟩, fun p hp => q p _ hp (Evl.Ex.new hp) (by rw [upd_same, rgV_eq])⟩
/-- an order of things one of which is none of its ships -/
theorem noOrd_in {K : PySem.W.Frag} {H : Hp} {a : Addr} {xs : List V} (h : Sq K H a xs) (l1 : 1 ≤ xs.length) (l2 : xs.length ≤ 400) (hk : ∀ y ∈ xs, ∃ s, Kind K H y s) (hb : ∃ y ∈ xs, inB y 0 ((xs.length : Nat) - 1) = false) : NoOrd K H (.ref a) := .inr ⟨a, xs, rfl, h, .inr (.inr ⟨l1, l2, .inl ⟨hk, hb⟩⟩)⟩
theorem noOrd_twice {K : PySem.W.Frag} {H : Hp} {a : Addr} (ns : List Int) (h : Sq K H a (ns.map V.int)) (l1 : 1 ≤ ns.length) (l2 : ns.length ≤ 400) (hd : ¬ ns.Nodup) : NoOrd K H (.ref a) := .inr ⟨a, _, rfl, h, .inr (.inr ⟨by rw [List.length_map]; exact l1, by rw [List.length_map]; exact l2, .inr ⟨ns, rfl, hd⟩⟩)⟩
theorem noOrd_kind {K : PySem.W.Frag} {H : Hp} {x : V} {s : KS} (h : Kind K H x s) (h1 : s ≠ .lst) (h2 : s ≠ .tup) : NoOrd K H x := .inl ⟨s, h, h1, h2⟩
theorem noOrd_len {K : PySem.W.Frag} {H : Hp} {a : Addr} {xs : List V} (h : Sq K H a xs) (l : xs.length = 0 ∨ 400 < xs.length) : NoOrd K H (.ref a) := .inr ⟨a, xs, rfl, h, l.elim .inl fun h => .inr (.inl h)⟩
theorem notFull_in {K : PySem.W.Frag} {H : Hp} {a : Addr} {xs : List V} (h : Sq K H a xs) (l1 : 1 ≤ xs.length) (l2 : xs.length ≤ 400) (hk : ∀ y ∈ xs, ∃ s, Kind K H y s) (hb : ∃ y ∈ xs, inB y 1 (xs.length : Nat) = false) : NotFull K H (.ref a) := .inr ⟨a, xs, rfl, h, .inr (.inr ⟨l1, l2, .inl ⟨hk, hb⟩⟩)⟩
theorem notFull_kind {K : PySem.W.Frag} {H : Hp} {x : V} {s : KS} (h : Kind K H x s) (h1 : s ≠ .lst) (h2 : s ≠ .tup) : NotFull K H x := .inl ⟨s, h, h1, h2⟩
theorem notFull_len {K : PySem.W.Frag} {H : Hp} {a : Addr} {xs : List V} (h : Sq K H a xs) (l : xs.length = 0) : NotFull K H (.ref a) := .inr ⟨a, xs, rfl, h, .inl l⟩
theorem notFull_bad {K : PySem.W.Frag} {H : Hp} {a : Addr} (ns : List Int) (h : Sq K H a (ns.map V.int)) (l1 : 1 ≤ ns.length) (l2 : ns.length ≤ 400) (hw : ∀ w ∈ ns, 1 ≤ w ∧ w ≤ (ns.length : Nat)) (hg : ¬ Good (ns.length : Nat) ns) : NotFull K H (.ref a) := .inr ⟨a, _, rfl, h, .inr (.inr ⟨by rw [List.length_map]; exact l1, by rw [List.length_map]; exact l2, .inr ⟨ns, rfl, hw, hg⟩⟩)⟩
theorem kinds_2 {K : PySem.W.Frag} {H : Hp} {x y : V} (h1 : ∃ s, Kind K H x s) (h2 : ∃ s, Kind K H y s) : ∀ z ∈ [x, y], ∃ s, Kind K H z s := fun z hz => by
  simp only [List.mem_cons, List.not_mem_nil, or_false] at hz
  rcases hz with rfl | rfl
  · exact h1
  · exact h2
theorem kinds_1 {K : PySem.W.Frag} {H : Hp} {x : V} (h1 : ∃ s, Kind K H x s) : ∀ z ∈ [x], ∃ s, Kind K H z s := fun z hz => by
  rw [List.mem_singleton.mp hz]
  exact h1
theorem law_ok {P : Program} {w : World} {K : PySem.W.Frag} {mg : Str → Option Value} {base : Heap} {Pt : Addr} {f : Addr} {fd : FuncData} (F : Fun K "law" "law" s_law f fd) (N : Nms K mg)
    (h__law_cell_at : B.Has P w K mg base "_law_cell_at" 1 ["_law_script", "_law_k"] (sp__law_cell_at K)) (h__law_order : B.Has P w K mg base "_law_order" 2 ["_law_script", "_law_many", "_law_first"] (sp__law_order K)) (h__law_right : B.Has P w K mg base "_law_right" 8 ["_law_state", "_law_order_here"] (sp__law_right K Pt)) (h__law_word : B.Has P w K mg base "_law_word" 8 ["_law_act", "_law_thing"] (sp__law_word K mg Pt)) :
    FnOk P w K mg base (L2.CX P w) 9 f fd ["_law_script"] (sp_law K Pt) := by
  refine B.fn_okN F sc_law (fun vs H Q E h => ?_)
    (fun cdv A outer s H vs Q E hr h => ⟨_, (pss_cons (ps_for PassesOwn.never rfl (pi_range1 rfl N.n_range (pa_cons (pe_op op_add pe_int (pe_callB (B.call_min2 rfl) (by rfl) N.n_min B.boot_min (pa_cons pe_int (pa_cons (pe_callB (r := B.rLen K) B.call_len (by rfl) N.n_len PySem.boot_len (pa_cons (pv 0) pa_nil)) pa_nil)))) pa_nil)) (pg_name (i := 1) sc_law.nd rfl (by first | exact Or.inl rfl | exact Or.inr rfl)) (pss_cons (ps_set (i := 2) sc_law.nd rfl (by first | exact Or.inl rfl | exact Or.inr rfl) (B.pe_has h__law_cell_at hr B.passL (pa_cons (pv 0) (pa_cons (pv 1) pa_nil))))
    (pss_cons (ps_set (i := 3) sc_law.nd rfl (by first | exact Or.inl rfl | exact Or.inr rfl) (pe_ix (r := rIxL K) ix_list (pe_lst (pa_cons (pe_op op_add pe_int (pe_op op_mod (pv 2) pe_int)) (pa_cons (pe_op op_add pe_int (pe_op op_mod (pe_op op_fdiv (pv 2) pe_int) pe_int)) pa_nil))) (pe_op op_fdiv (pe_op op_mod (pv 2) pe_int) pe_int) (fun _ _ => rfl)))
    (pss_cons (ps_set (i := 4) sc_law.nd rfl (by first | exact Or.inl rfl | exact Or.inr rfl) (B.pe_has h__law_order hr B.passL (pa_cons (pv 0) (pa_cons (pv 3) (pa_cons (pv 1) pa_nil)))))
    (pss_cons (ps_set (i := 5) sc_law.nd rfl (by first | exact Or.inl rfl | exact Or.inr rfl) (pe_lst (pa_cons (pe_op op_add pe_int (pe_op op_mod (B.pe_has h__law_cell_at hr B.passL (pa_cons (pv 0) (pa_cons (pv 1) pa_nil))) pe_int)) pa_nil)))
    (pss_one (ps_if (pt_not (pt_val (B.pe_has h__law_right hr B.passL (pa_cons (pv 5) (pa_cons (pv 4) pa_nil))))) (pss_one (ps_ret pe_bl)) pss_nil)))))))
    (pss_cons (ps_set (i := 6) sc_law.nd rfl (by first | exact Or.inl rfl | exact Or.inr rfl) (pe_lst (pa_cons (pe_tup pa_nil) (pa_cons (pe_lst pa_nil) (pa_cons pe_non (pa_cons pe_int (pa_cons (pe_tup (pa_cons pe_int (pa_cons pe_int pa_nil))) (pa_cons (pe_tup (pa_cons pe_int pa_nil)) (pa_cons (pe_tup (pa_cons pe_int (pa_cons pe_int pa_nil))) (pa_cons (pe_tup (pa_cons pe_int (pa_cons pe_bl pa_nil))) (pa_cons (pe_tup (pa_cons pe_int (pa_cons pe_int pa_nil))) (pa_cons (pe_lst (pa_cons pe_int (pa_cons pe_str pa_nil))) (pa_cons (pe_tup (pa_cons pe_int (pa_cons pe_int (pa_cons pe_int pa_nil)))) (pa_cons (pe_disp (pps_cons pe_int pe_int pps_nil) rfl rfl nofun (by decide)) pa_nil))))))))))))))
    (pss_cons (ps_for PassesOwn.never rfl (pi_list (pe_op op_cat (pv 6) (pe_lst (pa_cons (pe_tupRg rfl (by rfl) N.n_tuple (prg_1 (by rfl) N.n_range pe_int)) pa_nil)))) (pg_name (i := 7) sc_law.nd rfl (by first | exact Or.inl rfl | exact Or.inr rfl)) (pss_one (ps_if (PW.pt (pw_or (pt_cmpR op_ne (B.pe_has h__law_word hr B.passL (pa_cons (B.pe_cls N.m_reaches) (pa_cons (pv 7) pa_nil))) pe_str (nomark _)) (pw_or1 (pt_cmpR op_ne (B.pe_has h__law_word hr B.passL (pa_cons (B.pe_cls N.m_rows_to) (pa_cons (pv 7) pa_nil))) pe_str (nomark _))))) (pss_one (ps_ret pe_bl)) pss_nil)))
    (pss_one (ps_ret (pe_cmpR (r := rEqD K) (op_eqD hr.units) (pe_lc (own := [("_law_thing", 7)]) (g := (gName 7)) rfl sc_law.nd (pi_list (pe_lst (pa_cons (pe_tup (pa_cons pe_int pa_nil)) (pa_cons (pe_lst pa_nil) (pa_cons pe_non (pa_cons (pe_tup (pa_cons pe_int (pa_cons pe_int pa_nil))) (pa_cons (pe_tup (pa_cons pe_int pa_nil)) (pa_cons (pe_lst (pa_cons pe_int (pa_cons pe_bl pa_nil))) pa_nil)))))))) (blkOk_by (own := [("_law_thing", 7)]) (N := n_law) (sc := defScope s_law) (by decide +kernel)) (fun _ _ _ _ _ => (pg_name (i := 7) sc_law.nd rfl (by first | exact Or.inl rfl | exact Or.inr rfl))) (fun _ _ _ _ _ => pts_nil) (fun _ _ _ _ _ => (B.pe_has h__law_word hr B.passL (pa_cons (B.pe_cls N.m_lies) (pa_cons (pv 7) pa_nil))))) (pe_op op_rep (pe_lst (pa_cons pe_str pa_nil)) pe_int) (nomark _))))))), ?_⟩)
  · obtain ⟨a, ns, rfl, _⟩ := h
    rfl
  · obtain ⟨a, ns, rfl, hs, hl, tb, q⟩ := h
    walk_at "go"
    refine x_min2 ?_
    walk_at "go"
    rw [List.length_map]
    refine x_rng1 ⟨by split <;> omega, by split <;> omega⟩ ?_
    refine x_forR (fun _ σ' H' => (∃ z1 z2 z3 z4 z5, σ' = [some (.ref a), z1, z2, z3, z4, z5, none, none]) ∧ Grown (TT Pt) H H') ⟨⟨_, _, _, _, _, rfl⟩, .refl tb⟩ (fun k σ' H' hk p => ?_) (fun σ' H' p => ?_)
    · obtain ⟨⟨z1, z2, z3, z4, z5, rfl⟩, far⟩ := p
      walk_at "go"
      rw [Int.zero_add]
      refine ⟨a, ns, k, rfl, SqL.exN far.1 hs, hl, ?_⟩
      walk_at "go"
      refine x_mod (by decide) fun r1 r10 r11 _ => ?_
      walk_at "go"
      refine x_fdiv (by decide) ?_
      walk_at "go"
      refine x_mod (by decide) fun r2 r20 r21 _ => ?_
      walk_at "go"
      refine x_mkL (by simp) fun l1 H1 _ e1 h1 => ?_
      walk_at "go"
      refine x_mod (by decide) fun r3 r30 r31 _ => ?_
      walk_at "go"
      refine x_fdiv (by decide) ?_
      obtain ⟨v, ev, hv⟩ := at2 (x := .int (1 + r1)) (y := .int (1 + r2)) (k := r3 / 7) (by omega) (by omega)
      obtain ⟨m, rfl, m1, m2⟩ : ∃ m : Nat, v = .int (m : Nat) ∧ 1 ≤ m ∧ m ≤ 40 := by
        rcases hv with rfl | rfl
        · exact ⟨(1 + r1).toNat, by rw [Int.toNat_of_nonneg (by omega)], by omega, by omega⟩
        · exact ⟨(1 + r2).toNat, by rw [Int.toNat_of_nonneg (by omega)], by omega, by omega⟩
      refine x_ixL (Evl.sq_of h1) ev ?_
      have g1 := far.ex e1
      walk_at "go"
      refine ⟨a, ns, m, k, rfl, SqL.exN g1.1 hs, hl, by omega, fun p H2 os perm p0 e2 hp => ?_⟩
      have g2 := g1.ex e2
      walk_at "go"
      refine ⟨a, ns, k, rfl, SqL.exN g2.1 hs, hl, ?_⟩
      walk_at "go"
      refine x_mod (by decide) fun r4 r40 r41 _ => ?_
      walk_at "go"
      refine x_mkL (by simp) fun st H3 st0 e3 h3 => ?_
      have g3 := g2.ex e3
      have ol : os.length = m := by
        have := perm.length_eq
        rw [irange_len] at this
        omega
      walk_at "go"
      refine ⟨st, p, 1 + r4, os, H, rfl, g3, ⟨H2, g2.1, st0⟩, h3, by omega, by omega, e3 _ _ hp, Ne.symm (ne_of_none hp st0), by unfold Ord; rw [ol]; exact perm, by omega, by omega, fun H4 g4 => ?_⟩
      walk_at "go"
      exact ⟨⟨_, _, _, _, _, rfl⟩, g4⟩
    · obtain ⟨⟨z1, z2, z3, z4, z5, rfl⟩, far⟩ := p
      walk_at "go"
      refine x_mkT (by simp) fun p1 H1 _ e1 h1 => ?_
      walk_at "go"
      refine x_mkL (by simp) fun p2 H2 _ e2 h2 => ?_
      walk_at "go"
      refine x_mkT (by simp) fun p3 H3 _ e3 h3 => ?_
      walk_at "go"
      refine x_mkT (by simp) fun p4 H4 _ e4 h4 => ?_
      walk_at "go"
      refine x_mkT (by simp) fun p5 H5 _ e5 h5 => ?_
      walk_at "go"
      refine x_mkT (by simp) fun p6 H6 _ e6 h6 => ?_
      walk_at "go"
      refine x_mkT (by simp) fun p7 H7 _ e7 h7 => ?_
      walk_at "go"
      refine x_mkL (by simp) fun p8 H8 _ e8 h8 => ?_
      walk_at "go"
      refine x_mkT (by simp) fun p9 H9 _ e9 h9 => ?_
      walk_at "go"
      refine x_disp1 fun p10 H10 _ e10 h10 => ?_
      walk_at "go"
      refine x_mkL (by simp) fun p11 H11 _ e11 h11 => ?_
      walk_at "go"
      refine x_tupRg1 (by decide) fun p12 H12 _ e12 h12 => ?_
      walk_at "go"
      refine x_mkL (by simp) fun p13 H13 _ e13 h13 => ?_
      walk_at "go"
      refine x_cat (e13 _ _ (e12 _ _ h11)) h13 (by simp) fun p14 H14 _ e14 h14 => ?_
      have f10 : Ex H10 H14 := e11.trans (e12.trans (e13.trans e14))
      have f9 : Ex H9 H14 := e10.trans f10
      have f8 : Ex H8 H14 := e9.trans f9
      have f7 : Ex H7 H14 := e8.trans f8
      have f6 : Ex H6 H14 := e7.trans f7
      have f5 : Ex H5 H14 := e6.trans f6
      have f4 : Ex H4 H14 := e5.trans f5
      have f3 : Ex H3 H14 := e4.trans f4
      have f2 : Ex H2 H14 := e3.trans f3
      have f1 : Ex H1 H14 := e2.trans f2
      have all : ∀ x ∈ [V.ref p1, .ref p2, .non, .int 5, .ref p3, .ref p4, .ref p5, .ref p6, .ref p7, .ref p8, .ref p9, .ref p10] ++ [V.ref p12], ∀ H', Ex H14 H' → NoOrd K H' x := fun x hx H' e => by
        have st : ∀ {H0 : Hp} {b : Addr} {xs : List V}, Ex H0 H14 → H0 b = some (.tup xs) → Sq K H' b xs := fun f h => .inr (Evl.st_of (e _ _ (f _ _ h)))
        have sl : ∀ {H0 : Hp} {b : Addr} {xs : List V}, Ex H0 H14 → H0 b = some (.lst xs) → Sq K H' b xs := fun f h => .inl (Evl.sq_of (e _ _ (f _ _ h)))
        simp only [List.cons_append, List.nil_append, List.mem_cons, List.not_mem_nil, or_false] at hx
        rcases hx with rfl | rfl | rfl | rfl | rfl | rfl | rfl | rfl | rfl | rfl | rfl | rfl | rfl
        · exact noOrd_len (st f1 h1) (.inl rfl)
        · exact noOrd_len (sl f2 h2) (.inl rfl)
        · exact noOrd_kind .non nofun nofun
        · exact noOrd_kind (.int 5) nofun nofun
        · exact noOrd_twice [0, 0] (st f3 h3) (by decide) (by decide) (by decide)
        · exact noOrd_in (st f4 h4) (by decide) (by decide) (kinds_1 ⟨_, .int _⟩) ⟨.int 1, by simp, by decide⟩
        · exact noOrd_in (st f5 h5) (by decide) (by decide) (kinds_2 ⟨_, .int _⟩ ⟨_, .int _⟩) ⟨.int 2, by simp, by decide⟩
        · exact noOrd_in (st f6 h6) (by decide) (by decide) (kinds_2 ⟨_, .int _⟩ ⟨_, .bl _⟩) ⟨.bl true, by simp, rfl⟩
        · exact noOrd_in (st f7 h7) (by decide) (by decide) (kinds_2 ⟨_, .int _⟩ ⟨_, .int _⟩) ⟨.int 2, by simp, by decide⟩
        · exact noOrd_in (sl f8 h8) (by decide) (by decide) (kinds_2 ⟨_, .int _⟩ ⟨_, .str _⟩) ⟨.str (Str.ofString "1"), by simp, rfl⟩
        · exact noOrd_twice [0, 1, 1] (st f9 h9) (by decide) (by decide) (by decide)
        · exact noOrd_kind (.dct (e _ _ (f10 _ _ h10))) nofun nofun
        · exact noOrd_len (st (e13.trans e14) h12) (.inr (by rw [List.length_map, irange_len]; decide))
      clear f1 f2 f3 f4 f5 f6 f7 f8 f9 f10 h1 h2 h3 h4 h5 h6 h7 h8 h9 h10 h11 h12 h13 e1 e2 e3 e4 e5 e6 e7 e8 e9 e10 e11 e12 e13 e14
      generalize [V.ref p1, .ref p2, .non, .int 5, .ref p3, .ref p4, .ref p5, .ref p6, .ref p7, .ref p8, .ref p9, .ref p10] ++ [V.ref p12] = things at all h14
      refine x_forL things id (fun _ σ' H' => (∃ y, σ' = [some (.ref a), z1, z2, z3, z4, z5, some (.ref p11), y]) ∧ Ex H14 H') ⟨⟨_, rfl⟩, .refl _⟩ (fun pre σ' H' _ p => by rw [List.map_id]; exact Evl.sq_of (p.2 _ _ h14)) (fun pre x post σ' H' ea p => ?_) (fun σ' H' p => ?_)
      · obtain ⟨⟨y, rfl⟩, ex⟩ := p
        have no := all x (by rw [ea]; simp)
        walk_at "go"
        refine ⟨_, x, "order", rfl, .inr ⟨.inl rfl, no _ ex, rfl⟩, fun H15 e15 => ?_⟩
        walk_at "go"
        refine x_decN (fun z => absurd rfl z) fun _ => ?_
        walk_at "go"
        refine ⟨_, x, "order", rfl, .inr ⟨.inr rfl, no _ (ex.trans e15), rfl⟩, fun H16 e16 => ?_⟩
        walk_at "go"
        refine x_decN (fun z => absurd rfl z) fun _ => ?_
        walk_at "go"
        exact ⟨⟨_, rfl⟩, ex.trans (e15.trans e16)⟩
      · obtain ⟨⟨y, rfl⟩, ex⟩ := p
        walk_at "go"
        refine x_mkT (by simp) fun p1 H1 _ e1 h1 => ?_
        walk_at "go"
        refine x_mkL (by simp) fun p2 H2 _ e2 h2 => ?_
        walk_at "go"
        refine x_mkT (by simp) fun p3 H3 _ e3 h3 => ?_
        walk_at "go"
        refine x_mkT (by simp) fun p4 H4 _ e4 h4 => ?_
        walk_at "go"
        refine x_mkL (by simp) fun p5 H5 _ e5 h5 => ?_
        walk_at "go"
        refine x_mkL (by simp) fun p6 H6 _ e6 h6 => ?_
        refine x_lcL (K := K) ([V.ref p1, .ref p2, .non, .ref p3, .ref p4, .ref p5] : List V) id (fun _ => true) (fun _ => .str "wishes") (by rw [List.map_id]; exact Evl.sq_of h6) ⟨by simp, fun _ => rfl, fun x hx H' e' QT kk => ?_, fun x hx _ H' e Q' kk => ?_, fun l7 H7 _ e7 h7 => ?_⟩
        · walk_at "go"
          exact kk H' (.refl _)
        · have st : ∀ {H0 : Hp} {b : Addr} {xs : List V}, Ex H0 H6 → H0 b = some (.tup xs) → Sq K H' b xs := fun f h => .inr (Evl.st_of (e _ _ (f _ _ h)))
          have sl : ∀ {H0 : Hp} {b : Addr} {xs : List V}, Ex H0 H6 → H0 b = some (.lst xs) → Sq K H' b xs := fun f h => .inl (Evl.sq_of (e _ _ (f _ _ h)))
          have no : NotFull K H' x := by
            simp only [List.mem_cons, List.not_mem_nil, or_false] at hx
            rcases hx with rfl | rfl | rfl | rfl | rfl | rfl
            · exact notFull_in (st (e2.trans (e3.trans (e4.trans (e5.trans e6)))) h1) (by decide) (by decide) (kinds_1 ⟨_, .int _⟩) ⟨.int 2, by simp, by decide⟩
            · exact notFull_len (sl (e3.trans (e4.trans (e5.trans e6))) h2) rfl
            · exact notFull_kind .non nofun nofun
            · refine notFull_bad [2, 2] (st (e4.trans (e5.trans e6)) h3) (by decide) (by decide) (fun w h => ?_) (fun g => ?_)
              · simp only [List.mem_cons, List.not_mem_nil, or_false] at h
                rcases h with rfl | rfl <;> decide
              · have := g 2 (by decide) (by decide)
                exact absurd this (by decide)
            · exact notFull_in (st (e5.trans e6) h4) (by decide) (by decide) (kinds_1 ⟨_, .int _⟩) ⟨.int 0, by simp, by decide⟩
            · exact notFull_in (sl e6 h5) (by decide) (by decide) (kinds_2 ⟨_, .int _⟩ ⟨_, .bl _⟩) ⟨.bl true, by simp, rfl⟩
          walk_at "go"
          refine ⟨_, x, "wishes", rfl, .inl ⟨rfl, no, rfl⟩, fun H15 e15 => ?_⟩
          exact kk _ e15
        walk_at "go"
        refine x_mkL (by simp) fun p8 H8 _ e8 h8 => ?_
        walk_at "go"
        refine x_rep (n := 6) h8 (by decide) (by decide) (by simp) fun p9 H9 _ e9 h9 => ?_
        refine x_eqS (ss := List.replicate 6 (Str.ofString "wishes")) (ts := List.replicate 6 (Str.ofString "wishes")) (Evl.sq_of (e9 _ _ (e8 _ _ h7))) (Evl.sq_of h9) (by decide +kernel) (by decide +kernel) ?_
        rw [decide_eq_true rfl]
        exact q _

/-! ### what the top has written, the end -/
theorem all_mk {l : PySem.W.OpenLaw} {w : World} {K : PySem.W.Frag} {h : Heap} {mg : Str → Option Value} {fa : Addr} (X : K.In h) (G : h.Ns mainGlobals mg) (hfa : mg "law" = some (.ref fa))
    {cc Pt : Addr} {oc2 : Value} {od2 : Option Addr} {vs2 : Array Value} {sl2 : Array (Option Value)}
    {f_is_number : Addr} {od_is_number an_is_number : Option Addr} {sl_is_number : Array (Option Value)} {oc_is_number kV_is_number dc_is_number pm_is_number cd_is_number ct_is_number : Value}
    {f_need_quay : Addr} {od_need_quay an_need_quay : Option Addr} {sl_need_quay : Array (Option Value)} {oc_need_quay kV_need_quay dc_need_quay pm_need_quay cd_need_quay ct_need_quay : Value}
    {f_need_wishes : Addr} {od_need_wishes an_need_wishes : Option Addr} {sl_need_wishes : Array (Option Value)} {oc_need_wishes kV_need_wishes dc_need_wishes pm_need_wishes cd_need_wishes ct_need_wishes : Value}
    {f_placed : Addr} {od_placed an_placed : Option Addr} {sl_placed : Array (Option Value)} {oc_placed kV_placed dc_placed pm_placed cd_placed ct_placed : Value}
    {f_crowded : Addr} {od_crowded an_crowded : Option Addr} {sl_crowded : Array (Option Value)} {oc_crowded kV_crowded dc_crowded pm_crowded cd_crowded ct_crowded : Value}
    {f_is_good : Addr} {od_is_good an_is_good : Option Addr} {sl_is_good : Array (Option Value)} {oc_is_good kV_is_good dc_is_good pm_is_good cd_is_good ct_is_good : Value}
    {f_need_full : Addr} {od_need_full an_need_full : Option Addr} {sl_need_full : Array (Option Value)} {oc_need_full kV_need_full dc_need_full pm_need_full cd_need_full ct_need_full : Value}
    {f_lies : Addr} {od_lies an_lies : Option Addr} {sl_lies : Array (Option Value)} {oc_lies kV_lies dc_lies pm_lies ct_lies : Value}
    {f_need_order : Addr} {od_need_order an_need_order : Option Addr} {sl_need_order : Array (Option Value)} {oc_need_order kV_need_order dc_need_order pm_need_order cd_need_order ct_need_order : Value}
    {f_reaches : Addr} {od_reaches an_reaches : Option Addr} {sl_reaches : Array (Option Value)} {oc_reaches kV_reaches dc_reaches pm_reaches cd_reaches ct_reaches : Value}
    {f_rows_to : Addr} {od_rows_to an_rows_to : Option Addr} {sl_rows_to : Array (Option Value)} {oc_rows_to kV_rows_to dc_rows_to pm_rows_to cd_rows_to ct_rows_to : Value}
    {f__law_cell_at : Addr} {od__law_cell_at an__law_cell_at : Option Addr} {sl__law_cell_at : Array (Option Value)} {oc__law_cell_at kV__law_cell_at dc__law_cell_at pm__law_cell_at cd__law_cell_at ct__law_cell_at : Value}
    {f__law_mix : Addr} {od__law_mix an__law_mix : Option Addr} {sl__law_mix : Array (Option Value)} {oc__law_mix kV__law_mix dc__law_mix pm__law_mix cd__law_mix ct__law_mix : Value}
    {f__law_whole : Addr} {od__law_whole an__law_whole : Option Addr} {sl__law_whole : Array (Option Value)} {oc__law_whole kV__law_whole dc__law_whole pm__law_whole cd__law_whole ct__law_whole : Value}
    {f__law_order : Addr} {od__law_order an__law_order : Option Addr} {sl__law_order : Array (Option Value)} {oc__law_order kV__law_order dc__law_order pm__law_order cd__law_order ct__law_order : Value}
    {f__law_word : Addr} {od__law_word an__law_word : Option Addr} {sl__law_word : Array (Option Value)} {oc__law_word kV__law_word dc__law_word pm__law_word cd__law_word ct__law_word : Value}
    {f__law_right : Addr} {od__law_right an__law_right : Option Addr} {sl__law_right : Array (Option Value)} {oc__law_right kV__law_right dc__law_right pm__law_right cd__law_right ct__law_right : Value}
    {f_law : Addr} {od_law an_law : Option Addr} {sl_law : Array (Option Value)} {oc_law kV_law dc_law pm_law cd_law ct_law : Value}
    {t_MOST : Tok}
    {C_NoQuay : Addr}
    {C_NoWishes : Addr}
    {C_NoOrder : Addr}
    {C_BerthError : Addr}
    {C_NoCount : Addr}
    {C_NoTree : Addr}
    {C_TooMany : Addr}
    (a_is_number : PySem.W.nsIn K mainGlobals "is_number" = some (some (.ref f_is_number)))
    (l_is_number : K.lookup f_is_number = some ⟨oc_is_number, od_is_number, .func (PySem.W.fnOf "is_number" "is_number" (defArgs s_is_number) (defBody s_is_number) (defScope s_is_number) .none kV_is_number dc_is_number pm_is_number an_is_number cd_is_number ct_is_number), sl_is_number⟩)
    (c_is_number : PySem.W.codeIn K cd_is_number "is_number" = true)
    (k_is_number : PySem.W.keepIn K (.ref f_is_number) = true)
    (a_need_quay : PySem.W.nsIn K mainGlobals "need_quay" = some (some (.ref f_need_quay)))
    (l_need_quay : K.lookup f_need_quay = some ⟨oc_need_quay, od_need_quay, .func (PySem.W.fnOf "need_quay" "need_quay" (defArgs s_need_quay) (defBody s_need_quay) (defScope s_need_quay) .none kV_need_quay dc_need_quay pm_need_quay an_need_quay cd_need_quay ct_need_quay), sl_need_quay⟩)
    (c_need_quay : PySem.W.codeIn K cd_need_quay "need_quay" = true)
    (k_need_quay : PySem.W.keepIn K (.ref f_need_quay) = true)
    (a_need_wishes : PySem.W.nsIn K mainGlobals "need_wishes" = some (some (.ref f_need_wishes)))
    (l_need_wishes : K.lookup f_need_wishes = some ⟨oc_need_wishes, od_need_wishes, .func (PySem.W.fnOf "need_wishes" "need_wishes" (defArgs s_need_wishes) (defBody s_need_wishes) (defScope s_need_wishes) .none kV_need_wishes dc_need_wishes pm_need_wishes an_need_wishes cd_need_wishes ct_need_wishes), sl_need_wishes⟩)
    (c_need_wishes : PySem.W.codeIn K cd_need_wishes "need_wishes" = true)
    (k_need_wishes : PySem.W.keepIn K (.ref f_need_wishes) = true)
    (a_placed : PySem.W.nsIn K mainGlobals "placed" = some (some (.ref f_placed)))
    (l_placed : K.lookup f_placed = some ⟨oc_placed, od_placed, .func (PySem.W.fnOf "placed" "placed" (defArgs s_placed) (defBody s_placed) (defScope s_placed) .none kV_placed dc_placed pm_placed an_placed cd_placed ct_placed), sl_placed⟩)
    (c_placed : PySem.W.codeIn K cd_placed "placed" = true)
    (k_placed : PySem.W.keepIn K (.ref f_placed) = true)
    (a_crowded : PySem.W.nsIn K mainGlobals "crowded" = some (some (.ref f_crowded)))
    (l_crowded : K.lookup f_crowded = some ⟨oc_crowded, od_crowded, .func (PySem.W.fnOf "crowded" "crowded" (defArgs s_crowded) (defBody s_crowded) (defScope s_crowded) .none kV_crowded dc_crowded pm_crowded an_crowded cd_crowded ct_crowded), sl_crowded⟩)
    (c_crowded : PySem.W.codeIn K cd_crowded "crowded" = true)
    (k_crowded : PySem.W.keepIn K (.ref f_crowded) = true)
    (a_is_good : PySem.W.nsIn K mainGlobals "is_good" = some (some (.ref f_is_good)))
    (l_is_good : K.lookup f_is_good = some ⟨oc_is_good, od_is_good, .func (PySem.W.fnOf "is_good" "is_good" (defArgs s_is_good) (defBody s_is_good) (defScope s_is_good) .none kV_is_good dc_is_good pm_is_good an_is_good cd_is_good ct_is_good), sl_is_good⟩)
    (c_is_good : PySem.W.codeIn K cd_is_good "is_good" = true)
    (k_is_good : PySem.W.keepIn K (.ref f_is_good) = true)
    (a_need_full : PySem.W.nsIn K mainGlobals "need_full" = some (some (.ref f_need_full)))
    (l_need_full : K.lookup f_need_full = some ⟨oc_need_full, od_need_full, .func (PySem.W.fnOf "need_full" "need_full" (defArgs s_need_full) (defBody s_need_full) (defScope s_need_full) .none kV_need_full dc_need_full pm_need_full an_need_full cd_need_full ct_need_full), sl_need_full⟩)
    (c_need_full : PySem.W.codeIn K cd_need_full "need_full" = true)
    (k_need_full : PySem.W.keepIn K (.ref f_need_full) = true)
    (a_lies : PySem.W.nsIn K mainGlobals "lies" = some (some (.ref f_lies)))
    (l_lies : K.lookup f_lies = some ⟨oc_lies, od_lies, .func (PySem.W.fnOf "lies" "lies" (defArgs s_lies) (defBody s_lies) (defScope s_lies) .none kV_lies dc_lies pm_lies an_lies (.ref cc) ct_lies), sl_lies⟩)
    (c_lies : PySem.W.codeIn K (.ref cc) "lies" = true)
    (k_lies : PySem.W.keepIn K (.ref f_lies) = true)
    (a_need_order : PySem.W.nsIn K mainGlobals "need_order" = some (some (.ref f_need_order)))
    (l_need_order : K.lookup f_need_order = some ⟨oc_need_order, od_need_order, .func (PySem.W.fnOf "need_order" "need_order" (defArgs s_need_order) (defBody s_need_order) (defScope s_need_order) .none kV_need_order dc_need_order pm_need_order an_need_order cd_need_order ct_need_order), sl_need_order⟩)
    (c_need_order : PySem.W.codeIn K cd_need_order "need_order" = true)
    (k_need_order : PySem.W.keepIn K (.ref f_need_order) = true)
    (a_reaches : PySem.W.nsIn K mainGlobals "reaches" = some (some (.ref f_reaches)))
    (l_reaches : K.lookup f_reaches = some ⟨oc_reaches, od_reaches, .func (PySem.W.fnOf "reaches" "reaches" (defArgs s_reaches) (defBody s_reaches) (defScope s_reaches) .none kV_reaches dc_reaches pm_reaches an_reaches cd_reaches ct_reaches), sl_reaches⟩)
    (c_reaches : PySem.W.codeIn K cd_reaches "reaches" = true)
    (k_reaches : PySem.W.keepIn K (.ref f_reaches) = true)
    (a_rows_to : PySem.W.nsIn K mainGlobals "rows_to" = some (some (.ref f_rows_to)))
    (l_rows_to : K.lookup f_rows_to = some ⟨oc_rows_to, od_rows_to, .func (PySem.W.fnOf "rows_to" "rows_to" (defArgs s_rows_to) (defBody s_rows_to) (defScope s_rows_to) .none kV_rows_to dc_rows_to pm_rows_to an_rows_to cd_rows_to ct_rows_to), sl_rows_to⟩)
    (c_rows_to : PySem.W.codeIn K cd_rows_to "rows_to" = true)
    (k_rows_to : PySem.W.keepIn K (.ref f_rows_to) = true)
    (a__law_cell_at : PySem.W.nsIn K mainGlobals "_law_cell_at" = some (some (.ref f__law_cell_at)))
    (l__law_cell_at : K.lookup f__law_cell_at = some ⟨oc__law_cell_at, od__law_cell_at, .func (PySem.W.fnOf "_law_cell_at" "_law_cell_at" (defArgs s__law_cell_at) (defBody s__law_cell_at) (defScope s__law_cell_at) .none kV__law_cell_at dc__law_cell_at pm__law_cell_at an__law_cell_at cd__law_cell_at ct__law_cell_at), sl__law_cell_at⟩)
    (c__law_cell_at : PySem.W.codeIn K cd__law_cell_at "_law_cell_at" = true)
    (k__law_cell_at : PySem.W.keepIn K (.ref f__law_cell_at) = true)
    (a__law_mix : PySem.W.nsIn K mainGlobals "_law_mix" = some (some (.ref f__law_mix)))
    (l__law_mix : K.lookup f__law_mix = some ⟨oc__law_mix, od__law_mix, .func (PySem.W.fnOf "_law_mix" "_law_mix" (defArgs s__law_mix) (defBody s__law_mix) (defScope s__law_mix) .none kV__law_mix dc__law_mix pm__law_mix an__law_mix cd__law_mix ct__law_mix), sl__law_mix⟩)
    (c__law_mix : PySem.W.codeIn K cd__law_mix "_law_mix" = true)
    (k__law_mix : PySem.W.keepIn K (.ref f__law_mix) = true)
    (a__law_whole : PySem.W.nsIn K mainGlobals "_law_whole" = some (some (.ref f__law_whole)))
    (l__law_whole : K.lookup f__law_whole = some ⟨oc__law_whole, od__law_whole, .func (PySem.W.fnOf "_law_whole" "_law_whole" (defArgs s__law_whole) (defBody s__law_whole) (defScope s__law_whole) .none kV__law_whole dc__law_whole pm__law_whole an__law_whole cd__law_whole ct__law_whole), sl__law_whole⟩)
    (c__law_whole : PySem.W.codeIn K cd__law_whole "_law_whole" = true)
    (k__law_whole : PySem.W.keepIn K (.ref f__law_whole) = true)
    (a__law_order : PySem.W.nsIn K mainGlobals "_law_order" = some (some (.ref f__law_order)))
    (l__law_order : K.lookup f__law_order = some ⟨oc__law_order, od__law_order, .func (PySem.W.fnOf "_law_order" "_law_order" (defArgs s__law_order) (defBody s__law_order) (defScope s__law_order) .none kV__law_order dc__law_order pm__law_order an__law_order cd__law_order ct__law_order), sl__law_order⟩)
    (c__law_order : PySem.W.codeIn K cd__law_order "_law_order" = true)
    (k__law_order : PySem.W.keepIn K (.ref f__law_order) = true)
    (a__law_word : PySem.W.nsIn K mainGlobals "_law_word" = some (some (.ref f__law_word)))
    (l__law_word : K.lookup f__law_word = some ⟨oc__law_word, od__law_word, .func (PySem.W.fnOf "_law_word" "_law_word" (defArgs s__law_word) (defBody s__law_word) (defScope s__law_word) .none kV__law_word dc__law_word pm__law_word an__law_word cd__law_word ct__law_word), sl__law_word⟩)
    (c__law_word : PySem.W.codeIn K cd__law_word "_law_word" = true)
    (k__law_word : PySem.W.keepIn K (.ref f__law_word) = true)
    (a__law_right : PySem.W.nsIn K mainGlobals "_law_right" = some (some (.ref f__law_right)))
    (l__law_right : K.lookup f__law_right = some ⟨oc__law_right, od__law_right, .func (PySem.W.fnOf "_law_right" "_law_right" (defArgs s__law_right) (defBody s__law_right) (defScope s__law_right) .none kV__law_right dc__law_right pm__law_right an__law_right cd__law_right ct__law_right), sl__law_right⟩)
    (c__law_right : PySem.W.codeIn K cd__law_right "_law_right" = true)
    (k__law_right : PySem.W.keepIn K (.ref f__law_right) = true)
    (a_law : PySem.W.nsIn K mainGlobals "law" = some (some (.ref f_law)))
    (l_law : K.lookup f_law = some ⟨oc_law, od_law, .func (PySem.W.fnOf "law" "law" (defArgs s_law) (defBody s_law) (defScope s_law) .none kV_law dc_law pm_law an_law cd_law ct_law), sl_law⟩)
    (c_law : PySem.W.codeIn K cd_law "law" = true)
    (k_law : PySem.W.keepIn K (.ref f_law) = true)
    (z_len : PySem.W.nsIn K mainGlobals "len" = some none)
    (z_isinstance : PySem.W.nsIn K mainGlobals "isinstance" = some none)
    (z_min : PySem.W.nsIn K mainGlobals "min" = some none)
    (z_sorted : PySem.W.nsIn K mainGlobals "sorted" = some none)
    (z_range : PySem.W.nsIn K mainGlobals "range" = some none)
    (z_enumerate : PySem.W.nsIn K mainGlobals "enumerate" = some none)
    (z_all : PySem.W.nsIn K mainGlobals "all" = some none)
    (z_int : PySem.W.nsIn K mainGlobals "int" = some none)
    (z_bool : PySem.W.nsIn K mainGlobals "bool" = some none)
    (z_list : PySem.W.nsIn K mainGlobals "list" = some none)
    (z_tuple : PySem.W.nsIn K mainGlobals "tuple" = some none)
    (z_set : PySem.W.nsIn K mainGlobals "set" = some none)
    (z_ValueError : PySem.W.nsIn K mainGlobals "ValueError" = some none)
    (q_MOST : PySem.W.nsIn K mainGlobals "MOST" = some (some (.int 400 t_MOST)))
    (e_NoQuay : PySem.W.nsIn K mainGlobals "NoQuay" = some (some (.ref C_NoQuay)))
    (x_NoQuay : PySem.W.excIn K C_NoQuay [.type "ValueError", .type "Exception", .type "BaseException", .type "object"] "ValueError.__new__" = true)
    (w_NoQuay : PySem.W.keepIn K (.ref C_NoQuay) = true)
    (b_NoQuay : PySem.W.subIn K (.ref C_NoQuay) (.type "BaseException") = some true)
    (y_NoQuay : PySem.W.typeIn K (.ref C_NoQuay) = some (.type "type"))
    (e_NoWishes : PySem.W.nsIn K mainGlobals "NoWishes" = some (some (.ref C_NoWishes)))
    (x_NoWishes : PySem.W.excIn K C_NoWishes [.type "ValueError", .type "Exception", .type "BaseException", .type "object"] "ValueError.__new__" = true)
    (w_NoWishes : PySem.W.keepIn K (.ref C_NoWishes) = true)
    (b_NoWishes : PySem.W.subIn K (.ref C_NoWishes) (.type "BaseException") = some true)
    (y_NoWishes : PySem.W.typeIn K (.ref C_NoWishes) = some (.type "type"))
    (e_NoOrder : PySem.W.nsIn K mainGlobals "NoOrder" = some (some (.ref C_NoOrder)))
    (x_NoOrder : PySem.W.excIn K C_NoOrder [.type "ValueError", .type "Exception", .type "BaseException", .type "object"] "ValueError.__new__" = true)
    (w_NoOrder : PySem.W.keepIn K (.ref C_NoOrder) = true)
    (b_NoOrder : PySem.W.subIn K (.ref C_NoOrder) (.type "BaseException") = some true)
    (y_NoOrder : PySem.W.typeIn K (.ref C_NoOrder) = some (.type "type"))
    (e_BerthError : PySem.W.nsIn K mainGlobals "BerthError" = some (some (.ref C_BerthError)))
    (e_NoCount : PySem.W.nsIn K mainGlobals "NoCount" = some (some (.ref C_NoCount)))
    (e_NoTree : PySem.W.nsIn K mainGlobals "NoTree" = some (some (.ref C_NoTree)))
    (e_TooMany : PySem.W.nsIn K mainGlobals "TooMany" = some (some (.ref C_TooMany)))
    (sb_BerthError : PySem.W.subIn K (.ref C_BerthError) (.type "BaseException") = some true)
    (hd_BerthError : PySem.W.hasDictIn K C_BerthError = true)
    (ty_BerthError : PySem.W.typeIn K (.ref C_BerthError) = some (.type "type"))
    (xn : PySem.W.specialIn K (.builtin "object.__class__") "__get__" = some (some (.builtin "getset_descriptor.__get__")))
    (xt : PySem.W.takesIn K (.builtin "object.__class__") = some true)
    (kg_NoOrder : PySem.W.findIn K (.ref C_NoOrder) "__getattribute__" = some (some (.builtin "BaseException.__getattribute__")))
    (kk_NoOrder : PySem.W.findIn K (.ref C_NoOrder) "__getattr__" = some none)
    (kd_NoOrder : PySem.W.hasDictIn K C_NoOrder = true)
    (ka_NoOrder : PySem.W.findIn K (.ref C_NoOrder) "__class__" = some (some (.builtin "object.__class__")))
    (km_NoOrder : PySem.W.mroIn K C_NoOrder (.type "object") = some true)
    (ks_NoOrder : PySem.W.subIn K (.ref C_NoOrder) (.ref C_BerthError) = some true)
    (kg_NoWishes : PySem.W.findIn K (.ref C_NoWishes) "__getattribute__" = some (some (.builtin "BaseException.__getattribute__")))
    (kk_NoWishes : PySem.W.findIn K (.ref C_NoWishes) "__getattr__" = some none)
    (kd_NoWishes : PySem.W.hasDictIn K C_NoWishes = true)
    (ka_NoWishes : PySem.W.findIn K (.ref C_NoWishes) "__class__" = some (some (.builtin "object.__class__")))
    (km_NoWishes : PySem.W.mroIn K C_NoWishes (.type "object") = some true)
    (ks_NoWishes : PySem.W.subIn K (.ref C_NoWishes) (.ref C_BerthError) = some true)
    (qi_NoOrder_NoCount : PySem.W.kitOne K (.ref C_NoOrder) (.ref C_NoCount) = some false)
    (qi_NoOrder_NoTree : PySem.W.kitOne K (.ref C_NoOrder) (.ref C_NoTree) = some false)
    (qi_NoOrder_NoQuay : PySem.W.kitOne K (.ref C_NoOrder) (.ref C_NoQuay) = some false)
    (qi_NoOrder_TooMany : PySem.W.kitOne K (.ref C_NoOrder) (.ref C_TooMany) = some false)
    (qi_NoOrder_NoWishes : PySem.W.kitOne K (.ref C_NoOrder) (.ref C_NoWishes) = some false)
    (qi_NoWishes_NoCount : PySem.W.kitOne K (.ref C_NoWishes) (.ref C_NoCount) = some false)
    (qi_NoWishes_NoTree : PySem.W.kitOne K (.ref C_NoWishes) (.ref C_NoTree) = some false)
    (qi_NoWishes_NoQuay : PySem.W.kitOne K (.ref C_NoWishes) (.ref C_NoQuay) = some false)
    (qi_NoWishes_TooMany : PySem.W.kitOne K (.ref C_NoWishes) (.ref C_TooMany) = some false)
    (qi_NoWishes_NoOrder : PySem.W.kitOne K (.ref C_NoWishes) (.ref C_NoOrder) = some false)
    (qi_none_NoCount : PySem.W.kitOne K (.type "NoneType") (.ref C_NoCount) = some false)
    (qi_none_NoTree : PySem.W.kitOne K (.type "NoneType") (.ref C_NoTree) = some false)
    (qi_none_NoQuay : PySem.W.kitOne K (.type "NoneType") (.ref C_NoQuay) = some false)
    (qi_none_TooMany : PySem.W.kitOne K (.type "NoneType") (.ref C_TooMany) = some false)
    (qi_none_NoOrder : PySem.W.kitOne K (.type "NoneType") (.ref C_NoOrder) = some false)
    (qi_none_NoWishes : PySem.W.kitOne K (.type "NoneType") (.ref C_NoWishes) = some false)
    (lc2 : K.lookup cc = some ⟨oc2, od2, .fields vs2, sl2⟩)
    (h11 : vs2[11]? = some (.ref Pt)) :
    ∃ (fd : FuncData) (c Pt : Addr), PySem.W.tabIn K "lies" = some (c, Pt) ∧ (∀ (s : Shared) (v : Value), BindsTo s fd ⟨[v], []⟩ [("_law_script", v)]) ∧ ∀ base : Heap, K.In base → base.Ns mainGlobals mg → LamX.TabB base mg c Pt → FnOk l.prog w K mg base (L2.CX l.prog w) 9 fa fd ["_law_script"] (sp_law K Pt) := by
  have e := hfa.symm.trans (PySem.W.mg_of X G a_law)
  cases e
  have N : Nms K mg := { n_len := PySem.W.mg_none_of X G z_len, n_isinstance := PySem.W.mg_none_of X G z_isinstance, n_min := PySem.W.mg_none_of X G z_min, n_sorted := PySem.W.mg_none_of X G z_sorted, n_range := PySem.W.mg_none_of X G z_range, n_enumerate := PySem.W.mg_none_of X G z_enumerate, n_all := PySem.W.mg_none_of X G z_all, n_int := PySem.W.mg_none_of X G z_int, n_bool := PySem.W.mg_none_of X G z_bool, n_list := PySem.W.mg_none_of X G z_list, n_tuple := PySem.W.mg_none_of X G z_tuple, n_set := PySem.W.mg_none_of X G z_set, n_ValueError := PySem.W.mg_none_of X G z_ValueError, c_MOST := ⟨_, PySem.W.mg_of X G q_MOST, ⟨_, rfl⟩⟩, x_NoQuay := ⟨_, PySem.W.mg_of X G e_NoQuay, x_NoQuay, w_NoQuay, b_NoQuay, y_NoQuay⟩, x_NoWishes := ⟨_, PySem.W.mg_of X G e_NoWishes, x_NoWishes, w_NoWishes, b_NoWishes, y_NoWishes⟩, x_NoOrder := ⟨_, PySem.W.mg_of X G e_NoOrder, x_NoOrder, w_NoOrder, b_NoOrder, y_NoOrder⟩, m_lies := B.m_of (PySem.W.mg_of X G a_lies), m_reaches := B.m_of (PySem.W.mg_of X G a_reaches), m_rows_to := B.m_of (PySem.W.mg_of X G a_rows_to), m_BerthError := B.m_of (PySem.W.mg_of X G e_BerthError), m_NoCount := B.m_of (PySem.W.mg_of X G e_NoCount), m_NoTree := B.m_of (PySem.W.mg_of X G e_NoTree), m_NoQuay := B.m_of (PySem.W.mg_of X G e_NoQuay), m_TooMany := B.m_of (PySem.W.mg_of X G e_TooMany), m_NoOrder := B.m_of (PySem.W.mg_of X G e_NoOrder), m_NoWishes := B.m_of (PySem.W.mg_of X G e_NoWishes), k_NoOrder := by rw [B.at_of (PySem.W.mg_of X G e_NoOrder)]; exact ⟨kg_NoOrder, kk_NoOrder, b_NoOrder, kd_NoOrder, ka_NoOrder, xn, xt, km_NoOrder⟩, e_NoOrder := by rw [B.at_of (PySem.W.mg_of X G e_NoOrder), B.at_of (PySem.W.mg_of X G e_BerthError)]; exact PySem.W.exm_ref sb_BerthError hd_BerthError ty_BerthError ks_NoOrder, k_NoWishes := by rw [B.at_of (PySem.W.mg_of X G e_NoWishes)]; exact ⟨kg_NoWishes, kk_NoWishes, b_NoWishes, kd_NoWishes, ka_NoWishes, xn, xt, km_NoWishes⟩, e_NoWishes := by rw [B.at_of (PySem.W.mg_of X G e_NoWishes), B.at_of (PySem.W.mg_of X G e_BerthError)]; exact PySem.W.exm_ref sb_BerthError hd_BerthError ty_BerthError ks_NoWishes, i_NoOrder_NoCount := by rw [B.at_of (PySem.W.mg_of X G e_NoOrder), B.at_of (PySem.W.mg_of X G e_NoCount)]; exact qi_NoOrder_NoCount, i_NoOrder_NoTree := by rw [B.at_of (PySem.W.mg_of X G e_NoOrder), B.at_of (PySem.W.mg_of X G e_NoTree)]; exact qi_NoOrder_NoTree, i_NoOrder_NoQuay := by rw [B.at_of (PySem.W.mg_of X G e_NoOrder), B.at_of (PySem.W.mg_of X G e_NoQuay)]; exact qi_NoOrder_NoQuay, i_NoOrder_TooMany := by rw [B.at_of (PySem.W.mg_of X G e_NoOrder), B.at_of (PySem.W.mg_of X G e_TooMany)]; exact qi_NoOrder_TooMany, i_NoOrder_NoOrder := by unfold PySem.W.kitOne; simp, i_NoOrder_NoWishes := by rw [B.at_of (PySem.W.mg_of X G e_NoOrder), B.at_of (PySem.W.mg_of X G e_NoWishes)]; exact qi_NoOrder_NoWishes, i_NoWishes_NoCount := by rw [B.at_of (PySem.W.mg_of X G e_NoWishes), B.at_of (PySem.W.mg_of X G e_NoCount)]; exact qi_NoWishes_NoCount, i_NoWishes_NoTree := by rw [B.at_of (PySem.W.mg_of X G e_NoWishes), B.at_of (PySem.W.mg_of X G e_NoTree)]; exact qi_NoWishes_NoTree, i_NoWishes_NoQuay := by rw [B.at_of (PySem.W.mg_of X G e_NoWishes), B.at_of (PySem.W.mg_of X G e_NoQuay)]; exact qi_NoWishes_NoQuay, i_NoWishes_TooMany := by rw [B.at_of (PySem.W.mg_of X G e_NoWishes), B.at_of (PySem.W.mg_of X G e_TooMany)]; exact qi_NoWishes_TooMany, i_NoWishes_NoOrder := by rw [B.at_of (PySem.W.mg_of X G e_NoWishes), B.at_of (PySem.W.mg_of X G e_NoOrder)]; exact qi_NoWishes_NoOrder, i_NoWishes_NoWishes := by unfold PySem.W.kitOne; simp, i_none_NoCount := by rw [B.at_of (PySem.W.mg_of X G e_NoCount)]; exact qi_none_NoCount, i_none_NoTree := by rw [B.at_of (PySem.W.mg_of X G e_NoTree)]; exact qi_none_NoTree, i_none_NoQuay := by rw [B.at_of (PySem.W.mg_of X G e_NoQuay)]; exact qi_none_NoQuay, i_none_TooMany := by rw [B.at_of (PySem.W.mg_of X G e_TooMany)]; exact qi_none_TooMany, i_none_NoOrder := by rw [B.at_of (PySem.W.mg_of X G e_NoOrder)]; exact qi_none_NoOrder, i_none_NoWishes := by rw [B.at_of (PySem.W.mg_of X G e_NoWishes)]; exact qi_none_NoWishes }
  refine ⟨PySem.W.fnOf "law" "law" (defArgs s_law) (defBody s_law) (defScope s_law) .none kV_law dc_law pm_law an_law cd_law ct_law, cc, Pt, B.tab_in a_lies l_lies rfl lc2 h11, fun s v => .of_eq rfl, fun base hb hg TB => ?_⟩
  have S_is_number : B.Stands K mg "is_number" s_is_number := ⟨_, _, fun_mk (st := s_is_number) l_is_number c_is_number k_is_number, PySem.W.mg_of X G a_is_number⟩
  have H_is_number := has_is_number (P := l.prog) (w := w) (base := base) S_is_number N 
  have S__law_cell_at : B.Stands K mg "_law_cell_at" s__law_cell_at := ⟨_, _, fun_mk (st := s__law_cell_at) l__law_cell_at c__law_cell_at k__law_cell_at, PySem.W.mg_of X G a__law_cell_at⟩
  have H__law_cell_at := has__law_cell_at (P := l.prog) (w := w) (base := base) S__law_cell_at N 
  have S__law_mix : B.Stands K mg "_law_mix" s__law_mix := ⟨_, _, fun_mk (st := s__law_mix) l__law_mix c__law_mix k__law_mix, PySem.W.mg_of X G a__law_mix⟩
  have H__law_mix := has__law_mix (P := l.prog) (w := w) (base := base) S__law_mix N 
  have S__law_whole : B.Stands K mg "_law_whole" s__law_whole := ⟨_, _, fun_mk (st := s__law_whole) l__law_whole c__law_whole k__law_whole, PySem.W.mg_of X G a__law_whole⟩
  have H__law_whole := has__law_whole (P := l.prog) (w := w) (base := base) S__law_whole N 
  have S_need_quay : B.Stands K mg "need_quay" s_need_quay := ⟨_, _, fun_mk (st := s_need_quay) l_need_quay c_need_quay k_need_quay, PySem.W.mg_of X G a_need_quay⟩
  have H_need_quay := has_need_quay (P := l.prog) (w := w) (base := base) S_need_quay N H_is_number
  have S_need_order : B.Stands K mg "need_order" s_need_order := ⟨_, _, fun_mk (st := s_need_order) l_need_order c_need_order k_need_order, PySem.W.mg_of X G a_need_order⟩
  have H_need_order := has_need_order (P := l.prog) (w := w) (base := base) S_need_order N H_is_number
  have S__law_order : B.Stands K mg "_law_order" s__law_order := ⟨_, _, fun_mk (st := s__law_order) l__law_order c__law_order k__law_order, PySem.W.mg_of X G a__law_order⟩
  have H__law_order := has__law_order (P := l.prog) (w := w) (base := base) S__law_order N H__law_cell_at H__law_mix
  have S_need_wishes : B.Stands K mg "need_wishes" s_need_wishes := ⟨_, _, fun_mk (st := s_need_wishes) l_need_wishes c_need_wishes k_need_wishes, PySem.W.mg_of X G a_need_wishes⟩
  have H_need_wishes := has_need_wishes (P := l.prog) (w := w) (base := base) S_need_wishes N H_need_quay H_is_number
  have S_reaches : B.Stands K mg "reaches" s_reaches := ⟨_, _, fun_mk (st := s_reaches) l_reaches c_reaches k_reaches, PySem.W.mg_of X G a_reaches⟩
  have H_reaches := has_reaches (P := l.prog) (w := w) (base := base) S_reaches N H_need_order
  have S_placed : B.Stands K mg "placed" s_placed := ⟨_, _, fun_mk (st := s_placed) l_placed c_placed k_placed, PySem.W.mg_of X G a_placed⟩
  have H_placed := has_placed (P := l.prog) (w := w) (base := base) S_placed N H_need_wishes
  have S_crowded : B.Stands K mg "crowded" s_crowded := ⟨_, _, fun_mk (st := s_crowded) l_crowded c_crowded k_crowded, PySem.W.mg_of X G a_crowded⟩
  have H_crowded := has_crowded (P := l.prog) (w := w) (base := base) S_crowded N H_need_wishes
  have S_rows_to : B.Stands K mg "rows_to" s_rows_to := ⟨_, _, fun_mk (st := s_rows_to) l_rows_to c_rows_to k_rows_to, PySem.W.mg_of X G a_rows_to⟩
  have H_rows_to := has_rows_to (P := l.prog) (w := w) (base := base) S_rows_to N H_reaches
  have S_is_good : B.Stands K mg "is_good" s_is_good := ⟨_, _, fun_mk (st := s_is_good) l_is_good c_is_good k_is_good, PySem.W.mg_of X G a_is_good⟩
  have H_is_good := has_is_good (P := l.prog) (w := w) (base := base) S_is_good N H_crowded
  have S_need_full : B.Stands K mg "need_full" s_need_full := ⟨_, _, fun_mk (st := s_need_full) l_need_full c_need_full k_need_full, PySem.W.mg_of X G a_need_full⟩
  have H_need_full := has_need_full (P := l.prog) (w := w) (base := base) S_need_full N H_is_good
  have S_lies : B.StandsC K mg "lies" s_lies cc := ⟨_, _, _, _, _, _, _, _, _, l_lies, c_lies, k_lies, PySem.W.mg_of X G a_lies⟩
  have H_lies := has_lies (P := l.prog) (w := w) (base := base) S_lies TB N H_need_full H_placed
  have S__law_word : B.Stands K mg "_law_word" s__law_word := ⟨_, _, fun_mk (st := s__law_word) l__law_word c__law_word k__law_word, PySem.W.mg_of X G a__law_word⟩
  have H__law_word := has__law_word (P := l.prog) (w := w) (base := base) S__law_word N H_lies H_reaches H_rows_to
  have S__law_right : B.Stands K mg "_law_right" s__law_right := ⟨_, _, fun_mk (st := s__law_right) l__law_right c__law_right k__law_right, PySem.W.mg_of X G a__law_right⟩
  have H__law_right := has__law_right (P := l.prog) (w := w) (base := base) S__law_right N H_reaches H_rows_to H__law_mix H_lies H__law_whole H_is_good
  exact law_ok (fun_mk (st := s_law) l_law c_law k_law) N H__law_cell_at H__law_order H__law_right H__law_word
end My
open PySem PySem.W PyProof.Rows
set_option maxRecDepth 100000 in
set_option maxHeartbeats 0 in
theorem PySem.Challenge.cw_berthrow_k11_whole_who_lies_where_holds : PySem.Challenge.rw_berthrow_k11_whole_who_lies_where.Holds := by
  w_on; o_law; k_head; (case hw => w_witness2)
  k_fill
  refine B.walk_tab (l := PySem.Challenge.rw_berthrow_k11_whole_who_lies_where) (n := 63) (k := 9) (x := "_law_script") (y := "lies") (ql := PySem.Str.ofString "lies" ++ ".<locals>." ++ "<lambda>") (sp := My.sp_law) rfl (by decide) rfl ⟨rfl, by decide, by decide⟩ (fun w h Y => PySem.W.km_in_of Y) ?NT ?HR ?SP ?F
  case NT =>
    intro w
    kernel_rfl
  case HR => exact ⟨_, rfl⟩
  case SP => exact fun K Pt H a ns hl hb hT hS => ⟨a, ns, rfl, hS, hl, hT, fun _ => rfl⟩
  case F =>
    intro w mg fa h KX G hmg
    refine' My.all_mk KX G hmg ?a_is_number ?l_is_number ?c_is_number ?k_is_number ?a_need_quay ?l_need_quay ?c_need_quay ?k_need_quay ?a_need_wishes ?l_need_wishes ?c_need_wishes ?k_need_wishes ?a_placed ?l_placed ?c_placed ?k_placed ?a_crowded ?l_crowded ?c_crowded ?k_crowded ?a_is_good ?l_is_good ?c_is_good ?k_is_good ?a_need_full ?l_need_full ?c_need_full ?k_need_full ?a_lies ?l_lies ?c_lies ?k_lies ?a_need_order ?l_need_order ?c_need_order ?k_need_order ?a_reaches ?l_reaches ?c_reaches ?k_reaches ?a_rows_to ?l_rows_to ?c_rows_to ?k_rows_to ?a__law_cell_at ?l__law_cell_at ?c__law_cell_at ?k__law_cell_at ?a__law_mix ?l__law_mix ?c__law_mix ?k__law_mix ?a__law_whole ?l__law_whole ?c__law_whole ?k__law_whole ?a__law_order ?l__law_order ?c__law_order ?k__law_order ?a__law_word ?l__law_word ?c__law_word ?k__law_word ?a__law_right ?l__law_right ?c__law_right ?k__law_right ?a_law ?l_law ?c_law ?k_law ?z_len ?z_isinstance ?z_min ?z_sorted ?z_range ?z_enumerate ?z_all ?z_int ?z_bool ?z_list ?z_tuple ?z_set ?z_ValueError ?q_MOST ?e_NoQuay ?x_NoQuay ?w_NoQuay ?b_NoQuay ?y_NoQuay ?e_NoWishes ?x_NoWishes ?w_NoWishes ?b_NoWishes ?y_NoWishes ?e_NoOrder ?x_NoOrder ?w_NoOrder ?b_NoOrder ?y_NoOrder ?e_BerthError ?e_NoCount ?e_NoTree ?e_TooMany ?sb_BerthError ?hd_BerthError ?ty_BerthError ?xn ?xt ?kg_NoOrder ?kk_NoOrder ?kd_NoOrder ?ka_NoOrder ?km_NoOrder ?ks_NoOrder ?kg_NoWishes ?kk_NoWishes ?kd_NoWishes ?ka_NoWishes ?km_NoWishes ?ks_NoWishes ?qi_NoOrder_NoCount ?qi_NoOrder_NoTree ?qi_NoOrder_NoQuay ?qi_NoOrder_TooMany ?qi_NoOrder_NoWishes ?qi_NoWishes_NoCount ?qi_NoWishes_NoTree ?qi_NoWishes_NoQuay ?qi_NoWishes_TooMany ?qi_NoWishes_NoOrder ?qi_none_NoCount ?qi_none_NoTree ?qi_none_NoQuay ?qi_none_TooMany ?qi_none_NoOrder ?qi_none_NoWishes ?lc2 ?h11
    (case a_is_number => k_is)
    (case l_is_number => k_is)
    (case c_is_number => k_is)
    (case k_is_number => k_is)
    (case a_need_quay => k_is)
    (case l_need_quay => k_is)
    (case c_need_quay => k_is)
    (case k_need_quay => k_is)
    (case a_need_wishes => k_is)
    (case l_need_wishes => k_is)
    (case c_need_wishes => k_is)
    (case k_need_wishes => k_is)
    (case a_placed => k_is)
    (case l_placed => k_is)
    (case c_placed => k_is)
    (case k_placed => k_is)
    (case a_crowded => k_is)
    (case l_crowded => k_is)
    (case c_crowded => k_is)
    (case k_crowded => k_is)
    (case a_is_good => k_is)
    (case l_is_good => k_is)
    (case c_is_good => k_is)
    (case k_is_good => k_is)
    (case a_need_full => k_is)
    (case l_need_full => k_is)
    (case c_need_full => k_is)
    (case k_need_full => k_is)
    (case a_lies => k_is)
    (case l_lies => k_is)
    (case c_lies => k_is)
    (case k_lies => k_is)
    (case a_need_order => k_is)
    (case l_need_order => k_is)
    (case c_need_order => k_is)
    (case k_need_order => k_is)
    (case a_reaches => k_is)
    (case l_reaches => k_is)
    (case c_reaches => k_is)
    (case k_reaches => k_is)
    (case a_rows_to => k_is)
    (case l_rows_to => k_is)
    (case c_rows_to => k_is)
    (case k_rows_to => k_is)
    (case a__law_cell_at => k_is)
    (case l__law_cell_at => k_is)
    (case c__law_cell_at => k_is)
    (case k__law_cell_at => k_is)
    (case a__law_mix => k_is)
    (case l__law_mix => k_is)
    (case c__law_mix => k_is)
    (case k__law_mix => k_is)
    (case a__law_whole => k_is)
    (case l__law_whole => k_is)
    (case c__law_whole => k_is)
    (case k__law_whole => k_is)
    (case a__law_order => k_is)
    (case l__law_order => k_is)
    (case c__law_order => k_is)
    (case k__law_order => k_is)
    (case a__law_word => k_is)
    (case l__law_word => k_is)
    (case c__law_word => k_is)
    (case k__law_word => k_is)
    (case a__law_right => k_is)
    (case l__law_right => k_is)
    (case c__law_right => k_is)
    (case k__law_right => k_is)
    (case a_law => k_is)
    (case l_law => k_is)
    (case c_law => k_is)
    (case k_law => k_is)
    (case z_len => k_is)
    (case z_isinstance => k_is)
    (case z_min => k_is)
    (case z_sorted => k_is)
    (case z_range => k_is)
    (case z_enumerate => k_is)
    (case z_all => k_is)
    (case z_int => k_is)
    (case z_bool => k_is)
    (case z_list => k_is)
    (case z_tuple => k_is)
    (case z_set => k_is)
    (case z_ValueError => k_is)
    (case q_MOST => k_is)
    (case e_NoQuay => k_is)
    (case x_NoQuay => k_exc)
    (case w_NoQuay => k_is)
    (case b_NoQuay => k_is)
    (case y_NoQuay => k_is)
    (case e_NoWishes => k_is)
    (case x_NoWishes => k_exc)
    (case w_NoWishes => k_is)
    (case b_NoWishes => k_is)
    (case y_NoWishes => k_is)
    (case e_NoOrder => k_is)
    (case x_NoOrder => k_exc)
    (case w_NoOrder => k_is)
    (case b_NoOrder => k_is)
    (case y_NoOrder => k_is)
    (case e_BerthError => k_is)
    (case e_NoCount => k_is)
    (case e_NoTree => k_is)
    (case e_TooMany => k_is)
    (case sb_BerthError => k_is)
    (case hd_BerthError => k_is)
    (case ty_BerthError => k_is)
    (case xn => k_is)
    (case xt => k_is)
    (case kg_NoOrder => k_is)
    (case kk_NoOrder => k_is)
    (case kd_NoOrder => k_is)
    (case ka_NoOrder => k_is)
    (case km_NoOrder => k_is)
    (case ks_NoOrder => k_is)
    (case kg_NoWishes => k_is)
    (case kk_NoWishes => k_is)
    (case kd_NoWishes => k_is)
    (case ka_NoWishes => k_is)
    (case km_NoWishes => k_is)
    (case ks_NoWishes => k_is)
    (case qi_NoOrder_NoCount => kit_is)
    (case qi_NoOrder_NoTree => kit_is)
    (case qi_NoOrder_NoQuay => kit_is)
    (case qi_NoOrder_TooMany => kit_is)
    (case qi_NoOrder_NoWishes => kit_is)
    (case qi_NoWishes_NoCount => kit_is)
    (case qi_NoWishes_NoTree => kit_is)
    (case qi_NoWishes_NoQuay => kit_is)
    (case qi_NoWishes_TooMany => kit_is)
    (case qi_NoWishes_NoOrder => kit_is)
    (case qi_none_NoCount => kit_is)
    (case qi_none_NoTree => kit_is)
    (case qi_none_NoQuay => kit_is)
    (case qi_none_TooMany => kit_is)
    (case qi_none_NoOrder => kit_is)
    (case qi_none_NoWishes => kit_is)
    (case lc2 => k_is)
    (case h11 => exact rfl)

