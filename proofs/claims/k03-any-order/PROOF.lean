import PyProof.Rows.All
import Wide.All
import OpenK.AllK
import Wide.FinOn
import HandS.ForMost
import HandS.Exc
import HandS.TryOnly
import HandS.ExcOwn
import HandS.WordsExc
import HandS.IsInst
import HandS.SortInts
import HandS.SortKw
import HandS.Evl
import HandS.Conv
import HandS.SetFor
import HandS.SetKeys
import KE.DataMinMax
import KE.SortData
import KE.DatumOrd
import HandS.Style
import PySem.Challenge.RW_berthrow_k03_whole_any_order
set_option Elab.async false
set_option linter.all false
set_option maxRecDepth 100000
set_option maxHeartbeats 4000000
/-! A layer for the berthrow laws: defs by their names, readings run step by step. -/
namespace B
open PySem PySem.Spec PyProof.Rows L2
open PySem.W (Frag)

/-! ### defs by their names -/
/-- the def x of the text stands where the name x leads -/
def Stands (K : Frag) (mg : Str → Option Value) (x : Str) (st : Stmt) : Prop :=
  ∃ (f : Addr) (fd : FuncData), Fun K x x st f fd ∧ mg x = some (.ref f)
/-- the name x leads to a def that keeps the promise -/
def Has (P : Program) (w : World) (K : Frag) (mg : Str → Option Value) (base : Heap) (x : Str) (k : Nat) (ps : List Str) (sp : Sp) : Prop :=
  ∃ (f : Addr) (fd : FuncData), FnOk P w K mg base (L2.CX P w) k f fd ps sp ∧ mg x = some (.ref f) ∧ PySem.W.keepIn K (.ref f) = true ∧ Binds K fd ps []
section
variable {P : Program} {w : World} {K : Frag} {mg : Str → Option Value} {base : Heap}
theorem has_of {x : Str} {st : Stmt} {N ps : List Str} {k : Nat} {sp : Sp} (S : Stands K mg x st) (C : FnScope N ps (defScope st))
    (hb : ∀ (kV doc pm : Value) (an : Option Addr) (cdv ct : Value) (us : List Value), us.length = ps.length → bindArgs (PySem.W.fnOf x x (defArgs st) (defBody st) (defScope st) .none kV doc pm an cdv ct) ⟨us, []⟩ = pure (ps.zip us))
    (len : ∀ vs H Q E, sp vs H Q E → vs.length = ps.length)
    (hbody : ∀ (f : Addr) (cdv : Value) (A : Around) (outer : List Env) (s : Shared) (H : Hp) (vs : List V) (Q : VK) (E : XK), Room k (A.deeper (envOfC x (defScope st) s.heap.objs.size f cdv)) → sp vs H Q E →
      ∃ t, PSs (cxOf (L2.CX P w) P w K mg base N x (defScope st) f cdv A outer s H E) (defBody st) t ∧ t { nx := fun _ H' => Q .non H', rt := Q } (start N vs) H) :
    Has P w K mg base x (k + 1) ps sp := by
  obtain ⟨f, fd, F, m⟩ := S
  exact ⟨f, fd, F.okX C len (fun cdv A outer s H vs Q E hr h => hbody f cdv A outer s H vs Q E hr h), m, F.kp, F.binds hb⟩
end
section
variable {X : Cx} {k j : Nat} {x : Str} {ps : List Str} {sp : Sp} {E : XK} {p pos : Pos} {e : Expr} {es : List Expr} {t : TA}
theorem pe_has (h : Has X.prog X.w X.K X.mg X.base x j ps sp) (hr : Room k X.A) (hx : Passes (L2.CX X.prog X.w) X E) (ha : PA X (e :: es) t) (hj : j ≤ k := by decide) (hg : Gl X x := by rfl)
    (hdb : (x == ("__debug__" : Str)) = false := by decide) (he : starEach (e :: es) X.env = (false, eval e X.env) :: starEach es X.env := by rfl) (hpl : (backTo pos (starEach es X.env)).any (·.1) = false := by rfl) :
    PE X (.Call (.Name x p) (e :: es) [] pos) (tCall sp [] E t) := by
  obtain ⟨f, fd, F, m, kp, b⟩ := h
  exact pe_call F (hr.mono hj) hg m kp b .nil hx ha hdb he hpl
end

/-! ### readings, run step by step -/
abbrev Ex := Evl.Ex
theorem exg {H H' : Hp} {a : Addr} {o : HO} (e : Ex H H') (h : H a = some o) : H' a = some o := e a o h
theorem exn {H H' : Hp} {a : Addr} (e : Ex H H') (h : H' a = none) : H a = none := Evl.fresh_back e h
section
variable {K : Frag} {σ : L2.St} {H H' : Hp} {Q : VK} {QT : Bool → Hp → Prop} {QA : List V → Hp → Prop} {i : Nat} {v x y z : V} {ta tb te : TE} {tt tu tv : TT} {tr : TA} {b : Bool} {D : Ends} {s1 s2 : TS} {g : TG} {a : Addr} {xs ys : List V}
theorem x_var (h : σ[i]? = some (some v)) (q : Q v H) : tVar i σ H Q := ⟨v, h, q⟩
theorem x_c (q : Q v H) : tC v σ H Q := q
theorem x_op {r : R2} (h : ta σ H fun x H1 => tb σ H1 fun y H2 => r x y H2 Q) : tOp r ta tb σ H Q := h
theorem x_un {r : V → Hp → VK → Prop} (h : ta σ H fun x H1 => r x H1 Q) : tUn r ta σ H Q := h
theorem x_rI0 {f : Int → Int → V} {m n : Int} (q : Q (f m n) H) : rI0 f (.int m) (.int n) H Q := ⟨m, n, rfl, rfl, q⟩
theorem x_rI {C : Int → Int → Prop} {f : Int → Int → V} {m n : Int} (c : C m n) (q : Q (f m n) H) : rI C f (.int m) (.int n) H Q := ⟨m, n, rfl, rfl, c, q⟩
theorem x_rEq (s : scal x y = true) (q : Q (.bl (decide (x = y))) H) : rEq x y H Q := ⟨s, q⟩
theorem x_rNe (s : scal x y = true) (q : Q (.bl (!decide (x = y))) H) : rNe x y H Q := ⟨s, q⟩
theorem x_rU {f : Int → V} {m : Int} (q : Q (f m) H) : rU f (.int m) H Q := ⟨m, rfl, q⟩
theorem x_nil (q : QA [] H) : tNil σ H QA := q
theorem x_cons (h : ta σ H fun x H1 => tr σ H1 fun xs H2 => QA (x :: xs) H2) : tCons ta tr σ H QA := h
theorem x_CB {r : List V → Hp → VK → Prop} (h : tr σ H fun vs H1 => r vs H1 Q) : tCB r tr σ H Q := h
theorem x_call {sp : Sp} {E : XK} {dvs : List V} (h : tr σ H fun vs H1 => sp (vs ++ dvs) H1 Q E) : tCall sp dvs E tr σ H Q := h
theorem x_test (h : te σ H fun x H' => ∃ k, x = .bl k ∧ QT k H') : tTest te σ H QT := h
theorem x_B (h : te σ H fun x H' => ∃ k, x = .bl k ∧ QT k H') : tB te σ H QT := h
theorem x_bl (q : QT b H) : ∃ k, V.bl b = .bl k ∧ QT k H := ⟨b, rfl, q⟩
theorem x_and (h : tt σ H fun c H1 => if c = true then tu σ H1 QT else QT false H1) : tAnd tt tu σ H QT := h
theorem x_or (h : tt σ H fun c H1 => if c = true then QT true H1 else tu σ H1 QT) : tOr tt tu σ H QT := h
theorem x_not (h : tt σ H fun c H1 => QT (!c) H1) : tNot tt σ H QT := h
theorem x_andV (h : ta σ H fun x H1 => ∃ c, x = .bl c ∧ if c = true then tb σ H1 Q else Q (.bl false) H1) : tAndV ta tb σ H Q := h
theorem x_orV (h : ta σ H fun x H1 => ∃ c, x = .bl c ∧ if c = true then Q (.bl true) H1 else tb σ H1 Q) : tOrV ta tb σ H Q := h
theorem x_notV (h : ta σ H fun x H1 => ∃ c, x = .bl c ∧ Q (.bl (!c)) H1) : tNotV ta σ H Q := h
theorem x_blV {f : Bool → Prop} (q : f b) : ∃ c, V.bl b = .bl c ∧ f c := ⟨b, rfl, q⟩
theorem x_if (h : tt σ H fun c H1 => if c = true then ta σ H1 Q else tb σ H1 Q) : tIf tt ta tb σ H Q := h
theorem x_isN (h : ta σ H fun x H1 => Q (.bl (decide (x = .non))) H1) : tIsN ta σ H Q := h
theorem x_notN (h : ta σ H fun x H1 => Q (.bl (!decide (x = .non))) H1) : tNotN ta σ H Q := h
/-! statements -/
theorem x_seq (h : s1 { D with nx := s2 D } σ H) : tSeq s1 s2 D σ H := h
theorem x_next (q : D.nx σ H) : tNext D σ H := q
theorem x_brk (q : D.bk σ H) : tBreak D σ H := q
theorem x_cont (q : D.ct σ H) : tCont D σ H := q
theorem x_asg (h : te σ H fun v H1 => D.nx (σ.set i (some v)) H1) : tAsg te (gName i) D σ H := h
theorem x_gName {P : L2.St → Hp → Prop} (h : P (σ.set i (some v)) H) : gName i v σ H P := h
theorem x_drop (h : te σ H fun _ H1 => D.nx σ H1) : tDrop te D σ H := h
theorem x_ret (h : te σ H fun v H1 => D.rt v H1) : tRet te D σ H := h
theorem x_ifS (h : tt σ H fun b H1 => if b = true then s1 D σ H1 else s2 D σ H1) : tIfS tt s1 s2 D σ H := h
theorem x_nx {n bk ct : L2.St → Hp → Prop} {r : VK} (h : n σ H) : Ends.nx { nx := n, rt := r, bk := bk, ct := ct } σ H := h
theorem x_rt {n bk ct : L2.St → Hp → Prop} {r : VK} (h : r v H) : Ends.rt { nx := n, rt := r, bk := bk, ct := ct } v H := h
theorem x_aug {ip : TIp} (hv : σ[i]? = some (some x)) (h : te σ H fun y H1 => ip x y H1 fun z H2 => D.nx (σ.set i (some z)) H2) : tAug i te ip D σ H := ⟨x, hv, h⟩
theorem x_ipI {f : Int → Int → Int} {m n : Int} (q : Q (.int (f m n)) H) : ipI f (.int m) (.int n) H Q := ⟨m, n, rfl, rfl, q⟩
/-! ifs -/
theorem x_true {A B : Prop} (h : A) : if true = true then A else B := by rw [if_pos rfl]; exact h
theorem x_false {A B : Prop} (h : B) : if false = true then A else B := by rw [if_neg Bool.false_ne_true]; exact h
theorem x_dec {c A B : Prop} [Decidable c] (h1 : c → A) (h2 : ¬ c → B) : if decide c = true then A else B := by
  by_cases h : c
  · rw [decide_eq_true h]; exact x_true (h1 h)
  · rw [decide_eq_false h]; exact x_false (h2 h)
theorem x_decN {c A B : Prop} [Decidable c] (h1 : ¬ c → A) (h2 : c → B) : if (!decide c) = true then A else B := by
  by_cases h : c
  · rw [decide_eq_true h]; exact x_false (h2 h)
  · rw [decide_eq_false h]; exact x_true (h1 h)
theorem x_b {A B : Prop} (h1 : b = true → A) (h2 : b = false → B) : if b = true then A else B := by
  cases b
  · exact x_false (h2 rfl)
  · exact x_true (h1 rfl)
theorem x_bN {A B : Prop} (h1 : b = false → A) (h2 : b = true → B) : if (!b) = true then A else B := by
  cases b
  · exact x_true (h1 rfl)
  · exact x_false (h2 rfl)
/-! new objects -/
def MkT (Q : VK) : List V → Hp → Prop := fun vs H1 => vs.length ≤ sizeLine ∧ ∀ p, H1 p = none → Q (.ref p) (upd H1 p (.tup vs))
def MkL (Q : VK) : List V → Hp → Prop := fun vs H1 => vs.length ≤ sizeLine ∧ ∀ p, H1 p = none → Q (.ref p) (upd H1 p (.lst vs))
theorem x_tup (h : tr σ H (MkT Q)) : tTup tr σ H Q := h
theorem x_lst (h : tr σ H (MkL Q)) : tLst tr σ H Q := h
theorem x_mkT {vs : List V} (hl : vs.length ≤ 1000000) (h : ∀ p H', H p = none → Ex H H' → H' p = some (.tup vs) → Q (.ref p) H') : MkT Q vs H := ⟨Nat.le_trans hl (by decide), fun p hp => h p _ hp (Evl.Ex.new hp) upd_same⟩
theorem x_mkL {vs : List V} (hl : vs.length ≤ 1000000) (h : ∀ p H', H p = none → Ex H H' → H' p = some (.lst vs) → Q (.ref p) H') : MkL Q vs H := ⟨Nat.le_trans hl (by decide), fun p hp => h p _ hp (Evl.Ex.new hp) upd_same⟩
theorem x_dnew (h : ∀ p H', H p = none → Ex H H' → H' p = some (.dK []) → Q (.ref p) H') : tDNewK σ H Q := fun p hp => h p _ hp (Evl.Ex.new hp) upd_same
theorem x_new {o : HO} (h : ∀ p H', H p = none → Ex H H' → H' p = some o → Q (.ref p) H') : ∀ p, H p = none → Q (.ref p) (upd H p o) := fun p hp => h p _ hp (Evl.Ex.new hp) upd_same
end

/-! ### more about defs: ends without a raise, what a callee raises handed on -/
section
variable {P : Program} {w : World} {K : Frag} {mg : Str → Option Value} {base : Heap}
theorem has_ofN {x : Str} {st : Stmt} {N ps : List Str} {k : Nat} {sp : Sp} (S : Stands K mg x st) (C : FnScope N ps (defScope st))
    (hb : ∀ (kV doc pm : Value) (an : Option Addr) (cdv ct : Value) (us : List Value), us.length = ps.length → bindArgs (PySem.W.fnOf x x (defArgs st) (defBody st) (defScope st) .none kV doc pm an cdv ct) ⟨us, []⟩ = pure (ps.zip us))
    (len : ∀ vs H Q E, sp vs H Q E → vs.length = ps.length)
    (hbody : ∀ (f : Addr) (cdv : Value) (A : Around) (outer : List Env) (s : Shared) (H : Hp) (vs : List V) (Q : VK) (E : XK), Room k (A.deeper (envOfC x (defScope st) s.heap.objs.size f cdv)) → sp vs H Q E →
      ∃ t, PSs (cxOf (L2.CX P w) P w K mg base N x (defScope st) f cdv A outer s H E).nox (defBody st) t ∧ t { nx := fun _ H' => Q .non H', rt := Q } (start N vs) H) :
    Has P w K mg base x (k + 1) ps sp := has_of S C hb len fun f cdv A outer s H vs Q E hr h => by
  obtain ⟨t, ht, q⟩ := hbody f cdv A outer s H vs Q E hr h
  exact ⟨t, ht.nox, q⟩
end
section
variable {P : Program} {w : World} {K : Frag} {mg : Str → Option Value} {base : Heap}
theorem fn_okN {x : Str} {st : Stmt} {f : Addr} {fd : FuncData} {N ps : List Str} {k : Nat} {sp : Sp} (F : Fun K x x st f fd) (C : FnScope N ps (defScope st)) (len : ∀ vs H Q E, sp vs H Q E → vs.length = ps.length)
    (hbody : ∀ (cdv : Value) (A : Around) (outer : List Env) (s : Shared) (H : Hp) (vs : List V) (Q : VK) (E : XK), Room k (A.deeper (envOfC x (defScope st) s.heap.objs.size f cdv)) → sp vs H Q E →
      ∃ t, PSs (cxOf (L2.CX P w) P w K mg base N x (defScope st) f cdv A outer s H E).nox (defBody st) t ∧ t { nx := fun _ H' => Q .non H', rt := Q } (start N vs) H) :
    FnOk P w K mg base (L2.CX P w) (k + 1) f fd ps sp := F.okX C len fun cdv A outer s H vs Q E hr h => by
  obtain ⟨t, ht, q⟩ := hbody cdv A outer s H vs Q E hr h
  exact ⟨t, ht.nox, q⟩
end
theorem passL {X : Cx} : Passes (L2.CX X.prog X.w) X E0 := L2.passL
theorem passU {X : Cx} {E : XK} (tk : Takes X (fun cls d _ H => E cls d H)) : Passes (L2.CX X.prog X.w) X E := passes_call tk fun _ _ _ _ h => h
/-- a number of the module's -/
def Const (mg : Str → Option Value) (x : Str) (v : V) : Prop := ∃ u, mg x = some u ∧ RelV v u
theorem pe_const {X : Cx} {x : Str} {v : V} {pos : Pos} (c : Const X.mg x v) (hg : Gl X x := by rfl) (hd : (x == ("__debug__" : Str)) = false := by decide) : PE X (.Name x pos) (tC v) := by
  obtain ⟨u, m, r⟩ := c
  exact pe_glob hg m r hd
/-- an error class under ValueError -/
def Err (K : Frag) (mg : Str → Option Value) (x : Str) : Prop := ∃ C, mg x = some (.ref C) ∧ PySem.W.excIn K C [.type "ValueError", .type "Exception", .type "BaseException", .type "object"] "ValueError.__new__" = true ∧
  PySem.W.keepIn K (.ref C) = true ∧ PySem.W.subIn K (.ref C) (.type "BaseException") = some true ∧ PySem.W.typeIn K (.ref C) = some (.type "type")
theorem pmk {X : Cx} {x m : Str} {j : Nat} {p p2 pos : Pos} (E : Err X.K X.mg x) (hg : Gl X x := by rfl) (hdb : (x == ("__debug__" : Str)) = false := by decide) :
    PMk X (.Call (.Name x p) [.Constant (.str m) j p2] [] pos) (fun _ H Q => ∀ C, X.mg x = some (.ref C) → Q (.ref C) none H) := by
  obtain ⟨C, g, e, k, b, t⟩ := E
  intro pins s σ H Q I h
  exact pmk_own PySem.F.excBase_ValueError e g k (raises_own b t) hg hdb pins s σ H Q I (h C g)

/-! ### names of the interpreter -/
theorem boot_isinstance : bootBuiltins "isinstance" = some (.builtin "isinstance") := by decide +kernel
theorem boot_min : bootBuiltins "min" = some (.builtin "min") := by decide +kernel
theorem boot_max : bootBuiltins "max" = some (.builtin "max") := by decide +kernel
theorem boot_sum : bootBuiltins "sum" = some (.builtin "sum") := by decide +kernel
theorem boot_sorted : bootBuiltins "sorted" = some (.builtin "sorted") := by decide +kernel
theorem boot_all : bootBuiltins "all" = some (.builtin "all") := by decide +kernel
theorem boot_int : bootBuiltins "int" = some (.type "int") := by decide +kernel
theorem boot_bool : bootBuiltins "bool" = some (.type "bool") := by decide +kernel
theorem boot_str : bootBuiltins "str" = some (.type "str") := by decide +kernel
theorem boot_list : bootBuiltins "list" = some (.type "list") := by decide +kernel
theorem boot_tuple : bootBuiltins "tuple" = some (.type "tuple") := by decide +kernel
theorem boot_dict : bootBuiltins "dict" = some (.type "dict") := by decide +kernel
theorem boot_set : bootBuiltins "set" = some (.type "set") := by decide +kernel

/-! ### what is a list or a tuple -/
def Sq (K : Frag) (H : Hp) (a : Addr) (xs : List V) : Prop := SqL K H a xs ∨ SqT K H a xs
theorem Sq.ex {K : Frag} {H H' : Hp} {a : Addr} {xs : List V} (e : Ex H H') (h : Sq K H a xs) : Sq K H' a xs := h.elim (fun h => .inl (Evl.ex_l e h)) fun h => .inr (Evl.ex_t e h)
theorem Sq.l {K : Frag} {H : Hp} {a : Addr} {xs : List V} (h : SqL K H a xs) : Sq K H a xs := .inl h
theorem Sq.t {K : Frag} {H : Hp} {a : Addr} {xs : List V} (h : SqT K H a xs) : Sq K H a xs := .inr h
def iSq (K : Frag) (tl : TE) : TI := fun σ H R => iList K tl σ H R ∨ iTup K tl σ H R
theorem pi_sq {X : Cx} {tg l : Expr} {tl : TE} (hl : PE X l tl) : PI X tg l (iSq X.K tl) := ⟨fun pins s σ H R I h => h.elim (fun h => (pi_list hl).run pins s σ H R I h) fun h => (pi_tup hl).run pins s σ H R I h⟩
def rIxQ (K : Frag) : R2 := fun x y H Q => rIxL K x y H Q ∨ rIxT K x y H Q
theorem ix_sq {X : Cx} : IxR X (rIxQ X.K) := by
  intro value slice pins s σ H x y v u Q I rx ry h hs
  exact h.elim (fun h => ix_list value slice pins s σ H x y v u Q I rx ry h hs) fun h => ix_tup value slice pins s σ H x y v u Q I rx ry h hs

/-! ### kinds of values -/
def isNum : V → Bool
  | .int _ => true
  | _ => false
/-- a whole number from a least to a most one -/
def inB (x : V) (lo hi : Int) : Bool := match x with
  | .int i => decide (lo ≤ i) && decide (i ≤ hi)
  | _ => false
/-- a value whose class is told -/
def Kd (K : Frag) (H : Hp) (x : V) (t : String) : Prop := TyX K H x (.type t)
theorem Kd.int {K : Frag} {H : Hp} (i : Int) : Kd K H (.int i) "int" := .base (.int i)
theorem sz {n : Nat} (h : n ≤ 1000000) : n ≤ sizeLine := Nat.le_trans h (by decide)
theorem szl {n : Nat} (h : n ≤ 1000000) : n < sizeLine := Nat.lt_of_le_of_lt h (by decide)

/-! ### min(xs, default=d) of a list of ints -/
def rMinD (K : Frag) : List V → List V → Hp → VK → Prop := fun vs zs H Q => ∃ (a : Addr) (ns : List Int) (d : V), vs = [V.ref a] ∧ zs = [d] ∧ SqL K H a (ns.map V.int) ∧ (ns = [] → Q d H) ∧ ∀ m, m ∈ ns → (∀ y, y ∈ ns → m ≤ y) → Q (.int m) H

/-! ### loops, by what is gone through -/
theorem split_at {α : Type} {as : List α} {i : Nat} {x : α} (h : as[i]? = some x) : as = as.take i ++ x :: as.drop (i + 1) := by
  obtain ⟨hi, e⟩ := List.getElem?_eq_some_iff.mp h
  subst e
  simp
theorem take_snoc {α : Type} {as : List α} {i : Nat} {x : α} (h : as[i]? = some x) : as.take (i + 1) = as.take i ++ [x] := by
  rw [List.take_add_one, h]
  rfl
section
variable {K : Frag} {σ : L2.St} {H H' : Hp} {Q : VK} {QT : Bool → Hp → Prop} {i j : Nat} {v x y z : V} {ta tb te tl : TE} {tt tu tv : TT} {tr : TA} {b : Bool} {D : Ends} {s1 s2 ts : TS} {g : TG} {a : Addr} {xs ys : List V}
/-- a for's turns, from the iterator J -/
def ForRun (g : TG) (ts : TS) (D : Ends) (σ : L2.St) (J : It) (H1 : Hp) : Prop := ∃ W : Nat → Nat → L2.St → Hp → Prop, (∃ m, W 0 m σ H1) ∧ ∀ i m σ H, W i m σ H →
  (J.stop i H ∧ D.nx σ H) ∨ (J.go i H ∧ ∃ N : L2.St → Hp → Prop, (∀ σ' H', N σ' H' → ∃ m', m' < m ∧ W (i + 1) m' σ' H') ∧ ∀ x H', J.yld i H x H' → g x σ H' fun σ2 H2 => ts { D with nx := N, ct := N, bk := D.nx } σ2 H2)
theorem x_for {wi : TI} (h : wi σ H (ForRun g ts D σ)) : tFor wi g ts D σ H := h
theorem x_iList {R : It → Hp → Prop} (h : tl σ H fun x H1 => ∃ a, x = .ref a ∧ (∃ xs, SqL K H1 a xs) ∧ R (Itl K a) H1) : iList K tl σ H R := h
theorem x_iTup {R : It → Hp → Prop} (h : tl σ H fun x H1 => ∃ a, x = .ref a ∧ (∃ xs, SqT K H1 a xs) ∧ R (Itt K a) H1) : iTup K tl σ H R := h
theorem x_iRng1 {R : It → Hp → Prop} (h : tr σ H fun vs H1 => ∃ j : Int, vs = [.int j] ∧ -(2 ^ 62) ≤ j ∧ j < 2 ^ 62 ∧ R (Itr 0 j.toNat) H1) : iRng1 tr σ H R := h
theorem x_iRng2 {R : It → Hp → Prop} (h : tr σ H fun vs H1 => ∃ i j : Int, vs = [.int i, .int j] ∧ (-(2 ^ 62) ≤ i ∧ i < 2 ^ 62 ∧ -(2 ^ 62) ≤ j ∧ j < 2 ^ 62) ∧ R (Itr i (j - i).toNat) H1) : iRng2 tr σ H R := h
theorem x_rng1 {R : It → Hp → Prop} {n : Int} (hn : n ≤ 1000000 ∧ -1000000 ≤ n) (h : R (Itr 0 n.toNat) H) : ∃ j : Int, ([V.int n] : List V) = [.int j] ∧ -(2 ^ 62) ≤ j ∧ j < 2 ^ 62 ∧ R (Itr 0 j.toNat) H := ⟨n, rfl, by omega, by omega, h⟩
theorem x_rng2 {R : It → Hp → Prop} {m n : Int} (hm : m ≤ 1000000 ∧ -1000000 ≤ m) (hn : n ≤ 1000000 ∧ -1000000 ≤ n) (h : R (Itr m (n - m).toNat) H) :
    ∃ i j : Int, ([V.int m, V.int n] : List V) = [.int i, .int j] ∧ (-(2 ^ 62) ≤ i ∧ i < 2 ^ 62 ∧ -(2 ^ 62) ≤ j ∧ j < 2 ^ 62) ∧ R (Itr i (j - i).toNat) H := ⟨m, n, rfl, by omega, h⟩
/-- over a list that stands: as the items, f their values -/
theorem x_forL {α : Type} (as : List α) (f : α → V) (Pv : List α → L2.St → Hp → Prop) (h0 : Pv [] σ H) (hl : ∀ pre σ' H', pre.length ≤ as.length → Pv pre σ' H' → SqL K H' a (as.map f))
    (hs : ∀ pre x post σ' H', as = pre ++ x :: post → Pv pre σ' H' → g (f x) σ' H' fun σ2 H2 => ts { D with nx := Pv (pre ++ [x]), ct := Pv (pre ++ [x]), bk := D.nx } σ2 H2)
    (hd : ∀ σ' H', Pv as σ' H' → D.nx σ' H') : ∃ b, V.ref a = .ref b ∧ (∃ xs, SqL K H b xs) ∧ ForRun g ts D σ (Itl K b) H := by
  refine ⟨a, rfl, ⟨_, hl [] σ H (Nat.zero_le _) h0⟩, for_list (xs := as.map f) (fun i σ' H' => i ≤ as.length ∧ Pv (as.take i) σ' H') ⟨Nat.zero_le _, by rw [List.take_zero]; exact h0⟩ (fun i σ' H' _ p => hl _ σ' H' (by rw [List.length_take]; omega) p.2) (fun i x σ' H' hx p => ?_) fun σ' H' p => hd σ' H' (by
    have q := p.2
    rw [List.length_map, List.take_length] at q
    exact q)⟩
  rw [List.getElem?_map] at hx
  cases ex : as[i]? with
  | none => rw [ex] at hx; cases hx
  | some n =>
    rw [ex] at hx
    cases hx
    have hi : i < as.length := (List.getElem?_eq_some_iff.mp ex).1
    have q := hs (as.take i) n (as.drop (i + 1)) σ' H' (split_at ex) p.2
    have e1 : (fun σ'' H'' => i + 1 ≤ as.length ∧ Pv (as.take (i + 1)) σ'' H'') = Pv (as.take i ++ [n]) := by
      funext σ'' H''
      rw [take_snoc ex]
      exact propext ⟨fun q => q.2, fun q => ⟨hi, q⟩⟩
    rw [e1]
    exact q
theorem x_forT {α : Type} (as : List α) (f : α → V) (Pv : List α → L2.St → Hp → Prop) (h0 : Pv [] σ H) (hl : ∀ pre σ' H', pre.length ≤ as.length → Pv pre σ' H' → SqT K H' a (as.map f))
    (hs : ∀ pre x post σ' H', as = pre ++ x :: post → Pv pre σ' H' → g (f x) σ' H' fun σ2 H2 => ts { D with nx := Pv (pre ++ [x]), ct := Pv (pre ++ [x]), bk := D.nx } σ2 H2)
    (hd : ∀ σ' H', Pv as σ' H' → D.nx σ' H') : ∃ b, V.ref a = .ref b ∧ (∃ xs, SqT K H b xs) ∧ ForRun g ts D σ (Itt K b) H := by
  refine ⟨a, rfl, ⟨_, hl [] σ H (Nat.zero_le _) h0⟩, for_tup (xs := as.map f) (fun i σ' H' => i ≤ as.length ∧ Pv (as.take i) σ' H') ⟨Nat.zero_le _, by rw [List.take_zero]; exact h0⟩ (fun i σ' H' _ p => hl _ σ' H' (by rw [List.length_take]; omega) p.2) (fun i x σ' H' hx p => ?_) fun σ' H' p => hd σ' H' (by
    have q := p.2
    rw [List.length_map, List.take_length] at q
    exact q)⟩
  rw [List.getElem?_map] at hx
  cases ex : as[i]? with
  | none => rw [ex] at hx; cases hx
  | some n =>
    rw [ex] at hx
    cases hx
    have hi : i < as.length := (List.getElem?_eq_some_iff.mp ex).1
    have q := hs (as.take i) n (as.drop (i + 1)) σ' H' (split_at ex) p.2
    have e1 : (fun σ'' H'' => i + 1 ≤ as.length ∧ Pv (as.take (i + 1)) σ'' H'') = Pv (as.take i ++ [n]) := by
      funext σ'' H''
      rw [take_snoc ex]
      exact propext ⟨fun q => q.2, fun q => ⟨hi, q⟩⟩
    rw [e1]
    exact q
/-- over lo, lo + 1, .. : the turn's number k -/
theorem x_forR {lo : Int} {n : Nat} (Pv : Nat → L2.St → Hp → Prop) (h0 : Pv 0 σ H)
    (hs : ∀ k σ' H', k < n → Pv k σ' H' → g (.int (lo + (k : Nat))) σ' H' fun σ2 H2 => ts { D with nx := Pv (k + 1), ct := Pv (k + 1), bk := D.nx } σ2 H2)
    (hd : ∀ σ' H', Pv n σ' H' → D.nx σ' H') : ForRun g ts D σ (Itr lo n) H := for_range Pv h0 hs hd
theorem mono_var {k : Nat} (Q Q' : VK) (h : ∀ v H', Q v H' → Q' v H') (q : tVar k σ H Q) : tVar k σ H Q' := by
  obtain ⟨v, e, q⟩ := q
  exact ⟨v, e, h v H q⟩
/-- over a list or tuple that a name holds, which stood at H0 -/
theorem x_forQ {α : Type} {H0 : Hp} (as : List α) (f : α → V) (hv : σ[i]? = some (some (.ref a))) (hq : Sq K H0 a (as.map f)) (Pv : List α → L2.St → Hp → Prop) (h0 : Pv [] σ H) (hk : ∀ pre σ' H', pre.length ≤ as.length → Pv pre σ' H' → Ex H0 H')
    (hs : ∀ pre x post σ' H', as = pre ++ x :: post → Pv pre σ' H' → g (f x) σ' H' fun σ2 H2 => ts { D with nx := Pv (pre ++ [x]), ct := Pv (pre ++ [x]), bk := D.nx } σ2 H2)
    (hd : ∀ σ' H', Pv as σ' H' → D.nx σ' H') : tFor (iSq K (tVar i)) g ts D σ H := by
  have key : ∀ {k : Nat} {n : α} {σ' : L2.St} {H' : Hp}, as[k]? = some n → Pv (as.take k) σ' H' → g (f n) σ' H' fun σ2 H2 => ts { D with nx := fun σ'' H'' => k + 1 ≤ as.length ∧ Pv (as.take (k + 1)) σ'' H'', ct := fun σ'' H'' => k + 1 ≤ as.length ∧ Pv (as.take (k + 1)) σ'' H'', bk := D.nx } σ2 H2 := by
    intro k n σ' H' ex p
    have hi : k < as.length := (List.getElem?_eq_some_iff.mp ex).1
    have e1 : (fun σ'' H'' => k + 1 ≤ as.length ∧ Pv (as.take (k + 1)) σ'' H'') = Pv (as.take k ++ [n]) := by
      funext σ'' H''
      rw [take_snoc ex]
      exact propext ⟨fun q => q.2, fun q => ⟨hi, q⟩⟩
    rw [e1]
    exact hs (as.take k) n (as.drop (k + 1)) σ' H' (split_at ex) p
  have look : ∀ {k : Nat} {x : V}, (as.map f)[k]? = some x → ∃ n, as[k]? = some n ∧ x = f n := by
    intro k x hx
    rw [List.getElem?_map] at hx
    cases ex : as[k]? with
    | none => rw [ex] at hx; cases hx
    | some n => rw [ex] at hx; cases hx; exact ⟨n, rfl, rfl⟩
  have h0' : (0 : Nat) ≤ as.length ∧ Pv (as.take 0) σ H := ⟨Nat.zero_le _, by rw [List.take_zero]; exact h0⟩
  have hd' : ∀ σ' H', ((as.map f).length ≤ as.length ∧ Pv (as.take (as.map f).length) σ' H') → D.nx σ' H' := fun σ' H' p => hd σ' H' (by
    have q := p.2
    rw [List.length_map, List.take_length] at q
    exact q)
  rcases hq with hq | hq
  · refine .inl ⟨.ref a, hv, a, rfl, ⟨_, Evl.ex_l (hk [] σ H (Nat.zero_le _) h0) hq⟩, for_list (xs := as.map f) (fun i σ' H' => i ≤ as.length ∧ Pv (as.take i) σ' H') h0' (fun i σ' H' _ p => Evl.ex_l (hk _ σ' H' (by rw [List.length_take]; omega) p.2) hq) (fun i x σ' H' hx p => ?_) hd'⟩
    obtain ⟨n, ex, rfl⟩ := look hx
    exact key ex p.2
  · refine .inr ⟨.ref a, hv, a, rfl, ⟨_, Evl.ex_t (hk [] σ H (Nat.zero_le _) h0) hq⟩, for_tup (xs := as.map f) (fun i σ' H' => i ≤ as.length ∧ Pv (as.take i) σ' H') h0' (fun i σ' H' _ p => Evl.ex_t (hk _ σ' H' (by rw [List.length_take]; omega) p.2) hq) (fun i x σ' H' hx p => ?_) hd'⟩
    obtain ⟨n, ex, rfl⟩ := look hx
    exact key ex p.2
/-- while, by a word that falls -/
theorem x_while (W : Nat → L2.St → Hp → Prop) (m0 : Nat) (h0 : W m0 σ H)
    (hs : ∀ m σ' H', W m σ' H' → tt σ' H' fun b H1 => if b = true then ts { D with nx := fun σ2 H2 => ∃ m', m' < m ∧ W m' σ2 H2, ct := fun σ2 H2 => ∃ m', m' < m ∧ W m' σ2 H2, bk := D.nx } σ' H1 else D.nx σ' H1)
    (mono : ∀ σ H Q Q', (∀ b H1, Q b H1 → Q' b H1) → tt σ H Q → tt σ H Q') : tWhile tt ts D σ H := by
  refine ⟨W, ⟨m0, h0⟩, fun m σ' H' hw => mono σ' H' _ _ (fun b H1 q => ?_) (hs m σ' H' hw)⟩
  cases b with
  | true => exact ⟨_, fun _ _ q => q, q⟩
  | false => exact q

/-! ### list comprehensions -/
/-- what is to be said of [te for .. in a list if tt]: the items as, their values f; which are taken, what is made -/
def LcSay (K : Frag) (j : Nat) (vs : List Nat) (tt : TT) (te : TE) (σ : L2.St) (H1 : Hp) (Q : VK) (α : Type) (as : List α) (f : α → V) (p : α → Bool) (v : α → V) : Prop :=
  as.length ≤ 1000000 ∧ (∀ x, wipe ((wipe σ vs).set j (some x)) vs = wipe σ vs) ∧
  (∀ x ∈ as, ∀ H', Ex H1 H' → ∀ QT : Bool → Hp → Prop, (∀ H2, Ex H' H2 → QT (p x) H2) → tt ((wipe σ vs).set j (some (f x))) H' QT) ∧
  (∀ x ∈ as, p x = true → ∀ H', Ex H1 H' → ∀ Q' : VK, (∀ H2, Ex H' H2 → Q' (v x) H2) → te ((wipe σ vs).set j (some (f x))) H' Q') ∧
  ∀ D H2, H1 D = none → Ex H1 H2 → H2 D = some (.lst ((as.filter p).map v)) → Q (.ref D) H2
theorem lc_step {α : Type} {as : List α} {p : α → Bool} {v : α → V} {H1 H' : Hp} {Dl : Addr} {k : Nat} {n : α} {σ2 : L2.St} (hz : as.length ≤ 1000000) (ex : as[k]? = some n) (hD : H1 Dl = none) (e1 : Ex H1 H') (hl : H' Dl = some (.lst (((as.take k).filter p).map v)))
    (ht : ∀ QT : Bool → Hp → Prop, (∀ H2, Ex H' H2 → QT (p n) H2) → tt σ2 H' QT)
    (he : p n = true → ∀ H2, Ex H1 H2 → ∀ Q' : VK, (∀ H3, Ex H2 H3 → Q' (v n) H3) → te σ2 H2 Q') :
    tt σ2 H' fun b H3 => if b = true then te σ2 H3 fun y H4 => ∃ acc, H4 Dl = some (.lst acc) ∧ acc.length < sizeLine ∧ ((Ex H1 (upd H4 Dl (.lst (acc ++ [y])))) ∧ (upd H4 Dl (.lst (acc ++ [y]))) Dl = some (.lst (((as.take (k + 1)).filter p).map v)))
      else ((Ex H1 H3) ∧ H3 Dl = some (.lst (((as.take (k + 1)).filter p).map v))) := by
  refine ht _ fun H3 e3 => ?_
  rw [take_snoc ex, List.filter_append, List.map_append]
  cases hp : p n with
  | true =>
    refine x_true ?_
    refine he hp H3 (e1.trans e3) _ fun H4 e4 => ?_
    refine ⟨_, e4 Dl _ (e3 Dl _ hl), ?_, Evl.Ex.mut ((e1.trans e3).trans e4) hD, ?_⟩
    · have h1 := List.length_filter_le p (as.take k)
      rw [List.length_take] at h1
      rw [List.length_map]
      exact szl (by omega)
    · rw [upd_same, List.filter_cons, if_pos hp]
      rfl
  | false =>
    refine x_false ⟨e1.trans e3, ?_⟩
    rw [List.filter_cons, if_neg (by rw [hp]; decide), e3 Dl _ hl]
    simp
/-- a comprehension's turns, from the iterator J -/
def LcRun (g : TG) (tt : TT) (te : TE) (vs : List Nat) (σ : L2.St) (Q : VK) (J : It) (H1 : Hp) : Prop := ∀ D, H1 D = none → ∃ W : Nat → Nat → Hp → Prop, (∃ m, W 0 m (upd H1 D (.lst []))) ∧ ∀ i m H, W i m H →
  (J.stop i H ∧ Q (.ref D) H) ∨ (J.go i H ∧ ∃ Nx : Hp → Prop, (∀ H', Nx H' → ∃ m', m' < m ∧ W (i + 1) m' H') ∧ ∀ x H', J.yld i H x H' → g x (wipe σ vs) H' fun σ2 H2 => wipe σ2 vs = wipe σ vs ∧ tt σ2 H2 fun b H3 =>
    if b = true then te σ2 H3 fun y H4 => ∃ acc, H4 D = some (.lst acc) ∧ acc.length < sizeLine ∧ Nx (upd H4 D (.lst (acc ++ [y]))) else Nx H3)
theorem x_lc {wi : TI} {vs : List Nat} (h : wi σ H (LcRun g tt te vs σ Q)) : tLc wi g tt te vs σ H Q := h
theorem x_lcL {vs : List Nat} {α : Type} (as : List α) (f : α → V) (p : α → Bool) (v : α → V) (hl : SqL K H a (as.map f)) (h : LcSay K j vs tt te σ H Q α as f p v) :
    ∃ b, V.ref a = .ref b ∧ (∃ xs, SqL K H b xs) ∧ LcRun (gName j) tt te vs σ Q (Itl K b) H := by
  obtain ⟨hz, hw, ht, he, q⟩ := h
  refine ⟨a, rfl, ⟨_, hl⟩, fun Dl hD => lc_list (xs := as.map f) (fun k H' => Ex H H' ∧ H' Dl = some (.lst (((as.take k).filter p).map v))) ⟨Evl.Ex.new hD, by rw [upd_same]; rfl⟩ (fun k H' _ pp => Evl.ex_l pp.1 hl) (fun k x H' hx pp => ?_) fun H' pp => q Dl H' hD pp.1 (by
    have r := pp.2
    rw [List.length_map, List.take_length] at r
    exact r)⟩
  rw [List.getElem?_map] at hx
  cases ex : as[k]? with
  | none => rw [ex] at hx; cases hx
  | some n =>
    rw [ex] at hx
    cases hx
    have hm : n ∈ as := List.mem_of_getElem? ex
    exact ⟨hw _, lc_step hz ex hD pp.1 pp.2 (ht n hm H' pp.1) fun hp H2 e2 => he n hm hp H2 e2⟩
theorem x_lcT {vs : List Nat} {α : Type} (as : List α) (f : α → V) (p : α → Bool) (v : α → V) (hl : SqT K H a (as.map f)) (h : LcSay K j vs tt te σ H Q α as f p v) :
    ∃ b, V.ref a = .ref b ∧ (∃ xs, SqT K H b xs) ∧ LcRun (gName j) tt te vs σ Q (Itt K b) H := by
  obtain ⟨hz, hw, ht, he, q⟩ := h
  refine ⟨a, rfl, ⟨_, hl⟩, fun Dl hD => lc_tup (xs := as.map f) (fun k H' => Ex H H' ∧ H' Dl = some (.lst (((as.take k).filter p).map v))) ⟨Evl.Ex.new hD, by rw [upd_same]; rfl⟩ (fun k H' _ pp => Evl.ex_t pp.1 hl) (fun k x H' hx pp => ?_) fun H' pp => q Dl H' hD pp.1 (by
    have r := pp.2
    rw [List.length_map, List.take_length] at r
    exact r)⟩
  rw [List.getElem?_map] at hx
  cases ex : as[k]? with
  | none => rw [ex] at hx; cases hx
  | some n =>
    rw [ex] at hx
    cases hx
    have hm : n ∈ as := List.mem_of_getElem? ex
    exact ⟨hw _, lc_step hz ex hD pp.1 pp.2 (ht n hm H' pp.1) fun hp H2 e2 => he n hm hp H2 e2⟩
/-- lo, lo + 1, .. below hi -/
def irange (lo hi : Int) : List Int := (List.range (hi - lo).toNat).map fun k => lo + ((k : Nat) : Int)
theorem irange_len (lo hi : Int) : (irange lo hi).length = (hi - lo).toNat := by unfold irange; rw [List.length_map, List.length_range]
theorem irange_at {lo hi : Int} {k : Nat} (h : k < (hi - lo).toNat) : (irange lo hi)[k]? = some (lo + (k : Int)) := by
  unfold irange
  rw [List.getElem?_map, List.getElem?_range h]
  rfl
theorem mem_irange {lo hi i : Int} : i ∈ irange lo hi ↔ lo ≤ i ∧ i < hi := by
  unfold irange
  rw [List.mem_map]
  constructor
  · rintro ⟨k, hk, rfl⟩
    rw [List.mem_range] at hk
    omega
  · rintro ⟨h1, h2⟩
    exact ⟨(i - lo).toNat, by rw [List.mem_range]; omega, by omega⟩
theorem x_lcR {lo hi : Int} {vs : List Nat} (p : Int → Bool) (v : Int → V) (h : LcSay K j vs tt te σ H Q Int (irange lo hi) V.int p v) : LcRun (gName j) tt te vs σ Q (Itr lo (hi - lo).toNat) H := by
  obtain ⟨hz, hw, ht, he, q⟩ := h
  intro Dl hD
  refine lc_range (fun k H' => Ex H H' ∧ H' Dl = some (.lst ((((irange lo hi).take k).filter p).map v))) ⟨Evl.Ex.new hD, by rw [upd_same]; rfl⟩ (fun k H' hk pp => ?_) fun H' pp => q Dl H' hD pp.1 (by
    have r := pp.2
    rw [List.take_of_length_le (by rw [irange_len]; exact Nat.le_refl _)] at r
    exact r)
  have ex := irange_at hk
  have hm := List.mem_of_getElem? ex
  exact ⟨hw _, lc_step hz ex hD pp.1 pp.2 (ht _ hm H' pp.1) fun hp H2 e2 => he _ hm hp H2 e2⟩
end

/-! ### min(xs, default=d) -/
section
open PySem.W (dataLt dataLt_ii dataLt_pair minD min_list_default)
theorem dataLt_int (x y : Int) : dataLt (.int x) (.int y) = decide (x < y) := by
  have h := dataLt_ii 0 x 0 y
  rw [dataLt_pair rfl rfl] at h
  have e0 : PyData.eqv (.int 0) (.int 0) = true := by decide
  rw [if_pos e0] at h
  by_cases e : PyData.eqv (.int x) (.int y) = true
  · rw [if_pos e] at h
    have hxy : x = y := by simpa [PyData.eqv] using e
    subst hxy
    rw [show dataLt (.int x) (.int x) = false from PySem.W.dataLt_self _]
    simp
  · rw [if_neg e] at h
    rw [h]
    simp
theorem minD_least : ∀ (ns : List Int) (n : Int), ∃ m, minD (.int n) (ns.map PyData.int) = .int m ∧ m ∈ n :: ns ∧ ∀ y ∈ n :: ns, m ≤ y
  | [], n => ⟨n, rfl, by simp, by simp⟩
  | a :: ns, n => by
    have e : minD (.int n) ((a :: ns).map PyData.int) = minD (if dataLt (.int a) (.int n) then .int a else .int n) (ns.map PyData.int) := rfl
    rw [e, dataLt_int]
    by_cases h : a < n
    · rw [decide_eq_true h, if_pos rfl]
      obtain ⟨m, e1, h1, h2⟩ := minD_least ns a
      refine ⟨m, e1, List.mem_cons_of_mem _ h1, fun y hy => ?_⟩
      rcases List.mem_cons.mp hy with rfl | hy
      · exact Int.le_trans (h2 a List.mem_cons_self) (Int.le_of_lt h)
      · exact h2 y hy
    · rw [decide_eq_false h, if_neg Bool.false_ne_true]
      obtain ⟨m, e1, h1, h2⟩ := minD_least ns n
      refine ⟨m, e1, ?_, fun y hy => ?_⟩
      · rcases List.mem_cons.mp h1 with rfl | h1
        · exact List.mem_cons_self
        · exact List.mem_cons_of_mem _ (List.mem_cons_of_mem _ h1)
      · rcases List.mem_cons.mp hy with rfl | hy
        · exact h2 y List.mem_cons_self
        · rcases List.mem_cons.mp hy with rfl | hy
          · exact Int.le_trans (h2 n List.mem_cons_self) (by omega)
          · exact h2 y (List.mem_cons_of_mem _ hy)
theorem reads_ints {h : Heap} : ∀ {ns : List Int} {us : List Value}, Vals (ns.map V.int) us → ReadsAll h us (ns.map PyData.int) []
  | [], _, .nil => .nil
  | n :: ns, _, .cons r t => by
    obtain ⟨t1, rfl⟩ := r
    exact .cons (as := []) (bs := []) (Reads.int n t1) (reads_ints t)
theorem depth_ints : ∀ ns : List Int, PyData.depthAll (ns.map PyData.int) ≤ 1
  | [] => by decide
  | n :: ns => by
    have h := depth_ints ns
    show PyData.depthAll (PyData.int n :: ns.map PyData.int) ≤ 1
    simp only [PyData.depthAll, PyData.depth]
    omega
theorem call_minD {X : Cx} (hc : X.calm = true) (hu : X.A.units + 64 < cLine) : CallRK X (.builtin "min") [Str.ofString "default"] (rMinD X.K) := by
  intro pins s σ H xs zs us ws Q I r rz h
  obtain ⟨a, ns, d, rfl, rfl, hs, h0, h1⟩ := h
  obtain ⟨its, rv, hl, _⟩ := I.list hs
  obtain rfl := Vals.ref1 r
  obtain ⟨w1, rfl, e1⟩ := vals1 rz
  have hd := depth_ints ns
  refine min_list_default (xs := ns.map PyData.int) (as := []) (I.ok.hd hc) hl.isList (by simpa using reads_ints rv) ⟨fun x hx y hy => ?_, fun x hx => ?_⟩ (by omega) (fun e h' tk hk => ⟨d, H, I.kept hk, e1, h0 (by simpa using e)⟩) (fun y ys i v h' tk bs e hi hr hk => ?_)
  · obtain ⟨_, _, rfl⟩ := List.mem_map.mp hx
    obtain ⟨_, _, rfl⟩ := List.mem_map.mp hy
    rfl
  · obtain ⟨_, _, rfl⟩ := List.mem_map.mp hx
    exact fun z => nomatch z
  · cases ns with
    | nil => cases e
    | cons n ns =>
      injection e with e2 e3
      subst e2 e3
      obtain ⟨m, em, m1, m2⟩ := minD_least ns n
      rw [em] at hr
      obtain ⟨t, rfl, _⟩ := PyProof.Rows.reads_int_inv hr
      exact ⟨.int m, H, I.kept hk, ⟨t, rfl⟩, h1 m m1 m2⟩
end
end B

namespace B
open PySem PySem.Spec PyProof.Rows L2
open PySem.W (Frag)
/-! ### kinds of values -/
inductive KS where
  | non | bl | int | str | lst | tup | dct
  deriving DecidableEq
inductive Kind (K : Frag) (H : Hp) : V → KS → Prop where
  | non : Kind K H .non .non
  | bl (b : Bool) : Kind K H (.bl b) .bl
  | int (i : Int) : Kind K H (.int i) .int
  | str (x : Str) : Kind K H (.str x) .str
  | lst {a : Addr} {xs : List V} (h : SqL K H a xs) : Kind K H (.ref a) .lst
  | tup {a : Addr} {xs : List V} (h : SqT K H a xs) : Kind K H (.ref a) .tup
  | dct {a : Addr} {kvs : List (Key × V)} (h : H a = some (.dK kvs)) : Kind K H (.ref a) .dct
theorem Kind.ex {K : Frag} {H H' : Hp} {x : V} {s : KS} (e : Ex H H') (h : Kind K H x s) : Kind K H' x s := by
  cases h with
  | non => exact .non
  | bl b => exact .bl b
  | int i => exact .int i
  | str x => exact .str x
  | lst h => exact .lst (Evl.ex_l e h)
  | tup h => exact .tup (Evl.ex_t e h)
  | dct h => exact .dct (e _ _ h)
def KS.name : KS → String
  | .non => "NoneType" | .bl => "bool" | .int => "int" | .str => "str" | .lst => "list" | .tup => "tuple" | .dct => "dict"
/-- the class a value's kind is under -/
def KS.isA : KS → String → Bool
  | .bl, t => t == "bool" || t == "int"
  | k, t => k.name == t
theorem Kind.ty {K : Frag} {H : Hp} {x : V} {s : KS} (h : Kind K H x s) : TyX K H x (.type s.name) := by
  cases h with
  | non => exact .base .non
  | bl b => exact .base (.bl b)
  | int i => exact .base (.int i)
  | str x => exact .base (.str x)
  | lst h =>
    rcases h with (h | ⟨o, h⟩) | ⟨o, its, n, h⟩
    · exact .base (.lst h)
    · exact .base (.frz h)
    · exact .kList h.1 h.2.1
  | tup h =>
    rcases h with (h | ⟨o, h⟩) | ⟨o, its, n, h⟩
    · exact .base (.tup h)
    · exact .fTuple h
    · exact .kTuple h.1 h.2.1
  | dct h => exact .base (.dK h)

section
variable {K : Frag} {σ : L2.St} {H H' : Hp} {Q : VK} {QT : Bool → Hp → Prop} {i j : Nat} {v x y z : V} {ta tb te tl : TE} {tt tu tv : TT} {tr : TA} {b : Bool} {D : Ends} {s1 s2 ts : TS} {g : TG} {a : Addr} {xs ys : List V}
/-! ### isinstance -/
theorem kit_int (s : KS) : PySem.W.kitOne K (.type s.name) (.type "int") = some (s.isA "int") := by cases s <;> exact kit_ty (by decide +kernel)
theorem kit_bool (s : KS) : PySem.W.kitOne K (.type s.name) (.type "bool") = some (s.isA "bool") := by cases s <;> exact kit_ty (by decide +kernel)
theorem kit_list (s : KS) : PySem.W.kitOne K (.type s.name) (.type "list") = some (s.isA "list") := by cases s <;> exact kit_ty (by decide +kernel)
theorem kit_tuple (s : KS) : PySem.W.kitOne K (.type s.name) (.type "tuple") = some (s.isA "tuple") := by cases s <;> exact kit_ty (by decide +kernel)
theorem kit_str (s : KS) : PySem.W.kitOne K (.type s.name) (.type "str") = some (s.isA "str") := by cases s <;> exact kit_ty (by decide +kernel)
theorem x_isi_int {s : KS} (k : Kind K H x s) (q : Q (.bl (s.isA "int")) H) : rIsi K [x, .ty "int"] H Q := ⟨x, _, _, _, _, rfl, .ty _, k.ty, kit_int s, q⟩
theorem x_isi_bool {s : KS} (k : Kind K H x s) (q : Q (.bl (s.isA "bool")) H) : rIsi K [x, .ty "bool"] H Q := ⟨x, _, _, _, _, rfl, .ty _, k.ty, kit_bool s, q⟩
theorem x_isi_list {s : KS} (k : Kind K H x s) (q : Q (.bl (s.isA "list")) H) : rIsi K [x, .ty "list"] H Q := ⟨x, _, _, _, _, rfl, .ty _, k.ty, kit_list s, q⟩
theorem x_isi_tuple {s : KS} (k : Kind K H x s) (q : Q (.bl (s.isA "tuple")) H) : rIsi K [x, .ty "tuple"] H Q := ⟨x, _, _, _, _, rfl, .ty _, k.ty, kit_tuple s, q⟩
theorem x_isi_str {s : KS} (k : Kind K H x s) (q : Q (.bl (s.isA "str")) H) : rIsi K [x, .ty "str"] H Q := ⟨x, _, _, _, _, rfl, .ty _, k.ty, kit_str s, q⟩
/-- isinstance(x, (list, tuple)) -/
theorem x_isiLT {s : KS} {p : Addr} (k : Kind K H x s) (hp : H p = some (.tup [.ty "list", .ty "tuple"])) (q : Q (.bl (s.isA "list" || s.isA "tuple")) H) : rIsiT K [x, .ref p] H Q := by
  refine ⟨x, p, _, _, _, s.isA "list" || s.isA "tuple", rfl, hp, .cons (.ty _) (.cons (.ty _) .nil), k.ty, kitAny_cons (kit_list s) (fun e => kitAny_cons (r := s.isA "list" || s.isA "tuple") (kit_tuple s) (fun e2 => ?_) ?_) ?_, q⟩
  · rw [e, e2]; exact kitAny_nil
  all_goals (cases s <;> decide)

/-! ### lists and tuples: lengths, items, copies -/
def rLen (K : Frag) : List V → Hp → VK → Prop := fun xs H Q => ∃ p ys, xs = [.ref p] ∧ (SqL K H p ys ∨ SqT K H p ys) ∧ Q (.int ys.length) H
def rListOf (K : Frag) : List V → Hp → VK → Prop := fun xs H Q => ∃ p ys, xs = [.ref p] ∧ (SqL K H p ys ∨ SqT K H p ys) ∧ ∀ l, H l = none → Q (.ref l) (upd H l (.lst ys))
def rTupOf (K : Frag) : List V → Hp → VK → Prop := fun xs H Q => ∃ p ys, xs = [.ref p] ∧ ((SqL K H p ys ∧ ∀ l, H l = none → Q (.ref l) (upd H l (.tup ys))) ∨ (SqT K H p ys ∧ Q (.ref p) H))
theorem call_len {X : Cx} : CallR X (.builtin "len") (rLen X.K) := call_len_seq
theorem call_listOf {X : Cx} : CallR X (.type "list") (rListOf X.K) := call_list_of
theorem call_tupOf {X : Cx} : CallR X (.type "tuple") (rTupOf X.K) := call_tuple_of
def rMin2 : List V → Hp → VK → Prop := fun xs H Q => ∃ i j, xs = [.int i, .int j] ∧ Q (.int (if j < i then j else i)) H
def rMax2 : List V → Hp → VK → Prop := fun xs H Q => ∃ i j, xs = [.int i, .int j] ∧ Q (.int (if j > i then j else i)) H
theorem call_min2 {X : Cx} (hc : X.calm = true) : CallR X (.builtin "min") rMin2 := L2.call_min2 hc
theorem call_max2 {X : Cx} (hc : X.calm = true) : CallR X (.builtin "max") rMax2 := L2.call_max2 hc
theorem x_len (h : Sq K H a xs) (q : Q (.int xs.length) H) : rLen K [.ref a] H Q := ⟨a, xs, rfl, h, q⟩
theorem x_min2 {m n : Int} (q : Q (.int (if n < m then n else m)) H) : rMin2 [.int m, .int n] H Q := ⟨m, n, rfl, q⟩
theorem x_max2 {m n : Int} (q : Q (.int (if n > m then n else m)) H) : rMax2 [.int m, .int n] H Q := ⟨m, n, rfl, q⟩
theorem x_ixL {k : Int} (h : SqL K H a xs) (e : atI xs k = some v) (q : Q v H) : rIxL K (.ref a) (.int k) H Q := ⟨a, xs, k, v, rfl, rfl, h, e, q⟩
theorem x_ixT {k : Int} (h : SqT K H a xs) (e : atI xs k = some v) (q : Q v H) : rIxT K (.ref a) (.int k) H Q := ⟨a, xs, k, v, rfl, rfl, h, e, q⟩
theorem x_listOf (h : Sq K H a xs) (q : ∀ p H', H p = none → Ex H H' → H' p = some (.lst xs) → Q (.ref p) H') : rListOf K [.ref a] H Q := ⟨a, xs, rfl, h, x_new q⟩
theorem x_tupOf (h : SqL K H a xs) (q : ∀ p H', H p = none → Ex H H' → H' p = some (.tup xs) → Q (.ref p) H') : rTupOf K [.ref a] H Q := ⟨a, xs, rfl, .inl ⟨h, x_new q⟩⟩
/-! ### data compared -/
def vd : V → PyData
  | .non => .none
  | .bl b => .bool b
  | .int i => .int i
  | .str x => .str x
  | _ => .none
/-- None and whole numbers -/
def plainV : V → Bool
  | .non => true
  | .int _ => true
  | _ => false
theorem eqv_vd {x y : V} (hx : plainV x = true) (hy : plainV y = true) : PyData.eqv (vd x) (vd y) = decide (x = y) := by
  cases x <;> cases y <;> simp [plainV, vd, PyData.eqv] at * <;> exact Bool.beq_eq_decide_eq _ _
theorem eqv_vdAll : ∀ {xs ys : List V}, xs.all plainV = true → ys.all plainV = true → PyData.eqvAll (xs.map vd) (ys.map vd) = decide (xs = ys)
  | [], [], _, _ => by simp [PyData.eqvAll]
  | [], _ :: _, _, _ => by simp [PyData.eqvAll]
  | _ :: _, [], _, _ => by simp [PyData.eqvAll]
  | x :: xs, y :: ys, hx, hy => by
    simp only [List.all_cons, Bool.and_eq_true] at hx hy
    show (PyData.eqv (vd x) (vd y) && PyData.eqvAll (xs.map vd) (ys.map vd)) = _
    rw [eqv_vd hx.1 hy.1, eqv_vdAll hx.2 hy.2]
    by_cases e1 : x = y <;> by_cases e2 : xs = ys <;> simp [e1, e2]
theorem dpAll_vd : ∀ {xs : List V}, xs.all plainV = true → DpAll K H xs (xs.map vd)
  | [], _ => .nil
  | x :: xs, h => by
    simp only [List.all_cons, Bool.and_eq_true] at h
    refine .cons ?_ (dpAll_vd h.2)
    cases x <;> simp [plainV] at h
    · exact .non
    · exact .int _
theorem can_vd : ∀ xs : List V, xs.all plainV = true → PyData.canLayAll0 (xs.map vd) = true ∧ PyData.depthAll (xs.map vd) ≤ 1
  | [], _ => by decide
  | x :: xs, h => by
    simp only [List.all_cons, Bool.and_eq_true] at h
    obtain ⟨h1, h2⟩ := can_vd xs h.2
    cases x <;> simp [plainV] at h <;> simp_all [vd, PyData.canLayAll0, PyData.canLay0, PyData.depthAll, PyData.depth]
theorem shaped_l {xs : List V} (h : xs.all plainV = true) : SeqAt.shaped (.list (xs.map vd)) = true := by
  obtain ⟨h1, h2⟩ := can_vd xs h
  simp only [SeqAt.shaped, PyData.canLay0, PyData.depth, h1, Bool.true_and, decide_eq_true_eq]
  exact decide_eq_true (by omega)
theorem shaped_t {xs : List V} (h : xs.all plainV = true) : SeqAt.shaped (.tuple (xs.map vd)) = true := by
  obtain ⟨h1, h2⟩ := can_vd xs h
  simp only [SeqAt.shaped, PyData.canLay0, PyData.depth, h1, Bool.true_and, decide_eq_true_eq]
  exact decide_eq_true (by omega)
theorem x_eqL {c : Addr} (h1 : SqL K H a xs) (h2 : SqL K H c ys) (p1 : xs.all plainV = true) (p2 : ys.all plainV = true) (q : Q (.bl (decide (xs = ys))) H) : rEqD K (.ref a) (.ref c) H Q :=
  ⟨_, _, .lst h1 (dpAll_vd p1), .lst h2 (dpAll_vd p2), shaped_l p1, shaped_l p2, by rw [show PyData.eqv (.list (xs.map vd)) (.list (ys.map vd)) = PyData.eqvAll (xs.map vd) (ys.map vd) from by simp only [PyData.eqv], eqv_vdAll p1 p2]; exact q⟩
theorem x_neL {c : Addr} (h1 : SqL K H a xs) (h2 : SqL K H c ys) (p1 : xs.all plainV = true) (p2 : ys.all plainV = true) (q : Q (.bl (!decide (xs = ys))) H) : rNeD K (.ref a) (.ref c) H Q :=
  ⟨_, _, .lst h1 (dpAll_vd p1), .lst h2 (dpAll_vd p2), shaped_l p1, shaped_l p2, by rw [show PyData.eqv (.list (xs.map vd)) (.list (ys.map vd)) = PyData.eqvAll (xs.map vd) (ys.map vd) from by simp only [PyData.eqv], eqv_vdAll p1 p2]; exact q⟩
theorem x_eqT {c : Addr} (h1 : SqT K H a xs) (h2 : SqT K H c ys) (p1 : xs.all plainV = true) (p2 : ys.all plainV = true) (q : Q (.bl (decide (xs = ys))) H) : rEqD K (.ref a) (.ref c) H Q :=
  ⟨_, _, .tup h1 (dpAll_vd p1), .tup h2 (dpAll_vd p2), shaped_t p1, shaped_t p2, by rw [show PyData.eqv (.tuple (xs.map vd)) (.tuple (ys.map vd)) = PyData.eqvAll (xs.map vd) (ys.map vd) from by simp only [PyData.eqv], eqv_vdAll p1 p2]; exact q⟩
theorem x_neT {c : Addr} (h1 : SqT K H a xs) (h2 : SqT K H c ys) (p1 : xs.all plainV = true) (p2 : ys.all plainV = true) (q : Q (.bl (!decide (xs = ys))) H) : rNeD K (.ref a) (.ref c) H Q :=
  ⟨_, _, .tup h1 (dpAll_vd p1), .tup h2 (dpAll_vd p2), shaped_t p1, shaped_t p2, by rw [show PyData.eqv (.tuple (xs.map vd)) (.tuple (ys.map vd)) = PyData.eqvAll (xs.map vd) (ys.map vd) from by simp only [PyData.eqv], eqv_vdAll p1 p2]; exact q⟩
theorem plain_ints (ns : List Int) : (ns.map V.int).all plainV = true := by simp [plainV]
theorem ints_inj {ns ms : List Int} : ns.map V.int = ms.map V.int ↔ ns = ms := by
  constructor
  · intro h
    exact (List.map_inj_right (fun a b e => V.int.inj e)).mp h
  · intro h; rw [h]
/-- a ship's berth, or None -/
def optV : Option Int → V
  | none => .non
  | some b => .int b
theorem plain_opts (os : List (Option Int)) : (os.map optV).all plainV = true := by
  rw [List.all_map, List.all_eq_true]
  intro o _
  cases o <;> rfl
theorem optV_inj {a b : Option Int} (h : optV a = optV b) : a = b := by cases a <;> cases b <;> simp [optV] at h <;> simp_all
/-! ### sums, sorts -/
theorem x_sum {ns : List Int} (h : SqL K H a (ns.map V.int)) (q : Q (.int ns.sum) H) : rSum K [.ref a] H Q := ⟨a, ns, rfl, h, q⟩
theorem x_sorted {ns : List Int} (h : SqL K H a (ns.map V.int)) (q : ∀ (ns' : List Int) p H', ns'.Perm ns → ns'.Pairwise (· ≤ ·) → H p = none → Ex H H' → H' p = some (.lst (ns'.map V.int)) → Q (.ref p) H') : rSortedI K [.ref a] H Q :=
  ⟨a, ns, rfl, h, fun ns' p h1 h2 hp => q ns' p _ h1 h2 hp (Evl.Ex.new hp) upd_same⟩
end
end B

namespace B
open PySem PySem.Spec PyProof.Rows L2
open PySem.W (Frag)
/-! ### an object is changed -/
structure Upd (H : Hp) (l : Addr) (o : HO) (H' : Hp) : Prop where
  same : H' l = some o
  other : ∀ b, b ≠ l → H' b = H b
theorem Upd.mk0 {H : Hp} {l : Addr} {o : HO} : Upd H l o (upd H l o) := ⟨upd_same, fun _ h => upd_ne h⟩
theorem Upd.ex {H0 H H' : Hp} {l : Addr} {o : HO} (u : Upd H l o H') (e : Ex H0 H) (h : H0 l = none) : Ex H0 H' := fun b x q => by
  rw [u.other b (ne_of_none q h)]
  exact e b x q
theorem Upd.get {H H' : Hp} {l b : Addr} {o x : HO} (u : Upd H l o H') (n : b ≠ l) (h : H b = some x) : H' b = some x := by rw [u.other b n]; exact h
theorem Upd.getL {K : Frag} {H H' : Hp} {l b : Addr} {o : HO} {xs : List V} (u : Upd H l o H') (n : b ≠ l) (h : SqL K H b xs) : SqL K H' b xs := by
  rcases h with (h | ⟨z, h⟩) | h
  · exact .inl (.inl (u.get n h))
  · exact .inl (.inr ⟨z, u.get n h⟩)
  · exact .inr h
section
variable {K : Frag} {σ : L2.St} {H H' : Hp} {Q : VK} {QT : Bool → Hp → Prop} {i j : Nat} {v x y z : V} {ta tb te tl tv to td : TE} {tt tu : TT} {t tr : TA} {b : Bool} {D : Ends} {s1 s2 ts : TS} {g : TG} {a l : Addr} {xs ys : List V} {kvs : List (Key × V)} {k : Key}
/-! ### methods of lists -/
def rBML (K : Frag) (T : String) (r : V → List V → Hp → VK → Prop) (t : TA) (σ : L2.St) (Q : VK) : V → Hp → Prop := fun x H1 => tyV K T x H1 ∧ t σ H1 fun vs H2 => r x vs H2 Q
theorem x_BM {T : String} {r : V → List V → Hp → VK → Prop} (h : to σ H (rBML K T r t σ Q)) : tBM K T r to t σ H Q := h
def rBM0L (K : Frag) (T : String) (r : V → List V → Hp → VK → Prop) (Q : VK) : V → Hp → Prop := fun x H1 => tyV K T x H1 ∧ r x [] H1 Q
theorem x_BM0 {T : String} {r : V → List V → Hp → VK → Prop} (h : to σ H (rBM0L K T r Q)) : tBM0 K T r to σ H Q := h
theorem x_onL {r : V → List V → Hp → VK → Prop} (hl : SqL K H l xs) (h : t σ H fun vs H2 => r (.ref l) vs H2 Q) : rBML K "list" r t σ Q (.ref l) H := ⟨.inl ⟨rfl, xs, hl⟩, h⟩
theorem x_onL0 {r : V → List V → Hp → VK → Prop} (hl : SqL K H l xs) (h : r (.ref l) [] H Q) : rBM0L K "list" r Q (.ref l) H := ⟨.inl ⟨rfl, xs, hl⟩, h⟩
theorem x_append (hl : H l = some (.lst xs)) (hz : xs.length ≤ 1000000) (q : ∀ H', Upd H l (.lst (xs ++ [y])) H' → Q .non H') : rAppend (.ref l) [y] H Q := ⟨l, xs, y, rfl, rfl, hl, szl hz, q _ .mk0⟩
theorem x_remove {ns : List Int} {n : Int} (hl : H l = some (.lst (ns.map V.int))) (hj : ns[j]? = some n) (hno : ∀ m : Nat, m < j → ns[m]? ≠ some n) (q : ∀ H', Upd H l (.lst ((ns.eraseIdx j).map V.int)) H' → Q .non H') : rRemI (.ref l) [.int n] H Q :=
  ⟨l, ns, n, j, rfl, rfl, hl, hj, hno, q _ .mk0⟩
theorem x_clear (hl : H l = some (.lst xs)) (q : ∀ H', Upd H l (.lst []) H' → Q .non H') : rClear (.ref l) [] H Q := ⟨l, xs, rfl, rfl, hl, q _ .mk0⟩
theorem x_pop (hl : H l = some (.lst xs)) (hy : xs[xs.length - 1]? = some y) (q : ∀ H', Upd H l (.lst xs.dropLast) H' → Q y H') : rPop (.ref l) [] H Q := ⟨l, xs, y, rfl, rfl, hl, hy, q _ .mk0⟩
/-- xs.pop(i), i from 0 -/
theorem x_popAt {n : Nat} (hl : H l = some (.lst xs)) (hz : xs.length ≤ 1000000) (hy : xs[n]? = some y) (q : ∀ H', Upd H l (.lst (xs.eraseIdx n)) H' → Q y H') : rPopAt (.ref l) [.int (n : Nat)] H Q := by
  have hn : n < xs.length := (List.getElem?_eq_some_iff.mp hy).1
  refine ⟨l, xs, (n : Int), n, y, rfl, rfl, hl, by omega, by omega, ?_, hy, q _ .mk0⟩
  unfold seqIndex?
  have h0 : (0 : Int) ≤ (n : Int) := by omega
  have h1 : (n : Int) < (xs.length : Int) := by omega
  first
    | (simp only [h0, h1, if_true, Int.toNat_natCast]; done)
    | (simp [h0, h1]; done)
    | (rw [if_pos h0, if_pos h1]; simp)
    | (simp; omega)
/-- xs[i] = e -/
theorem x_asgG {G : TG} (h : te σ H fun v H1 => G v σ H1 D.nx) : tAsg te G D σ H := h
def gSubC (ti : TE) (w : TSet) (v : V) (σ : L2.St) (Qn : L2.St → Hp → Prop) : V → Hp → Prop := fun o H1 => ti σ H1 fun i H2 => w o i v H2 fun H3 => Qn σ H3
theorem x_gSub {Qn : L2.St → Hp → Prop} {w : TSet} (h : to σ H fun o H1 => tb σ H1 fun i H2 => w o i v H2 (Qn σ)) : gSub to tb w v σ H Qn := h
theorem x_setL {n : Nat} {Qh : Hp → Prop} (hl : H l = some (.lst xs)) (hn : n < xs.length) (q : ∀ H', Upd H l (.lst (xs.set n v)) H' → Qh H') : rSetL (.ref l) (.int (n : Nat)) v H Qh := ⟨l, xs, (n : Int), n, rfl, rfl, hl, Evl.ixN_nat hn, q _ .mk0⟩
/-! ### dicts -/
def rDIn (y x : V) : Hp → VK → Prop := fun H Q => ∃ a o, x = .ref a ∧ DGet H a y o ∧ Q (.bl o.isSome) H
def rDNotIn (y x : V) : Hp → VK → Prop := fun H Q => ∃ a o, x = .ref a ∧ DGet H a y o ∧ Q (.bl (!o.isSome)) H
theorem x_dIn (h : ta σ H fun y H1 => td σ H1 fun x H2 => rDIn y x H2 Q) : tDIn ta td σ H Q := h
theorem x_dNotIn (h : ta σ H fun y H1 => td σ H1 fun x H2 => rDNotIn y x H2 Q) : tDNotIn ta td σ H Q := h
theorem x_inI {n : Int} (hd : H a = some (.dK kvs)) (q : Q (.bl (valV kvs (.inl n)).isSome) H) : rDIn (.int n) (.ref a) H Q := ⟨a, _, rfl, DGet.k (k := .inl n) hd, q⟩
theorem x_inS {n : Str} (hd : H a = some (.dK kvs)) (q : Q (.bl (valV kvs (.inr n)).isSome) H) : rDIn (.str n) (.ref a) H Q := ⟨a, _, rfl, DGet.k (k := .inr n) hd, q⟩
theorem x_notInI {n : Int} (hd : H a = some (.dK kvs)) (q : Q (.bl (!(valV kvs (.inl n)).isSome)) H) : rDNotIn (.int n) (.ref a) H Q := ⟨a, _, rfl, DGet.k (k := .inl n) hd, q⟩
theorem x_notInS {n : Str} (hd : H a = some (.dK kvs)) (q : Q (.bl (!(valV kvs (.inr n)).isSome)) H) : rDNotIn (.str n) (.ref a) H Q := ⟨a, _, rfl, DGet.k (k := .inr n) hd, q⟩
def rDGet (x y : V) : Hp → VK → Prop := fun H Q => ∃ a v, x = .ref a ∧ DGet H a y (some v) ∧ Q v H
theorem x_dGet (h : td σ H fun x H1 => ta σ H1 fun y H2 => rDGet x y H2 Q) : tDGet td ta σ H Q := h
theorem x_getI {n : Int} (hd : H a = some (.dK kvs)) (e : valV kvs (.inl n) = some v) (q : Q v H) : rDGet (.ref a) (.int n) H Q := ⟨a, v, rfl, by rw [← e]; exact DGet.k (k := .inl n) hd, q⟩
theorem x_getS {n : Str} (hd : H a = some (.dK kvs)) (e : valV kvs (.inr n) = some v) (q : Q v H) : rDGet (.ref a) (.str n) H Q := ⟨a, v, rfl, by rw [← e]; exact DGet.k (k := .inr n) hd, q⟩
def rDPut (v x y : V) (nx : Hp → Prop) : Hp → Prop := fun H => ∃ a H4, x = .ref a ∧ DPut H a y v H4 ∧ nx H4
theorem x_dPut (h : tv σ H fun v H1 => td σ H1 fun x H2 => ta σ H2 fun y H3 => rDPut v x y (D.nx σ) H3) : sDPut td ta tv D σ H := h
theorem x_putI {n : Int} {nx : Hp → Prop} (hd : H a = some (.dK kvs)) (hz : kvs.length ≤ 1000000) (q : ∀ H', Upd H a (.dK (putK kvs (.inl n) v)) H' → nx H') : rDPut v (.ref a) (.int n) nx H := ⟨a, _, rfl, DPut.k (k := .inl n) hd (szl hz), q _ .mk0⟩
theorem x_putS {n : Str} {nx : Hp → Prop} (hd : H a = some (.dK kvs)) (hz : kvs.length ≤ 1000000) (q : ∀ H', Upd H a (.dK (putK kvs (.inr n) v)) H' → nx H') : rDPut v (.ref a) (.str n) nx H := ⟨a, _, rfl, DPut.k (k := .inr n) hd (szl hz), q _ .mk0⟩
/-! ### list(range(a, b)) -/
theorem rgV_eq (m n : Int) : rgV m n = (irange m n).map V.int := by unfold rgV irange; rw [List.map_map]; rfl
def rLstRg (Q : VK) : Int → Int → Hp → Prop := fun a b H1 => RgOk a b ∧ ∀ q, H1 q = none → Q (.ref q) (upd H1 q (.lst (rgV a b)))
theorem x_lstRg {tg : L2.St → Hp → (Int → Int → Hp → Prop) → Prop} (h : tg σ H (rLstRg Q)) : tLstRg tg σ H Q := h
theorem x_rg1 {R : Int → Int → Hp → Prop} (h : ta σ H fun x H1 => ∃ n, x = .int n ∧ R 0 n H1) : tRg1 ta σ H R := h
theorem x_rg2 {R : Int → Int → Hp → Prop} (h : ta σ H fun x H1 => tb σ H1 fun y H2 => ∃ i j, x = .int i ∧ y = .int j ∧ R i j H2) : tRg2 ta tb σ H R := h
theorem x_mkRg1 {n : Int} (hn : n ≤ 1000000 ∧ -1000000 ≤ n) (q : ∀ p H', H p = none → Ex H H' → H' p = some (.lst ((irange 0 n).map V.int)) → Q (.ref p) H') : ∃ m, V.int n = .int m ∧ rLstRg Q 0 m H :=
  ⟨n, rfl, ⟨by omega, by omega, by omega, by omega, by omega⟩, fun p hp => q p _ hp (Evl.Ex.new hp) (by rw [upd_same, rgV_eq])⟩
theorem x_mkRg2 {m n : Int} (hm : m ≤ 1000000 ∧ -1000000 ≤ m) (hn : n ≤ 1000000 ∧ -1000000 ≤ n) (q : ∀ p H', H p = none → Ex H H' → H' p = some (.lst ((irange m n).map V.int)) → Q (.ref p) H') : ∃ i j, V.int m = .int i ∧ V.int n = .int j ∧ rLstRg Q i j H :=
  ⟨m, n, rfl, rfl, ⟨by omega, by omega, by omega, by omega, by omega⟩, fun p hp => q p _ hp (Evl.Ex.new hp) (by rw [upd_same, rgV_eq])⟩
/-! ### keywords -/
theorem x_CKw {r : List V → List V → Hp → VK → Prop} {tk : TA} (h : t σ H fun vs H1 => tk σ H1 fun zs H2 => r vs zs H2 Q) : tCKw r t tk σ H Q := h
theorem x_minD {ns : List Int} {d : V} (h : SqL K H a (ns.map V.int)) (q0 : ns = [] → Q d H) (q : ∀ m, m ∈ ns → (∀ y, y ∈ ns → m ≤ y) → Q (.int m) H) : rMinD K [.ref a] [d] H Q := ⟨a, ns, d, rfl, rfl, h, q0, q⟩
/-! ### slices -/
theorem x_sl {r : V → Option Int → Option Int → Hp → VK → Prop} {tl' th : TO} (h : te σ H fun x H1 => tl' σ H1 fun lo H2 => th σ H2 fun hi H3 => r x lo hi H3 Q) : tSl r te tl' th σ H Q := h
theorem x_noPart {QO : Option Int → Hp → Prop} (h : QO none H) : tNoPart σ H QO := h
def rPart (QO : Option Int → Hp → Prop) : V → Hp → Prop := fun x H1 => ∃ i, x = .int i ∧ QO (some i) H1
theorem x_part {QO : Option Int → Hp → Prop} (h : te σ H (rPart QO)) : tPart te σ H QO := h
theorem x_partI {QO : Option Int → Hp → Prop} {n : Int} (h : QO (some n) H) : rPart QO (.int n) H := ⟨n, rfl, h⟩
theorem x_slL {lo hi : Option Int} (h : SqL K H a xs) (q : ∀ p H', H p = none → Ex H H' → H' p = some (.lst (cutV xs lo hi)) → Q (.ref p) H') : rSlL K (.ref a) lo hi H Q := ⟨a, xs, rfl, h, x_new q⟩
end
theorem at_head {x : V} {xs : List V} : atI (x :: xs) 0 = some x := by
  have h : atI (x :: xs) ((0 : Nat) : Int) = some x := atI_nat rfl
  exact h
/-- slices of lists, by drop and take -/
theorem cut_from (xs : List V) (n : Nat) : cutV xs (some (n : Int)) none = xs.drop n := by
  unfold cutV
  rw [HT.sIx_none, HT.sIx_nat]
  rcases Nat.le_total n xs.length with h | h
  · rw [Nat.min_eq_left h, List.take_of_length_le (by rw [List.length_drop]; exact Nat.le_refl _)]
  · rw [Nat.min_eq_right h, List.drop_length, List.drop_eq_nil_of_le h]
    simp
theorem cut_to (xs : List V) (n : Nat) : cutV xs none (some (n : Int)) = xs.take n := by
  unfold cutV
  rw [HT.sIx_none, HT.sIx_nat, List.drop_zero, Nat.sub_zero]
  rcases Nat.le_total n xs.length with h | h
  · rw [Nat.min_eq_left h]
  · rw [Nat.min_eq_right h, List.take_of_length_le h, List.take_of_length_le (Nat.le_refl _)]

/-! ### [e for a, b in zip(xs, ys) if t] -/
section
variable {K : Frag} {σ : L2.St} {H H' : Hp} {Q : VK} {i j : Nat} {te : TE} {tt : TT} {t : TA} {a b : Addr}
def rZip (K : Frag) (R : It → Hp → Prop) : List V → Hp → Prop := fun vs H1 => ∃ a b xs ys, vs = [.ref a, .ref b] ∧ SqL K H1 a xs ∧ SqL K H1 b ys ∧ R (Itz K a b) H1
theorem x_iZip {R : It → Hp → Prop} (h : t σ H (rZip K R)) : iZip K t σ H R := h
def LcSay2 (i j : Nat) (vs : List Nat) (tt : TT) (te : TE) (σ : L2.St) (H1 : Hp) (Q : VK) (α β : Type) (as : List (α × β)) (f : α → V) (g : β → V) (p : α × β → Bool) (v : α × β → V) : Prop :=
  as.length ≤ 1000000 ∧ (∀ x y, wipe (((wipe σ vs).set i (some x)).set j (some y)) vs = wipe σ vs) ∧
  (∀ x ∈ as, ∀ H', Ex H1 H' → ∀ QT : Bool → Hp → Prop, (∀ H2, Ex H' H2 → QT (p x) H2) → tt (((wipe σ vs).set i (some (f x.1))).set j (some (g x.2))) H' QT) ∧
  (∀ x ∈ as, p x = true → ∀ H', Ex H1 H' → ∀ Q' : VK, (∀ H2, Ex H' H2 → Q' (v x) H2) → te (((wipe σ vs).set i (some (f x.1))).set j (some (g x.2))) H' Q') ∧
  ∀ D H2, H1 D = none → Ex H1 H2 → H2 D = some (.lst ((as.filter p).map v)) → Q (.ref D) H2
theorem x_lcZ {α β : Type} {vs : List Nat} (xs : List α) (ys : List β) (f : α → V) (g : β → V) (p : α × β → Bool) (v : α × β → V) (h1 : SqL K H a (xs.map f)) (h2 : SqL K H b (ys.map g))
    (h : LcSay2 i j vs tt te σ H Q α β (xs.zip ys) f g p v) : rZip K (LcRun (gTup K 2 (gCons (gName i) (gCons (gName j) gNil))) tt te vs σ Q) [.ref a, .ref b] H := by
  obtain ⟨hz, hw, ht, he, q⟩ := h
  refine ⟨a, b, _, _, rfl, h1, h2, fun D hD => ?_⟩
  refine ⟨fun k m H' => m = (xs.zip ys).length - k ∧ k ≤ (xs.zip ys).length ∧ Ex H H' ∧ H' D = some (.lst ((((xs.zip ys).take k).filter p).map v)), ⟨_, rfl, Nat.zero_le _, Evl.Ex.new hD, by rw [upd_same]; rfl⟩, ?_⟩
  rintro k m H' ⟨rfl, hk, e1, hl⟩
  have q1 := Evl.ex_l e1 h1
  have q2 := Evl.ex_l e1 h2
  by_cases hlt : k < (xs.zip ys).length
  · have hlz := List.length_zip (l₁ := xs) (l₂ := ys)
    have kx : k < xs.length := by omega
    have ky : k < ys.length := by omega
    have ex : (xs.zip ys)[k]? = some (xs[k], ys[k]) := by rw [List.getElem?_eq_getElem hlt, List.getElem_zip]
    have mx : (xs.map f)[k]? = some (f xs[k]) := by rw [List.getElem?_map, List.getElem?_eq_getElem kx]; rfl
    have my : (ys.map g)[k]? = some (g ys[k]) := by rw [List.getElem?_map, List.getElem?_eq_getElem ky]; rfl
    refine .inr ⟨⟨_, _, _, _, q1, q2, mx, my⟩, fun H'' => Ex H H'' ∧ H'' D = some (.lst ((((xs.zip ys).take (k + 1)).filter p).map v)), fun H'' p' => ⟨_, by omega, rfl, hlt, p'.1, p'.2⟩, fun x H2 y => ?_⟩
    obtain ⟨T, x', y', rfl, hT, rfl, f1, f2⟩ := y
    have ex1 := Option.some.inj (mx.symm.trans (f1 _ q1))
    have ey1 := Option.some.inj (my.symm.trans (f2 _ q2))
    subst ex1 ey1
    have mem := List.mem_of_getElem? ex
    have e2 : Ex H' (upd H' T (.tup [f xs[k], g ys[k]])) := Evl.Ex.new hT
    refine ⟨T, _, rfl, .inl (.inl upd_same), rfl, _, _, rfl, _, _, rfl, rfl, hw _ _, ?_⟩
    exact lc_step hz ex hD (e1.trans e2) (e2 _ _ hl) (ht _ mem _ (e1.trans e2)) fun hp H3 e3 => he _ mem hp H3 e3
  · have e : k = (xs.zip ys).length := by omega
    subst e
    have hlz := List.length_zip (l₁ := xs) (l₂ := ys)
    refine .inl ⟨⟨_, _, q1, q2, ?_⟩, q D H' hD e1 ?_⟩
    · rw [List.length_map, List.length_map]
      omega
    · rw [List.take_length] at hl
      exact hl
end
end B

namespace B
open PySem PySem.Spec PyProof.Rows L2
open PySem.W (Frag)
section
variable {X : Cx} {tg : Expr}
/-! ### xs[i] op= e, of a list, at a place in its bounds -/
def rGetN (K : Frag) : V → V → Hp → VK → Prop := fun o i H Q => ∃ p xs k v, o = .ref p ∧ i = .int k ∧ SqL K H p xs ∧ 0 ≤ k ∧ atI xs k = some v ∧ Q v H
theorem get_list : PGet X (rGetN X.K) := by
  intro pins s σ H o i ov iv Q I ro ri h
  obtain ⟨p, xs, k, v, rfl, rfl, hq, k0, hv, q⟩ := h
  cases ro
  obtain ⟨t, rfl⟩ := ri
  obtain ⟨its, r, pl, hz⟩ := I.list hq
  obtain ⟨j, h1, h2, h3, h4, h5⟩ := atI_get hv
  obtain ⟨w, ew, rw'⟩ := r.get h2
  have hn := line63
  have hj : k.toNat = j := by
    rw [seqIndex_of k0 h5] at h1
    exact Option.some.inj h1
  exact wpAny_getItem_list pl.isList k0 (by omega) (by rw [hj]; simpa using ew) ⟨v, H, I, rw', q⟩
theorem ps_augL {o i e : Expr} {to ti te : TE} {tip : TIp} {op : Operator} {tpos pos : Pos} (ho : PE X o to) (hi : PE X i ti) (he : PE X e te) (hp : PIp X op tip)
    (ha : ∀ ov iv new, augStore i ov iv new = (do holding [new, ov, iv] (setItem ov iv new); release [new, ov, iv] []; pure .next) := by intros; rfl) : PS X (.AugAssign (.Subscript o i tpos) op e pos) (tAugS to ti te (rGetN X.K) tip rSetL) :=
  ps_augS ho hi get_list he hp set_list ha
end
section
variable {K : Frag} {σ : L2.St} {H H' : Hp} {Q : VK} {QT : Bool → Hp → Prop} {i j : Nat} {v x y z : V} {ta tb te tl to ti : TE} {tt : TT} {tr : TA} {b : Bool} {D : Ends} {ts : TS} {g : TG} {a l p : Addr} {xs ys : List V}
def rSetC (o i : V) (nx : Hp → Prop) : V → Hp → Prop := fun z H5 => rSetL o i z H5 nx
theorem x_augS {ip : TIp} (h : to σ H fun o H1 => ti σ H1 fun i H2 => rGetN K o i H2 fun x H3 => te σ H3 fun y H4 => ip x y H4 (rSetC o i (D.nx σ))) : tAugS to ti te (rGetN K) ip rSetL D σ H := h
theorem x_getN {n : Nat} (hl : SqL K H p xs) (hx : xs[n]? = some v) (q : Q v H) : rGetN K (.ref p) (.int (n : Nat)) H Q := ⟨p, xs, n, v, rfl, rfl, hl, by omega, atI_nat hx, q⟩
theorem x_setC {n : Nat} {nx : Hp → Prop} (hl : H l = some (.lst xs)) (hn : n < xs.length) (q : ∀ H', Upd H l (.lst (xs.set n v)) H' → nx H') : rSetC (.ref l) (.int (n : Nat)) nx v H := ⟨l, xs, (n : Int), n, rfl, rfl, hl, Evl.ixN_nat hn, q _ .mk0⟩
/-! ### range with a step of -1 -/
def rRng3 (R : It → Hp → Prop) : List V → Hp → Prop := fun vs H1 => ∃ (i j c : Int) (n : Nat), vs = [.int i, .int j, .int c] ∧ RgC i j c n ∧ R (Itc i c n) H1
theorem x_iRng3 {R : It → Hp → Prop} (h : tr σ H (rRng3 R)) : iRng3 tr σ H R := h
theorem x_down {R : It → Hp → Prop} {m n : Int} (hm : m ≤ 1000000 ∧ -1000000 ≤ m) (hn : n ≤ 1000000 ∧ -1000000 ≤ n) (h : R (Itc m (-1) (m - n).toNat) H) : rRng3 R [.int m, .int n, .int (-1)] H := ⟨m, n, -1, _, rfl, RgC.neg (by omega) (by omega) (by omega) (by omega), h⟩
theorem x_forC {lo c : Int} {n : Nat} (Pv : Nat → L2.St → Hp → Prop) (h0 : Pv 0 σ H)
    (hs : ∀ k σ' H', k < n → Pv k σ' H' → g (.int (lo + (k : Nat) * c)) σ' H' fun σ2 H2 => ts { D with nx := Pv (k + 1), ct := Pv (k + 1), bk := D.nx } σ2 H2)
    (hd : ∀ σ' H', Pv n σ' H' → D.nx σ' H') : ForRun g ts D σ (Itc lo c n) H := for_rangeC Pv h0 hs hd
/-! ### is, of bools -/
theorem op_isbl {X : Cx} : OpR X (compareOp .Is) rIsB := op_isBl
theorem x_isB {c d : Bool} (q : Q (.bl (decide (c = d))) H) : rIsB (.bl c) (.bl d) H Q := ⟨c, d, rfl, rfl, q⟩
/-! ### xs[::-1] -/
def rRevL (K : Frag) (Q : VK) : V → Hp → Prop := fun x H1 => ∃ a xs, x = .ref a ∧ SqL K H1 a xs ∧ ∀ p, H1 p = none → Q (.ref p) (upd H1 p (.lst xs.reverse))
theorem x_revL (h : te σ H (rRevL K Q)) : tRevL K te σ H Q := h
theorem x_rev (h : SqL K H a xs) (q : ∀ p H', H p = none → Ex H H' → H' p = some (.lst xs.reverse) → Q (.ref p) H') : rRevL K Q (.ref a) H := ⟨a, xs, rfl, h, x_new q⟩
/-! ### xs * n -/
theorem x_rep {n : Int} (hl : H l = some (.lst xs)) (h0 : 0 ≤ n) (h1 : n ≤ 1000000) (hz : xs.length ≤ 1) (q : ∀ p H', H p = none → Ex H H' → H' p = some (.lst ((List.replicate n.toNat xs).flatten)) → Q (.ref p) H') : rRep (.ref l) (.int n) H Q := by
  refine ⟨l, n, xs, rfl, rfl, hl, by omega, by omega, sz ?_, fun p hp => ?_⟩
  · have : xs.length * n.toNat ≤ 1 * n.toNat := Nat.mul_le_mul_right _ hz
    omega
  · exact q p _ hp (Evl.Ex.new hp) (by rw [upd_same])
/-! ### for i, x in enumerate(xs) -/
def rEnum (K : Frag) (R : It → Hp → Prop) : List V → Hp → Prop := fun vs H1 => ∃ a xs, vs = [.ref a] ∧ SqL K H1 a xs ∧ R (Ite K a) H1
theorem x_iEnum {R : It → Hp → Prop} (h : tr σ H (rEnum K R)) : iEnum K tr σ H R := h
theorem x_forE {α : Type} (as : List α) (f : α → V) (Pv : List α → L2.St → Hp → Prop) (h0 : Pv [] σ H) (hl : ∀ pre σ' H', pre.length ≤ as.length → Pv pre σ' H' → SqL K H' a (as.map f))
    (mono : ∀ pre σ' H' H'', Pv pre σ' H' → Ex H' H'' → Pv pre σ' H'')
    (hs : ∀ pre x post σ' H', as = pre ++ x :: post → Pv pre σ' H' → ts { D with nx := Pv (pre ++ [x]), ct := Pv (pre ++ [x]), bk := D.nx } ((σ'.set i (some (.int (pre.length : Nat)))).set j (some (f x))) H')
    (hd : ∀ σ' H', Pv as σ' H' → D.nx σ' H') : rEnum K (ForRun (gTup K 2 (gCons (gName i) (gCons (gName j) gNil))) ts D σ) [.ref a] H := by
  refine ⟨a, _, rfl, hl [] σ H (Nat.zero_le _) h0, fun k m σ' H' => m = as.length - k ∧ k ≤ as.length ∧ Pv (as.take k) σ' H', ⟨_, rfl, Nat.zero_le _, by rw [List.take_zero]; exact h0⟩, ?_⟩
  rintro k m σ' H' ⟨rfl, hk, p⟩
  have hq := hl _ σ' H' (by rw [List.length_take]; omega) p
  by_cases hlt : k < as.length
  · have ex : as[k]? = some as[k] := List.getElem?_eq_getElem hlt
    have ev : (as.map f)[k]? = some (f as[k]) := by rw [List.getElem?_map, ex]; rfl
    refine .inr ⟨⟨_, _, hq, ev⟩, Pv (as.take k ++ [as[k]]), fun σ'' H'' p' => ⟨as.length - (k + 1), by omega, rfl, hlt, by rw [take_snoc ex]; exact p'⟩, fun x H2 y => ?_⟩
    obtain ⟨T, x', rfl, hT, rfl, f1⟩ := y
    have e1 := Option.some.inj (ev.symm.trans (f1 _ hq))
    subst e1
    refine ⟨T, _, rfl, .inl (.inl upd_same), rfl, _, _, rfl, _, _, rfl, rfl, ?_⟩
    have q := hs (as.take k) as[k] (as.drop (k + 1)) σ' _ (split_at ex) (mono _ _ _ _ p (Evl.Ex.new (o := .tup [.int (k : Nat), f as[k]]) hT))
    have el : (as.take k).length = k := by rw [List.length_take]; omega
    rw [el] at q
    exact q
  · have e : k = as.length := by omega
    subst e
    refine .inl ⟨⟨_, hq, by rw [List.length_map]; exact Nat.le_refl _⟩, hd σ' H' ?_⟩
    rw [List.take_length] at p
    exact p
end
end B
namespace B
open PySem PySem.Spec PyProof.Rows L2
/-- a statement at which the steps stop -/
def tStop (t : TS) : TS := t
theorem ps_stop {X : Cx} {st : Stmt} {t : TS} (h : PS X st t) : PS X st (tStop t) := h
theorem x_stop {t : TS} {D : Ends} {σ : L2.St} {H : Hp} (h : t D σ H) : tStop t D σ H := h
/-- what follows a statement is shown once, from R -/
theorem x_join {t : TS} {D : Ends} {σ : L2.St} {H : Hp} (R : L2.St → Hp → Prop) (hr : ∀ σ' H', R σ' H' → D.nx σ' H') (h : (∀ σ' H', R σ' H' → D.nx σ' H') → t D σ H) : tStop t D σ H := h hr
/-- an edge that the search for facts does not take -/
def Far (H H' : Hp) : Prop := Ex H H'
theorem Far.of {H H' : Hp} (e : Ex H H') : Far H H' := e
theorem Far.e {H H' : Hp} (e : Far H H') : Ex H H' := e
theorem inV_int (b : Int) (ms : List Int) : inV (.int b) (ms.map V.int) = decide (b ∈ ms) := by
  unfold inV
  induction ms with
  | nil => simp
  | cons a ms ih =>
    rw [List.map_cons, List.any_cons, ih]
    by_cases h : b = a
    · subst h
      simp [eqV]
    · have h2 : ¬ a = b := fun z => h z.symm
      simp [eqV, h, h2]
theorem x_notIn {K : PySem.W.Frag} {H : Hp} {Q : VK} {p : Addr} {ms : List Int} {b : Int} (h : SqL K H p (ms.map V.int)) (q : Q (.bl (!decide (b ∈ ms))) H) : rIn K true (.int b) (.ref p) H Q :=
  ⟨p, _, rfl, .inl h, rfl, by simp [flatV], by rw [inV_int]; exact q⟩
theorem x_isIn {K : PySem.W.Frag} {H : Hp} {Q : VK} {p : Addr} {ms : List Int} {b : Int} (h : SqL K H p (ms.map V.int)) (q : Q (.bl (decide (b ∈ ms))) H) : rIn K false (.int b) (.ref p) H Q :=
  ⟨p, _, rfl, .inl h, rfl, by simp [flatV], by rw [inV_int]; exact q⟩
theorem cut_init (xs : List V) : cutV xs none (some (-1)) = xs.dropLast := by
  unfold cutV
  have h : HT.sIx xs.length xs.length (some (-1)) = xs.length - 1 := by
    show (if (-1 : Int) < 0 then ((-1 : Int) + (xs.length : Int)).toNat else min (-1 : Int).toNat xs.length) = _
    rw [if_pos (by decide)]
    omega
  rw [HT.sIx_none, h, List.drop_zero, Nat.sub_zero, List.dropLast_eq_take]
end B

namespace My
open PySem PySem.Spec PyProof.Rows L2 B
/-! ### the steps' rows -/
local macro_rules | `(tactic| walk_at "hx") => `(tactic| first
  | assumption
  | exact Evl.Ex.refl _
  | exact Upd.same (by assumption)
  | ((with_reducible refine' exg (by assumption) ?k1); (case k1 => walk_at "hx"))
  | ((with_reducible refine' Upd.get (by assumption) (by walk_at "ne") ?k1); (case k1 => walk_at "hx"))
  | ((with_reducible refine' Evl.Ex.trans ?k1 (by assumption)); (case k1 => walk_at "hx"))
  | ((with_reducible refine' Upd.ex (by assumption) ?k1 (by first | assumption | exact exn (by assumption) (by assumption))); (case k1 => walk_at "hx"))
  | ((with_reducible refine' Sq.l ?k1); (case k1 => walk_at "hx"))
  | ((with_reducible refine' Sq.t ?k1); (case k1 => walk_at "hx"))
  | ((with_reducible refine' Or.inl ?k1); (case k1 => walk_at "hx"))
  | ((with_reducible refine' Or.inr ?k1); (case k1 => walk_at "hx"))
  | ((with_reducible refine' Evl.sq_of ?k1); (case k1 => walk_at "hx"))
  | ((with_reducible refine' Evl.st_of ?k1); (case k1 => walk_at "hx"))
  | ((with_reducible refine' Evl.ex_l (by assumption) ?k1); (case k1 => walk_at "hx"))
  | ((with_reducible refine' Evl.ex_t (by assumption) ?k1); (case k1 => walk_at "hx"))
  | ((with_reducible refine' Sq.ex (by assumption) ?k1); (case k1 => walk_at "hx"))
  | ((with_reducible refine' Wishes.ex (by assumption) ?k1); (case k1 => walk_at "hx")))
local macro_rules | `(tactic| walk_at "ne") => `(tactic| first
  | assumption
  | exact Ne.symm (by assumption)
  | exact ne_of_none (by assumption) (by assumption)
  | exact Ne.symm (ne_of_none (by assumption) (by assumption)))
local macro_rules | `(tactic| walk_at "goa") => `(tactic| first
  | with_reducible refine x_nx ?_
  | with_reducible refine x_seq ?_
  | with_reducible refine x_next ?_
  | with_reducible refine x_rt ?_
  | with_reducible refine x_asg ?_
  | with_reducible refine x_ret ?_
  | with_reducible refine x_gName ?_
  | with_reducible refine x_ifS ?_
  | with_reducible refine x_drop ?_
  | ((with_reducible refine' x_var ?k1 ?_); (case k1 => exact rfl))
  | with_reducible refine x_c ?_
  | with_reducible refine x_op ?_
  | with_reducible refine x_tup ?_
  | with_reducible refine x_lst ?_
  | with_reducible refine x_for ?_
  | with_reducible refine x_lc ?_
  | with_reducible refine x_iList ?_
  | with_reducible refine x_iTup ?_
  | with_reducible refine x_iZip ?_
  | with_reducible refine x_iRng3 ?_
  | with_reducible refine x_iEnum ?_
  | with_reducible refine x_augS ?_
  | with_reducible refine x_isB ?_
  | with_reducible refine x_revL ?_
  | with_reducible refine x_iRng1 ?_
  | with_reducible refine x_iRng2 ?_
  | with_reducible refine x_un ?_
  | with_reducible refine x_rI0 ?_
  | ((with_reducible refine x_rEq ?k1 ?_); (case k1 => exact rfl))
  | ((with_reducible refine x_rNe ?k1 ?_); (case k1 => exact rfl))
  | with_reducible refine x_rU ?_
  | with_reducible refine x_nil ?_
  | with_reducible refine x_cons ?_
  | with_reducible refine x_CB ?_
  | with_reducible refine x_call ?_
  | with_reducible refine x_test ?_
  | with_reducible refine x_B ?_
  | with_reducible refine x_bl ?_
  | with_reducible refine x_and ?_
  | with_reducible refine x_or ?_
  | with_reducible refine x_not ?_
  | with_reducible refine x_andV ?_
  | with_reducible refine x_orV ?_
  | with_reducible refine x_notV ?_
  | with_reducible refine x_blV ?_
  | with_reducible refine x_if ?_
  | with_reducible refine x_isN ?_
  | with_reducible refine x_notN ?_
  | with_reducible refine x_BM ?_
  | with_reducible refine x_BM0 ?_
  | with_reducible refine x_asgG ?_
  | with_reducible refine x_gSub ?_
  | with_reducible refine x_dIn ?_
  | with_reducible refine x_dNotIn ?_
  | with_reducible refine x_dGet ?_
  | with_reducible refine x_dPut ?_
  | with_reducible refine x_lstRg ?_
  | with_reducible refine x_rg1 ?_
  | with_reducible refine x_rg2 ?_
  | with_reducible refine x_CKw ?_
  | with_reducible refine x_sl ?_
  | with_reducible refine x_noPart ?_
  | with_reducible refine x_part ?_
  | with_reducible refine x_partI ?_
  | ((with_reducible refine' x_aug ?k1 ?_); (case k1 => exact rfl))
  | with_reducible refine x_ipI ?_
  | ((with_reducible refine' x_onL ?k1 ?_); (case k1 => walk_at "hx"))
  | ((with_reducible refine' x_onL0 ?k1 ?_); (case k1 => walk_at "hx"))
  | ((with_reducible refine' x_len ?k1 ?_); (case k1 => walk_at "hx"))
  | ((with_reducible refine' x_inI ?k1 ?_); (case k1 => walk_at "hx"))
  | ((with_reducible refine' x_inS ?k1 ?_); (case k1 => walk_at "hx"))
  | ((with_reducible refine' x_notInI ?k1 ?_); (case k1 => walk_at "hx"))
  | ((with_reducible refine' x_notInS ?k1 ?_); (case k1 => walk_at "hx"))
  | with_reducible refine x_brk ?_
  | with_reducible refine x_cont ?_
  | with_reducible refine x_true ?_
  | with_reducible refine x_false ?_)
local macro_rules | `(tactic| walk_at "go") => `(tactic| repeat walk_at "goa")


def top (i : Nat) : Stmt := PySem.Challenge.pw_berthrow_k03_whole_any_order.main.body.getD i (.Pass ⟨0, 0, 0, 0⟩)
abbrev s_is_number : Stmt := top 6
abbrev n_is_number : List Str := ["thing", "least", "most"]
theorem sc_is_number : FnScope n_is_number ["thing", "least", "most"] (defScope s_is_number) := ⟨rfl, rfl, rfl, by decide +kernel, rfl, by decide +kernel, by decide +kernel⟩
abbrev s_need_quay : Stmt := top 7
abbrev n_need_quay : List Str := ["berths"]
theorem sc_need_quay : FnScope n_need_quay ["berths"] (defScope s_need_quay) := ⟨rfl, rfl, rfl, by decide +kernel, rfl, by decide +kernel, by decide +kernel⟩
abbrev s_need_wishes : Stmt := top 8
abbrev n_need_wishes : List Str := ["berths", "wishes", "wish"]
theorem sc_need_wishes : FnScope n_need_wishes ["berths", "wishes"] (defScope s_need_wishes) := ⟨rfl, rfl, rfl, by decide +kernel, rfl, by decide +kernel, by decide +kernel⟩
abbrev s_placed : Stmt := top 9
abbrev n_placed : List Str := ["berths", "wishes", "held", "found", "wish", "berth"]
theorem sc_placed : FnScope n_placed ["berths", "wishes"] (defScope s_placed) := ⟨rfl, rfl, rfl, by decide +kernel, rfl, by decide +kernel, by decide +kernel⟩
abbrev s_taken : Stmt := top 10
abbrev n_taken : List Str := ["berths", "wishes", "berth"]
theorem sc_taken : FnScope n_taken ["berths", "wishes"] (defScope s_taken) := ⟨rfl, rfl, rfl, by decide +kernel, rfl, by decide +kernel, by decide +kernel⟩
abbrev s_gone_on : Stmt := top 11
abbrev n_gone_on : List Str := ["berths", "wishes", "berth", "wish"]
theorem sc_gone_on : FnScope n_gone_on ["berths", "wishes"] (defScope s_gone_on) := ⟨rfl, rfl, rfl, by decide +kernel, rfl, by decide +kernel, by decide +kernel⟩
abbrev s_crowded : Stmt := top 12
abbrev n_crowded : List Str := ["berths", "wishes", "wishing", "wish", "many", "berth"]
theorem sc_crowded : FnScope n_crowded ["berths", "wishes"] (defScope s_crowded) := ⟨rfl, rfl, rfl, by decide +kernel, rfl, by decide +kernel, by decide +kernel⟩
abbrev s_is_good : Stmt := top 13
abbrev n_is_good : List Str := ["berths", "wishes"]
theorem sc_is_good : FnScope n_is_good ["berths", "wishes"] (defScope s_is_good) := ⟨rfl, rfl, rfl, by decide +kernel, rfl, by decide +kernel, by decide +kernel⟩
abbrev s__law_cell_at : Stmt := top 15
abbrev n__law_cell_at : List Str := ["_law_script", "_law_k"]
theorem sc__law_cell_at : FnScope n__law_cell_at ["_law_script", "_law_k"] (defScope s__law_cell_at) := ⟨rfl, rfl, rfl, by decide +kernel, rfl, by decide +kernel, by decide +kernel⟩
abbrev s__law_mix : Stmt := top 16
abbrev n__law_mix : List Str := ["_law_state", "_law_cell"]
theorem sc__law_mix : FnScope n__law_mix ["_law_state", "_law_cell"] (defScope s__law_mix) := ⟨rfl, rfl, rfl, by decide +kernel, rfl, by decide +kernel, by decide +kernel⟩
abbrev s__law_quay : Stmt := top 17
abbrev n__law_quay : List Str := ["_law_script"]
theorem sc__law_quay : FnScope n__law_quay ["_law_script"] (defScope s__law_quay) := ⟨rfl, rfl, rfl, by decide +kernel, rfl, by decide +kernel, by decide +kernel⟩
abbrev s__law_wishes : Stmt := top 18
abbrev n__law_wishes : List Str := ["_law_script", "_law_berths", "_law_most", "_law_near", "_law_far", "_law_wishes_here", "_law_cell"]
theorem sc__law_wishes : FnScope n__law_wishes ["_law_script", "_law_berths", "_law_most"] (defScope s__law_wishes) := ⟨rfl, rfl, rfl, by decide +kernel, rfl, by decide +kernel, by decide +kernel⟩
abbrev s__law_order : Stmt := top 19
abbrev n__law_order : List Str := ["_law_script", "_law_many", "_law_first", "_law_state", "_law_some", "_law_order_here", "_law_turn"]
theorem sc__law_order : FnScope n__law_order ["_law_script", "_law_many", "_law_first"] (defScope s__law_order) := ⟨rfl, rfl, rfl, by decide +kernel, rfl, by decide +kernel, by decide +kernel⟩
abbrev s_law : Stmt := top 20
abbrev n_law : List Str := ["_law_script", "_law_berths", "_law_wishes_here", "_law_order_here", "_law_other", "_law_ship", "_law_held", "_law_away", "_law_berth", "_law_row", "_law_lie", "_law_wish", "_law_fewer"]
theorem sc_law : FnScope n_law ["_law_script"] (defScope s_law) := ⟨rfl, rfl, rfl, by decide +kernel, rfl, by decide +kernel, by decide +kernel⟩
structure Nms (K : PySem.W.Frag) (mg : Str → Option Value) : Prop where
  n_len : mg "len" = none
  n_isinstance : mg "isinstance" = none
  n_min : mg "min" = none
  n_sum : mg "sum" = none
  n_sorted : mg "sorted" = none
  n_range : mg "range" = none
  n_zip : mg "zip" = none
  n_int : mg "int" = none
  n_bool : mg "bool" = none
  n_list : mg "list" = none
  n_tuple : mg "tuple" = none
  n_ValueError : mg "ValueError" = none
  c_MOST : B.Const mg "MOST" (.int 400)
  x_NoQuay : B.Err K mg "NoQuay"
  x_NoWishes : B.Err K mg "NoWishes"
/-! ### promises of the program: numbers, quays, wishes -/
open PySem PySem.Spec PyProof.Rows L2 B
/-- an exception of the class x leaves -/
def Bad (mg : Str → Option Value) (x : Str) (H : Hp) (E : XK) : Prop := ∀ (C : Addr) (H' : Hp), mg x = some (.ref C) → Ex H H' → E (.ref C) none H'
theorem Bad.ex {mg : Str → Option Value} {x : Str} {H H' : Hp} {E : XK} (e : Ex H H') (b : Bad mg x H E) : Bad mg x H' E := fun C H2 m e2 => b C H2 m (e.trans e2)
def sp_is_number (K : PySem.W.Frag) : Sp := fun vs H Q _ => ∃ x s lo hi, vs = [x, .int lo, .int hi] ∧ Kind K H x s ∧ Q (.bl (inB x lo hi)) H
def sp_need_quay (K : PySem.W.Frag) (mg : Str → Option Value) : Sp := fun vs H Q E => ∃ b s, vs = [b] ∧ Kind K H b s ∧ (inB b 1 400 = true → Q .non H) ∧ (inB b 1 400 = false → Bad mg "NoQuay" H E)
/-- x is wishes for n berths: their numbers -/
def Wishes (K : PySem.W.Frag) (H : Hp) (x : V) (n : Int) (ns : List Int) : Prop := ∃ a, x = .ref a ∧ Sq K H a (ns.map V.int) ∧ ns.length ≤ 400 ∧ ∀ w ∈ ns, 1 ≤ w ∧ w ≤ n
theorem Wishes.ex {K : PySem.W.Frag} {H H' : Hp} {x : V} {n : Int} {ns : List Int} (e : Ex H H') (h : Wishes K H x n ns) : Wishes K H' x n ns := by
  obtain ⟨a, h1, h2, h3⟩ := h
  exact ⟨a, h1, h2.ex e, h3⟩
/-- x is something else: no list or tuple, too long, or with something that is no berth -/
def NoW (K : PySem.W.Frag) (H : Hp) (x : V) (n : Int) : Prop := (∃ s, Kind K H x s ∧ s ≠ .lst ∧ s ≠ .tup) ∨ ∃ a xs, x = .ref a ∧ Sq K H a xs ∧ (400 < xs.length ∨ (xs.length ≤ 400 ∧ (∀ y ∈ xs, ∃ s, Kind K H y s) ∧ ∃ y ∈ xs, inB y 1 n = false))
theorem NoW.ex {K : PySem.W.Frag} {H H' : Hp} {x : V} {n : Int} (e : Ex H H') (h : NoW K H x n) : NoW K H' x n := by
  rcases h with ⟨s, h1, h2⟩ | ⟨a, xs, h1, h2, h3⟩
  · exact .inl ⟨s, h1.ex e, h2⟩
  · refine .inr ⟨a, xs, h1, h2.ex e, ?_⟩
    rcases h3 with h3 | ⟨h3, h4, h5⟩
    · exact .inl h3
    · exact .inr ⟨h3, fun y hy => by obtain ⟨s, q⟩ := h4 y hy; exact ⟨s, q.ex e⟩, h5⟩
/-- how wishes for a quay are met: refused as no quay, as no wishes, or good for n berths, with what is then due -/
def Asked (K : PySem.W.Frag) (mg : Str → Option Value) (H : Hp) (E : XK) (b x : V) (due : Int → List Int → Prop) : Prop :=
  (∃ s, Kind K H b s ∧ inB b 1 400 = false ∧ Bad mg "NoQuay" H E) ∨ ∃ n, b = .int n ∧ 1 ≤ n ∧ n ≤ 400 ∧ ((NoW K H x n ∧ Bad mg "NoWishes" H E) ∨ ∃ ns, Wishes K H x n ns ∧ due n ns)
def sp_need_wishes (K : PySem.W.Frag) (mg : Str → Option Value) : Sp := fun vs H Q E => ∃ b x, vs = [b, x] ∧ Asked K mg H E b x fun _ _ => ∀ H', Ex H H' → Q .non H'
theorem Asked.len {K : PySem.W.Frag} {mg : Str → Option Value} {H : Hp} {E : XK} {vs : List V} {due : V → V → Int → List Int → Prop} (h : ∃ b x, vs = [b, x] ∧ Asked K mg H E b x (due b x)) : vs.length = 2 := by
  obtain ⟨b, x, rfl, _⟩ := h
  rfl

theorem has_is_number {P : Program} {w : World} {K : PySem.W.Frag} {mg : Str → Option Value} {base : Heap} (S : B.Stands K mg "is_number" s_is_number) (N : Nms K mg)  : B.Has P w K mg base "is_number" 1 ["thing", "least", "most"] (sp_is_number K) := by
  refine B.has_ofN S sc_is_number (fun _ _ _ _ _ _ us hl => match us, hl with | [_, _, _], _ => rfl) (fun vs H Q E h => ?_)
    (fun f cdv A outer s H vs Q E hr h => ⟨_, (pss_one (ps_ret (pe_and (pe_callB (r := rIsi K) call_isi (by rfl) N.n_isinstance B.boot_isinstance (pa_cons (pv 0) (pa_cons (pe_bltn (v := .ty "int") (by rfl) N.n_int B.boot_int rfl) pa_nil))) (pe_and (pe_not (pe_callB (r := rIsi K) call_isi (by rfl) N.n_isinstance B.boot_isinstance (pa_cons (pv 0) (pa_cons (pe_bltn (v := .ty "bool") (by rfl) N.n_bool B.boot_bool rfl) pa_nil)))) (pe_and (pe_cmpR op_le (pv 1) (pv 0) (nomark _)) (pe_one (pe_cmpR op_le (pv 0) (pv 2) (nomark _)))))))), ?_⟩)
  · obtain ⟨x, s, lo, hi, rfl, _⟩ := h
    rfl
  · obtain ⟨x, s, lo, hi, rfl, k, q⟩ := h
    walk_at "go"
    have no : s.isA "int" = false → inB x lo hi = false := by intro e; cases k <;> first | rfl | (exact absurd e (by decide))
    have bo : s.isA "bool" = true → inB x lo hi = false := by intro e; cases k <;> first | rfl | (exact absurd e (by decide))
    have yes : s.isA "int" = true → s.isA "bool" = false → ∃ i, x = .int i := by
      intro e e2
      cases k <;> first | exact ⟨_, rfl⟩ | (exact absurd e (by decide)) | (exact absurd e2 (by decide))
    refine x_isi_int k ?_
    walk_at "go"
    refine x_b (fun e => ?_) (fun e => ?_)
    · walk_at "go"
      refine x_isi_bool k ?_
      walk_at "go"
      refine x_bN (fun e2 => ?_) (fun e2 => ?_)
      · obtain ⟨i, rfl⟩ := yes e e2
        walk_at "go"
        refine x_dec (fun c => ?_) (fun c => ?_)
        · walk_at "go"
          rw [show inB (.int i) lo hi = decide (i ≤ hi) from by simp [inB, c]] at q
          exact q
        · walk_at "go"
          rw [show inB (.int i) lo hi = false from by simp [inB, c]] at q
          exact q
      · rw [bo e2] at q
        exact q
    · rw [no e] at q
      exact q

theorem has_need_quay {P : Program} {w : World} {K : PySem.W.Frag} {mg : Str → Option Value} {base : Heap} (S : B.Stands K mg "need_quay" s_need_quay) (N : Nms K mg) (h_is_number : B.Has P w K mg base "is_number" 1 ["thing", "least", "most"] (sp_is_number K)) : B.Has P w K mg base "need_quay" 2 ["berths"] (sp_need_quay K mg) := by
  refine B.has_of S sc_need_quay (fun _ _ _ _ _ _ us hl => match us, hl with | [_], _ => rfl) (fun vs H Q E h => ?_)
    (fun f cdv A outer s H vs Q E hr h => ⟨_, (pss_one (ps_if (pt_not (pt_val (B.pe_has h_is_number hr B.passL (pa_cons (pv 0) (pa_cons pe_int (pa_cons (B.pe_const N.c_MOST) pa_nil)))))) (pss_one (ps_raise rfl (takes_of rfl rfl rfl rfl) (B.pmk N.x_NoQuay))) pss_nil)), ?_⟩)
  · obtain ⟨b, s, rfl, _⟩ := h
    rfl
  · obtain ⟨b, s, rfl, k, q1, q2⟩ := h
    walk_at "go"
    refine ⟨b, s, 1, 400, rfl, k, ?_⟩
    walk_at "go"
    refine x_bN (fun e => ?_) (fun e => ?_)
    · walk_at "go"
      exact fun C m => q2 e C H m (Evl.Ex.refl H)
    · walk_at "go"
      exact q1 e

theorem is_lt {s : KS} : (s.isA "list" || s.isA "tuple") = true ↔ s = .lst ∨ s = .tup := by cases s <;> decide
theorem sq_kind {K : PySem.W.Frag} {H : Hp} {a : Addr} {xs : List V} (h : Sq K H a xs) : ∃ s, Kind K H (.ref a) s ∧ (s = .lst ∨ s = .tup) := by
  rcases h with h | h
  · exact ⟨_, .lst h, .inl rfl⟩
  · exact ⟨_, .tup h, .inr rfl⟩
theorem inB_int {n m : Int} {ns : List Int} (h : ∀ w ∈ ns, 1 ≤ w ∧ w ≤ n) : ∀ y ∈ ns.map V.int, inB y 1 n = true := fun y hy => by
  obtain ⟨w, hw, rfl⟩ := List.mem_map.mp hy
  simp [inB, h w hw]
theorem has_need_wishes {P : Program} {w : World} {K : PySem.W.Frag} {mg : Str → Option Value} {base : Heap} (S : B.Stands K mg "need_wishes" s_need_wishes) (N : Nms K mg) (h_need_quay : B.Has P w K mg base "need_quay" 2 ["berths"] (sp_need_quay K mg)) (h_is_number : B.Has P w K mg base "is_number" 1 ["thing", "least", "most"] (sp_is_number K)) : B.Has P w K mg base "need_wishes" 3 ["berths", "wishes"] (sp_need_wishes K mg) := by
  refine B.has_of S sc_need_wishes (fun _ _ _ _ _ _ us hl => match us, hl with | [_, _], _ => rfl) (fun vs H Q E h => ?_)
    (fun f cdv A outer s H vs Q E hr h => ⟨_, (pss_cons (ps_expr (B.pe_has h_need_quay hr (B.passU (takes_of rfl rfl rfl rfl)) (pa_cons (pv 0) pa_nil)))
    (pss_cons (ps_if (PW.pt (pw_or (pt_not (pt_val (pe_callB (r := rIsiT K) call_isiT (by rfl) N.n_isinstance B.boot_isinstance (pa_cons (pv 1) (pa_cons (pe_tup (pa_cons (pe_bltn (v := .ty "list") (by rfl) N.n_list B.boot_list rfl) (pa_cons (pe_bltn (v := .ty "tuple") (by rfl) N.n_tuple B.boot_tuple rfl) pa_nil))) pa_nil))))) (pw_or1 (pt_cmpR op_gt (pe_callB (r := B.rLen K) B.call_len (by rfl) N.n_len PySem.boot_len (pa_cons (pv 1) pa_nil)) (B.pe_const N.c_MOST) (nomark _))))) (pss_one (ps_raise rfl (takes_of rfl rfl rfl rfl) (B.pmk N.x_NoWishes))) pss_nil)
    (pss_one (ps_for (passes_of rfl) rfl (B.pi_sq (pv 1)) (pg_name (i := 2) sc_need_wishes.nd rfl (by first | exact Or.inl rfl | exact Or.inr rfl)) (pss_one (ps_if (pt_not (pt_val (B.pe_has h_is_number hr B.passL (pa_cons (pv 2) (pa_cons pe_int (pa_cons (pv 0) pa_nil)))))) (pss_one (ps_raise rfl (takes_of rfl rfl rfl rfl) (B.pmk N.x_NoWishes))) pss_nil)))))), ?_⟩)
  · exact Asked.len h
  · obtain ⟨b, x, rfl, h⟩ := h
    walk_at "go"
    rcases h with ⟨s, k, e, bad⟩ | ⟨n, rfl, n1, n2, h⟩
    · exact ⟨b, s, rfl, k, fun e2 => absurd (e.symm.trans e2) (by decide), fun _ => bad⟩
    refine ⟨.int n, .int, rfl, .int n, fun _ => ?_, fun e => absurd e (by simp [inB, n1, n2])⟩
    walk_at "go"
    refine x_mkT (by simp) fun p H1 hp e1 h1 => ?_
    walk_at "go"
    have main : ∃ s, Kind K H x s ∧ ((¬ (s = .lst ∨ s = .tup) ∧ Bad mg "NoWishes" H E) ∨ ((s = .lst ∨ s = .tup) ∧ ∃ a xs, x = .ref a ∧ Sq K H a xs ∧ ((400 < xs.length ∧ Bad mg "NoWishes" H E) ∨
        (xs.length ≤ 400 ∧ (∀ y ∈ xs, ∃ s, Kind K H y s) ∧ (((∃ y ∈ xs, inB y 1 n = false) ∧ Bad mg "NoWishes" H E) ∨ ((∀ y ∈ xs, inB y 1 n = true) ∧ ∀ H', Ex H H' → Q .non H')))))) := by
      rcases h with ⟨h, bad⟩ | ⟨ns, ⟨a, rfl, q, hl, hw⟩, due⟩
      · rcases h with ⟨s, h1, h2, h3⟩ | ⟨a, xs, rfl, q, h3⟩
        · exact ⟨s, h1, .inl ⟨fun z => z.elim h2 h3, bad⟩⟩
        · obtain ⟨s, k, hs⟩ := sq_kind q
          refine ⟨s, k, .inr ⟨hs, a, xs, rfl, q, ?_⟩⟩
          rcases h3 with h3 | ⟨h3, h4, h5⟩
          · exact .inl ⟨h3, bad⟩
          · exact .inr ⟨h3, h4, .inl ⟨h5, bad⟩⟩
      · obtain ⟨s, k, hs⟩ := sq_kind q
        refine ⟨s, k, .inr ⟨hs, a, _, rfl, q, .inr ⟨by rw [List.length_map]; exact hl, fun y hy => ?_, .inr ⟨inB_int (m := n) hw, due⟩⟩⟩⟩
        obtain ⟨w, _, rfl⟩ := List.mem_map.mp hy
        exact ⟨_, .int w⟩
    obtain ⟨s, k, h⟩ := main
    refine x_isiLT (k.ex e1) h1 ?_
    walk_at "go"
    refine x_bN (fun e => ?_) (fun e => ?_)
    · -- no list, no tuple
      walk_at "go"
      rcases h with ⟨_, bad⟩ | ⟨hs, _⟩
      · exact fun C m => bad C H1 m e1
      · rw [is_lt.mpr hs] at e
        cases e
    rcases h with ⟨hs, _⟩ | ⟨_, a, xs, rfl, hq, h⟩
    · exact absurd (is_lt.mp e) hs
    walk_at "go"
    refine x_dec (fun c => ?_) (fun c => ?_)
    · walk_at "go"
      rcases h with ⟨_, bad⟩ | ⟨hl, _⟩
      · exact fun C m => bad C H1 m e1
      · omega
    rcases h with ⟨hl, _⟩ | ⟨hl, hk, h⟩
    · omega
    walk_at "go"
    refine x_forQ (H0 := H) (a := a) xs (fun y => y) rfl (by rw [List.map_id']; exact hq) (fun pre σ' H' => (∃ v, σ' = [some (.int n), some (.ref a), v]) ∧ Ex H H' ∧ ∀ y ∈ pre, inB y 1 n = true) ⟨⟨_, rfl⟩, e1, fun y hy => nomatch hy⟩ (fun pre σ' H' _ p => p.2.1) (fun pre y post σ' H' ea p => ?_) (fun σ' H' p => ?_)
    · obtain ⟨⟨v, rfl⟩, e2, hp⟩ := p
      obtain ⟨s, ky⟩ := hk y (by rw [ea]; simp)
      walk_at "go"
      refine ⟨y, s, 1, n, rfl, ky.ex e2, ?_⟩
      walk_at "go"
      refine x_bN (fun c => ?_) (fun c => ?_)
      · walk_at "go"
        rcases h with ⟨_, bad⟩ | ⟨hg, _⟩
        · exact fun C m => bad C H' m e2
        · rw [hg y (by rw [ea]; simp)] at c
          cases c
      · walk_at "go"
        refine ⟨⟨_, rfl⟩, e2, fun z hz => ?_⟩
        rcases List.mem_append.mp hz with hz | hz
        · exact hp z hz
        · rw [List.mem_singleton.mp hz]
          exact c
    · obtain ⟨_, e2, hp⟩ := p
      rcases h with ⟨⟨y, hy, e3⟩, _⟩ | ⟨_, q⟩
      · rw [hp y hy] at e3
        cases e3
      · exact q H' e2
theorem Asked.imp {K : PySem.W.Frag} {mg : Str → Option Value} {H : Hp} {E : XK} {b x : V} {due due' : Int → List Int → Prop} (h : Asked K mg H E b x due) (f : ∀ n ns, b = .int n → 1 ≤ n → n ≤ 400 → Wishes K H x n ns → due n ns → due' n ns) : Asked K mg H E b x due' := by
  rcases h with h | ⟨n, rfl, n1, n2, h⟩
  · exact .inl h
  · refine .inr ⟨n, rfl, n1, n2, ?_⟩
    rcases h with h | ⟨ns, h, d⟩
    · exact .inl h
    · exact .inr ⟨ns, h, f n ns rfl n1 n2 h d⟩
theorem Asked.ok {K : PySem.W.Frag} {mg : Str → Option Value} {H : Hp} {E : XK} {n : Int} {x : V} {ns : List Int} {due : Int → List Int → Prop} (n1 : 1 ≤ n) (n2 : n ≤ 400) (h : Wishes K H x n ns) (d : due n ns) : Asked K mg H E (.int n) x due :=
  .inr ⟨n, rfl, n1, n2, .inr ⟨ns, h, d⟩⟩

/-! ### where ships lie: the plain law -/
/-- the berths that are taken -/
def occ (st : List (Option Int)) : List Int := st.filterMap id
/-- the first free berth at or beyond a wish -/
def firstFree (n : Int) (held : List Int) (w : Int) : Option Int := (irange w (n + 1)).find? fun b => !held.contains b
def placeStep (n : Int) (st : List (Option Int)) (w : Int) : List (Option Int) := st ++ [firstFree n (occ st) w]
def place (n : Int) (ns : List Int) : List (Option Int) := ns.foldl (placeStep n) []
theorem place_snoc (n : Int) (ns : List Int) (w : Int) : place n (ns ++ [w]) = placeStep n (place n ns) w := by
  unfold place
  rw [List.foldl_append]
  rfl
theorem place_length (n : Int) : ∀ ns : List Int, (place n ns).length = ns.length := by
  have h : ∀ (ns : List Int) st, (ns.foldl (placeStep n) st).length = st.length + ns.length := by
    intro ns
    induction ns with
    | nil => intro st; rfl
    | cons w ns ih =>
      intro st
      rw [List.foldl_cons, ih, List.length_cons]
      show (st ++ [_]).length + ns.length = _
      rw [List.length_append, List.length_singleton]
      omega
  intro ns
  unfold place
  rw [h ns []]
  exact Nat.zero_add _
theorem irange_succ {lo hi : Int} (h : lo < hi) : irange lo hi = lo :: irange (lo + 1) hi := by
  unfold irange
  have e : (hi - lo).toNat = (hi - (lo + 1)).toNat + 1 := by omega
  rw [e, List.range_succ_eq_map, List.map_cons, List.map_map]
  congr 1
  · show lo + ((0 : Nat) : Int) = lo
    omega
  · apply List.map_congr_left
    intro k _
    show lo + ((k + 1 : Nat) : Int) = lo + 1 + (k : Int)
    omega
theorem irange_nil {lo hi : Int} (h : hi ≤ lo) : irange lo hi = [] := by
  unfold irange
  have e : (hi - lo).toNat = 0 := by omega
  rw [e]
  rfl
theorem firstFree_skip {n w : Int} {held : List Int} (hw : w ≤ n) (h : w ∈ held) : firstFree n held w = firstFree n held (w + 1) := by
  unfold firstFree
  rw [irange_succ (by omega), List.find?_cons]
  simp [h]
theorem firstFree_here {n w : Int} {held : List Int} (hw : w ≤ n) (h : w ∉ held) : firstFree n held w = some w := by
  unfold firstFree
  rw [irange_succ (by omega), List.find?_cons]
  simp [h]
theorem firstFree_none {n w : Int} {held : List Int} (hw : n < w) : firstFree n held w = none := by
  unfold firstFree
  rw [irange_nil (by omega)]
  rfl
theorem firstFree_some {n w b : Int} {held : List Int} (h : firstFree n held w = some b) : w ≤ b ∧ b ≤ n ∧ b ∉ held := by
  unfold firstFree at h
  have h1 := List.mem_of_find?_eq_some h
  have h2 := List.find?_some h
  rw [mem_irange] at h1
  refine ⟨h1.1, by omega, ?_⟩
  simpa using h2
theorem occ_snoc (st : List (Option Int)) (o : Option Int) : occ (st ++ [o]) = occ st ++ o.toList := by
  unfold occ
  rw [List.filterMap_append]
  cases o <;> rfl
theorem occ_place {n : Int} {ns : List Int} (hw : ∀ w ∈ ns, 1 ≤ w) : ∀ b ∈ occ (place n ns), 1 ≤ b ∧ b ≤ n := by
  have h : ∀ (ns : List Int) st, (∀ w ∈ ns, 1 ≤ w) → (∀ b ∈ occ st, 1 ≤ b ∧ b ≤ n) → ∀ b ∈ occ (ns.foldl (placeStep n) st), 1 ≤ b ∧ b ≤ n := by
    intro ns
    induction ns with
    | nil => intro st _ h; exact h
    | cons w ns ih =>
      intro st hw hst
      rw [List.foldl_cons]
      refine ih _ (fun v hv => hw v (List.mem_cons_of_mem _ hv)) fun b hb => ?_
      have hb : b ∈ occ (st ++ [firstFree n (occ st) w]) := hb
      rw [occ_snoc] at hb
      rcases List.mem_append.mp hb with hb | hb
      · exact hst b hb
      · cases e : firstFree n (occ st) w with
        | none => rw [e] at hb; cases hb
        | some c =>
          rw [e] at hb
          have hb : b ∈ [c] := hb
          rw [List.mem_singleton.mp hb]
          obtain ⟨h1, h2, _⟩ := firstFree_some e
          have := hw w List.mem_cons_self
          omega
  exact h ns [] hw fun b hb => nomatch hb
/-- the dict of the berths taken -/
def heldD (held : List Int) : List (Key × V) := held.map fun b => (Sum.inl b, V.bl true)
theorem heldD_get (held : List Int) (b : Int) : valV (heldD held) (.inl b) = if b ∈ held then some (.bl true) else none := by
  unfold valV heldD
  induction held with
  | nil => rfl
  | cons c cs ih =>
    rw [List.map_cons, List.find?_cons]
    by_cases e : c = b
    · subst e
      simp
    · have e1 : decide ((Sum.inl c : Key) = Sum.inl b) = false := decide_eq_false fun z => e (Sum.inl.inj z)
      rw [e1]
      simp only [List.mem_cons, show ¬ b = c from fun z => e z.symm, false_or]
      exact ih
theorem heldD_put {held : List Int} {b : Int} (h : b ∉ held) : putK (heldD held) (.inl b) (.bl true) = heldD (held ++ [b]) := by
  rw [putK_new _ (by rw [heldD_get, if_neg h])]
  unfold heldD
  rw [List.map_append]
  rfl
theorem occ_le (st : List (Option Int)) : (occ st).length ≤ st.length := List.length_filterMap_le _ _


def sp_placed (K : PySem.W.Frag) (mg : Str → Option Value) : Sp := fun vs H Q E => ∃ b x, vs = [b, x] ∧ Asked K mg H E b x fun n ns => ∀ p H', H p = none → Ex H H' → H' p = some (.lst ((place n ns).map optV)) → Q (.ref p) H'
theorem has_placed {P : Program} {w : World} {K : PySem.W.Frag} {mg : Str → Option Value} {base : Heap} (S : B.Stands K mg "placed" s_placed) (N : Nms K mg) (h_need_wishes : B.Has P w K mg base "need_wishes" 3 ["berths", "wishes"] (sp_need_wishes K mg)) : B.Has P w K mg base "placed" 4 ["berths", "wishes"] (sp_placed K mg) := by
  refine B.has_of S sc_placed (fun _ _ _ _ _ _ us hl => match us, hl with | [_, _], _ => rfl) (fun vs H Q E h => ?_)
    (fun f cdv A outer s H vs Q E hr h => ⟨_, (pss_cons (ps_expr (B.pe_has h_need_wishes hr (B.passU (takes_of rfl rfl rfl rfl)) (pa_cons (pv 0) (pa_cons (pv 1) pa_nil))))
    (pss_cons (ps_set (i := 2) sc_placed.nd rfl (by first | exact Or.inl rfl | exact Or.inr rfl) pe_dnewK)
    (pss_cons (ps_set (i := 3) sc_placed.nd rfl (by first | exact Or.inl rfl | exact Or.inr rfl) (pe_lst pa_nil))
    (pss_cons (ps_for (passes_of rfl) rfl (B.pi_sq (pv 1)) (pg_name (i := 4) sc_placed.nd rfl (by first | exact Or.inl rfl | exact Or.inr rfl)) (pss_cons (ps_set (i := 5) sc_placed.nd rfl (by first | exact Or.inl rfl | exact Or.inr rfl) (pv 4))
    (pss_cons (ps_while (passes_of rfl) (pt_cmp (pc_din (hu_of hr) (pv 5) (pv 2))) (pss_one (ps_aug (i := 5) sc_placed.nd rfl (by first | exact Or.inl rfl | exact Or.inr rfl) pe_int ip_add)))
    (pss_one (ps_if (pt_cmpR op_gt (pv 5) (pv 0) (nomark _)) (pss_one (ps_expr (pe_bm PySem.F.plainAttrs_list PySem.F.slot_list_append PySem.F.type_list_append mt_append (pv 3) (pa_cons pe_non pa_nil)))) (pss_cons (ps_dput (hu_of hr) (pv 2) (pv 5) pe_bl rfl)
    (pss_one (ps_expr (pe_bm PySem.F.plainAttrs_list PySem.F.slot_list_append PySem.F.type_list_append mt_append (pv 3) (pa_cons (pv 5) pa_nil))))))))))
    (pss_one (ps_ret (pv 3))))))), ?_⟩)
  · exact Asked.len h
  · obtain ⟨b, x, rfl, h⟩ := h
    walk_at "go"
    refine ⟨b, x, rfl, ?_⟩
    rcases h with h | ⟨n, rfl, n1, n2, h⟩
    · exact .inl h
    refine .inr ⟨n, rfl, n1, n2, ?_⟩
    rcases h with h | ⟨ns, hns, due⟩
    · exact .inl h
    refine .inr ⟨ns, hns, fun H0 e0 => ?_⟩
    obtain ⟨a, rfl, hq, hl, hw⟩ := hns
    walk_at "go"
    refine x_dnew fun d H1 d0 e1 hd => ?_
    walk_at "go"
    refine x_mkL (by simp) fun f H2 f0 e2 hf => ?_
    walk_at "go"
    have hdf : d ≠ f := ne_of_none hd f0
    have dn : H d = none := exn e0 d0
    have fn : H f = none := exn e0 (exn e1 f0)
    refine x_forQ (H0 := H) (a := a) ns V.int rfl hq (fun pre σ' H' => (∃ v u, σ' = [some (.int n), some (.ref a), some (.ref d), some (.ref f), v, u]) ∧ Ex H H' ∧ H' d = some (.dK (heldD (occ (place n pre)))) ∧ H' f = some (.lst ((place n pre).map optV)))
      ⟨⟨_, _, rfl⟩, by walk_at "hx", by walk_at "hx", by walk_at "hx"⟩ (fun pre σ' H' _ p => p.2.1) (fun pre w post σ' H' ea p => ?_) (fun σ' H' p => ?_)
    · obtain ⟨⟨v, u, rfl⟩, ex, hd, hf⟩ := p
      have w1 : 1 ≤ w ∧ w ≤ n := hw w (by rw [ea]; simp)
      have pl : pre.length ≤ 400 := by
        have := congrArg List.length ea
        rw [List.length_append, List.length_cons] at this
        omega
      have ob := occ_place (n := n) (ns := pre) fun v hv => (hw v (by rw [ea]; simp [hv])).1
      have pz : (place n pre).length ≤ 400 := by rw [place_length]; exact pl
      have oz := occ_le (place n pre)
      walk_at "go"
      refine x_while (fun m σ'' H'' => H'' = H' ∧ ∃ c : Int, σ'' = [some (.int n), some (.ref a), some (.ref d), some (.ref f), some (.int w), some (.int c)] ∧ w ≤ c ∧ firstFree n (occ (place n pre)) w = firstFree n (occ (place n pre)) c ∧ m = (n + 1 - c).toNat)
        _ ⟨rfl, w, rfl, by omega, rfl, rfl⟩ ?_ ?_
      · rintro m σ'' H'' ⟨rfl, c, rfl, wc, hc, rfl⟩
        walk_at "go"
        rw [heldD_get]
        by_cases hm : c ∈ occ (place n pre)
        · have cb := ob c hm
          rw [if_pos hm]
          refine x_true ?_
          walk_at "go"
          exact ⟨_, by omega, rfl, c + 1, rfl, by omega, by rw [hc, firstFree_skip cb.2 hm], rfl⟩
        · rw [if_neg hm]
          refine x_false ?_
          walk_at "go"
          refine x_dec (fun hn => ?_) (fun hn => ?_)
          · walk_at "go"
            refine x_append hf (by rw [List.length_map]; omega) fun H3 u3 => ?_
            walk_at "go"
            rw [place_snoc]
            unfold placeStep
            rw [hc, firstFree_none hn]
            refine ⟨⟨_, _, rfl⟩, by walk_at "hx", ?_, ?_⟩
            · rw [occ_snoc]
              simp only [Option.toList, List.append_nil]
              walk_at "hx"
            · rw [List.map_append]
              walk_at "hx"
          · walk_at "go"
            refine x_putI hd (by unfold heldD; rw [List.length_map]; omega) fun H3 u3 => ?_
            rw [heldD_put hm] at u3
            walk_at "go"
            have hf3 : H3 f = some (.lst ((place n pre).map optV)) := by walk_at "hx"
            refine x_append hf3 (by rw [List.length_map]; omega) fun H4 u4 => ?_
            walk_at "go"
            rw [place_snoc]
            unfold placeStep
            rw [hc, firstFree_here (by omega) hm]
            refine ⟨⟨_, _, rfl⟩, by walk_at "hx", ?_, ?_⟩
            · rw [occ_snoc]
              show H4 d = some (.dK (heldD (occ (place n pre) ++ [c])))
              walk_at "hx"
            · rw [List.map_append]
              walk_at "hx"
      · rintro σ H Q Q' hQ ⟨v, e, v2, e2, q⟩
        exact ⟨v, e, v2, e2, by
          obtain ⟨a, o, h1, h2, c, h3, h4⟩ := q
          exact ⟨a, o, h1, h2, c, h3, hQ _ _ h4⟩⟩
    · obtain ⟨⟨v, u, rfl⟩, ex, hd, hf⟩ := p
      walk_at "go"
      exact due f H' fn ex hf

theorem irange_sorted (lo hi : Int) : (irange lo hi).Pairwise (· < ·) := by
  unfold irange
  rw [List.pairwise_map]
  exact List.pairwise_lt_range.imp fun h => by omega
/-! ### counting -/
def cntGe (ns : List Int) (b : Int) : Nat := ns.countP fun w => decide (b ≤ w)
theorem cntGe_snoc (ns : List Int) (w b : Int) : cntGe (ns ++ [w]) b = cntGe ns b + if b ≤ w then 1 else 0 := by
  unfold cntGe
  rw [List.countP_append]
  congr 1
  by_cases h : b ≤ w <;> simp [h]
/-- the pigeonhole -/
theorem nodup_le : ∀ {l m : List Int}, l.Nodup → (∀ x ∈ l, x ∈ m) → l.length ≤ m.length
  | [], _, _, _ => Nat.zero_le _
  | a :: l, m, hn, h => by
    rw [List.nodup_cons] at hn
    have ha : a ∈ m := h a List.mem_cons_self
    have h2 : l.length ≤ (m.erase a).length := nodup_le hn.2 fun x hx => by
      have hne : x ≠ a := fun z => hn.1 (z ▸ hx)
      exact (List.mem_erase_of_ne hne).mpr (h x (List.mem_cons_of_mem _ hx))
    rw [List.length_erase_of_mem ha] at h2
    have : 0 < m.length := List.length_pos_of_mem ha
    rw [List.length_cons]
    omega
theorem irange_nodup (lo hi : Int) : (irange lo hi).Nodup := (irange_sorted lo hi).imp fun h => Int.ne_of_lt h
/-! ### what place does -/
theorem occ_mono (n : Int) (ns : List Int) (w : Int) : ∀ b ∈ occ (place n ns), b ∈ occ (place n (ns ++ [w])) := fun b hb => by
  rw [place_snoc]
  unfold placeStep
  rw [occ_snoc]
  exact List.mem_append_left _ hb
theorem snoc_ind {α : Type} {P : List α → Prop} (h0 : P []) (h1 : ∀ l a, P l → P (l ++ [a])) : ∀ l, P l := fun l => by
  have h : ∀ m : List α, P m.reverse := by
    intro m
    induction m with
    | nil => exact h0
    | cons a m ih =>
      rw [List.reverse_cons]
      exact h1 _ _ ih
  have := h l.reverse
  rw [List.reverse_reverse] at this
  exact this
theorem occ_nodup (n : Int) : ∀ ns, (occ (place n ns)).Nodup := by
  refine snoc_ind (by exact List.nodup_nil) fun ns w ih => ?_
  rw [place_snoc]
  unfold placeStep
  rw [occ_snoc]
  cases e : firstFree n (occ (place n ns)) w with
  | none => simpa using ih
  | some b =>
    obtain ⟨_, _, hb⟩ := firstFree_some e
    show (occ (place n ns) ++ [b]).Nodup
    rw [List.nodup_append]
    refine ⟨ih, by simp, ?_⟩
    intro x hx y hy z
    rw [List.mem_singleton.mp hy] at z
    exact hb (z ▸ hx)
theorem firstFree_all : ∀ (k : Nat) {n w : Int} {held : List Int}, (n + 1 - w).toNat = k → firstFree n held w = none → ∀ y, w ≤ y → y ≤ n → y ∈ held
  | 0, n, w, held, e, _, y, h1, h2 => by omega
  | k + 1, n, w, held, e, h, y, h1, h2 => by
    by_cases hw : w ∈ held
    · by_cases hy : y = w
      · rw [hy]; exact hw
      · rw [firstFree_skip (by omega) hw] at h
        exact firstFree_all k (by omega) h y (by omega) h2
    · rw [firstFree_here (by omega) hw] at h
      cases h
theorem firstFree_gap : ∀ (k : Nat) {n w b : Int} {held : List Int}, (n + 1 - w).toNat = k → firstFree n held w = some b → ∀ y, w ≤ y → y < b → y ∈ held
  | 0, n, w, b, held, e, h, y, h1, h2 => by
    rw [firstFree_none (by omega)] at h
    cases h
  | k + 1, n, w, b, held, e, h, y, h1, h2 => by
    by_cases hw : w ∈ held
    · by_cases hy : y = w
      · rw [hy]; exact hw
      · rw [firstFree_skip (by omega) hw] at h
        exact firstFree_gap k (by omega) h y (by omega) h2
    · rw [firstFree_here (by omega) hw] at h
      cases h
      omega
/-- a ship that lies: its wish, and no free berth between -/
theorem place_at (n : Int) : ∀ (ns : List Int) (k : Nat) (c : Int), (place n ns)[k]? = some (some c) → ∃ w, ns[k]? = some w ∧ w ≤ c ∧ c ≤ n ∧ ∀ y, w ≤ y → y < c → y ∈ occ (place n ns) := by
  refine snoc_ind (fun k c h => by simp [place] at h) fun ns w ih k c h => ?_
  have hl := place_length n ns
  rw [place_snoc] at h
  unfold placeStep at h
  by_cases hk : k < ns.length
  · rw [List.getElem?_append_left (by omega)] at h
    obtain ⟨v, h1, h2, h3, h4⟩ := ih k c h
    exact ⟨v, by rw [List.getElem?_append_left hk]; exact h1, h2, h3, fun y y1 y2 => occ_mono n ns w y (h4 y y1 y2)⟩
  · rw [List.getElem?_append_right (by omega)] at h
    have hk2 : k = ns.length := by
      have := (List.getElem?_eq_some_iff.mp h).1
      simp at this
      omega
    subst hk2
    rw [hl] at h
    simp at h
    obtain ⟨h1, h2, _⟩ := firstFree_some h
    exact ⟨w, by simp, h1, h2, fun y y1 y2 => occ_mono n ns w y (firstFree_gap _ rfl h y y1 y2)⟩
theorem place_away (n : Int) : ∀ (ns : List Int) (k : Nat), (place n ns)[k]? = some none → ∃ w, ns[k]? = some w ∧ ∀ y, w ≤ y → y ≤ n → y ∈ occ (place n ns) := by
  refine snoc_ind (fun k h => by simp [place] at h) fun ns w ih k h => ?_
  have hl := place_length n ns
  rw [place_snoc] at h
  unfold placeStep at h
  by_cases hk : k < ns.length
  · rw [List.getElem?_append_left (by omega)] at h
    obtain ⟨v, h1, h2⟩ := ih k h
    exact ⟨v, by rw [List.getElem?_append_left hk]; exact h1, fun y y1 y2 => occ_mono n ns w y (h2 y y1 y2)⟩
  · rw [List.getElem?_append_right (by omega)] at h
    have hk2 : k = ns.length := by
      have := (List.getElem?_eq_some_iff.mp h).1
      simp at this
      omega
    subst hk2
    rw [hl] at h
    simp at h
    exact ⟨w, by simp, fun y y1 y2 => occ_mono n ns w y (firstFree_all _ rfl h y y1 y2)⟩
/-- counting along two rows: of each ship that lies in P its wish is in P' -/
theorem cnt_le {P P' : Int → Bool} : ∀ {st : List (Option Int)} {ns : List Int}, (∀ (k : Nat) (c : Int), st[k]? = some (some c) → P c = true → ∃ w, ns[k]? = some w ∧ P' w = true) → (occ st).countP P ≤ ns.countP P'
  | [], _, _ => Nat.zero_le _
  | o :: st, [], h => by
    have : (occ (o :: st)).countP P = 0 := by
      rw [List.countP_eq_zero]
      intro c hc
      unfold occ at hc
      rw [List.mem_filterMap] at hc
      obtain ⟨o', ho, rfl⟩ := hc
      obtain ⟨k, hk⟩ := List.getElem?_of_mem ho
      intro hp
      obtain ⟨w, hw, _⟩ := h k c hk hp
      simp at hw
    omega
  | o :: st, w :: ns, h => by
    have ih : (occ st).countP P ≤ ns.countP P' := cnt_le fun k c hk hp => by
      obtain ⟨v, h1, h2⟩ := h (k + 1) c hk hp
      exact ⟨v, h1, h2⟩
    cases o with
    | none =>
      show (occ st).countP P ≤ _
      rw [List.countP_cons]
      omega
    | some c =>
      show (c :: occ st).countP P ≤ _
      rw [List.countP_cons, List.countP_cons]
      by_cases hp : P c = true
      · obtain ⟨v, h1, h2⟩ := h 0 c rfl hp
        cases h1
        rw [if_pos hp, if_pos h2]
        omega
      · rw [if_neg hp]
        omega
/-- each wish in P belongs to a ship that lies in P' -/
theorem cnt_ge {P P' : Int → Bool} : ∀ {st : List (Option Int)} {ns : List Int}, (∀ (k : Nat) (w : Int), ns[k]? = some w → P w = true → ∃ c, st[k]? = some (some c) ∧ P' c = true) → ns.countP P ≤ (occ st).countP P'
  | _, [], _ => Nat.zero_le _
  | [], w :: ns, h => by
    have : (w :: ns).countP P = 0 := by
      rw [List.countP_eq_zero]
      intro v hv hp
      obtain ⟨k, hk⟩ := List.getElem?_of_mem hv
      obtain ⟨c, hc, _⟩ := h k v hk hp
      simp at hc
    omega
  | o :: st, w :: ns, h => by
    have ih : ns.countP P ≤ (occ st).countP P' := cnt_ge fun k v hk hp => by
      obtain ⟨c, h1, h2⟩ := h (k + 1) v hk hp
      exact ⟨c, h1, h2⟩
    by_cases hp : P w = true
    · obtain ⟨c, h1, h2⟩ := h 0 w rfl hp
      cases h1
      show _ ≤ (c :: occ st).countP P'
      rw [List.countP_cons, List.countP_cons, if_pos hp, if_pos h2]
      omega
    · rw [List.countP_cons, if_neg hp]
      cases o with
      | none => exact ih
      | some c =>
        show _ ≤ (c :: occ st).countP P'
        rw [List.countP_cons]
        omega
/-- the start of the row of taken berths that b is in -/
theorem row_start {held : List Int} : ∀ (k : Nat) (w n : Int), w.toNat = k → 1 ≤ w → (∀ y, w ≤ y → y ≤ n → y ∈ held) → ∃ a, 1 ≤ a ∧ a ≤ w ∧ (∀ y, a ≤ y → y ≤ n → y ∈ held) ∧ (a = 1 ∨ a - 1 ∉ held)
  | 0, w, n, e, h1, _ => by omega
  | k + 1, w, n, e, h1, h => by
    by_cases hw : w = 1
    · exact ⟨w, h1, Int.le_refl _, h, .inl hw⟩
    · by_cases hm : w - 1 ∈ held
      · obtain ⟨a, a1, a2, a3, a4⟩ := row_start k (w - 1) n (by omega) (by omega) fun y y1 y2 => by
          by_cases hy : y = w - 1
          · rw [hy]; exact hm
          · exact h y (by omega) y2
        exact ⟨a, a1, by omega, a3, a4⟩
      · exact ⟨w, h1, Int.le_refl _, h, .inr hm⟩
theorem countP_range_le {l : List Int} (hn : l.Nodup) (a b : Int) : l.countP (fun w => decide (a ≤ w) && decide (w ≤ b)) ≤ (b + 1 - a).toNat := by
  rw [List.countP_eq_length_filter, ← irange_len a (b + 1)]
  refine nodup_le (hn.filter _) fun x hx => ?_
  rw [List.mem_filter] at hx
  simp at hx
  rw [mem_irange]
  omega
theorem countP_range_ge {l : List Int} (a b : Int) (h : ∀ y, a ≤ y → y ≤ b → y ∈ l) : (b + 1 - a).toNat ≤ l.countP (fun w => decide (a ≤ w) && decide (w ≤ b)) := by
  rw [List.countP_eq_length_filter, ← irange_len a (b + 1)]
  refine nodup_le (irange_nodup _ _) fun x hx => ?_
  rw [mem_irange] at hx
  rw [List.mem_filter]
  refine ⟨h x hx.1 (by omega), ?_⟩
  simp
  omega
theorem countP_same {l : List Int} {P P' : Int → Bool} (h : ∀ x ∈ l, P x = P' x) : l.countP P = l.countP P' := by
  apply List.countP_congr
  intro x hx
  rw [h x hx]
/-! ### good wishes -/
def Good (n : Int) (ns : List Int) : Prop := ∀ b, 1 ≤ b → b ≤ n → (cntGe ns b : Int) ≤ n + 1 - b
theorem good_of_lie {n : Int} {ns : List Int} (hw : ∀ w ∈ ns, 1 ≤ w ∧ w ≤ n) (h : ∀ o ∈ place n ns, o ≠ none) : Good n ns := fun b b1 b2 => by
  have h1 : ns.countP (fun w => decide (b ≤ w)) ≤ (occ (place n ns)).countP (fun c => decide (b ≤ c) && decide (c ≤ n)) := by
    refine cnt_ge fun k w hk hp => ?_
    have hl := place_length n ns
    have hk' : k < (place n ns).length := by rw [hl]; exact (List.getElem?_eq_some_iff.mp hk).1
    cases e : (place n ns)[k]'hk' with
    | none => exact absurd e (h _ (List.getElem_mem hk'))
    | some c =>
      have e2 : (place n ns)[k]? = some (some c) := by rw [List.getElem?_eq_getElem hk', e]
      obtain ⟨v, h1, h2, h3, _⟩ := place_at n ns k c e2
      rw [hk] at h1
      cases h1
      refine ⟨c, e2, ?_⟩
      simp at hp ⊢
      omega
  have h2 := countP_range_le (occ_nodup n ns) b n
  unfold cntGe
  omega
theorem lie_of_good {n : Int} {ns : List Int} (hw : ∀ w ∈ ns, 1 ≤ w ∧ w ≤ n) (g : Good n ns) : ∀ o ∈ place n ns, o ≠ none := by
  intro o ho e
  subst e
  obtain ⟨k, hk⟩ := List.getElem?_of_mem ho
  obtain ⟨w, h1, h2⟩ := place_away n ns k hk
  have w1 := hw w (List.mem_of_getElem? h1)
  obtain ⟨a, a1, a2, a3, a4⟩ := row_start _ w n rfl w1.1 h2
  have ob := occ_place (n := n) (ns := ns) fun v hv => (hw v hv).1
  -- the berths from a on are all taken, by ships that wish them: and one more wishes so
  have c1 := countP_range_ge a n a3
  have c2 : (occ (place n ns)).countP (fun c => decide (a ≤ c) && decide (c ≤ n)) ≤ (ns.eraseIdx k).countP (fun v => decide (a ≤ v)) := by
    have hlen := place_length n ns
    have kl : k < ns.length := (List.getElem?_eq_some_iff.mp h1).1
    have e1 : occ (place n ns) = occ ((place n ns).eraseIdx k) := by
      have kp : k < (place n ns).length := by omega
      have es := split_at hk
      rw [List.eraseIdx_eq_take_drop_succ]
      conv => lhs; rw [es]
      unfold occ
      rw [List.filterMap_append, List.filterMap_append]
      rfl
    rw [e1]
    refine cnt_le fun j c hj hp => ?_
    have hj2 : (place n ns)[if j < k then j else j + 1]? = some (some c) := by
      rw [List.getElem?_eraseIdx] at hj
      split <;> simp_all
    obtain ⟨v, v1, v2, v3, v4⟩ := place_at n ns _ c hj2
    refine ⟨v, ?_, ?_⟩
    · rw [List.getElem?_eraseIdx]
      split <;> simp_all
    · simp at hp ⊢
      refine Classical.byContradiction fun z => ?_
      rcases a4 with a4 | a4
      · have := (hw v (List.mem_of_getElem? v1)).1
        omega
      · exact a4 (v4 (a - 1) (by omega) (by omega))
  have c3 : (ns.eraseIdx k).countP (fun v => decide (a ≤ v)) + 1 ≤ cntGe ns a := by
    have es := split_at h1
    unfold cntGe
    rw [List.eraseIdx_eq_take_drop_succ]
    conv => rhs; rw [es]
    rw [List.countP_append, List.countP_append, List.countP_cons, if_pos (by simp; omega)]
    omega
  have := g a a1 (by omega)
  omega

theorem opts_some (os : List (Option Int)) : (os.filter fun o => !decide (optV o = .non)).map optV = (occ os).map V.int := by
  unfold occ
  induction os with
  | nil => rfl
  | cons o os ih =>
    cases o with
    | none => simpa [optV] using ih
    | some b => simpa [optV] using ih
/-- what is sorted of a list -/
def SortOf (ms ns : List Int) : Prop := ms.Perm ns ∧ ms.Pairwise (· ≤ ·)
def sp_taken (K : PySem.W.Frag) (mg : Str → Option Value) : Sp := fun vs H Q E => ∃ b x, vs = [b, x] ∧ Asked K mg H E b x fun n ns => ∀ ms p H', SortOf ms (occ (place n ns)) → H p = none → Ex H H' → H' p = some (.lst (ms.map V.int)) → Q (.ref p) H'
theorem has_taken {P : Program} {w : World} {K : PySem.W.Frag} {mg : Str → Option Value} {base : Heap} (S : B.Stands K mg "taken" s_taken) (N : Nms K mg) (h_placed : B.Has P w K mg base "placed" 4 ["berths", "wishes"] (sp_placed K mg)) : B.Has P w K mg base "taken" 5 ["berths", "wishes"] (sp_taken K mg) := by
  refine B.has_of S sc_taken (fun _ _ _ _ _ _ us hl => match us, hl with | [_, _], _ => rfl) (fun vs H Q E h => ?_)
    (fun f cdv A outer s H vs Q E hr h => ⟨_, (pss_one (ps_ret (pe_callB (r := rSortedI K) cr_sortedI (by rfl) N.n_sorted B.boot_sorted (pa_cons (pe_lc (own := [("berth", 2)]) (g := (gName 2)) rfl sc_taken.nd (pi_list (B.pe_has h_placed hr (B.passU (takes_of rfl rfl rfl rfl)) (pa_cons (pv 0) (pa_cons (pv 1) pa_nil)))) (blkOk_by (own := [("berth", 2)]) (N := n_taken) (sc := defScope s_taken) (by decide +kernel)) (fun _ _ _ _ _ => (pg_name (i := 2) sc_taken.nd rfl (by first | exact Or.inl rfl | exact Or.inr rfl))) (fun _ _ _ _ _ => (pts_one (pt_cmp (pc_notN (pv 2))))) (fun _ _ _ _ _ => (pv 2))) pa_nil)))), ?_⟩)
  · exact Asked.len h
  · obtain ⟨b, x, rfl, h⟩ := h
    walk_at "go"
    refine ⟨b, x, rfl, h.imp fun n ns eb n1 n2 hns due p H1 p0 e1 h1 => ?_⟩
    have pl : (place n ns).length ≤ 1000000 := by
      obtain ⟨a, _, _, hl, _⟩ := hns
      rw [place_length]
      omega
    refine x_lcL (place n ns) optV (fun o => !decide (optV o = .non)) optV (by walk_at "hx") ⟨pl, fun _ => rfl, fun o _ H2 e2 QT k => ?_, fun o _ _ H2 e2 Q' k => ?_, fun l H2 l0 e2 h2 => ?_⟩
    · walk_at "go"
      exact k H2 (Evl.Ex.refl _)
    · walk_at "go"
      exact k H2 (Evl.Ex.refl _)
    · rw [opts_some] at h2
      walk_at "go"
      refine x_sorted (by walk_at "hx") fun ms q H3 hp hs q0 e3 h3 => ?_
      walk_at "go"
      exact due ms q H3 ⟨hp, hs⟩ (exn e1 (exn e2 q0)) (by walk_at "hx") h3

/-- how far a ship lies behind its wish -/
def goneOf (n : Int) (ns : List Int) : Int := ((((place n ns).zip ns).filter fun z => !decide (optV z.1 = .non)).map fun z => z.1.getD 0 - z.2).sum
def sp_gone_on (K : PySem.W.Frag) (mg : Str → Option Value) : Sp := fun vs H Q E => ∃ b x, vs = [b, x] ∧ Asked K mg H E b x fun n ns => SqL K H (match x with | .ref a => a | _ => 0) (ns.map V.int) ∧ ∀ H', Ex H H' → Q (.int (goneOf n ns)) H'
theorem has_gone_on {P : Program} {w : World} {K : PySem.W.Frag} {mg : Str → Option Value} {base : Heap} (S : B.Stands K mg "gone_on" s_gone_on) (N : Nms K mg) (h_placed : B.Has P w K mg base "placed" 4 ["berths", "wishes"] (sp_placed K mg)) : B.Has P w K mg base "gone_on" 5 ["berths", "wishes"] (sp_gone_on K mg) := by
  refine B.has_of S sc_gone_on (fun _ _ _ _ _ _ us hl => match us, hl with | [_, _], _ => rfl) (fun vs H Q E h => ?_)
    (fun f cdv A outer s H vs Q E hr h => ⟨_, (pss_one (ps_ret (pe_callB (r := rSum K) (cr_sum rfl) (by rfl) N.n_sum B.boot_sum (pa_cons (pe_lc (own := [("berth", 2), ("wish", 3)]) (g := (gTup K 2 (gCons (gName 2) (gCons (gName 3) gNil)))) rfl sc_gone_on.nd (pi_zip (by rfl) N.n_zip (pa_cons (B.pe_has h_placed hr (B.passU (takes_of rfl rfl rfl rfl)) (pa_cons (pv 0) (pa_cons (pv 1) pa_nil))) (pa_cons (pv 1) pa_nil))) (blkOk_by (own := [("berth", 2), ("wish", 3)]) (N := n_gone_on) (sc := defScope s_gone_on) (by decide +kernel)) (fun _ _ _ _ _ => (pg_tup rfl (pgs_cons (pg_name (i := 2) sc_gone_on.nd rfl (by first | exact Or.inl rfl | exact Or.inr rfl)) (pgs_cons (pg_name (i := 3) sc_gone_on.nd rfl (by first | exact Or.inl rfl | exact Or.inr rfl)) pgs_nil)))) (fun _ _ _ _ _ => (pts_one (pt_cmp (pc_notN (pv 2))))) (fun _ _ _ _ _ => (pe_op op_sub (pv 2) (pv 3)))) pa_nil)))), ?_⟩)
  · exact Asked.len h
  · obtain ⟨b, x, rfl, h⟩ := h
    walk_at "go"
    refine ⟨b, x, rfl, h.imp fun n ns eb n1 n2 hns due p H1 p0 e1 h1 => ?_⟩
    obtain ⟨a, rfl, hq, hl, hw⟩ := hns
    obtain ⟨ha, due⟩ := due
    have pl := place_length n ns
    walk_at "go"
    refine x_lcZ (place n ns) ns optV V.int (fun z => !decide (optV z.1 = .non)) (fun z => .int (z.1.getD 0 - z.2)) (by walk_at "hx") (by exact Evl.ex_l e1 ha) ⟨by rw [List.length_zip]; omega, fun _ _ => rfl, fun z _ H2 e2 QT k => ?_, fun z _ hz H2 e2 Q' k => ?_, fun l H2 l0 e2 h2 => ?_⟩
    · walk_at "go"
      exact k H2 (Evl.Ex.refl _)
    · obtain ⟨o, w⟩ := z
      cases o with
      | none => exact absurd hz (by simp [optV])
      | some c =>
        walk_at "go"
        show (rI0 fun i j => V.int (i - j)) (.int c) (.int w) H2 Q'
        walk_at "go"
        exact k H2 (Evl.Ex.refl _)
    · walk_at "go"
      refine x_sum (ns := (((place n ns).zip ns).filter fun z => !decide (optV z.1 = .non)).map fun z => z.1.getD 0 - z.2) (by rw [List.map_map]; walk_at "hx") ?_
      walk_at "go"
      exact due H2 (by walk_at "hx")

/-! ### good wishes by their order -/
def GoodS (n : Int) (ms : List Int) : Prop := ∀ (i : Nat) (v : Int), ms[i]? = some v → v ≤ n - ms.length + i + 1
theorem cntGe_perm {ms ns : List Int} (h : ms.Perm ns) (b : Int) : cntGe ms b = cntGe ns b := h.countP_eq _
theorem sorted_ge {ms : List Int} (hs : ms.Pairwise (· ≤ ·)) {i : Nat} {v b : Int} (h : ms[i]? = some v) (hb : b ≤ v) : ms.length - i ≤ cntGe ms b := by
  have es := split_at h
  have hi : i < ms.length := (List.getElem?_eq_some_iff.mp h).1
  unfold cntGe
  rw [es] at hs
  rw [List.pairwise_append] at hs
  obtain ⟨_, h2, _⟩ := hs
  rw [List.pairwise_cons] at h2
  conv => rhs; rw [es]
  rw [List.countP_append]
  have h3 : (v :: ms.drop (i + 1)).countP (fun w => decide (b ≤ w)) = (v :: ms.drop (i + 1)).length := by
    rw [List.countP_eq_length]
    intro x hx
    rcases List.mem_cons.mp hx with rfl | hx
    · simp [hb]
    · have := h2.1 x hx
      simp
      omega
  rw [h3, List.length_cons, List.length_drop]
  omega
theorem sorted_lt {ms : List Int} (hs : ms.Pairwise (· ≤ ·)) {i : Nat} {v b : Int} (h : ms[i]? = some v) (hb : v < b) : cntGe ms b + i + 1 ≤ ms.length := by
  have es := split_at h
  have hi : i < ms.length := (List.getElem?_eq_some_iff.mp h).1
  unfold cntGe
  rw [es] at hs
  rw [List.pairwise_append] at hs
  obtain ⟨_, _, h3⟩ := hs
  conv => lhs; rw [es]
  rw [List.countP_append, List.countP_cons, if_neg (by simp; omega)]
  have h4 : (ms.take i).countP (fun w => decide (b ≤ w)) = 0 := by
    rw [List.countP_eq_zero]
    intro x hx
    have := h3 x hx v List.mem_cons_self
    simp
    omega
  have h5 := List.countP_le_length (p := fun w => decide (b ≤ w)) (l := ms.drop (i + 1))
  rw [List.length_drop] at h5
  omega
theorem good_sorted {n : Int} {ms ns : List Int} (h : SortOf ms ns) (hw : ∀ w ∈ ns, 1 ≤ w ∧ w ≤ n) : Good n ns ↔ GoodS n ms := by
  obtain ⟨hp, hs⟩ := h
  constructor
  · intro g i v hv
    refine Classical.byContradiction fun z => ?_
    have hi : i < ms.length := (List.getElem?_eq_some_iff.mp hv).1
    have h1 := sorted_ge hs hv (Int.le_refl v)
    have vw := hw v (hp.mem_iff.mp (List.mem_of_getElem? hv))
    have h2 := g v vw.1 vw.2
    rw [← cntGe_perm hp] at h2
    omega
  · intro g b b1 b2
    refine Classical.byContradiction fun z => ?_
    rw [← cntGe_perm hp] at z
    have hc : cntGe ms b ≤ ms.length := List.countP_le_length
    have hi : ms.length - cntGe ms b < ms.length := by omega
    have hv := List.getElem?_eq_getElem hi
    have h1 := g _ _ hv
    by_cases hb : ms[ms.length - cntGe ms b] < b
    · have := sorted_lt hs hv hb
      omega
    · omega
/-- the last berth from which on more wish than there are -/
def IsCrowded (n : Int) (ns : List Int) : Option Int → Prop
  | none => Good n ns
  | some c => 1 ≤ c ∧ c ≤ n ∧ n + 1 - c < (cntGe ns c : Int) ∧ ∀ b, c < b → b ≤ n → (cntGe ns b : Int) ≤ n + 1 - b
theorem crowded_same {n : Int} {ns : List Int} : ∀ {o o' : Option Int}, IsCrowded n ns o → IsCrowded n ns o' → o = o'
  | none, none, _, _ => rfl
  | none, some c, g, ⟨h1, h2, h3, _⟩ => absurd (g c h1 h2) (by omega)
  | some c, none, ⟨h1, h2, h3, _⟩, g => absurd (g c h1 h2) (by omega)
  | some c, some d, ⟨h1, h2, h3, h4⟩, ⟨g1, g2, g3, g4⟩ => by
    rcases Int.lt_trichotomy c d with h | h | h
    · exact absurd (h4 d h g2) (by omega)
    · rw [h]
    · exact absurd (g4 c h h2) (by omega)
theorem crowded_good {n : Int} {ns : List Int} {o : Option Int} (h : IsCrowded n ns o) : o = none ↔ Good n ns := by
  cases o with
  | none => exact ⟨fun _ => h, fun _ => rfl⟩
  | some c =>
    obtain ⟨h1, h2, h3, _⟩ := h
    exact ⟨fun z => (nomatch z), fun g => absurd (g c h1 h2) (by omega)⟩
theorem good_low {n : Int} {ns : List Int} (hl : (ns.length : Int) ≤ n) (h : ∀ (i : Nat) (v : Int), ns[i]? = some v → v ≤ i + 1) : Good n ns := fun b b1 b2 => by
  unfold cntGe
  have e : ns = ns.take (b - 1).toNat ++ ns.drop (b - 1).toNat := (List.take_append_drop _ _).symm
  rw [e, List.countP_append]
  have h1 : (ns.take (b - 1).toNat).countP (fun w => decide (b ≤ w)) = 0 := by
    rw [List.countP_eq_zero]
    intro x hx
    obtain ⟨i, hi⟩ := List.getElem?_of_mem hx
    rw [List.getElem?_take] at hi
    split at hi
    · have := h i x hi
      simp
      omega
    · cases hi
  have h2 := List.countP_le_length (p := fun w => decide (b ≤ w)) (l := ns.drop (b - 1).toNat)
  rw [List.length_drop] at h2
  omega
/-- how many wish just a berth: the program's table -/
def tally (n : Int) (ns : List Int) : List Int := (irange 0 (n + 1)).map fun k => (ns.countP (fun w => decide (w = k)) : Int)
theorem tally_len (n : Int) (ns : List Int) : (tally n ns).length = (n + 1).toNat := by
  unfold tally
  rw [List.length_map, irange_len]
  omega
theorem tally_at {n k : Int} (ns : List Int) (h0 : 0 ≤ k) (h1 : k ≤ n) : (tally n ns)[k.toNat]? = some (ns.countP (fun w => decide (w = k)) : Int) := by
  unfold tally
  rw [List.getElem?_map, irange_at (by omega)]
  show some (((ns.countP fun w => decide (w = 0 + ((k.toNat : Nat) : Int))) : Nat) : Int) = _
  rw [show (0 : Int) + ((k.toNat : Nat) : Int) = k from by omega]
theorem tally_snoc {n w : Int} (ns : List Int) (h0 : 0 ≤ w) (h1 : w ≤ n) : (tally n ns).set w.toNat ((ns.countP (fun v => decide (v = w)) : Int) + 1) = tally n (ns ++ [w]) := by
  apply List.ext_getElem?
  intro i
  by_cases hi : i < (n + 1).toNat
  · have e : ∀ ms, (tally n ms)[i]? = some (ms.countP (fun v => decide (v = (i : Int))) : Int) := fun ms => by
      have := tally_at (n := n) (k := (i : Int)) ms (by omega) (by omega)
      simpa using this
    by_cases hw : w.toNat = i
    · have ew : w = (i : Int) := by omega
      rw [List.getElem?_set, if_pos hw, if_pos (by rw [tally_len]; omega), e, List.countP_append]
      subst ew
      simp
    · rw [List.getElem?_set, if_neg hw, e, e, List.countP_append]
      have ew : ¬ w = (i : Int) := by omega
      simp [ew]
  · rw [List.getElem?_eq_none (by rw [List.length_set, tally_len]; omega), List.getElem?_eq_none (by rw [tally_len]; omega)]
theorem tally_nil (n : Int) (h : 0 ≤ n) : tally n [] = List.replicate (n + 1).toNat 0 := by
  unfold tally
  rw [List.eq_replicate_iff]
  constructor
  · rw [List.length_map, irange_len]
    omega
  · intro x hx
    obtain ⟨k, _, rfl⟩ := List.mem_map.mp hx
    rfl
theorem cntGe_succ (ns : List Int) (b : Int) : cntGe ns b = cntGe ns (b + 1) + ns.countP (fun w => decide (w = b)) := by
  unfold cntGe
  induction ns with
  | nil => rfl
  | cons w ns ih =>
    rw [List.countP_cons, List.countP_cons, List.countP_cons, ih]
    rcases Int.lt_trichotomy w b with h | h | h
    · rw [if_neg (by simp; omega), if_neg (by simp; omega), if_neg (by simp; omega)]
      omega
    · rw [if_pos (by simp; omega), if_neg (by simp; omega), if_pos (by simp; omega)]
      omega
    · rw [if_pos (by simp; omega), if_pos (by simp; omega), if_neg (by simp; omega)]
      omega
theorem cntGe_top {n : Int} {ns : List Int} (hw : ∀ w ∈ ns, w ≤ n) : cntGe ns (n + 1) = 0 := by
  unfold cntGe
  rw [List.countP_eq_zero]
  intro w h
  have := hw w h
  simp
  omega

/-! ### crowded, is_good -/
def sp_crowded (K : PySem.W.Frag) (mg : Str → Option Value) : Sp := fun vs H Q E => ∃ b x, vs = [b, x] ∧ Asked K mg H E b x fun n ns => ∀ o H', IsCrowded n ns o → Ex H H' → Q (optV o) H'
theorem has_crowded {P : Program} {w : World} {K : PySem.W.Frag} {mg : Str → Option Value} {base : Heap} (S : B.Stands K mg "crowded" s_crowded) (N : Nms K mg) (h_need_wishes : B.Has P w K mg base "need_wishes" 3 ["berths", "wishes"] (sp_need_wishes K mg)) : B.Has P w K mg base "crowded" 4 ["berths", "wishes"] (sp_crowded K mg) := by
  refine B.has_of S sc_crowded (fun _ _ _ _ _ _ us hl => match us, hl with | [_, _], _ => rfl) (fun vs H Q E h => ?_)
    (fun f cdv A outer s H vs Q E hr h => ⟨_, (pss_cons (ps_expr (B.pe_has h_need_wishes hr (B.passU (takes_of rfl rfl rfl rfl)) (pa_cons (pv 0) (pa_cons (pv 1) pa_nil))))
    (pss_cons (ps_set (i := 2) sc_crowded.nd rfl (by first | exact Or.inl rfl | exact Or.inr rfl) (pe_op op_rep (pe_lst (pa_cons pe_int pa_nil)) (pe_op op_add (pv 0) pe_int)))
    (pss_cons (ps_for (passes_of rfl) rfl (B.pi_sq (pv 1)) (pg_name (i := 3) sc_crowded.nd rfl (by first | exact Or.inl rfl | exact Or.inr rfl)) (pss_one (B.ps_augL (pv 2) (pv 3) pe_int ip_add)))
    (pss_cons (ps_set (i := 4) sc_crowded.nd rfl (by first | exact Or.inl rfl | exact Or.inr rfl) pe_int)
    (pss_cons (ps_for (passes_of rfl) rfl (pi_range3 rfl N.n_range (pa_cons (pv 0) (pa_cons pe_int (pa_cons (pe_un un_neg pe_int) pa_nil)))) (pg_name (i := 5) sc_crowded.nd rfl (by first | exact Or.inl rfl | exact Or.inr rfl)) (pss_cons (ps_aug (i := 4) sc_crowded.nd rfl (by first | exact Or.inl rfl | exact Or.inr rfl) (pe_ix (r := rIxL K) ix_list (pv 2) (pv 5) (fun _ _ => rfl)) ip_add)
    (pss_one (ps_if (pt_cmpR op_gt (pv 4) (pe_op op_sub (pe_op op_add (pv 0) pe_int) (pv 5)) (nomark _)) (pss_one (ps_ret (pv 5))) pss_nil))))
    (pss_one (ps_ret pe_non))))))), ?_⟩)
  · exact Asked.len h
  · obtain ⟨b, x, rfl, h⟩ := h
    walk_at "go"
    refine ⟨b, x, rfl, h.imp fun n ns eb n1 n2 hns due H1 e1 => ?_⟩
    obtain ⟨a, rfl, hq, hl, hw⟩ := hns
    subst eb
    walk_at "go"
    refine x_mkL (by simp) fun z H2 z0 e2 hz => ?_
    walk_at "go"
    refine x_rep (n := n + 1) hz (by omega) (by omega) (by simp) fun t H3 t0 e3 ht => ?_
    have ht : H3 t = some (.lst ((tally n []).map V.int)) := by
      rw [ht, tally_nil n (by omega)]
      simp [List.flatten_replicate_singleton]
    walk_at "go"
    have tn : H t = none := exn e1 (exn e2 t0)
    refine x_forQ (H0 := H) (a := a) ns V.int rfl hq (fun pre σ' H' => (∃ v, σ' = [some (.int n), some (.ref a), some (.ref t), v, none, none]) ∧ Ex H H' ∧ H' t = some (.lst ((tally n pre).map V.int)))
      ⟨⟨_, rfl⟩, by walk_at "hx", ht⟩ (fun pre σ' H' _ p => p.2.1) (fun pre w post σ' H' ea p => ?_) (fun σ' H' p => ?_)
    · obtain ⟨⟨v, rfl⟩, ex, ht'⟩ := p
      have w1 : 1 ≤ w ∧ w ≤ n := hw w (by rw [ea]; simp)
      obtain ⟨k, rfl⟩ : ∃ k : Nat, w = (k : Nat) := ⟨w.toNat, by omega⟩
      walk_at "go"
      have hk := tally_at (n := n) (k := (k : Int)) pre (by omega) (by omega)
      refine x_getN (v := .int (pre.countP (fun v => decide (v = (k : Int))) : Int)) (by walk_at "hx") (by rw [List.getElem?_map, show k = ((k : Int)).toNat from by simp, hk]; rfl) ?_
      walk_at "go"
      refine x_setC ht' (by rw [List.length_map, tally_len]; omega) fun H4 u4 => ?_
      walk_at "go"
      refine ⟨⟨_, rfl⟩, by walk_at "hx", ?_⟩
      have es := tally_snoc (n := n) (w := (k : Int)) pre (by omega) (by omega)
      rw [← es, List.map_set]
      simp only [Int.toNat_natCast]
      exact u4.same
    · obtain ⟨⟨v, rfl⟩, ex, ht'⟩ := p
      walk_at "go"
      refine x_down (by omega) (by decide) ?_
      refine x_forC (fun k σ' H' => (∃ v', σ' = [some (.int n), some (.ref a), some (.ref t), v, some (.int (cntGe ns (n + 1 - k) : Int)), v']) ∧ Ex H H' ∧ H' t = some (.lst ((tally n ns).map V.int)) ∧ (k : Int) ≤ n ∧ ∀ c, n - k < c → c ≤ n → (cntGe ns c : Int) ≤ n + 1 - c)
        ⟨⟨_, by rw [show n + 1 - ((0 : Nat) : Int) = n + 1 from by omega, cntGe_top fun w h => (hw w h).2]; rfl⟩, ex, ht', by omega, fun c c1 c2 => by omega⟩ (fun k σ' H' hk p => ?_) (fun σ' H' p => ?_)
      · obtain ⟨⟨v', rfl⟩, ex, ht', k2, hc⟩ := p
        have kn : (k : Int) < n := by omega
        obtain ⟨c, hcn⟩ : ∃ c : Nat, n + (k : Int) * -1 = (c : Nat) := ⟨(n - k).toNat, by omega⟩
        have hcn' : n - k = (c : Int) := by omega
        rw [hcn]
        walk_at "go"
        have hk2 := tally_at (n := n) (k := (c : Int)) ns (by omega) (by omega)
        refine x_ixL (v := .int (ns.countP (fun v => decide (v = (c : Int))) : Int)) (by walk_at "hx") (atI_nat (by rw [List.getElem?_map, show c = ((c : Int)).toNat from by simp, hk2]; rfl)) ?_
        walk_at "go"
        have ec : (cntGe ns (n + 1 - k) : Int) + (ns.countP (fun v => decide (v = (c : Int))) : Int) = (cntGe ns (c : Int) : Int) := by
          have := cntGe_succ ns (c : Int)
          rw [show (c : Int) + 1 = n + 1 - k from by omega] at this
          omega
        rw [ec]
        refine x_dec (fun hb => ?_) (fun hb => ?_)
        · walk_at "go"
          exact due (some (c : Int)) H' ⟨by omega, by omega, by omega, fun b b1 b2 => hc b (by omega) b2⟩ ex
        · walk_at "go"
          refine ⟨⟨_, by rw [show n + 1 - ((k + 1 : Nat) : Int) = (c : Int) from by omega]; rfl⟩, ex, ht', by omega, fun b b1 b2 => ?_⟩
          by_cases e : b = (c : Int)
          · subst e
            omega
          · exact hc b (by omega) b2
      · obtain ⟨⟨v', rfl⟩, ex, ht', k2, hc⟩ := p
        walk_at "go"
        exact due none H' (fun b b1 b2 => hc b (by omega) b2) ex
def sp_is_good (K : PySem.W.Frag) (mg : Str → Option Value) : Sp := fun vs H Q E => ∃ b x, vs = [b, x] ∧ Asked K mg H E b x fun n ns => ∀ (g : Bool) H', (g = true ↔ Good n ns) → Ex H H' → Q (.bl g) H'
theorem has_is_good {P : Program} {w : World} {K : PySem.W.Frag} {mg : Str → Option Value} {base : Heap} (S : B.Stands K mg "is_good" s_is_good) (N : Nms K mg) (h_crowded : B.Has P w K mg base "crowded" 4 ["berths", "wishes"] (sp_crowded K mg)) : B.Has P w K mg base "is_good" 5 ["berths", "wishes"] (sp_is_good K mg) := by
  refine B.has_of S sc_is_good (fun _ _ _ _ _ _ us hl => match us, hl with | [_, _], _ => rfl) (fun vs H Q E h => ?_)
    (fun f cdv A outer s H vs Q E hr h => ⟨_, (pss_one (ps_ret (pe_cmp (pc_isN (B.pe_has h_crowded hr (B.passU (takes_of rfl rfl rfl rfl)) (pa_cons (pv 0) (pa_cons (pv 1) pa_nil)))) rfl))), ?_⟩)
  · exact Asked.len h
  · obtain ⟨b, x, rfl, h⟩ := h
    walk_at "go"
    refine ⟨b, x, rfl, h.imp fun n ns eb n1 n2 hns due o H1 ho e1 => ?_⟩
    walk_at "go"
    refine due _ H1 ?_ e1
    rw [← crowded_good ho]
    cases o <;> simp [optV]

/-! ### the law's readers -/
def sp__law_cell_at (K : PySem.W.Frag) : Sp := fun vs H Q _ => ∃ (a : Addr) (ns : List Int) (k : Nat), vs = [.ref a, .int (k : Nat)] ∧ SqL K H a (ns.map V.int) ∧ ns.length ≤ 63 ∧ Q (.int (ns.getD k 0)) H
theorem has__law_cell_at {P : Program} {w : World} {K : PySem.W.Frag} {mg : Str → Option Value} {base : Heap} (S : B.Stands K mg "_law_cell_at" s__law_cell_at) (N : Nms K mg)  : B.Has P w K mg base "_law_cell_at" 1 ["_law_script", "_law_k"] (sp__law_cell_at K) := by
  refine B.has_ofN S sc__law_cell_at (fun _ _ _ _ _ _ us hl => match us, hl with | [_, _], _ => rfl) (fun vs H Q E h => ?_)
    (fun f cdv A outer s H vs Q E hr h => ⟨_, (pss_cons (ps_if (pt_cmpR op_lt (pv 1) (pe_callB (r := B.rLen K) B.call_len (by rfl) N.n_len PySem.boot_len (pa_cons (pv 0) pa_nil)) (nomark _)) (pss_one (ps_ret (pe_ix (r := rIxL K) ix_list (pv 0) (pv 1) (fun _ _ => rfl)))) pss_nil)
    (pss_one (ps_ret pe_int))), ?_⟩)
  · obtain ⟨a, ns, k, rfl, _⟩ := h
    rfl
  · obtain ⟨a, ns, k, rfl, hs, hl, q⟩ := h
    have hq : Sq K H a (ns.map V.int) := .inl hs
    walk_at "go"
    refine x_dec (fun c => ?_) (fun c => ?_)
    · rw [List.length_map] at c
      have hk : k < ns.length := by omega
      walk_at "go"
      refine x_ixL hs (v := .int (ns.getD k 0)) (atI_nat ?_) ?_
      · rw [List.getElem?_map, List.getElem?_eq_getElem hk, List.getD_eq_getElem?_getD, List.getElem?_eq_getElem hk]
        rfl
      · walk_at "go"
        exact q
    · rw [List.length_map] at c
      walk_at "go"
      rw [show ns.getD k 0 = 0 from by rw [List.getD_eq_getElem?_getD, List.getElem?_eq_none (by omega)]; rfl] at q
      exact q
/-- an item of a short written list, by an index in its bounds -/
theorem at3 {x y z : V} {k : Int} (h0 : 0 ≤ k) (h : k < 3) : ∃ v, atI [x, y, z] k = some v ∧ (v = x ∨ v = y ∨ v = z) := by
  rcases (by omega : k = 0 ∨ k = 1 ∨ k = 2) with rfl | rfl | rfl
  · exact ⟨x, rfl, .inl rfl⟩
  · exact ⟨y, rfl, .inr (.inl rfl)⟩
  · exact ⟨z, rfl, .inr (.inr rfl)⟩
theorem at4 {x y z u : V} {k : Int} (h0 : 0 ≤ k) (h : k < 4) : ∃ v, atI [x, y, z, u] k = some v ∧ (v = x ∨ v = y ∨ v = z ∨ v = u) := by
  rcases (by omega : k = 0 ∨ k = 1 ∨ k = 2 ∨ k = 3) with rfl | rfl | rfl | rfl
  · exact ⟨x, rfl, .inl rfl⟩
  · exact ⟨y, rfl, .inr (.inl rfl)⟩
  · exact ⟨z, rfl, .inr (.inr (.inl rfl))⟩
  · exact ⟨u, rfl, .inr (.inr (.inr rfl))⟩
theorem x_mod {i j : Int} {H : Hp} {Q : VK} (h : 0 < j) (q : ∀ r, 0 ≤ r → r < j → r = i % j → Q (.int r) H) : rI (fun _ j => 0 < j) (fun i j => .int (i % j)) (.int i) (.int j) H Q :=
  x_rI h (q _ (Int.emod_nonneg _ (by omega)) (Int.emod_lt_of_pos _ h) rfl)
theorem x_fdiv {i j : Int} {H : Hp} {Q : VK} (h : 0 < j ∧ j < 1073741824) (q : Q (.int (i / j)) H) : rI CDiv (fun i j => .int (i / j)) (.int i) (.int j) H Q := x_rI h q

def sp__law_quay (K : PySem.W.Frag) : Sp := fun vs H Q _ => ∃ (a : Addr) (ns : List Int), vs = [.ref a] ∧ SqL K H a (ns.map V.int) ∧ ns.length ≤ 63 ∧ ∀ n H', 1 ≤ n → n ≤ 400 → Ex H H' → Q (.int n) H'
theorem has__law_quay {P : Program} {w : World} {K : PySem.W.Frag} {mg : Str → Option Value} {base : Heap} (S : B.Stands K mg "_law_quay" s__law_quay) (N : Nms K mg) (h__law_cell_at : B.Has P w K mg base "_law_cell_at" 1 ["_law_script", "_law_k"] (sp__law_cell_at K)) : B.Has P w K mg base "_law_quay" 2 ["_law_script"] (sp__law_quay K) := by
  refine B.has_ofN S sc__law_quay (fun _ _ _ _ _ _ us hl => match us, hl with | [_], _ => rfl) (fun vs H Q E h => ?_)
    (fun f cdv A outer s H vs Q E hr h => ⟨_, (pss_one (ps_ret (pe_op op_add pe_int (pe_op op_mod (B.pe_has h__law_cell_at hr B.passL (pa_cons (pv 0) (pa_cons pe_int pa_nil))) (pe_ix (r := rIxL K) ix_list (pe_lst (pa_cons pe_int (pa_cons pe_int (pa_cons pe_int pa_nil)))) (pe_op op_mod (B.pe_has h__law_cell_at hr B.passL (pa_cons (pv 0) (pa_cons pe_int pa_nil))) pe_int) (fun _ _ => rfl)))))), ?_⟩)
  · obtain ⟨a, ns, rfl, _⟩ := h
    rfl
  · obtain ⟨a, ns, rfl, hs, hl, q⟩ := h
    walk_at "go"
    refine ⟨a, ns, 0, rfl, hs, hl, ?_⟩
    walk_at "go"
    refine x_mkL (by simp) fun p H1 p0 e1 h1 => ?_
    walk_at "go"
    refine ⟨a, ns, 1, rfl, by walk_at "hx", hl, ?_⟩
    walk_at "go"
    refine x_mod (by decide) fun r r0 r1 _ => ?_
    obtain ⟨v, ev, hv⟩ := at3 (x := .int 6) (y := .int 40) (z := .int 400) r0 r1
    refine x_ixL (by walk_at "hx") ev ?_
    have hv : ∃ m : Int, v = .int m ∧ 1 ≤ m ∧ m ≤ 400 := by
      rcases hv with rfl | rfl | rfl <;> exact ⟨_, rfl, by decide, by decide⟩
    obtain ⟨m, rfl, m1, m2⟩ := hv
    refine x_mod (by omega) fun s s0 s1 _ => ?_
    walk_at "go"
    exact q (1 + s) H1 (by omega) (by omega) e1
/-- a list of wishes for n berths is made -/
def sp__law_wishes (K : PySem.W.Frag) : Sp := fun vs H Q _ => ∃ (a : Addr) (ns : List Int) (n most : Int), vs = [.ref a, .int n, .int most] ∧ SqL K H a (ns.map V.int) ∧ ns.length ≤ 63 ∧ 1 ≤ n ∧ n ≤ 400 ∧ 0 ≤ most ∧
  ∀ (p : Addr) (H' : Hp) (ws : List Int), ws.length ≤ 63 → ((ws.length : Nat) : Int) ≤ most → (∀ w ∈ ws, 1 ≤ w ∧ w ≤ n) → H p = none → Ex H H' → H' p = some (.lst (ws.map V.int)) → Q (.ref p) H'
theorem has__law_wishes {P : Program} {w : World} {K : PySem.W.Frag} {mg : Str → Option Value} {base : Heap} (S : B.Stands K mg "_law_wishes" s__law_wishes) (N : Nms K mg) (h__law_cell_at : B.Has P w K mg base "_law_cell_at" 1 ["_law_script", "_law_k"] (sp__law_cell_at K)) : B.Has P w K mg base "_law_wishes" 2 ["_law_script", "_law_berths", "_law_most"] (sp__law_wishes K) := by
  refine B.has_ofN S sc__law_wishes (fun _ _ _ _ _ _ us hl => match us, hl with | [_, _, _], _ => rfl) (fun vs H Q E h => ?_)
    (fun f cdv A outer s H vs Q E hr h => ⟨_, (pss_cons (ps_set (i := 3) sc__law_wishes.nd rfl (by first | exact Or.inl rfl | exact Or.inr rfl) (pe_ix (r := rIxL K) ix_list (pe_lst (pa_cons (pv 1) (pa_cons (pe_op op_add pe_int (pe_op op_fdiv (pv 1) pe_int)) (pa_cons (pe_callB (B.call_min2 rfl) (by rfl) N.n_min B.boot_min (pa_cons (pv 1) (pa_cons pe_int pa_nil))) (pa_cons (pv 1) pa_nil))))) (pe_op op_mod (pe_op op_fdiv (B.pe_has h__law_cell_at hr B.passL (pa_cons (pv 0) (pa_cons pe_int pa_nil))) pe_int) pe_int) (fun _ _ => rfl)))
    (pss_cons (ps_set (i := 4) sc__law_wishes.nd rfl (by first | exact Or.inl rfl | exact Or.inr rfl) (pe_op op_mod (pe_op op_fdiv (B.pe_has h__law_cell_at hr B.passL (pa_cons (pv 0) (pa_cons pe_int pa_nil))) pe_int) (pv 1)))
    (pss_cons (ps_set (i := 5) sc__law_wishes.nd rfl (by first | exact Or.inl rfl | exact Or.inr rfl) (pe_lst pa_nil))
    (pss_cons (ps_for PassesOwn.never rfl (pi_list (pe_slice (r := rSlL K) sl_list (pv 0) (po_some pe_int) po_none)) (pg_name (i := 6) sc__law_wishes.nd rfl (by first | exact Or.inl rfl | exact Or.inr rfl)) (pss_one (ps_if (pt_cmpR op_lt (pe_callB (r := B.rLen K) B.call_len (by rfl) N.n_len PySem.boot_len (pa_cons (pv 5) pa_nil)) (pv 2) (nomark _)) (pss_one (ps_expr (pe_bm PySem.F.plainAttrs_list PySem.F.slot_list_append PySem.F.type_list_append mt_append (pv 5) (pa_cons (pe_op op_add (pe_op op_mod (pe_op op_add (pe_op op_mod (pv 6) (pv 3)) (pv 4)) (pv 1)) pe_int) pa_nil)))) pss_nil)))
    (pss_one (ps_ret (pv 5))))))), ?_⟩)
  · obtain ⟨a, ns, n, most, rfl, _⟩ := h
    rfl
  · obtain ⟨a, ns, n, most, rfl, hs, hl, n1, n2, m0, q⟩ := h
    walk_at "go"
    refine x_fdiv (by decide) ?_
    walk_at "go"
    refine x_min2 ?_
    walk_at "go"
    refine x_mkL (by simp) fun p H1 p0 e1 h1 => ?_
    walk_at "go"
    refine ⟨a, ns, 1, rfl, by walk_at "hx", hl, ?_⟩
    walk_at "go"
    refine x_fdiv (by decide) ?_
    walk_at "go"
    refine x_mod (by decide) fun r r0 r1 _ => ?_
    obtain ⟨v, ev, hv⟩ := at4 r0 r1
    refine x_ixL (by walk_at "hx") ev ?_
    have hv : ∃ m : Int, v = .int m ∧ 1 ≤ m ∧ m ≤ 400 := by
      rcases hv with rfl | rfl | rfl | rfl
      · exact ⟨_, rfl, n1, n2⟩
      · exact ⟨_, rfl, by omega, by omega⟩
      · refine ⟨_, rfl, ?_, ?_⟩ <;> split <;> omega
      · exact ⟨_, rfl, n1, n2⟩
    obtain ⟨near, rfl, near1, near2⟩ := hv
    walk_at "go"
    refine ⟨a, ns, 1, rfl, by walk_at "hx", hl, ?_⟩
    walk_at "go"
    refine x_fdiv (by decide) ?_
    walk_at "go"
    refine x_mod (by omega) fun far far0 far1 _ => ?_
    walk_at "go"
    refine x_mkL (by simp) fun l H2 l0 e2 h2 => ?_
    walk_at "go"
    refine x_slL (lo := some ((2 : Nat) : Int)) (by walk_at "hx") fun c H3 c0 e3 h3 => ?_
    rw [cut_from, ← List.map_drop] at h3
    have hcl : c ≠ l := Ne.symm (ne_of_none h2 c0)
    have hln : H l = none := exn e1 l0
    have hcn : H c = none := exn e1 (exn e2 c0)
    refine x_forL (ns.drop 2) V.int (fun pre σ' H' => (∃ v, σ' = [some (.ref a), some (.int n), some (.int most), some (.int near), some (.int far), some (.ref l), v]) ∧ Ex H H' ∧ H' c = some (.lst ((ns.drop 2).map V.int)) ∧
        ∃ ws : List Int, H' l = some (.lst (ws.map V.int)) ∧ ws.length ≤ pre.length ∧ ((ws.length : Nat) : Int) ≤ most ∧ ∀ w ∈ ws, 1 ≤ w ∧ w ≤ n)
      ⟨⟨_, rfl⟩, by walk_at "hx", h3, [], by walk_at "hx", Nat.le_refl _, m0, fun w hw => nomatch hw⟩ (fun pre σ' H' _ p => Evl.sq_of p.2.2.1) (fun pre w post σ' H' ea p => ?_) (fun σ' H' p => ?_)
    · obtain ⟨⟨v, rfl⟩, ex, hc, ws, hws, wl, wm, hw⟩ := p
      have hz : (ws.length : Nat) ≤ 63 := by
        have := congrArg List.length ea
        rw [List.length_append, List.length_cons, List.length_drop] at this
        omega
      walk_at "go"
      rw [List.length_map]
      refine x_dec (fun hm => ?_) (fun hm => ?_)
      · walk_at "go"
        refine x_mod (by omega) fun s s0 s1 _ => ?_
        walk_at "go"
        refine x_mod (by omega) fun t t0 t1 _ => ?_
        walk_at "go"
        refine x_append hws (by rw [List.length_map]; omega) fun H4 u4 => ?_
        walk_at "go"
        refine ⟨⟨_, rfl⟩, by walk_at "hx", by walk_at "hx", ws ++ [t + 1], ?_, ?_, ?_, ?_⟩
        · rw [List.map_append]
          walk_at "hx"
        · rw [List.length_append, List.length_append, List.length_singleton, List.length_singleton]
          omega
        · rw [List.length_append, List.length_singleton]
          omega
        · intro x hx
          rcases List.mem_append.mp hx with hx | hx
          · exact hw x hx
          · rw [List.mem_singleton.mp hx]
            omega
      · walk_at "go"
        refine ⟨⟨_, rfl⟩, ex, hc, ws, hws, ?_, wm, hw⟩
        rw [List.length_append]
        omega
    · obtain ⟨⟨v, rfl⟩, ex, hc, ws, hws, wl, wm, hw⟩ := p
      walk_at "go"
      rw [List.length_drop] at wl
      exact q l H' ws (by omega) wm hw hln ex hws

def sp__law_mix (K : PySem.W.Frag) : Sp := fun vs H Q _ => ∃ (a : Addr) (s c : Int), vs = [.ref a, .int c] ∧ H a = some (.lst [.int s]) ∧ 0 ≤ s ∧ s < 2147483648 ∧
  ∀ (r s' : Int) (H' : Hp), 0 ≤ r → r < 2147483647 → 0 ≤ s' → s' < 2147483648 → Upd H a (.lst [.int s']) H' → Q (.int r) H'
theorem has__law_mix {P : Program} {w : World} {K : PySem.W.Frag} {mg : Str → Option Value} {base : Heap} (S : B.Stands K mg "_law_mix" s__law_mix) (N : Nms K mg)  : B.Has P w K mg base "_law_mix" 1 ["_law_state", "_law_cell"] (sp__law_mix K) := by
  refine B.has_ofN S sc__law_mix (fun _ _ _ _ _ _ us hl => match us, hl with | [_, _], _ => rfl) (fun vs H Q E h => ?_)
    (fun f cdv A outer s H vs Q E hr h => ⟨_, (pss_cons (ps_asg (pe_op op_mod (pe_op op_add (pe_op op_add (pe_op op_mul (pe_ix (r := rIxL K) ix_list (pv 0) pe_int (fun _ _ => rfl)) pe_int) (pe_op op_mul (pv 1) pe_int)) pe_int) pe_int) (pg_sub (pv 0) pe_int set_list))
    (pss_one (ps_ret (pe_op op_fdiv (pe_op op_mod (pe_op op_mul (pe_ix (r := rIxL K) ix_list (pv 0) pe_int (fun _ _ => rfl)) (pe_ix (r := rIxL K) ix_list (pv 0) pe_int (fun _ _ => rfl))) pe_int) pe_int)))), ?_⟩)
  · obtain ⟨a, s, c, rfl, _⟩ := h
    rfl
  · obtain ⟨a, s, c, rfl, ha, s0, s1, q⟩ := h
    walk_at "go"
    refine x_ixL (v := .int s) (by walk_at "hx") at_head ?_
    walk_at "go"
    refine x_rI (.inr (by decide)) ?_
    walk_at "go"
    refine x_rI (.inr (by decide)) ?_
    walk_at "go"
    refine x_mod (by decide) fun r r0 r1 _ => ?_
    walk_at "go"
    refine x_setL (n := 0) ha (by simp) fun H1 u1 => ?_
    have h1 : H1 a = some (.lst [.int r]) := u1.same
    walk_at "go"
    refine x_ixL (v := .int r) (by walk_at "hx") at_head ?_
    walk_at "go"
    refine x_ixL (v := .int r) (by walk_at "hx") at_head ?_
    refine x_rI (.inl (by omega)) ?_
    walk_at "go"
    refine x_mod (by decide) fun t t0 t1 _ => ?_
    walk_at "go"
    refine x_fdiv (by decide) ?_
    exact q _ r H1 (by omega) (by omega) r0 (by omega) u1

def sp__law_order (K : PySem.W.Frag) : Sp := fun vs H Q _ => ∃ (a : Addr) (ns : List Int) (m k : Nat), vs = [.ref a, .int (m : Nat), .int (k : Nat)] ∧ SqL K H a (ns.map V.int) ∧ ns.length ≤ 63 ∧ m ≤ 400 ∧
  ∀ (p : Addr) (H' : Hp) (os : List Int), os.Perm (irange 0 m) → H p = none → Ex H H' → H' p = some (.lst (os.map V.int)) → Q (.ref p) H'
theorem erase_map (as : List Int) (j : Nat) : (as.map V.int).eraseIdx j = (as.eraseIdx j).map V.int := by
  rw [List.eraseIdx_eq_take_drop_succ, List.eraseIdx_eq_take_drop_succ, List.map_append, List.map_take, List.map_drop]
theorem pop_perm {as os : List Int} {k : Nat} {x : Int} (h : as[k]? = some x) : (os ++ [x] ++ as.eraseIdx k).Perm (os ++ as) := by
  have es := split_at h
  rw [List.eraseIdx_eq_take_drop_succ]
  conv => rhs; rw [es]
  rw [List.append_assoc]
  refine List.Perm.append_left os ?_
  exact (List.perm_middle (l₁ := as.take k) (a := x) (l₂ := as.drop (k + 1))).symm
theorem has__law_order {P : Program} {w : World} {K : PySem.W.Frag} {mg : Str → Option Value} {base : Heap} (S : B.Stands K mg "_law_order" s__law_order) (N : Nms K mg) (h__law_cell_at : B.Has P w K mg base "_law_cell_at" 1 ["_law_script", "_law_k"] (sp__law_cell_at K)) (h__law_mix : B.Has P w K mg base "_law_mix" 1 ["_law_state", "_law_cell"] (sp__law_mix K)) : B.Has P w K mg base "_law_order" 2 ["_law_script", "_law_many", "_law_first"] (sp__law_order K) := by
  refine B.has_ofN S sc__law_order (fun _ _ _ _ _ _ us hl => match us, hl with | [_, _, _], _ => rfl) (fun vs H Q E h => ?_)
    (fun f cdv A outer s H vs Q E hr h => ⟨_, (pss_cons (ps_set (i := 3) sc__law_order.nd rfl (by first | exact Or.inl rfl | exact Or.inr rfl) (pe_lst (pa_cons (pe_op op_add pe_int (pe_op op_mod (B.pe_has h__law_cell_at hr B.passL (pa_cons (pv 0) (pa_cons (pv 2) pa_nil))) pe_int)) pa_nil)))
    (pss_cons (ps_set (i := 4) sc__law_order.nd rfl (by first | exact Or.inl rfl | exact Or.inr rfl) (pe_listRg rfl (by rfl) N.n_list (prg_1 (by rfl) N.n_range (pv 1))))
    (pss_cons (ps_set (i := 5) sc__law_order.nd rfl (by first | exact Or.inl rfl | exact Or.inr rfl) (pe_lst pa_nil))
    (pss_cons (ps_for PassesOwn.never rfl (pi_range1 rfl N.n_range (pa_cons (pv 1) pa_nil)) (pg_name (i := 6) sc__law_order.nd rfl (by first | exact Or.inl rfl | exact Or.inr rfl)) (pss_one (ps_expr (pe_bm PySem.F.plainAttrs_list PySem.F.slot_list_append PySem.F.type_list_append mt_append (pv 5) (pa_cons (pe_bm PySem.F.plainAttrs_list PySem.F.slot_list_pop PySem.F.type_list_pop mt_popAt (pv 4) (pa_cons (pe_op op_mod (B.pe_has h__law_mix hr B.passL (pa_cons (pv 3) (pa_cons (B.pe_has h__law_cell_at hr B.passL (pa_cons (pv 0) (pa_cons (pe_op op_add (pe_op op_add (pv 2) pe_int) (pe_op op_mod (pv 6) pe_int)) pa_nil))) pa_nil))) (pe_callB (r := B.rLen K) B.call_len (by rfl) N.n_len PySem.boot_len (pa_cons (pv 4) pa_nil))) pa_nil)) pa_nil)))))
    (pss_one (ps_ret (pv 5))))))), ?_⟩)
  · obtain ⟨a, ns, m, k, rfl, _⟩ := h
    rfl
  · obtain ⟨a, ns, m, k, rfl, hs, hl, hm, q⟩ := h
    walk_at "go"
    refine ⟨a, ns, k, rfl, hs, hl, ?_⟩
    walk_at "go"
    refine x_mod (by decide) fun r r0 r1 _ => ?_
    walk_at "go"
    refine x_mkL (by simp) fun st H1 st0 e1 hst => ?_
    walk_at "go"
    refine x_mkRg1 (by omega) fun so H2 so0 e2 hso => ?_
    walk_at "go"
    refine x_mkL (by simp) fun l H3 l0 e3 hl3 => ?_
    walk_at "go"
    refine x_rng1 (by omega) ?_
    rw [Int.toNat_natCast]
    have n1 : st ≠ so := ne_of_none hst so0
    have n2 : st ≠ l := ne_of_none (show H2 st = some _ by walk_at "hx") l0
    have n3 : so ≠ l := ne_of_none hso l0
    have stn : H st = none := st0
    have son : H so = none := exn e1 so0
    have ln : H l = none := exn e1 (exn e2 l0)
    refine x_forR (fun i σ' H' => (∃ v, σ' = [some (.ref a), some (.int (m : Nat)), some (.int (k : Nat)), some (.ref st), some (.ref so), some (.ref l), v]) ∧ Ex H H' ∧ (∃ s, H' st = some (.lst [.int s]) ∧ 0 ≤ s ∧ s < 2147483648) ∧
        ∃ as os : List Int, H' so = some (.lst (as.map V.int)) ∧ H' l = some (.lst (os.map V.int)) ∧ (os ++ as).Perm (irange 0 m) ∧ os.length = i)
      ⟨⟨_, rfl⟩, by walk_at "hx", ⟨1 + r, by walk_at "hx", by omega, by omega⟩, irange 0 m, [], by walk_at "hx", by walk_at "hx", List.Perm.refl _, rfl⟩ (fun i σ' H' hi p => ?_) (fun σ' H' p => ?_)
    · obtain ⟨⟨v, rfl⟩, ex, ⟨s, hst', s0, s1⟩, as, os, hso', hl', hp, ho⟩ := p
      have lens := hp.length_eq
      rw [List.length_append, irange_len] at lens
      have hS : SqL K H' a (ns.map V.int) := Evl.ex_l ex hs
      walk_at "go"
      refine x_mod (by decide) fun t t0 t1 _ => ?_
      walk_at "go"
      refine ⟨a, ns, (k + 1 + t.toNat), ?_, hS, hl, ?_⟩
      · show [V.ref a, V.int ((k : Int) + 1 + t)] = [V.ref a, V.int ((k + 1 + t.toNat : Nat) : Int)]
        rw [show ((k : Int) + 1 + t) = ((k + 1 + t.toNat : Nat) : Int) from by omega]
      walk_at "go"
      refine ⟨st, s, _, rfl, hst', s0, s1, fun mx s' H4 mx0 mx1 s'0 s'1 u4 => ?_⟩
      have hso4 : H4 so = some (.lst (as.map V.int)) := u4.get (Ne.symm n1) hso'
      have hl4 : H4 l = some (.lst (os.map V.int)) := u4.get (Ne.symm n2) hl'
      walk_at "go"
      rw [List.length_map]
      refine x_mod (by omega) fun j j0 j1 _ => ?_
      obtain ⟨j, rfl⟩ : ∃ j' : Nat, j = (j' : Nat) := ⟨j.toNat, by omega⟩
      have hj : j < as.length := by omega
      have hjx := List.getElem?_eq_getElem hj
      walk_at "go"
      refine x_popAt (y := .int as[j]) hso4 (by rw [List.length_map]; omega) (by rw [List.getElem?_map, hjx]; rfl) fun H5 u5 => ?_
      have hl5 : H5 l = some (.lst (os.map V.int)) := u5.get (Ne.symm n3) hl4
      walk_at "go"
      refine x_append hl5 (by rw [List.length_map]; omega) fun H6 u6 => ?_
      walk_at "go"
      refine ⟨⟨_, rfl⟩, (u6.ex (u5.ex (u4.ex ex stn) son) ln), ⟨s', u6.get n2 (u5.get n1 u4.same), s'0, s'1⟩, as.eraseIdx j, os ++ [as[j]], ?_, ?_, (pop_perm hjx).trans hp, ?_⟩
      · refine u6.get n3 ?_
        rw [← erase_map]
        exact u5.same
      · rw [List.map_append]
        exact u6.same
      · rw [List.length_append, ho]
        rfl
    · obtain ⟨⟨v, rfl⟩, ex, _, as, os, hso', hl', hp, ho⟩ := p
      have lens := hp.length_eq
      rw [List.length_append, irange_len] at lens
      have ea : as = [] := List.eq_nil_of_length_eq_zero (by omega)
      subst ea
      rw [List.append_nil] at hp
      walk_at "go"
      exact q l H' os hp ln ex hl'

/-! ### any order: the same berths -/
/-- a berth is taken just where on some row of berths that ends there as many wish as there are berths -/
theorem taken_iff {n : Int} {ns : List Int} (hw : ∀ w ∈ ns, 1 ≤ w ∧ w ≤ n) (b : Int) :
    b ∈ occ (place n ns) ↔ (1 ≤ b ∧ b ≤ n) ∧ ∃ a, 1 ≤ a ∧ a ≤ b ∧ b + 1 - a ≤ (ns.countP (fun w => decide (a ≤ w) && decide (w ≤ b)) : Int) := by
  have ob := occ_place (n := n) (ns := ns) fun v hv => (hw v hv).1
  constructor
  · intro hb
    have hb1 := ob b hb
    obtain ⟨a, a1, a2, a3, a4⟩ := row_start (held := occ (place n ns)) b.toNat b b rfl hb1.1 fun y y1 y2 => by rw [show y = b from by omega]; exact hb
    refine ⟨hb1, a, a1, a2, ?_⟩
    have c1 := countP_range_ge a b a3
    have c2 : (occ (place n ns)).countP (fun c => decide (a ≤ c) && decide (c ≤ b)) ≤ ns.countP (fun w => decide (a ≤ w) && decide (w ≤ b)) := by
      refine cnt_le fun k c hk hp => ?_
      obtain ⟨w, w1, w2, w3, w4⟩ := place_at n ns k c hk
      refine ⟨w, w1, ?_⟩
      simp at hp ⊢
      refine ⟨Classical.byContradiction fun z => ?_, by omega⟩
      rcases a4 with a4 | a4
      · have := (hw w (List.mem_of_getElem? w1)).1
        omega
      · exact a4 (w4 (a - 1) (by omega) (by omega))
    omega
  · rintro ⟨hb1, a, a1, a2, a3⟩
    refine Classical.byContradiction fun hb => ?_
    have c2 : ns.countP (fun w => decide (a ≤ w) && decide (w ≤ b)) ≤ (occ (place n ns)).countP (fun c => decide (a ≤ c) && decide (c ≤ b - 1)) := by
      refine cnt_ge fun k w hk hp => ?_
      simp at hp
      have hl := place_length n ns
      have hk' : k < (place n ns).length := by rw [hl]; exact (List.getElem?_eq_some_iff.mp hk).1
      have e2 := List.getElem?_eq_getElem hk'
      cases e : (place n ns)[k]'hk' with
      | none =>
        rw [e] at e2
        obtain ⟨v, v1, v2⟩ := place_away n ns k e2
        rw [hk] at v1
        cases v1
        exact absurd (v2 b hp.2 hb1.2) hb
      | some c =>
        rw [e] at e2
        obtain ⟨v, v1, v2, v3, v4⟩ := place_at n ns k c e2
        rw [hk] at v1
        cases v1
        refine ⟨c, e2, ?_⟩
        have hc : c ∈ occ (place n ns) := by
          unfold occ
          rw [List.mem_filterMap]
          exact ⟨some c, List.mem_of_getElem? e2, rfl⟩
        have h1 : ¬ b < c := fun z => hb (v4 b hp.2 z)
        have h2 : c ≠ b := fun z => hb (z ▸ hc)
        simp
        omega
    have c3 := countP_range_le (occ_nodup n ns) a (b - 1)
    omega
theorem occ_perm {n : Int} {ns ms : List Int} (hw : ∀ w ∈ ns, 1 ≤ w ∧ w ≤ n) (h : ms.Perm ns) : (occ (place n ms)).Perm (occ (place n ns)) := by
  rw [List.perm_ext_iff_of_nodup (occ_nodup n ms) (occ_nodup n ns)]
  intro b
  rw [taken_iff (fun w hm => hw w (h.mem_iff.mp hm)), taken_iff hw]
  constructor
  · rintro ⟨h1, a, a1, a2, a3⟩
    exact ⟨h1, a, a1, a2, by rw [← h.countP_eq]; exact a3⟩
  · rintro ⟨h1, a, a1, a2, a3⟩
    exact ⟨h1, a, a1, a2, by rw [h.countP_eq]; exact a3⟩
theorem away_len (os : List (Option Int)) : (os.filter fun o => decide (optV o = .non)).length + (occ os).length = os.length := by
  unfold occ
  induction os with
  | nil => rfl
  | cons o os ih =>
    cases o with
    | none =>
      rw [List.filter_cons, if_pos (by rfl)]
      show (_ :: _).length + (os.filterMap id).length = _
      rw [List.length_cons, List.length_cons]
      omega
    | some c =>
      rw [List.filter_cons, if_neg (by simp [optV])]
      show _ + (c :: os.filterMap id).length = _
      rw [List.length_cons, List.length_cons]
      omega
/-- the wishes of the ships that lie -/
def lieOf (n : Int) (ns : List Int) : List Int := ((ns.zip (place n ns)).filter fun z => !decide (optV z.2 = .non)).map (·.1)
theorem lie_snoc (n : Int) (ns : List Int) (w : Int) : lieOf n (ns ++ [w]) = lieOf n ns ++ (match firstFree n (occ (place n ns)) w with
    | none => []
    | some _ => [w]) := by
  unfold lieOf
  rw [place_snoc]
  unfold placeStep
  rw [List.zip_append (by rw [place_length]), List.filter_append, List.map_append]
  congr 1
  cases firstFree n (occ (place n ns)) w with
  | none => rfl
  | some c => rfl
theorem lie_place (n : Int) : ∀ ns, place n (lieOf n ns) = (occ (place n ns)).map some := by
  refine snoc_ind rfl fun ns w ih => ?_
  rw [lie_snoc, place_snoc]
  unfold placeStep
  rw [occ_snoc]
  have eo : occ (place n (lieOf n ns)) = occ (place n ns) := by
    rw [ih]
    unfold occ
    induction (place n ns).filterMap id with
    | nil => rfl
    | cons a l ih => simpa using ih
  cases e : firstFree n (occ (place n ns)) w with
  | none =>
    simp only [List.append_nil, Option.toList]
    exact ih
  | some c =>
    show place n (lieOf n ns ++ [w]) = _
    rw [place_snoc]
    unfold placeStep
    rw [eo, e, ih, List.map_append]
    rfl
theorem occ_some (l : List Int) : occ (l.map some) = l := by
  unfold occ
  induction l with
  | nil => rfl
  | cons a l ih => simpa using ih
theorem lie_mem {n : Int} {ns : List Int} {w : Int} (h : w ∈ lieOf n ns) : w ∈ ns := by
  unfold lieOf at h
  obtain ⟨z, hz, rfl⟩ := List.mem_map.mp h
  exact (List.of_mem_zip (List.mem_filter.mp hz).1).1
theorem lie_len (n : Int) (ns : List Int) : (lieOf n ns).length ≤ ns.length := by
  unfold lieOf
  rw [List.length_map]
  refine Nat.le_trans (List.length_filter_le _ _) ?_
  rw [List.length_zip]
  omega
theorem gone_all {n : Int} : ∀ {st : List (Option Int)} {ns : List Int}, st.length = ns.length → (∀ o ∈ st, o ≠ none) → (((st.zip ns).filter fun z => !decide (optV z.1 = .non)).map fun z => z.1.getD 0 - z.2).sum = (occ st).sum - ns.sum
  | [], [], _, _ => rfl
  | [], _ :: _, h, _ => by simp at h
  | _ :: _, [], h, _ => by simp at h
  | o :: st, w :: ns, h, ha => by
    cases o with
    | none => exact absurd rfl (ha none List.mem_cons_self)
    | some c =>
      have ih := gone_all (n := n) (st := st) (ns := ns) (by simpa using h) fun o ho => ha o (List.mem_cons_of_mem _ ho)
      rw [List.zip_cons_cons, List.filter_cons, if_pos (by simp [optV]), List.map_cons, List.sum_cons, ih]
      show (c - w) + _ = (c :: occ st).sum - (w :: ns).sum
      rw [List.sum_cons, List.sum_cons]
      omega
theorem goneOf_all {n : Int} {ns : List Int} (h : ∀ o ∈ place n ns, o ≠ none) : goneOf n ns = (occ (place n ns)).sum - ns.sum := gone_all (n := n) (place_length n ns) h
theorem sum_perm {l m : List Int} (h : l.Perm m) : l.sum = m.sum := by
  induction h with
  | nil => rfl
  | cons a _ ih => rw [List.sum_cons, List.sum_cons, ih]
  | swap a b l => rw [List.sum_cons, List.sum_cons, List.sum_cons, List.sum_cons]; omega
  | trans _ _ h1 h2 => rw [h1, h2]
theorem map_at (ws : List Int) : (irange 0 ws.length).map (fun i => ws.getD i.toNat 0) = ws := by
  apply List.ext_getElem?
  intro i
  by_cases h : i < ws.length
  · rw [List.getElem?_map, irange_at (by omega), List.getElem?_eq_getElem h]
    show some (ws.getD ((0 : Int) + (i : Nat)).toNat 0) = _
    rw [show ((0 : Int) + (i : Nat)).toNat = i from by omega, List.getD_eq_getElem?_getD, List.getElem?_eq_getElem h]
    rfl
  · rw [List.getElem?_eq_none (by rw [List.length_map, irange_len]; omega), List.getElem?_eq_none (by omega)]
theorem order_perm {os ws : List Int} (h : os.Perm (irange 0 ws.length)) : (os.map fun i => ws.getD i.toNat 0).Perm ws := by
  have := h.map fun i => ws.getD i.toNat 0
  rw [map_at] at this
  exact this

def sp_law (K : PySem.W.Frag) : Sp := fun vs H Q _ => ∃ (a : Addr) (ns : List Int), vs = [.ref a] ∧ SqL K H a (ns.map V.int) ∧ ns.length ≤ 63 ∧ ∀ H', Q (.bl true) H'

theorem sort_same {a b c : List Int} (h1 : SortOf a c) (h2 : SortOf b c) : a = b := PySem.W.ksm_same (h1.1.trans h2.1.symm) h1.2 h2.2
theorem sort_perm {a b c d : List Int} (h1 : SortOf a c) (h2 : SortOf b d) (h : d.Perm c) : a = b := sort_same h1 ⟨h2.1.trans h, h2.2⟩
theorem away_nil {os : List (Option Int)} (h : (os.filter fun o => decide (optV o = .non)).length = 0) : ∀ o ∈ os, o ≠ none := by
  intro o ho e
  subst e
  have := List.length_eq_zero_iff.mp h
  rw [List.filter_eq_nil_iff] at this
  exact this none ho rfl
theorem law_ok {P : Program} {w : World} {K : PySem.W.Frag} {mg : Str → Option Value} {base : Heap} {f : Addr} {fd : FuncData} (F : Fun K "law" "law" s_law f fd) (N : Nms K mg)
    (h__law_quay : B.Has P w K mg base "_law_quay" 2 ["_law_script"] (sp__law_quay K))
    (h__law_wishes : B.Has P w K mg base "_law_wishes" 2 ["_law_script", "_law_berths", "_law_most"] (sp__law_wishes K))
    (h__law_order : B.Has P w K mg base "_law_order" 2 ["_law_script", "_law_many", "_law_first"] (sp__law_order K))
    (h_taken : B.Has P w K mg base "taken" 5 ["berths", "wishes"] (sp_taken K mg))
    (h_is_good : B.Has P w K mg base "is_good" 5 ["berths", "wishes"] (sp_is_good K mg))
    (h_gone_on : B.Has P w K mg base "gone_on" 5 ["berths", "wishes"] (sp_gone_on K mg))
    (h_placed : B.Has P w K mg base "placed" 4 ["berths", "wishes"] (sp_placed K mg)) :
    FnOk P w K mg base (L2.CX P w) 6 f fd ["_law_script"] (sp_law K) := by
  refine B.fn_okN F sc_law (fun vs H Q E h => ?_)
    (fun cdv A outer s H vs Q E hr h => ⟨_, (pss_cons (ps_set (i := 1) sc_law.nd rfl (by first | exact Or.inl rfl | exact Or.inr rfl) (B.pe_has h__law_quay hr B.passL (pa_cons (pv 0) pa_nil)))
    (pss_cons (ps_set (i := 2) sc_law.nd rfl (by first | exact Or.inl rfl | exact Or.inr rfl) (B.pe_has h__law_wishes hr B.passL (pa_cons (pv 0) (pa_cons (pv 1) (pa_cons pe_int pa_nil)))))
    (pss_cons (ps_set (i := 3) sc_law.nd rfl (by first | exact Or.inl rfl | exact Or.inr rfl) (B.pe_has h__law_order hr B.passL (pa_cons (pv 0) (pa_cons (pe_callB (r := B.rLen K) B.call_len (by rfl) N.n_len PySem.boot_len (pa_cons (pv 2) pa_nil)) (pa_cons pe_int pa_nil)))))
    (pss_cons (ps_setLc (i := 4) (own := [("_law_ship", 5)]) (g := (gName 5)) rfl sc_law.nd rfl rfl (sw_true rfl rfl rfl (by decide +kernel)) (pi_list (pv 3)) (blkOk_by (own := [("_law_ship", 5)]) (N := n_law) (sc := defScope s_law) (by decide +kernel)) (fun _ _ _ _ _ => (pg_name (i := 5) sc_law.nd rfl (by first | exact Or.inl rfl | exact Or.inr rfl))) (fun _ _ _ _ _ => pts_nil) (fun _ _ _ _ _ => (pe_ix (r := rIxL K) ix_list (pv 2) (pv 5) (fun _ _ => rfl))))
    (pss_cons (ps_set (i := 6) sc_law.nd rfl (by first | exact Or.inl rfl | exact Or.inr rfl) (B.pe_has h_taken hr B.passL (pa_cons (pv 1) (pa_cons (pv 2) pa_nil))))
    (pss_cons (ps_if (PW.pt (pw_or (pt_cmpR (r := rNeD K) (op_neD hr.units) (B.pe_has h_taken hr B.passL (pa_cons (pv 1) (pa_cons (pv 4) pa_nil))) (pv 6) (nomark _)) (pw_or1 (pt_cmpR (r := rNeD K) (op_neD hr.units) (B.pe_has h_taken hr B.passL (pa_cons (pv 1) (pa_cons (pe_revL (pv 2)) pa_nil))) (pv 6) (nomark _))))) (pss_one (ps_ret pe_bl)) pss_nil)
    (pss_cons (ps_set (i := 7) sc_law.nd rfl (by first | exact Or.inl rfl | exact Or.inr rfl) (pe_callB (r := B.rLen K) B.call_len (by rfl) N.n_len PySem.boot_len (pa_cons (pe_lc (own := [("_law_berth", 8)]) (g := (gName 8)) rfl sc_law.nd (pi_list (B.pe_has h_placed hr B.passL (pa_cons (pv 1) (pa_cons (pv 2) pa_nil)))) (blkOk_by (own := [("_law_berth", 8)]) (N := n_law) (sc := defScope s_law) (by decide +kernel)) (fun _ _ _ _ _ => (pg_name (i := 8) sc_law.nd rfl (by first | exact Or.inl rfl | exact Or.inr rfl))) (fun _ _ _ _ _ => (pts_one (pt_cmp (pc_isN (pv 8))))) (fun _ _ _ _ _ => (pv 8))) pa_nil)))
    (pss_cons (ps_if (PW.pt (pw_or (pt_cmpR op_ne (pe_callB (r := B.rLen K) B.call_len (by rfl) N.n_len PySem.boot_len (pa_cons (pe_lc (own := [("_law_berth", 8)]) (g := (gName 8)) rfl sc_law.nd (pi_list (B.pe_has h_placed hr B.passL (pa_cons (pv 1) (pa_cons (pv 4) pa_nil)))) (blkOk_by (own := [("_law_berth", 8)]) (N := n_law) (sc := defScope s_law) (by decide +kernel)) (fun _ _ _ _ _ => (pg_name (i := 8) sc_law.nd rfl (by first | exact Or.inl rfl | exact Or.inr rfl))) (fun _ _ _ _ _ => (pts_one (pt_cmp (pc_isN (pv 8))))) (fun _ _ _ _ _ => (pv 8))) pa_nil)) (pv 7) (nomark _)) (pw_or1 (pt_cmpR op_ne (pe_op op_add (pe_callB (r := B.rLen K) B.call_len (by rfl) N.n_len PySem.boot_len (pa_cons (pv 6) pa_nil)) (pv 7)) (pe_callB (r := B.rLen K) B.call_len (by rfl) N.n_len PySem.boot_len (pa_cons (pv 2) pa_nil)) (nomark _))))) (pss_one (ps_ret pe_bl)) pss_nil)
    (pss_cons (ps_if (pt_cmpR op_ne (B.pe_has h_is_good hr B.passL (pa_cons (pv 1) (pa_cons (pv 2) pa_nil))) (B.pe_has h_is_good hr B.passL (pa_cons (pv 1) (pa_cons (pv 4) pa_nil))) (nomark _)) (pss_one (ps_ret pe_bl)) pss_nil)
    (pss_cons (B.ps_stop (ps_if (PW.pt (pw_and (pt_cmpR op_eq (pv 7) pe_int (nomark _)) (pw_and1 (pt_cmpR op_ne (B.pe_has h_gone_on hr B.passL (pa_cons (pv 1) (pa_cons (pv 2) pa_nil))) (B.pe_has h_gone_on hr B.passL (pa_cons (pv 1) (pa_cons (pv 4) pa_nil))) (nomark _))))) (pss_one (ps_ret pe_bl)) pss_nil))
    (pss_cons (ps_for PassesOwn.never rfl (pi_list (pe_lst (pa_cons (pv 2) (pa_cons (pv 4) pa_nil)))) (pg_name (i := 9) sc_law.nd rfl (by first | exact Or.inl rfl | exact Or.inr rfl)) (pss_cons (ps_setLc (i := 10) (own := [("_law_wish", 11), ("_law_berth", 8)]) (g := (gTup K 2 (gCons (gName 11) (gCons (gName 8) gNil)))) rfl sc_law.nd rfl rfl (sw_true rfl rfl rfl (by decide +kernel)) (pi_zip (by rfl) N.n_zip (pa_cons (pv 9) (pa_cons (B.pe_has h_placed hr B.passL (pa_cons (pv 1) (pa_cons (pv 9) pa_nil))) pa_nil))) (blkOk_by (own := [("_law_wish", 11), ("_law_berth", 8)]) (N := n_law) (sc := defScope s_law) (by decide +kernel)) (fun _ _ _ _ _ => (pg_tup rfl (pgs_cons (pg_name (i := 11) sc_law.nd rfl (by first | exact Or.inl rfl | exact Or.inr rfl)) (pgs_cons (pg_name (i := 8) sc_law.nd rfl (by first | exact Or.inl rfl | exact Or.inr rfl)) pgs_nil)))) (fun _ _ _ _ _ => (pts_one (pt_cmp (pc_notN (pv 8))))) (fun _ _ _ _ _ => (pv 11)))
    (pss_one (ps_if (PW.pt (pw_or (pt_not (pt_val (B.pe_has h_is_good hr B.passL (pa_cons (pv 1) (pa_cons (pv 10) pa_nil))))) (pw_or (pt_cmpR (r := rNeD K) (op_neD hr.units) (B.pe_has h_taken hr B.passL (pa_cons (pv 1) (pa_cons (pv 10) pa_nil))) (pv 6) (nomark _)) (pw_or1 (pt_cmpR op_ne (B.pe_has h_gone_on hr B.passL (pa_cons (pv 1) (pa_cons (pv 10) pa_nil))) (pe_op op_sub (pe_callB (r := rSum K) (cr_sum rfl) (by rfl) N.n_sum B.boot_sum (pa_cons (pv 6) pa_nil)) (pe_callB (r := rSum K) (cr_sum rfl) (by rfl) N.n_sum B.boot_sum (pa_cons (pv 10) pa_nil))) (nomark _)))))) (pss_one (ps_ret pe_bl)) pss_nil))))
    (pss_cons (ps_set (i := 12) sc_law.nd rfl (by first | exact Or.inl rfl | exact Or.inr rfl) (B.pe_has h_taken hr B.passL (pa_cons (pv 1) (pa_cons (pe_slice (r := rSlL K) sl_list (pv 2) po_none (po_some (pe_un un_neg pe_int))) pa_nil))))
    (pss_one (ps_ret (pe_and (pe_cmpR (r := rEqD K) (op_eqD hr.units) (pe_lc (own := [("_law_berth", 8)]) (g := (gName 8)) rfl sc_law.nd (pi_list (pv 12)) (blkOk_by (own := [("_law_berth", 8)]) (N := n_law) (sc := defScope s_law) (by decide +kernel)) (fun _ _ _ _ _ => (pg_name (i := 8) sc_law.nd rfl (by first | exact Or.inl rfl | exact Or.inr rfl))) (fun _ _ _ _ _ => (pts_one (pt_cmpR (r := rIn K true) op_notIn_seq (pv 8) (pv 6) (by rfl)))) (fun _ _ _ _ _ => (pv 8))) (pe_lst pa_nil) (nomark _)) (pe_one (pe_cmpR op_ge (pe_callB (r := B.rLen K) B.call_len (by rfl) N.n_len PySem.boot_len (pa_cons (pv 12) pa_nil)) (pe_op op_sub (pe_callB (r := B.rLen K) B.call_len (by rfl) N.n_len PySem.boot_len (pa_cons (pv 6) pa_nil)) pe_int) (nomark _)))))))))))))))))), ?_⟩)
  · obtain ⟨a, ns, rfl, _⟩ := h
    rfl
  · obtain ⟨a, ns, rfl, hs, hl, q⟩ := h
    walk_at "go"
    refine ⟨a, ns, rfl, hs, hl, fun n H1 n1 n2 e1 => ?_⟩
    walk_at "go"
    refine ⟨a, ns, n, 400, rfl, by walk_at "hx", hl, n1, n2, by decide, fun b H2 ws wl wm hw b0 e2 hb => ?_⟩
    walk_at "go"
    rw [List.length_map]
    refine ⟨a, ns, ws.length, 2, rfl, by walk_at "hx", hl, by omega, fun o H3 os hos o0 e3 ho => ?_⟩
    walk_at "go"
    have hmem : ∀ i ∈ os, 0 ≤ i ∧ i < ws.length := fun i hi => mem_irange.mp (hos.mem_iff.mp hi)
    have ol := hos.length_eq
    rw [irange_len] at ol
    refine x_lcL os V.int (fun _ => true) (fun i => .int (ws.getD i.toNat 0)) (by walk_at "hx") ⟨by omega, fun _ => rfl, fun i _ H' e' QT k => ?_, fun i hi _ H' e' Q' k => ?_, fun c H4 c0 e4 hc => ?_⟩
    · exact k H' (Evl.Ex.refl _)
    · have := hmem i hi
      obtain ⟨j, rfl⟩ : ∃ j : Nat, i = (j : Nat) := ⟨i.toNat, by omega⟩
      walk_at "go"
      refine x_ixL (v := .int (ws.getD j 0)) (by walk_at "hx") (atI_nat (by rw [List.getElem?_map, List.getElem?_eq_getElem (by omega), List.getD_eq_getElem?_getD, List.getElem?_eq_getElem (by omega)]; rfl)) ?_
      exact k H' (Evl.Ex.refl _)
    -- the other order
    obtain ⟨ms, hms⟩ : ∃ ms, ms = os.map fun i => ws.getD i.toNat 0 := ⟨_, rfl⟩
    have hc : H4 c = some (.lst (ms.map V.int)) := by
      rw [hc, List.filter_eq_self.mpr (fun _ _ => rfl), hms, List.map_map]
      rfl
    have hperm : ms.Perm ws := by rw [hms]; exact order_perm hos
    have mw : ∀ w ∈ ms, 1 ≤ w ∧ w ≤ n := fun w h => hw w (hperm.mem_iff.mp h)
    have mlen := hperm.length_eq
    have wl4 : ws.length ≤ 400 := by omega
    have ml4 : ms.length ≤ 400 := by omega
    have hb4 : H4 b = some (.lst (ws.map V.int)) := by walk_at "hx"
    have WW : ∀ H', Ex H4 H' → Wishes K H' (.ref b) n ws := fun H' e => ⟨b, rfl, .l (Evl.sq_of (e _ _ hb4)), wl4, hw⟩
    have WM : ∀ H', Ex H4 H' → Wishes K H' (.ref c) n ms := fun H' e => ⟨c, rfl, .l (Evl.sq_of (e _ _ hc)), ml4, mw⟩
    have op := occ_perm hw hperm
    walk_at "go"
    refine ⟨_, _, rfl, .ok n1 n2 (WW _ (Evl.Ex.refl _)) fun hd d H5 hhd d0 e5 hd5 => ?_⟩
    walk_at "go"
    refine ⟨_, _, rfl, .ok n1 n2 (WM _ e5) fun hd2 d2 H6 hhd2 d20 e6 hd26 => ?_⟩
    have eh := sort_perm hhd hhd2 op
    subst eh
    walk_at "go"
    refine x_neL (by walk_at "hx") (by walk_at "hx") (plain_ints _) (plain_ints _) ?_
    walk_at "go"
    refine x_decN (fun z => absurd rfl z) fun _ => ?_
    walk_at "go"
    refine x_rev (xs := ws.map V.int) (by walk_at "hx") fun r H7 r0 e7 hr => ?_
    rw [← List.map_reverse] at hr
    walk_at "go"
    refine ⟨_, _, rfl, .ok n1 n2 ⟨r, rfl, by walk_at "hx", by rw [List.length_reverse]; exact wl4, fun w h => hw w (List.mem_reverse.mp h)⟩ fun hd3 d3 H8 hhd3 d30 e8 hd38 => ?_⟩
    have eh := sort_perm hhd hhd3 (occ_perm hw (List.reverse_perm ws))
    subst eh
    walk_at "go"
    refine x_neL (by walk_at "hx") (by walk_at "hx") (plain_ints _) (plain_ints _) ?_
    walk_at "go"
    refine x_decN (fun z => absurd rfl z) fun _ => ?_
    walk_at "go"
    -- how many go away
    have ex8 : Far H4 H8 := .of (by walk_at "hx")
    refine ⟨_, _, rfl, .ok n1 n2 (WW _ ex8.e) fun pl H9 pl0 e9 hpl => ?_⟩
    have pll := place_length n ws
    have pml := place_length n ms
    refine x_lcL (place n ws) optV (fun o => decide (optV o = .non)) optV (by walk_at "hx") ⟨by omega, fun _ => rfl, fun o _ H2 e2 QT k => ?_, fun o _ _ H2 e2 Q' k => ?_, fun aw H10 aw0 e10 haw => ?_⟩
    · walk_at "go"
      exact k H2 (Evl.Ex.refl _)
    · walk_at "go"
      exact k H2 (Evl.Ex.refl _)
    walk_at "go"
    rw [List.length_map]
    have aw1 := away_len (place n ws)
    have aw2 := away_len (place n ms)
    have ol2 := op.length_eq
    have hdl := hhd.1.length_eq
    have ex10 : Far H4 H10 := .of (by walk_at "hx")
    refine ⟨_, _, rfl, .ok n1 n2 (WM _ ex10.e) fun pm H11 pm0 e11 hpm => ?_⟩
    refine x_lcL (place n ms) optV (fun o => decide (optV o = .non)) optV (by walk_at "hx") ⟨by omega, fun _ => rfl, fun o _ H2 e2 QT k => ?_, fun o _ _ H2 e2 Q' k => ?_, fun aw' H12 aw'0 e12 haw' => ?_⟩
    · walk_at "go"
      exact k H2 (Evl.Ex.refl _)
    · walk_at "go"
      exact k H2 (Evl.Ex.refl _)
    walk_at "go"
    rw [List.length_map]
    refine x_decN (fun z => absurd (by rw [show ((place n ms).filter fun o => decide (optV o = .non)).length = ((place n ws).filter fun o => decide (optV o = .non)).length from by omega]) z) fun _ => ?_
    have hd12 : H12 d = some (.lst (hd.map V.int)) := by walk_at "hx"
    have ex12 : Far H4 H12 := .of (by walk_at "hx")
    have hb12 : H12 b = some (.lst (ws.map V.int)) := ex12.e _ _ hb4
    walk_at "go"
    rw [List.length_map, List.length_map]
    refine x_decN (fun z => absurd (by rw [V.int.injEq]; omega) z) fun _ => ?_
    walk_at "go"
    -- good or not
    refine ⟨_, _, rfl, .ok n1 n2 (WW _ ex12.e) fun g H13 hg e13 => ?_⟩
    walk_at "go"
    refine ⟨_, _, rfl, .ok n1 n2 (WM _ (ex12.e.trans e13)) fun g2 H14 hg2 e14 => ?_⟩
    have eg : g = g2 := by
      have h1 : Good n ms ↔ Good n ws := by
        constructor
        · intro h b b1 b2
          rw [← cntGe_perm hperm]
          exact h b b1 b2
        · intro h b b1 b2
          rw [cntGe_perm hperm]
          exact h b b1 b2
      have : g = true ↔ g2 = true := hg.trans (h1.symm.trans hg2.symm)
      cases g <;> cases g2 <;> simp_all
    subst eg
    walk_at "go"
    refine x_decN (fun z => absurd rfl z) fun _ => ?_
    walk_at "go"
    have ex14 : Far H4 H14 := .of (by walk_at "hx")
    have hd14 : H14 d = some (.lst (hd.map V.int)) := by walk_at "hx"
    -- how far they go on
    have hb14 : H14 b = some (.lst (ws.map V.int)) := ex14.e _ _ hb4
    have hc14 : H14 c = some (.lst (ms.map V.int)) := ex14.e _ _ hc
    have fin : ∀ os : List (Option Int), (∀ o ∈ os, o ≠ none) → True := fun _ _ => trivial
    refine x_join (fun σ' H' => σ' = [some (.ref a), some (.int n), some (.ref b), some (.ref o), some (.ref c), none, some (.ref d), some (.int (((place n ws).filter fun o => decide (optV o = .non)).length : Nat)), none, none, none, none, none] ∧ Ex H14 H') (fun σ' H15 p => ?_) (fun next => ?_)
    · obtain ⟨rfl, e15⟩ := p
      have hd15 : H15 d = some (.lst (hd.map V.int)) := by walk_at "hx"
      have hb15 : H15 b = some (.lst (ws.map V.int)) := by walk_at "hx"
      have hc15 : H15 c = some (.lst (ms.map V.int)) := by walk_at "hx"
      walk_at "go"
      refine x_mkL (by simp) fun rw H16 rw0 e16 hrw => ?_
      let rows : List (Addr × List Int) := [(b, ws), (c, ms)]
      have hrows : ∀ x ∈ rows, H16 x.1 = some (.lst (x.2.map V.int)) ∧ x.2.length ≤ 400 ∧ (∀ w ∈ x.2, 1 ≤ w ∧ w ≤ n) ∧ x.2.Perm ws := by
        intro x hx
        simp only [rows, List.mem_cons, List.not_mem_nil, or_false] at hx
        rcases hx with rfl | rfl
        · exact ⟨by walk_at "hx", wl4, hw, List.Perm.refl _⟩
        · exact ⟨by walk_at "hx", ml4, mw, hperm⟩
      refine x_forL rows (fun x => V.ref x.1) (fun pre σ' H' => (∃ z1 z2 z3 z4 z5, σ' = [some (.ref a), some (.int n), some (.ref b), some (.ref o), some (.ref c), none, some (.ref d), z5, z1, z2, z3, z4, none]) ∧ Ex H16 H')
        ⟨⟨_, _, _, _, _, rfl⟩, Evl.Ex.refl _⟩ (fun pre σ' H'' _ p => Evl.sq_of (p.2 _ _ hrw)) (fun pre x post σ' H' ea p => ?_) (fun σ' H' p => ?_)
      · obtain ⟨⟨z1, z2, z3, z4, z5, rfl⟩, ex16⟩ := p
        obtain ⟨p0, row⟩ := x
        obtain ⟨hx, xl, xw, xp⟩ := hrows (p0, row) (by rw [ea]; simp)
        have hx : H16 p0 = some (.lst (row.map V.int)) := hx
        have xl : row.length ≤ 400 := xl
        have xw : ∀ w ∈ row, 1 ≤ w ∧ w ≤ n := xw
        have xp : row.Perm ws := xp
        have hx' : H' p0 = some (.lst (row.map V.int)) := by walk_at "hx"
        have hd' : H' d = some (.lst (hd.map V.int)) := by walk_at "hx"
        have prl := place_length n row
        walk_at "go"
        refine ⟨_, _, rfl, .ok n1 n2 ⟨p0, rfl, .l (Evl.sq_of hx'), xl, xw⟩ fun pl H17 pl0 e17 hpl => ?_⟩
        walk_at "go"
        refine x_lcZ row (place n row) V.int optV (fun z => !decide (optV z.2 = .non)) (fun z => .int z.1) (by walk_at "hx") (by walk_at "hx") ⟨by rw [List.length_zip]; omega, fun _ _ => rfl, fun z _ H2 e2 QT k => ?_, fun z _ hz H2 e2 Q' k => ?_, fun li H18 li0 e18 hli => ?_⟩
        · walk_at "go"
          exact k H2 (Evl.Ex.refl _)
        · walk_at "go"
          exact k H2 (Evl.Ex.refl _)
        have hli : H18 li = some (.lst ((lieOf n row).map V.int)) := by
          rw [hli]
          unfold lieOf
          rw [List.map_map]
          rfl
        have lel := lie_len n row
        have lw : ∀ w ∈ lieOf n row, 1 ≤ w ∧ w ≤ n := fun w h => xw w (lie_mem h)
        have lp := lie_place n row
        have la : ∀ o ∈ place n (lieOf n row), o ≠ none := by
          rw [lp]
          intro o ho e
          subst e
          obtain ⟨_, _, h⟩ := List.mem_map.mp ho
          cases h
        walk_at "go"
        refine ⟨_, _, rfl, .ok n1 n2 ⟨li, rfl, by walk_at "hx", by omega, lw⟩ fun g H19 hg e19 => ?_⟩
        rw [hg.mpr (good_of_lie lw la)]
        walk_at "go"
        refine x_false ?_
        walk_at "go"
        refine ⟨_, _, rfl, .ok n1 n2 ⟨li, rfl, by walk_at "hx", by omega, lw⟩ fun tk t H20 htk t0 e20 ht => ?_⟩
        have et : hd = tk := by
          refine sort_perm hhd htk ?_
          rw [lp, occ_some]
          exact occ_perm hw xp
        subst et
        walk_at "go"
        refine x_neL (by walk_at "hx") (by walk_at "hx") (plain_ints _) (plain_ints _) ?_
        walk_at "go"
        refine x_decN (fun z => absurd rfl z) fun _ => ?_
        walk_at "go"
        refine ⟨_, _, rfl, .ok n1 n2 ⟨li, rfl, by walk_at "hx", by omega, lw⟩ ⟨by walk_at "hx", fun H21 e21 => ?_⟩⟩
        walk_at "go"
        refine x_sum (by walk_at "hx") ?_
        walk_at "go"
        refine x_sum (by walk_at "hx") ?_
        walk_at "go"
        have eg : goneOf n (lieOf n row) = hd.sum - (lieOf n row).sum := by
          rw [goneOf_all la, lp, occ_some, sum_perm hhd.1, sum_perm (occ_perm hw xp)]
        rw [eg]
        refine x_decN (fun z => absurd rfl z) fun _ => ?_
        walk_at "go"
        exact ⟨⟨_, _, _, _, _, rfl⟩, by walk_at "hx"⟩
      · obtain ⟨⟨z1, z2, z3, z4, z5, rfl⟩, ex16⟩ := p
        have hb' : H' b = some (.lst (ws.map V.int)) := by walk_at "hx"
        have hd' : H' d = some (.lst (hd.map V.int)) := by walk_at "hx"
        walk_at "go"
        refine x_slL (lo := none) (hi := some (-1)) (by walk_at "hx") fun f H17 f0 e17 hf => ?_
        rw [cut_init, ← List.map_dropLast] at hf
        have hww : ∀ w ∈ ws.dropLast, 1 ≤ w ∧ w ≤ n := fun w h => hw w ((List.dropLast_sublist ws).mem h)
        walk_at "go"
        refine ⟨_, _, rfl, .ok n1 n2 ⟨f, rfl, by walk_at "hx", by rw [List.length_dropLast]; omega, hww⟩ fun tk t H18 htk t0 e18 ht => ?_⟩
        have tkl : tk.length ≤ 400 := by
          rw [htk.1.length_eq]
          have h1 := occ_le (place n ws.dropLast)
          have h2 := place_length n ws.dropLast
          have h3 := List.length_dropLast (xs := ws)
          omega
        have sub : (∀ x ∈ tk, x ∈ hd) ∧ hd.length ≤ tk.length + 1 := by
          rcases List.eq_nil_or_concat ws with e | ⟨l, w, e⟩
          · subst e
            have e1 : occ (place n ([] : List Int)) = [] := rfl
            have h1 : hd = [] := by have := hhd.1; rw [e1] at this; exact List.perm_nil.mp this
            have h2 : tk = [] := by have := htk.1; rw [show ([] : List Int).dropLast = [] from rfl, e1] at this; exact List.perm_nil.mp this
            rw [h1, h2]
            exact ⟨fun x hx => (nomatch hx), by simp⟩
          · rw [List.concat_eq_append] at e
            have e2 : ws.dropLast = l := by rw [e]; simp
            have htk' := htk
            rw [e2] at htk'
            refine ⟨fun x hx => ?_, ?_⟩
            · rw [hhd.1.mem_iff, e]
              exact occ_mono n l w x (htk'.1.mem_iff.mp hx)
            · rw [hhd.1.length_eq, htk'.1.length_eq, e, place_snoc]
              unfold placeStep
              rw [occ_snoc, List.length_append]
              cases firstFree n (occ (place n l)) w <;> simp
        walk_at "go"
        refine x_lcL tk V.int (fun x => !decide (x ∈ hd)) V.int (by walk_at "hx") ⟨by omega, fun _ => rfl, fun o _ H2 e2 QT k => ?_, fun o _ _ H2 e2 Q' k => ?_, fun l H19 l0 e19 hl19 => ?_⟩
        · walk_at "go"
          refine x_notIn (ms := hd) (by walk_at "hx") ?_
          walk_at "go"
          exact k H2 (Evl.Ex.refl _)
        · walk_at "go"
          exact k H2 (Evl.Ex.refl _)
        rw [List.filter_eq_nil_iff.mpr (fun x hx => by simp [sub.1 x hx])] at hl19
        walk_at "go"
        refine x_mkL (by simp) fun em H20 em0 e20 hem => ?_
        refine x_eqL (xs := []) (ys := []) (by walk_at "hx") (by walk_at "hx") rfl rfl ?_
        walk_at "go"
        refine x_dec (fun _ => ?_) (fun z => absurd rfl z)
        walk_at "go"
        rw [List.length_map, List.length_map, decide_eq_true (by omega : (hd.length : Int) - 1 ≤ (tk.length : Int))]
        exact q H20
    · refine x_ifS ?_
      walk_at "go"
      refine x_dec (fun ez => ?_) (fun _ => ?_)
      · have ez := V.int.inj ez
        have a1 := away_nil (os := place n ws) (by omega)
        have a2 := away_nil (os := place n ms) (by omega)
        walk_at "go"
        refine ⟨_, _, rfl, .ok n1 n2 ⟨b, rfl, by walk_at "hx", wl4, hw⟩ ⟨by walk_at "hx", fun H15 e15 => ?_⟩⟩
        walk_at "go"
        refine ⟨_, _, rfl, .ok n1 n2 ⟨c, rfl, by walk_at "hx", ml4, mw⟩ ⟨by walk_at "hx", fun H16 e16 => ?_⟩⟩
        walk_at "go"
        have eg : goneOf n ws = goneOf n ms := by rw [goneOf_all a1, goneOf_all a2, sum_perm op, sum_perm hperm]
        rw [eg]
        refine x_decN (fun z => absurd rfl z) fun _ => ?_
        exact next _ _ ⟨rfl, by walk_at "hx"⟩
      · refine x_false ?_
        exact next _ _ ⟨rfl, Evl.Ex.refl _⟩

/-! ### what the top has written, the end -/
theorem all_mk {l : PySem.W.OpenLaw} {w : World} {K : PySem.W.Frag} {h : Heap} {mg : Str → Option Value} {fa : Addr} (X : K.In h) (G : h.Ns mainGlobals mg) (hfa : mg "law" = some (.ref fa))
    {f_is_number : Addr} {od_is_number an_is_number : Option Addr} {sl_is_number : Array (Option Value)} {oc_is_number kV_is_number dc_is_number pm_is_number cd_is_number ct_is_number : Value}
    {f_need_quay : Addr} {od_need_quay an_need_quay : Option Addr} {sl_need_quay : Array (Option Value)} {oc_need_quay kV_need_quay dc_need_quay pm_need_quay cd_need_quay ct_need_quay : Value}
    {f_need_wishes : Addr} {od_need_wishes an_need_wishes : Option Addr} {sl_need_wishes : Array (Option Value)} {oc_need_wishes kV_need_wishes dc_need_wishes pm_need_wishes cd_need_wishes ct_need_wishes : Value}
    {f_placed : Addr} {od_placed an_placed : Option Addr} {sl_placed : Array (Option Value)} {oc_placed kV_placed dc_placed pm_placed cd_placed ct_placed : Value}
    {f_taken : Addr} {od_taken an_taken : Option Addr} {sl_taken : Array (Option Value)} {oc_taken kV_taken dc_taken pm_taken cd_taken ct_taken : Value}
    {f_gone_on : Addr} {od_gone_on an_gone_on : Option Addr} {sl_gone_on : Array (Option Value)} {oc_gone_on kV_gone_on dc_gone_on pm_gone_on cd_gone_on ct_gone_on : Value}
    {f_crowded : Addr} {od_crowded an_crowded : Option Addr} {sl_crowded : Array (Option Value)} {oc_crowded kV_crowded dc_crowded pm_crowded cd_crowded ct_crowded : Value}
    {f_is_good : Addr} {od_is_good an_is_good : Option Addr} {sl_is_good : Array (Option Value)} {oc_is_good kV_is_good dc_is_good pm_is_good cd_is_good ct_is_good : Value}
    {f__law_cell_at : Addr} {od__law_cell_at an__law_cell_at : Option Addr} {sl__law_cell_at : Array (Option Value)} {oc__law_cell_at kV__law_cell_at dc__law_cell_at pm__law_cell_at cd__law_cell_at ct__law_cell_at : Value}
    {f__law_mix : Addr} {od__law_mix an__law_mix : Option Addr} {sl__law_mix : Array (Option Value)} {oc__law_mix kV__law_mix dc__law_mix pm__law_mix cd__law_mix ct__law_mix : Value}
    {f__law_quay : Addr} {od__law_quay an__law_quay : Option Addr} {sl__law_quay : Array (Option Value)} {oc__law_quay kV__law_quay dc__law_quay pm__law_quay cd__law_quay ct__law_quay : Value}
    {f__law_wishes : Addr} {od__law_wishes an__law_wishes : Option Addr} {sl__law_wishes : Array (Option Value)} {oc__law_wishes kV__law_wishes dc__law_wishes pm__law_wishes cd__law_wishes ct__law_wishes : Value}
    {f__law_order : Addr} {od__law_order an__law_order : Option Addr} {sl__law_order : Array (Option Value)} {oc__law_order kV__law_order dc__law_order pm__law_order cd__law_order ct__law_order : Value}
    {f_law : Addr} {od_law an_law : Option Addr} {sl_law : Array (Option Value)} {oc_law kV_law dc_law pm_law cd_law ct_law : Value}
    {t_MOST : Tok}
    {C_NoQuay : Addr}
    {C_NoWishes : Addr}
    (a_is_number : PySem.W.nsIn K mainGlobals "is_number" = some (some (.ref f_is_number)))
    (l_is_number : K.lookup f_is_number = some ⟨oc_is_number, od_is_number, .func (PySem.W.fnOf "is_number" "is_number" (defArgs s_is_number) (defBody s_is_number) (defScope s_is_number) .none kV_is_number dc_is_number pm_is_number an_is_number cd_is_number ct_is_number), sl_is_number⟩)
    (c_is_number : PySem.W.codeIn K cd_is_number "is_number" = true)
    (k_is_number : PySem.W.keepIn K (.ref f_is_number) = true)
    (a_need_quay : PySem.W.nsIn K mainGlobals "need_quay" = some (some (.ref f_need_quay)))
    (l_need_quay : K.lookup f_need_quay = some ⟨oc_need_quay, od_need_quay, .func (PySem.W.fnOf "need_quay" "need_quay" (defArgs s_need_quay) (defBody s_need_quay) (defScope s_need_quay) .none kV_need_quay dc_need_quay pm_need_quay an_need_quay cd_need_quay ct_need_quay), sl_need_quay⟩)
    (c_need_quay : PySem.W.codeIn K cd_need_quay "need_quay" = true)
    (k_need_quay : PySem.W.keepIn K (.ref f_need_quay) = true)
    (a_need_wishes : PySem.W.nsIn K mainGlobals "need_wishes" = some (some (.ref f_need_wishes)))
    (l_need_wishes : K.lookup f_need_wishes = some ⟨oc_need_wishes, od_need_wishes, .func (PySem.W.fnOf "need_wishes" "need_wishes" (defArgs s_need_wishes) (defBody s_need_wishes) (defScope s_need_wishes) .none kV_need_wishes dc_need_wishes pm_need_wishes an_need_wishes cd_need_wishes ct_need_wishes), sl_need_wishes⟩)
    (c_need_wishes : PySem.W.codeIn K cd_need_wishes "need_wishes" = true)
    (k_need_wishes : PySem.W.keepIn K (.ref f_need_wishes) = true)
    (a_placed : PySem.W.nsIn K mainGlobals "placed" = some (some (.ref f_placed)))
    (l_placed : K.lookup f_placed = some ⟨oc_placed, od_placed, .func (PySem.W.fnOf "placed" "placed" (defArgs s_placed) (defBody s_placed) (defScope s_placed) .none kV_placed dc_placed pm_placed an_placed cd_placed ct_placed), sl_placed⟩)
    (c_placed : PySem.W.codeIn K cd_placed "placed" = true)
    (k_placed : PySem.W.keepIn K (.ref f_placed) = true)
    (a_taken : PySem.W.nsIn K mainGlobals "taken" = some (some (.ref f_taken)))
    (l_taken : K.lookup f_taken = some ⟨oc_taken, od_taken, .func (PySem.W.fnOf "taken" "taken" (defArgs s_taken) (defBody s_taken) (defScope s_taken) .none kV_taken dc_taken pm_taken an_taken cd_taken ct_taken), sl_taken⟩)
    (c_taken : PySem.W.codeIn K cd_taken "taken" = true)
    (k_taken : PySem.W.keepIn K (.ref f_taken) = true)
    (a_gone_on : PySem.W.nsIn K mainGlobals "gone_on" = some (some (.ref f_gone_on)))
    (l_gone_on : K.lookup f_gone_on = some ⟨oc_gone_on, od_gone_on, .func (PySem.W.fnOf "gone_on" "gone_on" (defArgs s_gone_on) (defBody s_gone_on) (defScope s_gone_on) .none kV_gone_on dc_gone_on pm_gone_on an_gone_on cd_gone_on ct_gone_on), sl_gone_on⟩)
    (c_gone_on : PySem.W.codeIn K cd_gone_on "gone_on" = true)
    (k_gone_on : PySem.W.keepIn K (.ref f_gone_on) = true)
    (a_crowded : PySem.W.nsIn K mainGlobals "crowded" = some (some (.ref f_crowded)))
    (l_crowded : K.lookup f_crowded = some ⟨oc_crowded, od_crowded, .func (PySem.W.fnOf "crowded" "crowded" (defArgs s_crowded) (defBody s_crowded) (defScope s_crowded) .none kV_crowded dc_crowded pm_crowded an_crowded cd_crowded ct_crowded), sl_crowded⟩)
    (c_crowded : PySem.W.codeIn K cd_crowded "crowded" = true)
    (k_crowded : PySem.W.keepIn K (.ref f_crowded) = true)
    (a_is_good : PySem.W.nsIn K mainGlobals "is_good" = some (some (.ref f_is_good)))
    (l_is_good : K.lookup f_is_good = some ⟨oc_is_good, od_is_good, .func (PySem.W.fnOf "is_good" "is_good" (defArgs s_is_good) (defBody s_is_good) (defScope s_is_good) .none kV_is_good dc_is_good pm_is_good an_is_good cd_is_good ct_is_good), sl_is_good⟩)
    (c_is_good : PySem.W.codeIn K cd_is_good "is_good" = true)
    (k_is_good : PySem.W.keepIn K (.ref f_is_good) = true)
    (a__law_cell_at : PySem.W.nsIn K mainGlobals "_law_cell_at" = some (some (.ref f__law_cell_at)))
    (l__law_cell_at : K.lookup f__law_cell_at = some ⟨oc__law_cell_at, od__law_cell_at, .func (PySem.W.fnOf "_law_cell_at" "_law_cell_at" (defArgs s__law_cell_at) (defBody s__law_cell_at) (defScope s__law_cell_at) .none kV__law_cell_at dc__law_cell_at pm__law_cell_at an__law_cell_at cd__law_cell_at ct__law_cell_at), sl__law_cell_at⟩)
    (c__law_cell_at : PySem.W.codeIn K cd__law_cell_at "_law_cell_at" = true)
    (k__law_cell_at : PySem.W.keepIn K (.ref f__law_cell_at) = true)
    (a__law_mix : PySem.W.nsIn K mainGlobals "_law_mix" = some (some (.ref f__law_mix)))
    (l__law_mix : K.lookup f__law_mix = some ⟨oc__law_mix, od__law_mix, .func (PySem.W.fnOf "_law_mix" "_law_mix" (defArgs s__law_mix) (defBody s__law_mix) (defScope s__law_mix) .none kV__law_mix dc__law_mix pm__law_mix an__law_mix cd__law_mix ct__law_mix), sl__law_mix⟩)
    (c__law_mix : PySem.W.codeIn K cd__law_mix "_law_mix" = true)
    (k__law_mix : PySem.W.keepIn K (.ref f__law_mix) = true)
    (a__law_quay : PySem.W.nsIn K mainGlobals "_law_quay" = some (some (.ref f__law_quay)))
    (l__law_quay : K.lookup f__law_quay = some ⟨oc__law_quay, od__law_quay, .func (PySem.W.fnOf "_law_quay" "_law_quay" (defArgs s__law_quay) (defBody s__law_quay) (defScope s__law_quay) .none kV__law_quay dc__law_quay pm__law_quay an__law_quay cd__law_quay ct__law_quay), sl__law_quay⟩)
    (c__law_quay : PySem.W.codeIn K cd__law_quay "_law_quay" = true)
    (k__law_quay : PySem.W.keepIn K (.ref f__law_quay) = true)
    (a__law_wishes : PySem.W.nsIn K mainGlobals "_law_wishes" = some (some (.ref f__law_wishes)))
    (l__law_wishes : K.lookup f__law_wishes = some ⟨oc__law_wishes, od__law_wishes, .func (PySem.W.fnOf "_law_wishes" "_law_wishes" (defArgs s__law_wishes) (defBody s__law_wishes) (defScope s__law_wishes) .none kV__law_wishes dc__law_wishes pm__law_wishes an__law_wishes cd__law_wishes ct__law_wishes), sl__law_wishes⟩)
    (c__law_wishes : PySem.W.codeIn K cd__law_wishes "_law_wishes" = true)
    (k__law_wishes : PySem.W.keepIn K (.ref f__law_wishes) = true)
    (a__law_order : PySem.W.nsIn K mainGlobals "_law_order" = some (some (.ref f__law_order)))
    (l__law_order : K.lookup f__law_order = some ⟨oc__law_order, od__law_order, .func (PySem.W.fnOf "_law_order" "_law_order" (defArgs s__law_order) (defBody s__law_order) (defScope s__law_order) .none kV__law_order dc__law_order pm__law_order an__law_order cd__law_order ct__law_order), sl__law_order⟩)
    (c__law_order : PySem.W.codeIn K cd__law_order "_law_order" = true)
    (k__law_order : PySem.W.keepIn K (.ref f__law_order) = true)
    (a_law : PySem.W.nsIn K mainGlobals "law" = some (some (.ref f_law)))
    (l_law : K.lookup f_law = some ⟨oc_law, od_law, .func (PySem.W.fnOf "law" "law" (defArgs s_law) (defBody s_law) (defScope s_law) .none kV_law dc_law pm_law an_law cd_law ct_law), sl_law⟩)
    (c_law : PySem.W.codeIn K cd_law "law" = true)
    (k_law : PySem.W.keepIn K (.ref f_law) = true)
    (z_len : PySem.W.nsIn K mainGlobals "len" = some none)
    (z_isinstance : PySem.W.nsIn K mainGlobals "isinstance" = some none)
    (z_min : PySem.W.nsIn K mainGlobals "min" = some none)
    (z_sum : PySem.W.nsIn K mainGlobals "sum" = some none)
    (z_sorted : PySem.W.nsIn K mainGlobals "sorted" = some none)
    (z_range : PySem.W.nsIn K mainGlobals "range" = some none)
    (z_zip : PySem.W.nsIn K mainGlobals "zip" = some none)
    (z_int : PySem.W.nsIn K mainGlobals "int" = some none)
    (z_bool : PySem.W.nsIn K mainGlobals "bool" = some none)
    (z_list : PySem.W.nsIn K mainGlobals "list" = some none)
    (z_tuple : PySem.W.nsIn K mainGlobals "tuple" = some none)
    (z_ValueError : PySem.W.nsIn K mainGlobals "ValueError" = some none)
    (q_MOST : PySem.W.nsIn K mainGlobals "MOST" = some (some (.int 400 t_MOST)))
    (e_NoQuay : PySem.W.nsIn K mainGlobals "NoQuay" = some (some (.ref C_NoQuay)))
    (x_NoQuay : PySem.W.excIn K C_NoQuay [.type "ValueError", .type "Exception", .type "BaseException", .type "object"] "ValueError.__new__" = true)
    (w_NoQuay : PySem.W.keepIn K (.ref C_NoQuay) = true)
    (b_NoQuay : PySem.W.subIn K (.ref C_NoQuay) (.type "BaseException") = some true)
    (y_NoQuay : PySem.W.typeIn K (.ref C_NoQuay) = some (.type "type"))
    (e_NoWishes : PySem.W.nsIn K mainGlobals "NoWishes" = some (some (.ref C_NoWishes)))
    (x_NoWishes : PySem.W.excIn K C_NoWishes [.type "ValueError", .type "Exception", .type "BaseException", .type "object"] "ValueError.__new__" = true)
    (w_NoWishes : PySem.W.keepIn K (.ref C_NoWishes) = true)
    (b_NoWishes : PySem.W.subIn K (.ref C_NoWishes) (.type "BaseException") = some true)
    (y_NoWishes : PySem.W.typeIn K (.ref C_NoWishes) = some (.type "type")) :
    ∃ fd : FuncData, (∀ (s : Shared) (v : Value), BindsTo s fd ⟨[v], []⟩ [("_law_script", v)]) ∧ ∀ base : Heap, K.In base → base.Ns mainGlobals mg → FnOk l.prog w K mg base (L2.CX l.prog w) 6 fa fd ["_law_script"] (sp_law K) := by
  have e := hfa.symm.trans (PySem.W.mg_of X G a_law)
  cases e
  have N : Nms K mg := { n_len := PySem.W.mg_none_of X G z_len, n_isinstance := PySem.W.mg_none_of X G z_isinstance, n_min := PySem.W.mg_none_of X G z_min, n_sum := PySem.W.mg_none_of X G z_sum, n_sorted := PySem.W.mg_none_of X G z_sorted, n_range := PySem.W.mg_none_of X G z_range, n_zip := PySem.W.mg_none_of X G z_zip, n_int := PySem.W.mg_none_of X G z_int, n_bool := PySem.W.mg_none_of X G z_bool, n_list := PySem.W.mg_none_of X G z_list, n_tuple := PySem.W.mg_none_of X G z_tuple, n_ValueError := PySem.W.mg_none_of X G z_ValueError, c_MOST := ⟨_, PySem.W.mg_of X G q_MOST, ⟨_, rfl⟩⟩, x_NoQuay := ⟨_, PySem.W.mg_of X G e_NoQuay, x_NoQuay, w_NoQuay, b_NoQuay, y_NoQuay⟩, x_NoWishes := ⟨_, PySem.W.mg_of X G e_NoWishes, x_NoWishes, w_NoWishes, b_NoWishes, y_NoWishes⟩ }
  refine ⟨PySem.W.fnOf "law" "law" (defArgs s_law) (defBody s_law) (defScope s_law) .none kV_law dc_law pm_law an_law cd_law ct_law, fun s v => .of_eq rfl, fun base hb hg => ?_⟩
  have S_is_number : B.Stands K mg "is_number" s_is_number := ⟨_, _, fun_mk (st := s_is_number) l_is_number c_is_number k_is_number, PySem.W.mg_of X G a_is_number⟩
  have H_is_number := has_is_number (P := l.prog) (w := w) (base := base) S_is_number N 
  have S__law_cell_at : B.Stands K mg "_law_cell_at" s__law_cell_at := ⟨_, _, fun_mk (st := s__law_cell_at) l__law_cell_at c__law_cell_at k__law_cell_at, PySem.W.mg_of X G a__law_cell_at⟩
  have H__law_cell_at := has__law_cell_at (P := l.prog) (w := w) (base := base) S__law_cell_at N 
  have S__law_mix : B.Stands K mg "_law_mix" s__law_mix := ⟨_, _, fun_mk (st := s__law_mix) l__law_mix c__law_mix k__law_mix, PySem.W.mg_of X G a__law_mix⟩
  have H__law_mix := has__law_mix (P := l.prog) (w := w) (base := base) S__law_mix N 
  have S_need_quay : B.Stands K mg "need_quay" s_need_quay := ⟨_, _, fun_mk (st := s_need_quay) l_need_quay c_need_quay k_need_quay, PySem.W.mg_of X G a_need_quay⟩
  have H_need_quay := has_need_quay (P := l.prog) (w := w) (base := base) S_need_quay N H_is_number
  have S__law_quay : B.Stands K mg "_law_quay" s__law_quay := ⟨_, _, fun_mk (st := s__law_quay) l__law_quay c__law_quay k__law_quay, PySem.W.mg_of X G a__law_quay⟩
  have H__law_quay := has__law_quay (P := l.prog) (w := w) (base := base) S__law_quay N H__law_cell_at
  have S__law_wishes : B.Stands K mg "_law_wishes" s__law_wishes := ⟨_, _, fun_mk (st := s__law_wishes) l__law_wishes c__law_wishes k__law_wishes, PySem.W.mg_of X G a__law_wishes⟩
  have H__law_wishes := has__law_wishes (P := l.prog) (w := w) (base := base) S__law_wishes N H__law_cell_at
  have S__law_order : B.Stands K mg "_law_order" s__law_order := ⟨_, _, fun_mk (st := s__law_order) l__law_order c__law_order k__law_order, PySem.W.mg_of X G a__law_order⟩
  have H__law_order := has__law_order (P := l.prog) (w := w) (base := base) S__law_order N H__law_cell_at H__law_mix
  have S_need_wishes : B.Stands K mg "need_wishes" s_need_wishes := ⟨_, _, fun_mk (st := s_need_wishes) l_need_wishes c_need_wishes k_need_wishes, PySem.W.mg_of X G a_need_wishes⟩
  have H_need_wishes := has_need_wishes (P := l.prog) (w := w) (base := base) S_need_wishes N H_need_quay H_is_number
  have S_placed : B.Stands K mg "placed" s_placed := ⟨_, _, fun_mk (st := s_placed) l_placed c_placed k_placed, PySem.W.mg_of X G a_placed⟩
  have H_placed := has_placed (P := l.prog) (w := w) (base := base) S_placed N H_need_wishes
  have S_crowded : B.Stands K mg "crowded" s_crowded := ⟨_, _, fun_mk (st := s_crowded) l_crowded c_crowded k_crowded, PySem.W.mg_of X G a_crowded⟩
  have H_crowded := has_crowded (P := l.prog) (w := w) (base := base) S_crowded N H_need_wishes
  have S_taken : B.Stands K mg "taken" s_taken := ⟨_, _, fun_mk (st := s_taken) l_taken c_taken k_taken, PySem.W.mg_of X G a_taken⟩
  have H_taken := has_taken (P := l.prog) (w := w) (base := base) S_taken N H_placed
  have S_gone_on : B.Stands K mg "gone_on" s_gone_on := ⟨_, _, fun_mk (st := s_gone_on) l_gone_on c_gone_on k_gone_on, PySem.W.mg_of X G a_gone_on⟩
  have H_gone_on := has_gone_on (P := l.prog) (w := w) (base := base) S_gone_on N H_placed
  have S_is_good : B.Stands K mg "is_good" s_is_good := ⟨_, _, fun_mk (st := s_is_good) l_is_good c_is_good k_is_good, PySem.W.mg_of X G a_is_good⟩
  have H_is_good := has_is_good (P := l.prog) (w := w) (base := base) S_is_good N H_crowded
  exact law_ok (fun_mk (st := s_law) l_law c_law k_law) N H__law_quay H__law_wishes H__law_order H_taken H_is_good H_gone_on H_placed
theorem walk {l : PySem.W.OpenLaw} {q : Program} {loose : List Str} {XP : (Str → Option Value) → Heap → Prop} {YP : World → Heap → Prop} {d : DefRec} {K : Params → PySem.W.Frag} (hn : l.most = some 63) (hdf : d.params.defaults = [])
    (hY : ∀ (w : World) (h : Heap), YP w h → (K w.params).In h)
    (F : ∀ (w : World) (mg : Str → Option Value) (fa : Addr) (h : Heap), (K w.params).In h → h.Ns mainGlobals mg → mg d.name = some (.ref fa) →
      ∃ fd : FuncData, (∀ (s : Shared) (u : Value), BindsTo s fd ⟨[u], []⟩ [("_law_script", u)]) ∧ ∀ base : Heap, (K w.params).In base → base.Ns mainGlobals mg → FnOk l.prog w (K w.params) mg base (L2.CX l.prog w) 6 fa fd ["_law_script"] (sp_law (K w.params))) :
    PySem.W.WalkO q loose XP YP l.row.toRowW d [] (fun f vs => PySem.call f vs) :=
  L2.walk_of (n := 63) (k := 6) (x := "_law_script") (CX := fun w => L2.CX l.prog w) (sp := fun w => sp_law (K w.params)) hn (by decide) hdf ⟨rfl, by decide, by decide⟩ hY F (fun _ _ a ns hl _ hS => ⟨a, ns, rfl, hS, hl, fun _ => rfl⟩) fun _ _ _ _ _ z => by
    obtain ⟨_, _, _, _, _, _, _, _, _, _, _, _, z⟩ := z
    exact z
end My
open PySem PySem.W PyProof.Rows
set_option maxRecDepth 100000 in
set_option maxHeartbeats 0 in
theorem PySem.Challenge.cw_berthrow_k03_whole_any_order_holds : PySem.Challenge.rw_berthrow_k03_whole_any_order.Holds := by
  w_on; o_law; k_head; (case hw => w_witness2)
  k_fill
  refine My.walk (l := PySem.Challenge.rw_berthrow_k03_whole_any_order) rfl rfl (fun w h Y => PySem.W.kIn_of Y) ?F
  case F =>
    intro w mg fa h KX G hmg
    refine' My.all_mk KX G hmg ?a_is_number ?l_is_number ?c_is_number ?k_is_number ?a_need_quay ?l_need_quay ?c_need_quay ?k_need_quay ?a_need_wishes ?l_need_wishes ?c_need_wishes ?k_need_wishes ?a_placed ?l_placed ?c_placed ?k_placed ?a_taken ?l_taken ?c_taken ?k_taken ?a_gone_on ?l_gone_on ?c_gone_on ?k_gone_on ?a_crowded ?l_crowded ?c_crowded ?k_crowded ?a_is_good ?l_is_good ?c_is_good ?k_is_good ?a__law_cell_at ?l__law_cell_at ?c__law_cell_at ?k__law_cell_at ?a__law_mix ?l__law_mix ?c__law_mix ?k__law_mix ?a__law_quay ?l__law_quay ?c__law_quay ?k__law_quay ?a__law_wishes ?l__law_wishes ?c__law_wishes ?k__law_wishes ?a__law_order ?l__law_order ?c__law_order ?k__law_order ?a_law ?l_law ?c_law ?k_law ?z_len ?z_isinstance ?z_min ?z_sum ?z_sorted ?z_range ?z_zip ?z_int ?z_bool ?z_list ?z_tuple ?z_ValueError ?q_MOST ?e_NoQuay ?x_NoQuay ?w_NoQuay ?b_NoQuay ?y_NoQuay ?e_NoWishes ?x_NoWishes ?w_NoWishes ?b_NoWishes ?y_NoWishes
    (case a_is_number => k_is)
    (case l_is_number => k_is)
    (case c_is_number => k_is)
    (case k_is_number => k_is)
    (case a_need_quay => k_is)
    (case l_need_quay => k_is)
    (case c_need_quay => k_is)
    (case k_need_quay => k_is)
    (case a_need_wishes => k_is)
    (case l_need_wishes => k_is)
    (case c_need_wishes => k_is)
    (case k_need_wishes => k_is)
    (case a_placed => k_is)
    (case l_placed => k_is)
    (case c_placed => k_is)
    (case k_placed => k_is)
    (case a_taken => k_is)
    (case l_taken => k_is)
    (case c_taken => k_is)
    (case k_taken => k_is)
    (case a_gone_on => k_is)
    (case l_gone_on => k_is)
    (case c_gone_on => k_is)
    (case k_gone_on => k_is)
    (case a_crowded => k_is)
    (case l_crowded => k_is)
    (case c_crowded => k_is)
    (case k_crowded => k_is)
    (case a_is_good => k_is)
    (case l_is_good => k_is)
    (case c_is_good => k_is)
    (case k_is_good => k_is)
    (case a__law_cell_at => k_is)
    (case l__law_cell_at => k_is)
    (case c__law_cell_at => k_is)
    (case k__law_cell_at => k_is)
    (case a__law_mix => k_is)
    (case l__law_mix => k_is)
    (case c__law_mix => k_is)
    (case k__law_mix => k_is)
    (case a__law_quay => k_is)
    (case l__law_quay => k_is)
    (case c__law_quay => k_is)
    (case k__law_quay => k_is)
    (case a__law_wishes => k_is)
    (case l__law_wishes => k_is)
    (case c__law_wishes => k_is)
    (case k__law_wishes => k_is)
    (case a__law_order => k_is)
    (case l__law_order => k_is)
    (case c__law_order => k_is)
    (case k__law_order => k_is)
    (case a_law => k_is)
    (case l_law => k_is)
    (case c_law => k_is)
    (case k_law => k_is)
    (case z_len => k_is)
    (case z_isinstance => k_is)
    (case z_min => k_is)
    (case z_sum => k_is)
    (case z_sorted => k_is)
    (case z_range => k_is)
    (case z_zip => k_is)
    (case z_int => k_is)
    (case z_bool => k_is)
    (case z_list => k_is)
    (case z_tuple => k_is)
    (case z_ValueError => k_is)
    (case q_MOST => k_is)
    (case e_NoQuay => k_is)
    (case x_NoQuay => k_exc)
    (case w_NoQuay => k_is)
    (case b_NoQuay => k_is)
    (case y_NoQuay => k_is)
    (case e_NoWishes => k_is)
    (case x_NoWishes => k_exc)
    (case w_NoWishes => k_is)
    (case b_NoWishes => k_is)
    (case y_NoWishes => k_is)

