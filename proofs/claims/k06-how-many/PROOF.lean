import PyProof.Rows.All
import Wide.All
import OpenK.AllK
import Wide.FinOn
import HandS.ForMost
import HandS.Exc
import HandS.TryOnly
import HandS.ExcOwn
import HandS.WordsExc
import HandS.IsInst
import HandS.SortInts
import HandS.SortKw
import HandS.Evl
import HandS.Conv
import HandS.SetFor
import HandS.SetKeys
import KE.DataMinMax
import KE.SortData
import KE.DatumOrd
import HandS.Style
import HandS.ExcIs
import HandS.TupMul
import HandS.CallLocal
import PySem.Challenge.RW_berthrow_k06_how_many
set_option Elab.async false
set_option linter.all false
set_option maxRecDepth 100000
set_option maxHeartbeats 4000000
/-! A layer for the berthrow laws: defs by their names, readings run step by step. -/
namespace B
open PySem PySem.Spec PyProof.Rows L2
open PySem.W (Frag)

/-! ### defs by their names -/
/-- the def x of the text stands where the name x leads -/
def Stands (K : Frag) (mg : Str → Option Value) (x : Str) (st : Stmt) : Prop :=
  ∃ (f : Addr) (fd : FuncData), Fun K x x st f fd ∧ mg x = some (.ref f)
/-- the name x leads to a def that keeps the promise -/
def Has (P : Program) (w : World) (K : Frag) (mg : Str → Option Value) (base : Heap) (x : Str) (k : Nat) (ps : List Str) (sp : Sp) : Prop :=
  ∃ (f : Addr) (fd : FuncData), FnOk P w K mg base (L2.CX P w) k f fd ps sp ∧ mg x = some (.ref f) ∧ PySem.W.keepIn K (.ref f) = true ∧ Binds K fd ps []
section
variable {P : Program} {w : World} {K : Frag} {mg : Str → Option Value} {base : Heap}
theorem has_of {x : Str} {st : Stmt} {N ps : List Str} {k : Nat} {sp : Sp} (S : Stands K mg x st) (C : FnScope N ps (defScope st))
    (hb : ∀ (kV doc pm : Value) (an : Option Addr) (cdv ct : Value) (us : List Value), us.length = ps.length → bindArgs (PySem.W.fnOf x x (defArgs st) (defBody st) (defScope st) .none kV doc pm an cdv ct) ⟨us, []⟩ = pure (ps.zip us))
    (len : ∀ vs H Q E, sp vs H Q E → vs.length = ps.length)
    (hbody : ∀ (f : Addr) (cdv : Value) (A : Around) (outer : List Env) (s : Shared) (H : Hp) (vs : List V) (Q : VK) (E : XK), Room k (A.deeper (envOfC x (defScope st) s.heap.objs.size f cdv)) → sp vs H Q E →
      ∃ t, PSs (cxOf (L2.CX P w) P w K mg base N x (defScope st) f cdv A outer s H E) (defBody st) t ∧ t { nx := fun _ H' => Q .non H', rt := Q } (start N vs) H) :
    Has P w K mg base x (k + 1) ps sp := by
  obtain ⟨f, fd, F, m⟩ := S
  exact ⟨f, fd, F.okX C len (fun cdv A outer s H vs Q E hr h => hbody f cdv A outer s H vs Q E hr h), m, F.kp, F.binds hb⟩
end
section
variable {X : Cx} {k j : Nat} {x : Str} {ps : List Str} {sp : Sp} {E : XK} {p pos : Pos} {e : Expr} {es : List Expr} {t : TA}
theorem pe_has (h : Has X.prog X.w X.K X.mg X.base x j ps sp) (hr : Room k X.A) (hx : Passes (L2.CX X.prog X.w) X E) (ha : PA X (e :: es) t) (hj : j ≤ k := by decide) (hg : Gl X x := by rfl)
    (hdb : (x == ("__debug__" : Str)) = false := by decide) (he : starEach (e :: es) X.env = (false, eval e X.env) :: starEach es X.env := by rfl) (hpl : (backTo pos (starEach es X.env)).any (·.1) = false := by rfl) :
    PE X (.Call (.Name x p) (e :: es) [] pos) (tCall sp [] E t) := by
  obtain ⟨f, fd, F, m, kp, b⟩ := h
  exact pe_call F (hr.mono hj) hg m kp b .nil hx ha hdb he hpl
end

/-! ### readings, run step by step -/
abbrev Ex := Evl.Ex
theorem exg {H H' : Hp} {a : Addr} {o : HO} (e : Ex H H') (h : H a = some o) : H' a = some o := e a o h
theorem exn {H H' : Hp} {a : Addr} (e : Ex H H') (h : H' a = none) : H a = none := Evl.fresh_back e h
section
variable {K : Frag} {σ : L2.St} {H H' : Hp} {Q : VK} {QT : Bool → Hp → Prop} {QA : List V → Hp → Prop} {i : Nat} {v x y z : V} {ta tb te : TE} {tt tu tv : TT} {tr : TA} {b : Bool} {D : Ends} {s1 s2 : TS} {g : TG} {a : Addr} {xs ys : List V}
theorem x_var (h : σ[i]? = some (some v)) (q : Q v H) : tVar i σ H Q := ⟨v, h, q⟩
theorem x_c (q : Q v H) : tC v σ H Q := q
theorem x_op {r : R2} (h : ta σ H fun x H1 => tb σ H1 fun y H2 => r x y H2 Q) : tOp r ta tb σ H Q := h
theorem x_un {r : V → Hp → VK → Prop} (h : ta σ H fun x H1 => r x H1 Q) : tUn r ta σ H Q := h
theorem x_rI0 {f : Int → Int → V} {m n : Int} (q : Q (f m n) H) : rI0 f (.int m) (.int n) H Q := ⟨m, n, rfl, rfl, q⟩
theorem x_rI {C : Int → Int → Prop} {f : Int → Int → V} {m n : Int} (c : C m n) (q : Q (f m n) H) : rI C f (.int m) (.int n) H Q := ⟨m, n, rfl, rfl, c, q⟩
theorem x_rEq (s : scal x y = true) (q : Q (.bl (decide (x = y))) H) : rEq x y H Q := ⟨s, q⟩
theorem x_rNe (s : scal x y = true) (q : Q (.bl (!decide (x = y))) H) : rNe x y H Q := ⟨s, q⟩
theorem x_rU {f : Int → V} {m : Int} (q : Q (f m) H) : rU f (.int m) H Q := ⟨m, rfl, q⟩
theorem x_nil (q : QA [] H) : tNil σ H QA := q
theorem x_cons (h : ta σ H fun x H1 => tr σ H1 fun xs H2 => QA (x :: xs) H2) : tCons ta tr σ H QA := h
theorem x_CB {r : List V → Hp → VK → Prop} (h : tr σ H fun vs H1 => r vs H1 Q) : tCB r tr σ H Q := h
theorem x_call {sp : Sp} {E : XK} {dvs : List V} (h : tr σ H fun vs H1 => sp (vs ++ dvs) H1 Q E) : tCall sp dvs E tr σ H Q := h
theorem x_test (h : te σ H fun x H' => ∃ k, x = .bl k ∧ QT k H') : tTest te σ H QT := h
theorem x_B (h : te σ H fun x H' => ∃ k, x = .bl k ∧ QT k H') : tB te σ H QT := h
theorem x_bl (q : QT b H) : ∃ k, V.bl b = .bl k ∧ QT k H := ⟨b, rfl, q⟩
theorem x_and (h : tt σ H fun c H1 => if c = true then tu σ H1 QT else QT false H1) : tAnd tt tu σ H QT := h
theorem x_or (h : tt σ H fun c H1 => if c = true then QT true H1 else tu σ H1 QT) : tOr tt tu σ H QT := h
theorem x_not (h : tt σ H fun c H1 => QT (!c) H1) : tNot tt σ H QT := h
theorem x_andV (h : ta σ H fun x H1 => ∃ c, x = .bl c ∧ if c = true then tb σ H1 Q else Q (.bl false) H1) : tAndV ta tb σ H Q := h
theorem x_orV (h : ta σ H fun x H1 => ∃ c, x = .bl c ∧ if c = true then Q (.bl true) H1 else tb σ H1 Q) : tOrV ta tb σ H Q := h
theorem x_notV (h : ta σ H fun x H1 => ∃ c, x = .bl c ∧ Q (.bl (!c)) H1) : tNotV ta σ H Q := h
theorem x_blV {f : Bool → Prop} (q : f b) : ∃ c, V.bl b = .bl c ∧ f c := ⟨b, rfl, q⟩
theorem x_if (h : tt σ H fun c H1 => if c = true then ta σ H1 Q else tb σ H1 Q) : tIf tt ta tb σ H Q := h
theorem x_isN (h : ta σ H fun x H1 => Q (.bl (decide (x = .non))) H1) : tIsN ta σ H Q := h
theorem x_notN (h : ta σ H fun x H1 => Q (.bl (!decide (x = .non))) H1) : tNotN ta σ H Q := h
/-! statements -/
theorem x_seq (h : s1 { D with nx := s2 D } σ H) : tSeq s1 s2 D σ H := h
theorem x_next (q : D.nx σ H) : tNext D σ H := q
theorem x_brk (q : D.bk σ H) : tBreak D σ H := q
theorem x_cont (q : D.ct σ H) : tCont D σ H := q
theorem x_asg (h : te σ H fun v H1 => D.nx (σ.set i (some v)) H1) : tAsg te (gName i) D σ H := h
theorem x_gName {P : L2.St → Hp → Prop} (h : P (σ.set i (some v)) H) : gName i v σ H P := h
theorem x_drop (h : te σ H fun _ H1 => D.nx σ H1) : tDrop te D σ H := h
theorem x_ret (h : te σ H fun v H1 => D.rt v H1) : tRet te D σ H := h
theorem x_ifS (h : tt σ H fun b H1 => if b = true then s1 D σ H1 else s2 D σ H1) : tIfS tt s1 s2 D σ H := h
theorem x_nx {n bk ct : L2.St → Hp → Prop} {r : VK} (h : n σ H) : Ends.nx { nx := n, rt := r, bk := bk, ct := ct } σ H := h
theorem x_rt {n bk ct : L2.St → Hp → Prop} {r : VK} (h : r v H) : Ends.rt { nx := n, rt := r, bk := bk, ct := ct } v H := h
theorem x_aug {ip : TIp} (hv : σ[i]? = some (some x)) (h : te σ H fun y H1 => ip x y H1 fun z H2 => D.nx (σ.set i (some z)) H2) : tAug i te ip D σ H := ⟨x, hv, h⟩
theorem x_ipI {f : Int → Int → Int} {m n : Int} (q : Q (.int (f m n)) H) : ipI f (.int m) (.int n) H Q := ⟨m, n, rfl, rfl, q⟩
/-! ifs -/
theorem x_true {A B : Prop} (h : A) : if true = true then A else B := by rw [if_pos rfl]; exact h
theorem x_false {A B : Prop} (h : B) : if false = true then A else B := by rw [if_neg Bool.false_ne_true]; exact h
theorem x_dec {c A B : Prop} [Decidable c] (h1 : c → A) (h2 : ¬ c → B) : if decide c = true then A else B := by
  by_cases h : c
  · rw [decide_eq_true h]; exact x_true (h1 h)
  · rw [decide_eq_false h]; exact x_false (h2 h)
theorem x_decN {c A B : Prop} [Decidable c] (h1 : ¬ c → A) (h2 : c → B) : if (!decide c) = true then A else B := by
  by_cases h : c
  · rw [decide_eq_true h]; exact x_false (h2 h)
  · rw [decide_eq_false h]; exact x_true (h1 h)
theorem x_b {A B : Prop} (h1 : b = true → A) (h2 : b = false → B) : if b = true then A else B := by
  cases b
  · exact x_false (h2 rfl)
  · exact x_true (h1 rfl)
theorem x_bN {A B : Prop} (h1 : b = false → A) (h2 : b = true → B) : if (!b) = true then A else B := by
  cases b
  · exact x_true (h1 rfl)
  · exact x_false (h2 rfl)
/-! new objects -/
def MkT (Q : VK) : List V → Hp → Prop := fun vs H1 => vs.length ≤ sizeLine ∧ ∀ p, H1 p = none → Q (.ref p) (upd H1 p (.tup vs))
def MkL (Q : VK) : List V → Hp → Prop := fun vs H1 => vs.length ≤ sizeLine ∧ ∀ p, H1 p = none → Q (.ref p) (upd H1 p (.lst vs))
theorem x_tup (h : tr σ H (MkT Q)) : tTup tr σ H Q := h
theorem x_lst (h : tr σ H (MkL Q)) : tLst tr σ H Q := h
theorem x_mkT {vs : List V} (hl : vs.length ≤ 1000000) (h : ∀ p H', H p = none → Ex H H' → H' p = some (.tup vs) → Q (.ref p) H') : MkT Q vs H := ⟨Nat.le_trans hl (by decide), fun p hp => h p _ hp (Evl.Ex.new hp) upd_same⟩
theorem x_mkL {vs : List V} (hl : vs.length ≤ 1000000) (h : ∀ p H', H p = none → Ex H H' → H' p = some (.lst vs) → Q (.ref p) H') : MkL Q vs H := ⟨Nat.le_trans hl (by decide), fun p hp => h p _ hp (Evl.Ex.new hp) upd_same⟩
theorem x_dnew (h : ∀ p H', H p = none → Ex H H' → H' p = some (.dK []) → Q (.ref p) H') : tDNewK σ H Q := fun p hp => h p _ hp (Evl.Ex.new hp) upd_same
theorem x_new {o : HO} (h : ∀ p H', H p = none → Ex H H' → H' p = some o → Q (.ref p) H') : ∀ p, H p = none → Q (.ref p) (upd H p o) := fun p hp => h p _ hp (Evl.Ex.new hp) upd_same
end

/-! ### more about defs: ends without a raise, what a callee raises handed on -/
section
variable {P : Program} {w : World} {K : Frag} {mg : Str → Option Value} {base : Heap}
theorem has_ofN {x : Str} {st : Stmt} {N ps : List Str} {k : Nat} {sp : Sp} (S : Stands K mg x st) (C : FnScope N ps (defScope st))
    (hb : ∀ (kV doc pm : Value) (an : Option Addr) (cdv ct : Value) (us : List Value), us.length = ps.length → bindArgs (PySem.W.fnOf x x (defArgs st) (defBody st) (defScope st) .none kV doc pm an cdv ct) ⟨us, []⟩ = pure (ps.zip us))
    (len : ∀ vs H Q E, sp vs H Q E → vs.length = ps.length)
    (hbody : ∀ (f : Addr) (cdv : Value) (A : Around) (outer : List Env) (s : Shared) (H : Hp) (vs : List V) (Q : VK) (E : XK), Room k (A.deeper (envOfC x (defScope st) s.heap.objs.size f cdv)) → sp vs H Q E →
      ∃ t, PSs (cxOf (L2.CX P w) P w K mg base N x (defScope st) f cdv A outer s H E).nox (defBody st) t ∧ t { nx := fun _ H' => Q .non H', rt := Q } (start N vs) H) :
    Has P w K mg base x (k + 1) ps sp := has_of S C hb len fun f cdv A outer s H vs Q E hr h => by
  obtain ⟨t, ht, q⟩ := hbody f cdv A outer s H vs Q E hr h
  exact ⟨t, ht.nox, q⟩
end
section
variable {P : Program} {w : World} {K : Frag} {mg : Str → Option Value} {base : Heap}
theorem fn_okN {x : Str} {st : Stmt} {f : Addr} {fd : FuncData} {N ps : List Str} {k : Nat} {sp : Sp} (F : Fun K x x st f fd) (C : FnScope N ps (defScope st)) (len : ∀ vs H Q E, sp vs H Q E → vs.length = ps.length)
    (hbody : ∀ (cdv : Value) (A : Around) (outer : List Env) (s : Shared) (H : Hp) (vs : List V) (Q : VK) (E : XK), Room k (A.deeper (envOfC x (defScope st) s.heap.objs.size f cdv)) → sp vs H Q E →
      ∃ t, PSs (cxOf (L2.CX P w) P w K mg base N x (defScope st) f cdv A outer s H E).nox (defBody st) t ∧ t { nx := fun _ H' => Q .non H', rt := Q } (start N vs) H) :
    FnOk P w K mg base (L2.CX P w) (k + 1) f fd ps sp := F.okX C len fun cdv A outer s H vs Q E hr h => by
  obtain ⟨t, ht, q⟩ := hbody cdv A outer s H vs Q E hr h
  exact ⟨t, ht.nox, q⟩
end
theorem passL {X : Cx} : Passes (L2.CX X.prog X.w) X E0 := L2.passL
theorem passU {X : Cx} {E : XK} (tk : Takes X (fun cls d _ H => E cls d H)) : Passes (L2.CX X.prog X.w) X E := passes_call tk fun _ _ _ _ h => h
/-- a number of the module's -/
def Const (mg : Str → Option Value) (x : Str) (v : V) : Prop := ∃ u, mg x = some u ∧ RelV v u
theorem pe_const {X : Cx} {x : Str} {v : V} {pos : Pos} (c : Const X.mg x v) (hg : Gl X x := by rfl) (hd : (x == ("__debug__" : Str)) = false := by decide) : PE X (.Name x pos) (tC v) := by
  obtain ⟨u, m, r⟩ := c
  exact pe_glob hg m r hd
/-- an error class under ValueError -/
def Err (K : Frag) (mg : Str → Option Value) (x : Str) : Prop := ∃ C, mg x = some (.ref C) ∧ PySem.W.excIn K C [.type "ValueError", .type "Exception", .type "BaseException", .type "object"] "ValueError.__new__" = true ∧
  PySem.W.keepIn K (.ref C) = true ∧ PySem.W.subIn K (.ref C) (.type "BaseException") = some true ∧ PySem.W.typeIn K (.ref C) = some (.type "type")
theorem pmk {X : Cx} {x m : Str} {j : Nat} {p p2 pos : Pos} (E : Err X.K X.mg x) (hg : Gl X x := by rfl) (hdb : (x == ("__debug__" : Str)) = false := by decide) :
    PMk X (.Call (.Name x p) [.Constant (.str m) j p2] [] pos) (fun _ H Q => ∀ C, X.mg x = some (.ref C) → Q (.ref C) none H) := by
  obtain ⟨C, g, e, k, b, t⟩ := E
  intro pins s σ H Q I h
  exact pmk_own PySem.F.excBase_ValueError e g k (raises_own b t) hg hdb pins s σ H Q I (h C g)

/-! ### names of the interpreter -/
theorem boot_isinstance : bootBuiltins "isinstance" = some (.builtin "isinstance") := by decide +kernel
theorem boot_min : bootBuiltins "min" = some (.builtin "min") := by decide +kernel
theorem boot_max : bootBuiltins "max" = some (.builtin "max") := by decide +kernel
theorem boot_sum : bootBuiltins "sum" = some (.builtin "sum") := by decide +kernel
theorem boot_sorted : bootBuiltins "sorted" = some (.builtin "sorted") := by decide +kernel
theorem boot_all : bootBuiltins "all" = some (.builtin "all") := by decide +kernel
theorem boot_int : bootBuiltins "int" = some (.type "int") := by decide +kernel
theorem boot_bool : bootBuiltins "bool" = some (.type "bool") := by decide +kernel
theorem boot_str : bootBuiltins "str" = some (.type "str") := by decide +kernel
theorem boot_list : bootBuiltins "list" = some (.type "list") := by decide +kernel
theorem boot_tuple : bootBuiltins "tuple" = some (.type "tuple") := by decide +kernel
theorem boot_dict : bootBuiltins "dict" = some (.type "dict") := by decide +kernel
theorem boot_set : bootBuiltins "set" = some (.type "set") := by decide +kernel

/-! ### what is a list or a tuple -/
def Sq (K : Frag) (H : Hp) (a : Addr) (xs : List V) : Prop := SqL K H a xs ∨ SqT K H a xs
theorem Sq.ex {K : Frag} {H H' : Hp} {a : Addr} {xs : List V} (e : Ex H H') (h : Sq K H a xs) : Sq K H' a xs := h.elim (fun h => .inl (Evl.ex_l e h)) fun h => .inr (Evl.ex_t e h)
theorem Sq.l {K : Frag} {H : Hp} {a : Addr} {xs : List V} (h : SqL K H a xs) : Sq K H a xs := .inl h
theorem Sq.t {K : Frag} {H : Hp} {a : Addr} {xs : List V} (h : SqT K H a xs) : Sq K H a xs := .inr h
def iSq (K : Frag) (tl : TE) : TI := fun σ H R => iList K tl σ H R ∨ iTup K tl σ H R
theorem pi_sq {X : Cx} {tg l : Expr} {tl : TE} (hl : PE X l tl) : PI X tg l (iSq X.K tl) := ⟨fun pins s σ H R I h => h.elim (fun h => (pi_list hl).run pins s σ H R I h) fun h => (pi_tup hl).run pins s σ H R I h⟩
def rIxQ (K : Frag) : R2 := fun x y H Q => rIxL K x y H Q ∨ rIxT K x y H Q
theorem ix_sq {X : Cx} : IxR X (rIxQ X.K) := by
  intro value slice pins s σ H x y v u Q I rx ry h hs
  exact h.elim (fun h => ix_list value slice pins s σ H x y v u Q I rx ry h hs) fun h => ix_tup value slice pins s σ H x y v u Q I rx ry h hs

/-! ### kinds of values -/
def isNum : V → Bool
  | .int _ => true
  | _ => false
/-- a whole number from a least to a most one -/
def inB (x : V) (lo hi : Int) : Bool := match x with
  | .int i => decide (lo ≤ i) && decide (i ≤ hi)
  | _ => false
/-- a value whose class is told -/
def Kd (K : Frag) (H : Hp) (x : V) (t : String) : Prop := TyX K H x (.type t)
theorem Kd.int {K : Frag} {H : Hp} (i : Int) : Kd K H (.int i) "int" := .base (.int i)
theorem sz {n : Nat} (h : n ≤ 1000000) : n ≤ sizeLine := Nat.le_trans h (by decide)
theorem szl {n : Nat} (h : n ≤ 1000000) : n < sizeLine := Nat.lt_of_le_of_lt h (by decide)

/-! ### min(xs, default=d) of a list of ints -/
def rMinD (K : Frag) : List V → List V → Hp → VK → Prop := fun vs zs H Q => ∃ (a : Addr) (ns : List Int) (d : V), vs = [V.ref a] ∧ zs = [d] ∧ SqL K H a (ns.map V.int) ∧ (ns = [] → Q d H) ∧ ∀ m, m ∈ ns → (∀ y, y ∈ ns → m ≤ y) → Q (.int m) H

/-! ### loops, by what is gone through -/
theorem split_at {α : Type} {as : List α} {i : Nat} {x : α} (h : as[i]? = some x) : as = as.take i ++ x :: as.drop (i + 1) := by
  obtain ⟨hi, e⟩ := List.getElem?_eq_some_iff.mp h
  subst e
  simp
theorem take_snoc {α : Type} {as : List α} {i : Nat} {x : α} (h : as[i]? = some x) : as.take (i + 1) = as.take i ++ [x] := by
  rw [List.take_add_one, h]
  rfl
section
variable {K : Frag} {σ : L2.St} {H H' : Hp} {Q : VK} {QT : Bool → Hp → Prop} {i j : Nat} {v x y z : V} {ta tb te tl : TE} {tt tu tv : TT} {tr : TA} {b : Bool} {D : Ends} {s1 s2 ts : TS} {g : TG} {a : Addr} {xs ys : List V}
/-- a for's turns, from the iterator J -/
def ForRun (g : TG) (ts : TS) (D : Ends) (σ : L2.St) (J : It) (H1 : Hp) : Prop := ∃ W : Nat → Nat → L2.St → Hp → Prop, (∃ m, W 0 m σ H1) ∧ ∀ i m σ H, W i m σ H →
  (J.stop i H ∧ D.nx σ H) ∨ (J.go i H ∧ ∃ N : L2.St → Hp → Prop, (∀ σ' H', N σ' H' → ∃ m', m' < m ∧ W (i + 1) m' σ' H') ∧ ∀ x H', J.yld i H x H' → g x σ H' fun σ2 H2 => ts { D with nx := N, ct := N, bk := D.nx } σ2 H2)
theorem x_for {wi : TI} (h : wi σ H (ForRun g ts D σ)) : tFor wi g ts D σ H := h
theorem x_iList {R : It → Hp → Prop} (h : tl σ H fun x H1 => ∃ a, x = .ref a ∧ (∃ xs, SqL K H1 a xs) ∧ R (Itl K a) H1) : iList K tl σ H R := h
theorem x_iTup {R : It → Hp → Prop} (h : tl σ H fun x H1 => ∃ a, x = .ref a ∧ (∃ xs, SqT K H1 a xs) ∧ R (Itt K a) H1) : iTup K tl σ H R := h
theorem x_iRng1 {R : It → Hp → Prop} (h : tr σ H fun vs H1 => ∃ j : Int, vs = [.int j] ∧ -(2 ^ 62) ≤ j ∧ j < 2 ^ 62 ∧ R (Itr 0 j.toNat) H1) : iRng1 tr σ H R := h
theorem x_iRng2 {R : It → Hp → Prop} (h : tr σ H fun vs H1 => ∃ i j : Int, vs = [.int i, .int j] ∧ (-(2 ^ 62) ≤ i ∧ i < 2 ^ 62 ∧ -(2 ^ 62) ≤ j ∧ j < 2 ^ 62) ∧ R (Itr i (j - i).toNat) H1) : iRng2 tr σ H R := h
theorem x_rng1 {R : It → Hp → Prop} {n : Int} (hn : n ≤ 1000000 ∧ -1000000 ≤ n) (h : R (Itr 0 n.toNat) H) : ∃ j : Int, ([V.int n] : List V) = [.int j] ∧ -(2 ^ 62) ≤ j ∧ j < 2 ^ 62 ∧ R (Itr 0 j.toNat) H := ⟨n, rfl, by omega, by omega, h⟩
theorem x_rng2 {R : It → Hp → Prop} {m n : Int} (hm : m ≤ 1000000 ∧ -1000000 ≤ m) (hn : n ≤ 1000000 ∧ -1000000 ≤ n) (h : R (Itr m (n - m).toNat) H) :
    ∃ i j : Int, ([V.int m, V.int n] : List V) = [.int i, .int j] ∧ (-(2 ^ 62) ≤ i ∧ i < 2 ^ 62 ∧ -(2 ^ 62) ≤ j ∧ j < 2 ^ 62) ∧ R (Itr i (j - i).toNat) H := ⟨m, n, rfl, by omega, h⟩
/-- over a list that stands: as the items, f their values -/
theorem x_forL {α : Type} (as : List α) (f : α → V) (Pv : List α → L2.St → Hp → Prop) (h0 : Pv [] σ H) (hl : ∀ pre σ' H', pre.length ≤ as.length → Pv pre σ' H' → SqL K H' a (as.map f))
    (hs : ∀ pre x post σ' H', as = pre ++ x :: post → Pv pre σ' H' → g (f x) σ' H' fun σ2 H2 => ts { D with nx := Pv (pre ++ [x]), ct := Pv (pre ++ [x]), bk := D.nx } σ2 H2)
    (hd : ∀ σ' H', Pv as σ' H' → D.nx σ' H') : ∃ b, V.ref a = .ref b ∧ (∃ xs, SqL K H b xs) ∧ ForRun g ts D σ (Itl K b) H := by
  refine ⟨a, rfl, ⟨_, hl [] σ H (Nat.zero_le _) h0⟩, for_list (xs := as.map f) (fun i σ' H' => i ≤ as.length ∧ Pv (as.take i) σ' H') ⟨Nat.zero_le _, by rw [List.take_zero]; exact h0⟩ (fun i σ' H' _ p => hl _ σ' H' (by rw [List.length_take]; omega) p.2) (fun i x σ' H' hx p => ?_) fun σ' H' p => hd σ' H' (by
    have q := p.2
    rw [List.length_map, List.take_length] at q
    exact q)⟩
  rw [List.getElem?_map] at hx
  cases ex : as[i]? with
  | none => rw [ex] at hx; cases hx
  | some n =>
    rw [ex] at hx
    cases hx
    have hi : i < as.length := (List.getElem?_eq_some_iff.mp ex).1
    have q := hs (as.take i) n (as.drop (i + 1)) σ' H' (split_at ex) p.2
    have e1 : (fun σ'' H'' => i + 1 ≤ as.length ∧ Pv (as.take (i + 1)) σ'' H'') = Pv (as.take i ++ [n]) := by
      funext σ'' H''
      rw [take_snoc ex]
      exact propext ⟨fun q => q.2, fun q => ⟨hi, q⟩⟩
    rw [e1]
    exact q
theorem x_forT {α : Type} (as : List α) (f : α → V) (Pv : List α → L2.St → Hp → Prop) (h0 : Pv [] σ H) (hl : ∀ pre σ' H', pre.length ≤ as.length → Pv pre σ' H' → SqT K H' a (as.map f))
    (hs : ∀ pre x post σ' H', as = pre ++ x :: post → Pv pre σ' H' → g (f x) σ' H' fun σ2 H2 => ts { D with nx := Pv (pre ++ [x]), ct := Pv (pre ++ [x]), bk := D.nx } σ2 H2)
    (hd : ∀ σ' H', Pv as σ' H' → D.nx σ' H') : ∃ b, V.ref a = .ref b ∧ (∃ xs, SqT K H b xs) ∧ ForRun g ts D σ (Itt K b) H := by
  refine ⟨a, rfl, ⟨_, hl [] σ H (Nat.zero_le _) h0⟩, for_tup (xs := as.map f) (fun i σ' H' => i ≤ as.length ∧ Pv (as.take i) σ' H') ⟨Nat.zero_le _, by rw [List.take_zero]; exact h0⟩ (fun i σ' H' _ p => hl _ σ' H' (by rw [List.length_take]; omega) p.2) (fun i x σ' H' hx p => ?_) fun σ' H' p => hd σ' H' (by
    have q := p.2
    rw [List.length_map, List.take_length] at q
    exact q)⟩
  rw [List.getElem?_map] at hx
  cases ex : as[i]? with
  | none => rw [ex] at hx; cases hx
  | some n =>
    rw [ex] at hx
    cases hx
    have hi : i < as.length := (List.getElem?_eq_some_iff.mp ex).1
    have q := hs (as.take i) n (as.drop (i + 1)) σ' H' (split_at ex) p.2
    have e1 : (fun σ'' H'' => i + 1 ≤ as.length ∧ Pv (as.take (i + 1)) σ'' H'') = Pv (as.take i ++ [n]) := by
      funext σ'' H''
      rw [take_snoc ex]
      exact propext ⟨fun q => q.2, fun q => ⟨hi, q⟩⟩
    rw [e1]
    exact q
/-- over lo, lo + 1, .. : the turn's number k -/
theorem x_forR {lo : Int} {n : Nat} (Pv : Nat → L2.St → Hp → Prop) (h0 : Pv 0 σ H)
    (hs : ∀ k σ' H', k < n → Pv k σ' H' → g (.int (lo + (k : Nat))) σ' H' fun σ2 H2 => ts { D with nx := Pv (k + 1), ct := Pv (k + 1), bk := D.nx } σ2 H2)
    (hd : ∀ σ' H', Pv n σ' H' → D.nx σ' H') : ForRun g ts D σ (Itr lo n) H := for_range Pv h0 hs hd
theorem mono_var {k : Nat} (Q Q' : VK) (h : ∀ v H', Q v H' → Q' v H') (q : tVar k σ H Q) : tVar k σ H Q' := by
  obtain ⟨v, e, q⟩ := q
  exact ⟨v, e, h v H q⟩
/-- over a list or tuple that a name holds, which stood at H0 -/
theorem x_forQ {α : Type} {H0 : Hp} (as : List α) (f : α → V) (hv : σ[i]? = some (some (.ref a))) (hq : Sq K H0 a (as.map f)) (Pv : List α → L2.St → Hp → Prop) (h0 : Pv [] σ H) (hk : ∀ pre σ' H', pre.length ≤ as.length → Pv pre σ' H' → Ex H0 H')
    (hs : ∀ pre x post σ' H', as = pre ++ x :: post → Pv pre σ' H' → g (f x) σ' H' fun σ2 H2 => ts { D with nx := Pv (pre ++ [x]), ct := Pv (pre ++ [x]), bk := D.nx } σ2 H2)
    (hd : ∀ σ' H', Pv as σ' H' → D.nx σ' H') : tFor (iSq K (tVar i)) g ts D σ H := by
  have key : ∀ {k : Nat} {n : α} {σ' : L2.St} {H' : Hp}, as[k]? = some n → Pv (as.take k) σ' H' → g (f n) σ' H' fun σ2 H2 => ts { D with nx := fun σ'' H'' => k + 1 ≤ as.length ∧ Pv (as.take (k + 1)) σ'' H'', ct := fun σ'' H'' => k + 1 ≤ as.length ∧ Pv (as.take (k + 1)) σ'' H'', bk := D.nx } σ2 H2 := by
    intro k n σ' H' ex p
    have hi : k < as.length := (List.getElem?_eq_some_iff.mp ex).1
    have e1 : (fun σ'' H'' => k + 1 ≤ as.length ∧ Pv (as.take (k + 1)) σ'' H'') = Pv (as.take k ++ [n]) := by
      funext σ'' H''
      rw [take_snoc ex]
      exact propext ⟨fun q => q.2, fun q => ⟨hi, q⟩⟩
    rw [e1]
    exact hs (as.take k) n (as.drop (k + 1)) σ' H' (split_at ex) p
  have look : ∀ {k : Nat} {x : V}, (as.map f)[k]? = some x → ∃ n, as[k]? = some n ∧ x = f n := by
    intro k x hx
    rw [List.getElem?_map] at hx
    cases ex : as[k]? with
    | none => rw [ex] at hx; cases hx
    | some n => rw [ex] at hx; cases hx; exact ⟨n, rfl, rfl⟩
  have h0' : (0 : Nat) ≤ as.length ∧ Pv (as.take 0) σ H := ⟨Nat.zero_le _, by rw [List.take_zero]; exact h0⟩
  have hd' : ∀ σ' H', ((as.map f).length ≤ as.length ∧ Pv (as.take (as.map f).length) σ' H') → D.nx σ' H' := fun σ' H' p => hd σ' H' (by
    have q := p.2
    rw [List.length_map, List.take_length] at q
    exact q)
  rcases hq with hq | hq
  · refine .inl ⟨.ref a, hv, a, rfl, ⟨_, Evl.ex_l (hk [] σ H (Nat.zero_le _) h0) hq⟩, for_list (xs := as.map f) (fun i σ' H' => i ≤ as.length ∧ Pv (as.take i) σ' H') h0' (fun i σ' H' _ p => Evl.ex_l (hk _ σ' H' (by rw [List.length_take]; omega) p.2) hq) (fun i x σ' H' hx p => ?_) hd'⟩
    obtain ⟨n, ex, rfl⟩ := look hx
    exact key ex p.2
  · refine .inr ⟨.ref a, hv, a, rfl, ⟨_, Evl.ex_t (hk [] σ H (Nat.zero_le _) h0) hq⟩, for_tup (xs := as.map f) (fun i σ' H' => i ≤ as.length ∧ Pv (as.take i) σ' H') h0' (fun i σ' H' _ p => Evl.ex_t (hk _ σ' H' (by rw [List.length_take]; omega) p.2) hq) (fun i x σ' H' hx p => ?_) hd'⟩
    obtain ⟨n, ex, rfl⟩ := look hx
    exact key ex p.2
/-- while, by a word that falls -/
theorem x_while (W : Nat → L2.St → Hp → Prop) (m0 : Nat) (h0 : W m0 σ H)
    (hs : ∀ m σ' H', W m σ' H' → tt σ' H' fun b H1 => if b = true then ts { D with nx := fun σ2 H2 => ∃ m', m' < m ∧ W m' σ2 H2, ct := fun σ2 H2 => ∃ m', m' < m ∧ W m' σ2 H2, bk := D.nx } σ' H1 else D.nx σ' H1)
    (mono : ∀ σ H Q Q', (∀ b H1, Q b H1 → Q' b H1) → tt σ H Q → tt σ H Q') : tWhile tt ts D σ H := by
  refine ⟨W, ⟨m0, h0⟩, fun m σ' H' hw => mono σ' H' _ _ (fun b H1 q => ?_) (hs m σ' H' hw)⟩
  cases b with
  | true => exact ⟨_, fun _ _ q => q, q⟩
  | false => exact q

/-! ### list comprehensions -/
/-- what is to be said of [te for .. in a list if tt]: the items as, their values f; which are taken, what is made -/
def LcSay (K : Frag) (j : Nat) (vs : List Nat) (tt : TT) (te : TE) (σ : L2.St) (H1 : Hp) (Q : VK) (α : Type) (as : List α) (f : α → V) (p : α → Bool) (v : α → V) : Prop :=
  as.length ≤ 1000000 ∧ (∀ x, wipe ((wipe σ vs).set j (some x)) vs = wipe σ vs) ∧
  (∀ x ∈ as, ∀ H', Ex H1 H' → ∀ QT : Bool → Hp → Prop, (∀ H2, Ex H' H2 → QT (p x) H2) → tt ((wipe σ vs).set j (some (f x))) H' QT) ∧
  (∀ x ∈ as, p x = true → ∀ H', Ex H1 H' → ∀ Q' : VK, (∀ H2, Ex H' H2 → Q' (v x) H2) → te ((wipe σ vs).set j (some (f x))) H' Q') ∧
  ∀ D H2, H1 D = none → Ex H1 H2 → H2 D = some (.lst ((as.filter p).map v)) → Q (.ref D) H2
theorem lc_step {α : Type} {as : List α} {p : α → Bool} {v : α → V} {H1 H' : Hp} {Dl : Addr} {k : Nat} {n : α} {σ2 : L2.St} (hz : as.length ≤ 1000000) (ex : as[k]? = some n) (hD : H1 Dl = none) (e1 : Ex H1 H') (hl : H' Dl = some (.lst (((as.take k).filter p).map v)))
    (ht : ∀ QT : Bool → Hp → Prop, (∀ H2, Ex H' H2 → QT (p n) H2) → tt σ2 H' QT)
    (he : p n = true → ∀ H2, Ex H1 H2 → ∀ Q' : VK, (∀ H3, Ex H2 H3 → Q' (v n) H3) → te σ2 H2 Q') :
    tt σ2 H' fun b H3 => if b = true then te σ2 H3 fun y H4 => ∃ acc, H4 Dl = some (.lst acc) ∧ acc.length < sizeLine ∧ ((Ex H1 (upd H4 Dl (.lst (acc ++ [y])))) ∧ (upd H4 Dl (.lst (acc ++ [y]))) Dl = some (.lst (((as.take (k + 1)).filter p).map v)))
      else ((Ex H1 H3) ∧ H3 Dl = some (.lst (((as.take (k + 1)).filter p).map v))) := by
  refine ht _ fun H3 e3 => ?_
  rw [take_snoc ex, List.filter_append, List.map_append]
  cases hp : p n with
  | true =>
    refine x_true ?_
    refine he hp H3 (e1.trans e3) _ fun H4 e4 => ?_
    refine ⟨_, e4 Dl _ (e3 Dl _ hl), ?_, Evl.Ex.mut ((e1.trans e3).trans e4) hD, ?_⟩
    · have h1 := List.length_filter_le p (as.take k)
      rw [List.length_take] at h1
      rw [List.length_map]
      exact szl (by omega)
    · rw [upd_same, List.filter_cons, if_pos hp]
      rfl
  | false =>
    refine x_false ⟨e1.trans e3, ?_⟩
    rw [List.filter_cons, if_neg (by rw [hp]; decide), e3 Dl _ hl]
    simp
/-- a comprehension's turns, from the iterator J -/
def LcRun (g : TG) (tt : TT) (te : TE) (vs : List Nat) (σ : L2.St) (Q : VK) (J : It) (H1 : Hp) : Prop := ∀ D, H1 D = none → ∃ W : Nat → Nat → Hp → Prop, (∃ m, W 0 m (upd H1 D (.lst []))) ∧ ∀ i m H, W i m H →
  (J.stop i H ∧ Q (.ref D) H) ∨ (J.go i H ∧ ∃ Nx : Hp → Prop, (∀ H', Nx H' → ∃ m', m' < m ∧ W (i + 1) m' H') ∧ ∀ x H', J.yld i H x H' → g x (wipe σ vs) H' fun σ2 H2 => wipe σ2 vs = wipe σ vs ∧ tt σ2 H2 fun b H3 =>
    if b = true then te σ2 H3 fun y H4 => ∃ acc, H4 D = some (.lst acc) ∧ acc.length < sizeLine ∧ Nx (upd H4 D (.lst (acc ++ [y]))) else Nx H3)
theorem x_lc {wi : TI} {vs : List Nat} (h : wi σ H (LcRun g tt te vs σ Q)) : tLc wi g tt te vs σ H Q := h
theorem x_lcL {vs : List Nat} {α : Type} (as : List α) (f : α → V) (p : α → Bool) (v : α → V) (hl : SqL K H a (as.map f)) (h : LcSay K j vs tt te σ H Q α as f p v) :
    ∃ b, V.ref a = .ref b ∧ (∃ xs, SqL K H b xs) ∧ LcRun (gName j) tt te vs σ Q (Itl K b) H := by
  obtain ⟨hz, hw, ht, he, q⟩ := h
  refine ⟨a, rfl, ⟨_, hl⟩, fun Dl hD => lc_list (xs := as.map f) (fun k H' => Ex H H' ∧ H' Dl = some (.lst (((as.take k).filter p).map v))) ⟨Evl.Ex.new hD, by rw [upd_same]; rfl⟩ (fun k H' _ pp => Evl.ex_l pp.1 hl) (fun k x H' hx pp => ?_) fun H' pp => q Dl H' hD pp.1 (by
    have r := pp.2
    rw [List.length_map, List.take_length] at r
    exact r)⟩
  rw [List.getElem?_map] at hx
  cases ex : as[k]? with
  | none => rw [ex] at hx; cases hx
  | some n =>
    rw [ex] at hx
    cases hx
    have hm : n ∈ as := List.mem_of_getElem? ex
    exact ⟨hw _, lc_step hz ex hD pp.1 pp.2 (ht n hm H' pp.1) fun hp H2 e2 => he n hm hp H2 e2⟩
theorem x_lcT {vs : List Nat} {α : Type} (as : List α) (f : α → V) (p : α → Bool) (v : α → V) (hl : SqT K H a (as.map f)) (h : LcSay K j vs tt te σ H Q α as f p v) :
    ∃ b, V.ref a = .ref b ∧ (∃ xs, SqT K H b xs) ∧ LcRun (gName j) tt te vs σ Q (Itt K b) H := by
  obtain ⟨hz, hw, ht, he, q⟩ := h
  refine ⟨a, rfl, ⟨_, hl⟩, fun Dl hD => lc_tup (xs := as.map f) (fun k H' => Ex H H' ∧ H' Dl = some (.lst (((as.take k).filter p).map v))) ⟨Evl.Ex.new hD, by rw [upd_same]; rfl⟩ (fun k H' _ pp => Evl.ex_t pp.1 hl) (fun k x H' hx pp => ?_) fun H' pp => q Dl H' hD pp.1 (by
    have r := pp.2
    rw [List.length_map, List.take_length] at r
    exact r)⟩
  rw [List.getElem?_map] at hx
  cases ex : as[k]? with
  | none => rw [ex] at hx; cases hx
  | some n =>
    rw [ex] at hx
    cases hx
    have hm : n ∈ as := List.mem_of_getElem? ex
    exact ⟨hw _, lc_step hz ex hD pp.1 pp.2 (ht n hm H' pp.1) fun hp H2 e2 => he n hm hp H2 e2⟩
/-- lo, lo + 1, .. below hi -/
def irange (lo hi : Int) : List Int := (List.range (hi - lo).toNat).map fun k => lo + ((k : Nat) : Int)
theorem irange_len (lo hi : Int) : (irange lo hi).length = (hi - lo).toNat := by unfold irange; rw [List.length_map, List.length_range]
theorem irange_at {lo hi : Int} {k : Nat} (h : k < (hi - lo).toNat) : (irange lo hi)[k]? = some (lo + (k : Int)) := by
  unfold irange
  rw [List.getElem?_map, List.getElem?_range h]
  rfl
theorem mem_irange {lo hi i : Int} : i ∈ irange lo hi ↔ lo ≤ i ∧ i < hi := by
  unfold irange
  rw [List.mem_map]
  constructor
  · rintro ⟨k, hk, rfl⟩
    rw [List.mem_range] at hk
    omega
  · rintro ⟨h1, h2⟩
    exact ⟨(i - lo).toNat, by rw [List.mem_range]; omega, by omega⟩
theorem x_lcR {lo hi : Int} {vs : List Nat} (p : Int → Bool) (v : Int → V) (h : LcSay K j vs tt te σ H Q Int (irange lo hi) V.int p v) : LcRun (gName j) tt te vs σ Q (Itr lo (hi - lo).toNat) H := by
  obtain ⟨hz, hw, ht, he, q⟩ := h
  intro Dl hD
  refine lc_range (fun k H' => Ex H H' ∧ H' Dl = some (.lst ((((irange lo hi).take k).filter p).map v))) ⟨Evl.Ex.new hD, by rw [upd_same]; rfl⟩ (fun k H' hk pp => ?_) fun H' pp => q Dl H' hD pp.1 (by
    have r := pp.2
    rw [List.take_of_length_le (by rw [irange_len]; exact Nat.le_refl _)] at r
    exact r)
  have ex := irange_at hk
  have hm := List.mem_of_getElem? ex
  exact ⟨hw _, lc_step hz ex hD pp.1 pp.2 (ht _ hm H' pp.1) fun hp H2 e2 => he _ hm hp H2 e2⟩
end

/-! ### min(xs, default=d) -/
section
open PySem.W (dataLt dataLt_ii dataLt_pair minD min_list_default)
theorem dataLt_int (x y : Int) : dataLt (.int x) (.int y) = decide (x < y) := by
  have h := dataLt_ii 0 x 0 y
  rw [dataLt_pair rfl rfl] at h
  have e0 : PyData.eqv (.int 0) (.int 0) = true := by decide
  rw [if_pos e0] at h
  by_cases e : PyData.eqv (.int x) (.int y) = true
  · rw [if_pos e] at h
    have hxy : x = y := by simpa [PyData.eqv] using e
    subst hxy
    rw [show dataLt (.int x) (.int x) = false from PySem.W.dataLt_self _]
    simp
  · rw [if_neg e] at h
    rw [h]
    simp
theorem minD_least : ∀ (ns : List Int) (n : Int), ∃ m, minD (.int n) (ns.map PyData.int) = .int m ∧ m ∈ n :: ns ∧ ∀ y ∈ n :: ns, m ≤ y
  | [], n => ⟨n, rfl, by simp, by simp⟩
  | a :: ns, n => by
    have e : minD (.int n) ((a :: ns).map PyData.int) = minD (if dataLt (.int a) (.int n) then .int a else .int n) (ns.map PyData.int) := rfl
    rw [e, dataLt_int]
    by_cases h : a < n
    · rw [decide_eq_true h, if_pos rfl]
      obtain ⟨m, e1, h1, h2⟩ := minD_least ns a
      refine ⟨m, e1, List.mem_cons_of_mem _ h1, fun y hy => ?_⟩
      rcases List.mem_cons.mp hy with rfl | hy
      · exact Int.le_trans (h2 a List.mem_cons_self) (Int.le_of_lt h)
      · exact h2 y hy
    · rw [decide_eq_false h, if_neg Bool.false_ne_true]
      obtain ⟨m, e1, h1, h2⟩ := minD_least ns n
      refine ⟨m, e1, ?_, fun y hy => ?_⟩
      · rcases List.mem_cons.mp h1 with rfl | h1
        · exact List.mem_cons_self
        · exact List.mem_cons_of_mem _ (List.mem_cons_of_mem _ h1)
      · rcases List.mem_cons.mp hy with rfl | hy
        · exact h2 y List.mem_cons_self
        · rcases List.mem_cons.mp hy with rfl | hy
          · exact Int.le_trans (h2 n List.mem_cons_self) (by omega)
          · exact h2 y (List.mem_cons_of_mem _ hy)
theorem reads_ints {h : Heap} : ∀ {ns : List Int} {us : List Value}, Vals (ns.map V.int) us → ReadsAll h us (ns.map PyData.int) []
  | [], _, .nil => .nil
  | n :: ns, _, .cons r t => by
    obtain ⟨t1, rfl⟩ := r
    exact .cons (as := []) (bs := []) (Reads.int n t1) (reads_ints t)
theorem depth_ints : ∀ ns : List Int, PyData.depthAll (ns.map PyData.int) ≤ 1
  | [] => by decide
  | n :: ns => by
    have h := depth_ints ns
    show PyData.depthAll (PyData.int n :: ns.map PyData.int) ≤ 1
    simp only [PyData.depthAll, PyData.depth]
    omega
theorem call_minD {X : Cx} (hc : X.calm = true) (hu : X.A.units + 64 < cLine) : CallRK X (.builtin "min") [Str.ofString "default"] (rMinD X.K) := by
  intro pins s σ H xs zs us ws Q I r rz h
  obtain ⟨a, ns, d, rfl, rfl, hs, h0, h1⟩ := h
  obtain ⟨its, rv, hl, _⟩ := I.list hs
  obtain rfl := Vals.ref1 r
  obtain ⟨w1, rfl, e1⟩ := vals1 rz
  have hd := depth_ints ns
  refine min_list_default (xs := ns.map PyData.int) (as := []) (I.ok.hd hc) hl.isList (by simpa using reads_ints rv) ⟨fun x hx y hy => ?_, fun x hx => ?_⟩ (by omega) (fun e h' tk hk => ⟨d, H, I.kept hk, e1, h0 (by simpa using e)⟩) (fun y ys i v h' tk bs e hi hr hk => ?_)
  · obtain ⟨_, _, rfl⟩ := List.mem_map.mp hx
    obtain ⟨_, _, rfl⟩ := List.mem_map.mp hy
    rfl
  · obtain ⟨_, _, rfl⟩ := List.mem_map.mp hx
    exact fun z => nomatch z
  · cases ns with
    | nil => cases e
    | cons n ns =>
      injection e with e2 e3
      subst e2 e3
      obtain ⟨m, em, m1, m2⟩ := minD_least ns n
      rw [em] at hr
      obtain ⟨t, rfl, _⟩ := PyProof.Rows.reads_int_inv hr
      exact ⟨.int m, H, I.kept hk, ⟨t, rfl⟩, h1 m m1 m2⟩
end
end B

namespace B
open PySem PySem.Spec PyProof.Rows L2
open PySem.W (Frag)
/-! ### kinds of values -/
inductive KS where
  | non | bl | int | str | lst | tup | dct
  deriving DecidableEq
inductive Kind (K : Frag) (H : Hp) : V → KS → Prop where
  | non : Kind K H .non .non
  | bl (b : Bool) : Kind K H (.bl b) .bl
  | int (i : Int) : Kind K H (.int i) .int
  | str (x : Str) : Kind K H (.str x) .str
  | lst {a : Addr} {xs : List V} (h : SqL K H a xs) : Kind K H (.ref a) .lst
  | tup {a : Addr} {xs : List V} (h : SqT K H a xs) : Kind K H (.ref a) .tup
  | dct {a : Addr} {kvs : List (Key × V)} (h : H a = some (.dK kvs)) : Kind K H (.ref a) .dct
theorem Kind.ex {K : Frag} {H H' : Hp} {x : V} {s : KS} (e : Ex H H') (h : Kind K H x s) : Kind K H' x s := by
  cases h with
  | non => exact .non
  | bl b => exact .bl b
  | int i => exact .int i
  | str x => exact .str x
  | lst h => exact .lst (Evl.ex_l e h)
  | tup h => exact .tup (Evl.ex_t e h)
  | dct h => exact .dct (e _ _ h)
def KS.name : KS → String
  | .non => "NoneType" | .bl => "bool" | .int => "int" | .str => "str" | .lst => "list" | .tup => "tuple" | .dct => "dict"
/-- the class a value's kind is under -/
def KS.isA : KS → String → Bool
  | .bl, t => t == "bool" || t == "int"
  | k, t => k.name == t
theorem Kind.ty {K : Frag} {H : Hp} {x : V} {s : KS} (h : Kind K H x s) : TyX K H x (.type s.name) := by
  cases h with
  | non => exact .base .non
  | bl b => exact .base (.bl b)
  | int i => exact .base (.int i)
  | str x => exact .base (.str x)
  | lst h =>
    rcases h with (h | ⟨o, h⟩) | ⟨o, its, n, h⟩
    · exact .base (.lst h)
    · exact .base (.frz h)
    · exact .kList h.1 h.2.1
  | tup h =>
    rcases h with (h | ⟨o, h⟩) | ⟨o, its, n, h⟩
    · exact .base (.tup h)
    · exact .fTuple h
    · exact .kTuple h.1 h.2.1
  | dct h => exact .base (.dK h)

section
variable {K : Frag} {σ : L2.St} {H H' : Hp} {Q : VK} {QT : Bool → Hp → Prop} {i j : Nat} {v x y z : V} {ta tb te tl : TE} {tt tu tv : TT} {tr : TA} {b : Bool} {D : Ends} {s1 s2 ts : TS} {g : TG} {a : Addr} {xs ys : List V}
/-! ### isinstance -/
theorem kit_int (s : KS) : PySem.W.kitOne K (.type s.name) (.type "int") = some (s.isA "int") := by cases s <;> exact kit_ty (by decide +kernel)
theorem kit_bool (s : KS) : PySem.W.kitOne K (.type s.name) (.type "bool") = some (s.isA "bool") := by cases s <;> exact kit_ty (by decide +kernel)
theorem kit_list (s : KS) : PySem.W.kitOne K (.type s.name) (.type "list") = some (s.isA "list") := by cases s <;> exact kit_ty (by decide +kernel)
theorem kit_tuple (s : KS) : PySem.W.kitOne K (.type s.name) (.type "tuple") = some (s.isA "tuple") := by cases s <;> exact kit_ty (by decide +kernel)
theorem kit_str (s : KS) : PySem.W.kitOne K (.type s.name) (.type "str") = some (s.isA "str") := by cases s <;> exact kit_ty (by decide +kernel)
theorem x_isi_int {s : KS} (k : Kind K H x s) (q : Q (.bl (s.isA "int")) H) : rIsi K [x, .ty "int"] H Q := ⟨x, _, _, _, _, rfl, .ty _, k.ty, kit_int s, q⟩
theorem x_isi_bool {s : KS} (k : Kind K H x s) (q : Q (.bl (s.isA "bool")) H) : rIsi K [x, .ty "bool"] H Q := ⟨x, _, _, _, _, rfl, .ty _, k.ty, kit_bool s, q⟩
theorem x_isi_list {s : KS} (k : Kind K H x s) (q : Q (.bl (s.isA "list")) H) : rIsi K [x, .ty "list"] H Q := ⟨x, _, _, _, _, rfl, .ty _, k.ty, kit_list s, q⟩
theorem x_isi_tuple {s : KS} (k : Kind K H x s) (q : Q (.bl (s.isA "tuple")) H) : rIsi K [x, .ty "tuple"] H Q := ⟨x, _, _, _, _, rfl, .ty _, k.ty, kit_tuple s, q⟩
theorem x_isi_str {s : KS} (k : Kind K H x s) (q : Q (.bl (s.isA "str")) H) : rIsi K [x, .ty "str"] H Q := ⟨x, _, _, _, _, rfl, .ty _, k.ty, kit_str s, q⟩
/-- isinstance(x, (list, tuple)) -/
theorem x_isiLT {s : KS} {p : Addr} (k : Kind K H x s) (hp : H p = some (.tup [.ty "list", .ty "tuple"])) (q : Q (.bl (s.isA "list" || s.isA "tuple")) H) : rIsiT K [x, .ref p] H Q := by
  refine ⟨x, p, _, _, _, s.isA "list" || s.isA "tuple", rfl, hp, .cons (.ty _) (.cons (.ty _) .nil), k.ty, kitAny_cons (kit_list s) (fun e => kitAny_cons (r := s.isA "list" || s.isA "tuple") (kit_tuple s) (fun e2 => ?_) ?_) ?_, q⟩
  · rw [e, e2]; exact kitAny_nil
  all_goals (cases s <;> decide)

/-! ### lists and tuples: lengths, items, copies -/
def rLen (K : Frag) : List V → Hp → VK → Prop := fun xs H Q => ∃ p ys, xs = [.ref p] ∧ (SqL K H p ys ∨ SqT K H p ys) ∧ Q (.int ys.length) H
def rListOf (K : Frag) : List V → Hp → VK → Prop := fun xs H Q => ∃ p ys, xs = [.ref p] ∧ (SqL K H p ys ∨ SqT K H p ys) ∧ ∀ l, H l = none → Q (.ref l) (upd H l (.lst ys))
def rTupOf (K : Frag) : List V → Hp → VK → Prop := fun xs H Q => ∃ p ys, xs = [.ref p] ∧ ((SqL K H p ys ∧ ∀ l, H l = none → Q (.ref l) (upd H l (.tup ys))) ∨ (SqT K H p ys ∧ Q (.ref p) H))
theorem call_len {X : Cx} : CallR X (.builtin "len") (rLen X.K) := call_len_seq
theorem call_listOf {X : Cx} : CallR X (.type "list") (rListOf X.K) := call_list_of
theorem call_tupOf {X : Cx} : CallR X (.type "tuple") (rTupOf X.K) := call_tuple_of
def rMin2 : List V → Hp → VK → Prop := fun xs H Q => ∃ i j, xs = [.int i, .int j] ∧ Q (.int (if j < i then j else i)) H
def rMax2 : List V → Hp → VK → Prop := fun xs H Q => ∃ i j, xs = [.int i, .int j] ∧ Q (.int (if j > i then j else i)) H
theorem call_min2 {X : Cx} (hc : X.calm = true) : CallR X (.builtin "min") rMin2 := L2.call_min2 hc
theorem call_max2 {X : Cx} (hc : X.calm = true) : CallR X (.builtin "max") rMax2 := L2.call_max2 hc
theorem x_len (h : Sq K H a xs) (q : Q (.int xs.length) H) : rLen K [.ref a] H Q := ⟨a, xs, rfl, h, q⟩
theorem x_min2 {m n : Int} (q : Q (.int (if n < m then n else m)) H) : rMin2 [.int m, .int n] H Q := ⟨m, n, rfl, q⟩
theorem x_max2 {m n : Int} (q : Q (.int (if n > m then n else m)) H) : rMax2 [.int m, .int n] H Q := ⟨m, n, rfl, q⟩
theorem x_ixL {k : Int} (h : SqL K H a xs) (e : atI xs k = some v) (q : Q v H) : rIxL K (.ref a) (.int k) H Q := ⟨a, xs, k, v, rfl, rfl, h, e, q⟩
theorem x_ixT {k : Int} (h : SqT K H a xs) (e : atI xs k = some v) (q : Q v H) : rIxT K (.ref a) (.int k) H Q := ⟨a, xs, k, v, rfl, rfl, h, e, q⟩
theorem x_listOf (h : Sq K H a xs) (q : ∀ p H', H p = none → Ex H H' → H' p = some (.lst xs) → Q (.ref p) H') : rListOf K [.ref a] H Q := ⟨a, xs, rfl, h, x_new q⟩
theorem x_tupOf (h : SqL K H a xs) (q : ∀ p H', H p = none → Ex H H' → H' p = some (.tup xs) → Q (.ref p) H') : rTupOf K [.ref a] H Q := ⟨a, xs, rfl, .inl ⟨h, x_new q⟩⟩
/-! ### data compared -/
def vd : V → PyData
  | .non => .none
  | .bl b => .bool b
  | .int i => .int i
  | .str x => .str x
  | _ => .none
/-- None and whole numbers -/
def plainV : V → Bool
  | .non => true
  | .int _ => true
  | _ => false
theorem eqv_vd {x y : V} (hx : plainV x = true) (hy : plainV y = true) : PyData.eqv (vd x) (vd y) = decide (x = y) := by
  cases x <;> cases y <;> simp [plainV, vd, PyData.eqv] at * <;> exact Bool.beq_eq_decide_eq _ _
theorem eqv_vdAll : ∀ {xs ys : List V}, xs.all plainV = true → ys.all plainV = true → PyData.eqvAll (xs.map vd) (ys.map vd) = decide (xs = ys)
  | [], [], _, _ => by simp [PyData.eqvAll]
  | [], _ :: _, _, _ => by simp [PyData.eqvAll]
  | _ :: _, [], _, _ => by simp [PyData.eqvAll]
  | x :: xs, y :: ys, hx, hy => by
    simp only [List.all_cons, Bool.and_eq_true] at hx hy
    show (PyData.eqv (vd x) (vd y) && PyData.eqvAll (xs.map vd) (ys.map vd)) = _
    rw [eqv_vd hx.1 hy.1, eqv_vdAll hx.2 hy.2]
    by_cases e1 : x = y <;> by_cases e2 : xs = ys <;> simp [e1, e2]
theorem dpAll_vd : ∀ {xs : List V}, xs.all plainV = true → DpAll K H xs (xs.map vd)
  | [], _ => .nil
  | x :: xs, h => by
    simp only [List.all_cons, Bool.and_eq_true] at h
    refine .cons ?_ (dpAll_vd h.2)
    cases x <;> simp [plainV] at h
    · exact .non
    · exact .int _
theorem can_vd : ∀ xs : List V, xs.all plainV = true → PyData.canLayAll0 (xs.map vd) = true ∧ PyData.depthAll (xs.map vd) ≤ 1
  | [], _ => by decide
  | x :: xs, h => by
    simp only [List.all_cons, Bool.and_eq_true] at h
    obtain ⟨h1, h2⟩ := can_vd xs h.2
    cases x <;> simp [plainV] at h <;> simp_all [vd, PyData.canLayAll0, PyData.canLay0, PyData.depthAll, PyData.depth]
theorem shaped_l {xs : List V} (h : xs.all plainV = true) : SeqAt.shaped (.list (xs.map vd)) = true := by
  obtain ⟨h1, h2⟩ := can_vd xs h
  simp only [SeqAt.shaped, PyData.canLay0, PyData.depth, h1, Bool.true_and, decide_eq_true_eq]
  exact decide_eq_true (by omega)
theorem shaped_t {xs : List V} (h : xs.all plainV = true) : SeqAt.shaped (.tuple (xs.map vd)) = true := by
  obtain ⟨h1, h2⟩ := can_vd xs h
  simp only [SeqAt.shaped, PyData.canLay0, PyData.depth, h1, Bool.true_and, decide_eq_true_eq]
  exact decide_eq_true (by omega)
theorem x_eqL {c : Addr} (h1 : SqL K H a xs) (h2 : SqL K H c ys) (p1 : xs.all plainV = true) (p2 : ys.all plainV = true) (q : Q (.bl (decide (xs = ys))) H) : rEqD K (.ref a) (.ref c) H Q :=
  ⟨_, _, .lst h1 (dpAll_vd p1), .lst h2 (dpAll_vd p2), shaped_l p1, shaped_l p2, by rw [show PyData.eqv (.list (xs.map vd)) (.list (ys.map vd)) = PyData.eqvAll (xs.map vd) (ys.map vd) from by simp only [PyData.eqv], eqv_vdAll p1 p2]; exact q⟩
theorem x_neL {c : Addr} (h1 : SqL K H a xs) (h2 : SqL K H c ys) (p1 : xs.all plainV = true) (p2 : ys.all plainV = true) (q : Q (.bl (!decide (xs = ys))) H) : rNeD K (.ref a) (.ref c) H Q :=
  ⟨_, _, .lst h1 (dpAll_vd p1), .lst h2 (dpAll_vd p2), shaped_l p1, shaped_l p2, by rw [show PyData.eqv (.list (xs.map vd)) (.list (ys.map vd)) = PyData.eqvAll (xs.map vd) (ys.map vd) from by simp only [PyData.eqv], eqv_vdAll p1 p2]; exact q⟩
theorem x_eqT {c : Addr} (h1 : SqT K H a xs) (h2 : SqT K H c ys) (p1 : xs.all plainV = true) (p2 : ys.all plainV = true) (q : Q (.bl (decide (xs = ys))) H) : rEqD K (.ref a) (.ref c) H Q :=
  ⟨_, _, .tup h1 (dpAll_vd p1), .tup h2 (dpAll_vd p2), shaped_t p1, shaped_t p2, by rw [show PyData.eqv (.tuple (xs.map vd)) (.tuple (ys.map vd)) = PyData.eqvAll (xs.map vd) (ys.map vd) from by simp only [PyData.eqv], eqv_vdAll p1 p2]; exact q⟩
theorem x_neT {c : Addr} (h1 : SqT K H a xs) (h2 : SqT K H c ys) (p1 : xs.all plainV = true) (p2 : ys.all plainV = true) (q : Q (.bl (!decide (xs = ys))) H) : rNeD K (.ref a) (.ref c) H Q :=
  ⟨_, _, .tup h1 (dpAll_vd p1), .tup h2 (dpAll_vd p2), shaped_t p1, shaped_t p2, by rw [show PyData.eqv (.tuple (xs.map vd)) (.tuple (ys.map vd)) = PyData.eqvAll (xs.map vd) (ys.map vd) from by simp only [PyData.eqv], eqv_vdAll p1 p2]; exact q⟩
theorem plain_ints (ns : List Int) : (ns.map V.int).all plainV = true := by simp [plainV]
theorem ints_inj {ns ms : List Int} : ns.map V.int = ms.map V.int ↔ ns = ms := by
  constructor
  · intro h
    exact (List.map_inj_right (fun a b e => V.int.inj e)).mp h
  · intro h; rw [h]
/-- a ship's berth, or None -/
def optV : Option Int → V
  | none => .non
  | some b => .int b
theorem plain_opts (os : List (Option Int)) : (os.map optV).all plainV = true := by
  rw [List.all_map, List.all_eq_true]
  intro o _
  cases o <;> rfl
theorem optV_inj {a b : Option Int} (h : optV a = optV b) : a = b := by cases a <;> cases b <;> simp [optV] at h <;> simp_all
/-! ### sums, sorts -/
theorem x_sum {ns : List Int} (h : SqL K H a (ns.map V.int)) (q : Q (.int ns.sum) H) : rSum K [.ref a] H Q := ⟨a, ns, rfl, h, q⟩
theorem x_sorted {ns : List Int} (h : SqL K H a (ns.map V.int)) (q : ∀ (ns' : List Int) p H', ns'.Perm ns → ns'.Pairwise (· ≤ ·) → H p = none → Ex H H' → H' p = some (.lst (ns'.map V.int)) → Q (.ref p) H') : rSortedI K [.ref a] H Q :=
  ⟨a, ns, rfl, h, fun ns' p h1 h2 hp => q ns' p _ h1 h2 hp (Evl.Ex.new hp) upd_same⟩
end
end B

namespace B
open PySem PySem.Spec PyProof.Rows L2
open PySem.W (Frag)
/-! ### an object is changed -/
structure Upd (H : Hp) (l : Addr) (o : HO) (H' : Hp) : Prop where
  same : H' l = some o
  other : ∀ b, b ≠ l → H' b = H b
theorem Upd.mk0 {H : Hp} {l : Addr} {o : HO} : Upd H l o (upd H l o) := ⟨upd_same, fun _ h => upd_ne h⟩
theorem Upd.ex {H0 H H' : Hp} {l : Addr} {o : HO} (u : Upd H l o H') (e : Ex H0 H) (h : H0 l = none) : Ex H0 H' := fun b x q => by
  rw [u.other b (ne_of_none q h)]
  exact e b x q
theorem Upd.get {H H' : Hp} {l b : Addr} {o x : HO} (u : Upd H l o H') (n : b ≠ l) (h : H b = some x) : H' b = some x := by rw [u.other b n]; exact h
theorem Upd.getL {K : Frag} {H H' : Hp} {l b : Addr} {o : HO} {xs : List V} (u : Upd H l o H') (n : b ≠ l) (h : SqL K H b xs) : SqL K H' b xs := by
  rcases h with (h | ⟨z, h⟩) | h
  · exact .inl (.inl (u.get n h))
  · exact .inl (.inr ⟨z, u.get n h⟩)
  · exact .inr h
section
variable {K : Frag} {σ : L2.St} {H H' : Hp} {Q : VK} {QT : Bool → Hp → Prop} {i j : Nat} {v x y z : V} {ta tb te tl tv to td : TE} {tt tu : TT} {t tr : TA} {b : Bool} {D : Ends} {s1 s2 ts : TS} {g : TG} {a l : Addr} {xs ys : List V} {kvs : List (Key × V)} {k : Key}
/-! ### methods of lists -/
def rBML (K : Frag) (T : String) (r : V → List V → Hp → VK → Prop) (t : TA) (σ : L2.St) (Q : VK) : V → Hp → Prop := fun x H1 => tyV K T x H1 ∧ t σ H1 fun vs H2 => r x vs H2 Q
theorem x_BM {T : String} {r : V → List V → Hp → VK → Prop} (h : to σ H (rBML K T r t σ Q)) : tBM K T r to t σ H Q := h
def rBM0L (K : Frag) (T : String) (r : V → List V → Hp → VK → Prop) (Q : VK) : V → Hp → Prop := fun x H1 => tyV K T x H1 ∧ r x [] H1 Q
theorem x_BM0 {T : String} {r : V → List V → Hp → VK → Prop} (h : to σ H (rBM0L K T r Q)) : tBM0 K T r to σ H Q := h
theorem x_onL {r : V → List V → Hp → VK → Prop} (hl : SqL K H l xs) (h : t σ H fun vs H2 => r (.ref l) vs H2 Q) : rBML K "list" r t σ Q (.ref l) H := ⟨.inl ⟨rfl, xs, hl⟩, h⟩
theorem x_onL0 {r : V → List V → Hp → VK → Prop} (hl : SqL K H l xs) (h : r (.ref l) [] H Q) : rBM0L K "list" r Q (.ref l) H := ⟨.inl ⟨rfl, xs, hl⟩, h⟩
theorem x_append (hl : H l = some (.lst xs)) (hz : xs.length ≤ 1000000) (q : ∀ H', Upd H l (.lst (xs ++ [y])) H' → Q .non H') : rAppend (.ref l) [y] H Q := ⟨l, xs, y, rfl, rfl, hl, szl hz, q _ .mk0⟩
theorem x_remove {ns : List Int} {n : Int} (hl : H l = some (.lst (ns.map V.int))) (hj : ns[j]? = some n) (hno : ∀ m : Nat, m < j → ns[m]? ≠ some n) (q : ∀ H', Upd H l (.lst ((ns.eraseIdx j).map V.int)) H' → Q .non H') : rRemI (.ref l) [.int n] H Q :=
  ⟨l, ns, n, j, rfl, rfl, hl, hj, hno, q _ .mk0⟩
theorem x_clear (hl : H l = some (.lst xs)) (q : ∀ H', Upd H l (.lst []) H' → Q .non H') : rClear (.ref l) [] H Q := ⟨l, xs, rfl, rfl, hl, q _ .mk0⟩
theorem x_pop (hl : H l = some (.lst xs)) (hy : xs[xs.length - 1]? = some y) (q : ∀ H', Upd H l (.lst xs.dropLast) H' → Q y H') : rPop (.ref l) [] H Q := ⟨l, xs, y, rfl, rfl, hl, hy, q _ .mk0⟩
/-- xs.pop(i), i from 0 -/
theorem x_popAt {n : Nat} (hl : H l = some (.lst xs)) (hz : xs.length ≤ 1000000) (hy : xs[n]? = some y) (q : ∀ H', Upd H l (.lst (xs.eraseIdx n)) H' → Q y H') : rPopAt (.ref l) [.int (n : Nat)] H Q := by
  have hn : n < xs.length := (List.getElem?_eq_some_iff.mp hy).1
  refine ⟨l, xs, (n : Int), n, y, rfl, rfl, hl, by omega, by omega, ?_, hy, q _ .mk0⟩
  unfold seqIndex?
  have h0 : (0 : Int) ≤ (n : Int) := by omega
  have h1 : (n : Int) < (xs.length : Int) := by omega
  first
    | (simp only [h0, h1, if_true, Int.toNat_natCast]; done)
    | (simp [h0, h1]; done)
    | (rw [if_pos h0, if_pos h1]; simp)
    | (simp; omega)
/-- xs[i] = e -/
theorem x_asgG {G : TG} (h : te σ H fun v H1 => G v σ H1 D.nx) : tAsg te G D σ H := h
def gSubC (ti : TE) (w : TSet) (v : V) (σ : L2.St) (Qn : L2.St → Hp → Prop) : V → Hp → Prop := fun o H1 => ti σ H1 fun i H2 => w o i v H2 fun H3 => Qn σ H3
theorem x_gSub {Qn : L2.St → Hp → Prop} {w : TSet} (h : to σ H fun o H1 => tb σ H1 fun i H2 => w o i v H2 (Qn σ)) : gSub to tb w v σ H Qn := h
theorem x_setL {n : Nat} {Qh : Hp → Prop} (hl : H l = some (.lst xs)) (hn : n < xs.length) (q : ∀ H', Upd H l (.lst (xs.set n v)) H' → Qh H') : rSetL (.ref l) (.int (n : Nat)) v H Qh := ⟨l, xs, (n : Int), n, rfl, rfl, hl, Evl.ixN_nat hn, q _ .mk0⟩
/-! ### dicts -/
def rDIn (y x : V) : Hp → VK → Prop := fun H Q => ∃ a o, x = .ref a ∧ DGet H a y o ∧ Q (.bl o.isSome) H
def rDNotIn (y x : V) : Hp → VK → Prop := fun H Q => ∃ a o, x = .ref a ∧ DGet H a y o ∧ Q (.bl (!o.isSome)) H
theorem x_dIn (h : ta σ H fun y H1 => td σ H1 fun x H2 => rDIn y x H2 Q) : tDIn ta td σ H Q := h
theorem x_dNotIn (h : ta σ H fun y H1 => td σ H1 fun x H2 => rDNotIn y x H2 Q) : tDNotIn ta td σ H Q := h
theorem x_inI {n : Int} (hd : H a = some (.dK kvs)) (q : Q (.bl (valV kvs (.inl n)).isSome) H) : rDIn (.int n) (.ref a) H Q := ⟨a, _, rfl, DGet.k (k := .inl n) hd, q⟩
theorem x_inS {n : Str} (hd : H a = some (.dK kvs)) (q : Q (.bl (valV kvs (.inr n)).isSome) H) : rDIn (.str n) (.ref a) H Q := ⟨a, _, rfl, DGet.k (k := .inr n) hd, q⟩
theorem x_notInI {n : Int} (hd : H a = some (.dK kvs)) (q : Q (.bl (!(valV kvs (.inl n)).isSome)) H) : rDNotIn (.int n) (.ref a) H Q := ⟨a, _, rfl, DGet.k (k := .inl n) hd, q⟩
theorem x_notInS {n : Str} (hd : H a = some (.dK kvs)) (q : Q (.bl (!(valV kvs (.inr n)).isSome)) H) : rDNotIn (.str n) (.ref a) H Q := ⟨a, _, rfl, DGet.k (k := .inr n) hd, q⟩
def rDGet (x y : V) : Hp → VK → Prop := fun H Q => ∃ a v, x = .ref a ∧ DGet H a y (some v) ∧ Q v H
theorem x_dGet (h : td σ H fun x H1 => ta σ H1 fun y H2 => rDGet x y H2 Q) : tDGet td ta σ H Q := h
theorem x_getI {n : Int} (hd : H a = some (.dK kvs)) (e : valV kvs (.inl n) = some v) (q : Q v H) : rDGet (.ref a) (.int n) H Q := ⟨a, v, rfl, by rw [← e]; exact DGet.k (k := .inl n) hd, q⟩
theorem x_getS {n : Str} (hd : H a = some (.dK kvs)) (e : valV kvs (.inr n) = some v) (q : Q v H) : rDGet (.ref a) (.str n) H Q := ⟨a, v, rfl, by rw [← e]; exact DGet.k (k := .inr n) hd, q⟩
def rDPut (v x y : V) (nx : Hp → Prop) : Hp → Prop := fun H => ∃ a H4, x = .ref a ∧ DPut H a y v H4 ∧ nx H4
theorem x_dPut (h : tv σ H fun v H1 => td σ H1 fun x H2 => ta σ H2 fun y H3 => rDPut v x y (D.nx σ) H3) : sDPut td ta tv D σ H := h
theorem x_putI {n : Int} {nx : Hp → Prop} (hd : H a = some (.dK kvs)) (hz : kvs.length ≤ 1000000) (q : ∀ H', Upd H a (.dK (putK kvs (.inl n) v)) H' → nx H') : rDPut v (.ref a) (.int n) nx H := ⟨a, _, rfl, DPut.k (k := .inl n) hd (szl hz), q _ .mk0⟩
theorem x_putS {n : Str} {nx : Hp → Prop} (hd : H a = some (.dK kvs)) (hz : kvs.length ≤ 1000000) (q : ∀ H', Upd H a (.dK (putK kvs (.inr n) v)) H' → nx H') : rDPut v (.ref a) (.str n) nx H := ⟨a, _, rfl, DPut.k (k := .inr n) hd (szl hz), q _ .mk0⟩
/-! ### list(range(a, b)) -/
theorem rgV_eq (m n : Int) : rgV m n = (irange m n).map V.int := by unfold rgV irange; rw [List.map_map]; rfl
def rLstRg (Q : VK) : Int → Int → Hp → Prop := fun a b H1 => RgOk a b ∧ ∀ q, H1 q = none → Q (.ref q) (upd H1 q (.lst (rgV a b)))
theorem x_lstRg {tg : L2.St → Hp → (Int → Int → Hp → Prop) → Prop} (h : tg σ H (rLstRg Q)) : tLstRg tg σ H Q := h
theorem x_rg1 {R : Int → Int → Hp → Prop} (h : ta σ H fun x H1 => ∃ n, x = .int n ∧ R 0 n H1) : tRg1 ta σ H R := h
theorem x_rg2 {R : Int → Int → Hp → Prop} (h : ta σ H fun x H1 => tb σ H1 fun y H2 => ∃ i j, x = .int i ∧ y = .int j ∧ R i j H2) : tRg2 ta tb σ H R := h
theorem x_mkRg1 {n : Int} (hn : n ≤ 1000000 ∧ -1000000 ≤ n) (q : ∀ p H', H p = none → Ex H H' → H' p = some (.lst ((irange 0 n).map V.int)) → Q (.ref p) H') : ∃ m, V.int n = .int m ∧ rLstRg Q 0 m H :=
  ⟨n, rfl, ⟨by omega, by omega, by omega, by omega, by omega⟩, fun p hp => q p _ hp (Evl.Ex.new hp) (by rw [upd_same, rgV_eq])⟩
theorem x_mkRg2 {m n : Int} (hm : m ≤ 1000000 ∧ -1000000 ≤ m) (hn : n ≤ 1000000 ∧ -1000000 ≤ n) (q : ∀ p H', H p = none → Ex H H' → H' p = some (.lst ((irange m n).map V.int)) → Q (.ref p) H') : ∃ i j, V.int m = .int i ∧ V.int n = .int j ∧ rLstRg Q i j H :=
  ⟨m, n, rfl, rfl, ⟨by omega, by omega, by omega, by omega, by omega⟩, fun p hp => q p _ hp (Evl.Ex.new hp) (by rw [upd_same, rgV_eq])⟩
/-! ### keywords -/
theorem x_CKw {r : List V → List V → Hp → VK → Prop} {tk : TA} (h : t σ H fun vs H1 => tk σ H1 fun zs H2 => r vs zs H2 Q) : tCKw r t tk σ H Q := h
theorem x_minD {ns : List Int} {d : V} (h : SqL K H a (ns.map V.int)) (q0 : ns = [] → Q d H) (q : ∀ m, m ∈ ns → (∀ y, y ∈ ns → m ≤ y) → Q (.int m) H) : rMinD K [.ref a] [d] H Q := ⟨a, ns, d, rfl, rfl, h, q0, q⟩
/-! ### slices -/
theorem x_sl {r : V → Option Int → Option Int → Hp → VK → Prop} {tl' th : TO} (h : te σ H fun x H1 => tl' σ H1 fun lo H2 => th σ H2 fun hi H3 => r x lo hi H3 Q) : tSl r te tl' th σ H Q := h
theorem x_noPart {QO : Option Int → Hp → Prop} (h : QO none H) : tNoPart σ H QO := h
def rPart (QO : Option Int → Hp → Prop) : V → Hp → Prop := fun x H1 => ∃ i, x = .int i ∧ QO (some i) H1
theorem x_part {QO : Option Int → Hp → Prop} (h : te σ H (rPart QO)) : tPart te σ H QO := h
theorem x_partI {QO : Option Int → Hp → Prop} {n : Int} (h : QO (some n) H) : rPart QO (.int n) H := ⟨n, rfl, h⟩
theorem x_slL {lo hi : Option Int} (h : SqL K H a xs) (q : ∀ p H', H p = none → Ex H H' → H' p = some (.lst (cutV xs lo hi)) → Q (.ref p) H') : rSlL K (.ref a) lo hi H Q := ⟨a, xs, rfl, h, x_new q⟩
end
theorem at_head {x : V} {xs : List V} : atI (x :: xs) 0 = some x := by
  have h : atI (x :: xs) ((0 : Nat) : Int) = some x := atI_nat rfl
  exact h
/-- slices of lists, by drop and take -/
theorem cut_from (xs : List V) (n : Nat) : cutV xs (some (n : Int)) none = xs.drop n := by
  unfold cutV
  rw [HT.sIx_none, HT.sIx_nat]
  rcases Nat.le_total n xs.length with h | h
  · rw [Nat.min_eq_left h, List.take_of_length_le (by rw [List.length_drop]; exact Nat.le_refl _)]
  · rw [Nat.min_eq_right h, List.drop_length, List.drop_eq_nil_of_le h]
    simp
theorem cut_to (xs : List V) (n : Nat) : cutV xs none (some (n : Int)) = xs.take n := by
  unfold cutV
  rw [HT.sIx_none, HT.sIx_nat, List.drop_zero, Nat.sub_zero]
  rcases Nat.le_total n xs.length with h | h
  · rw [Nat.min_eq_left h]
  · rw [Nat.min_eq_right h, List.take_of_length_le h, List.take_of_length_le (Nat.le_refl _)]

/-! ### [e for a, b in zip(xs, ys) if t] -/
section
variable {K : Frag} {σ : L2.St} {H H' : Hp} {Q : VK} {i j : Nat} {te : TE} {tt : TT} {t : TA} {a b : Addr}
def rZip (K : Frag) (R : It → Hp → Prop) : List V → Hp → Prop := fun vs H1 => ∃ a b xs ys, vs = [.ref a, .ref b] ∧ SqL K H1 a xs ∧ SqL K H1 b ys ∧ R (Itz K a b) H1
theorem x_iZip {R : It → Hp → Prop} (h : t σ H (rZip K R)) : iZip K t σ H R := h
def LcSay2 (i j : Nat) (vs : List Nat) (tt : TT) (te : TE) (σ : L2.St) (H1 : Hp) (Q : VK) (α β : Type) (as : List (α × β)) (f : α → V) (g : β → V) (p : α × β → Bool) (v : α × β → V) : Prop :=
  as.length ≤ 1000000 ∧ (∀ x y, wipe (((wipe σ vs).set i (some x)).set j (some y)) vs = wipe σ vs) ∧
  (∀ x ∈ as, ∀ H', Ex H1 H' → ∀ QT : Bool → Hp → Prop, (∀ H2, Ex H' H2 → QT (p x) H2) → tt (((wipe σ vs).set i (some (f x.1))).set j (some (g x.2))) H' QT) ∧
  (∀ x ∈ as, p x = true → ∀ H', Ex H1 H' → ∀ Q' : VK, (∀ H2, Ex H' H2 → Q' (v x) H2) → te (((wipe σ vs).set i (some (f x.1))).set j (some (g x.2))) H' Q') ∧
  ∀ D H2, H1 D = none → Ex H1 H2 → H2 D = some (.lst ((as.filter p).map v)) → Q (.ref D) H2
theorem x_lcZ {α β : Type} {vs : List Nat} (xs : List α) (ys : List β) (f : α → V) (g : β → V) (p : α × β → Bool) (v : α × β → V) (h1 : SqL K H a (xs.map f)) (h2 : SqL K H b (ys.map g))
    (h : LcSay2 i j vs tt te σ H Q α β (xs.zip ys) f g p v) : rZip K (LcRun (gTup K 2 (gCons (gName i) (gCons (gName j) gNil))) tt te vs σ Q) [.ref a, .ref b] H := by
  obtain ⟨hz, hw, ht, he, q⟩ := h
  refine ⟨a, b, _, _, rfl, h1, h2, fun D hD => ?_⟩
  refine ⟨fun k m H' => m = (xs.zip ys).length - k ∧ k ≤ (xs.zip ys).length ∧ Ex H H' ∧ H' D = some (.lst ((((xs.zip ys).take k).filter p).map v)), ⟨_, rfl, Nat.zero_le _, Evl.Ex.new hD, by rw [upd_same]; rfl⟩, ?_⟩
  rintro k m H' ⟨rfl, hk, e1, hl⟩
  have q1 := Evl.ex_l e1 h1
  have q2 := Evl.ex_l e1 h2
  by_cases hlt : k < (xs.zip ys).length
  · have hlz := List.length_zip (l₁ := xs) (l₂ := ys)
    have kx : k < xs.length := by omega
    have ky : k < ys.length := by omega
    have ex : (xs.zip ys)[k]? = some (xs[k], ys[k]) := by rw [List.getElem?_eq_getElem hlt, List.getElem_zip]
    have mx : (xs.map f)[k]? = some (f xs[k]) := by rw [List.getElem?_map, List.getElem?_eq_getElem kx]; rfl
    have my : (ys.map g)[k]? = some (g ys[k]) := by rw [List.getElem?_map, List.getElem?_eq_getElem ky]; rfl
    refine .inr ⟨⟨_, _, _, _, q1, q2, mx, my⟩, fun H'' => Ex H H'' ∧ H'' D = some (.lst ((((xs.zip ys).take (k + 1)).filter p).map v)), fun H'' p' => ⟨_, by omega, rfl, hlt, p'.1, p'.2⟩, fun x H2 y => ?_⟩
    obtain ⟨T, x', y', rfl, hT, rfl, f1, f2⟩ := y
    have ex1 := Option.some.inj (mx.symm.trans (f1 _ q1))
    have ey1 := Option.some.inj (my.symm.trans (f2 _ q2))
    subst ex1 ey1
    have mem := List.mem_of_getElem? ex
    have e2 : Ex H' (upd H' T (.tup [f xs[k], g ys[k]])) := Evl.Ex.new hT
    refine ⟨T, _, rfl, .inl (.inl upd_same), rfl, _, _, rfl, _, _, rfl, rfl, hw _ _, ?_⟩
    exact lc_step hz ex hD (e1.trans e2) (e2 _ _ hl) (ht _ mem _ (e1.trans e2)) fun hp H3 e3 => he _ mem hp H3 e3
  · have e : k = (xs.zip ys).length := by omega
    subst e
    have hlz := List.length_zip (l₁ := xs) (l₂ := ys)
    refine .inl ⟨⟨_, _, q1, q2, ?_⟩, q D H' hD e1 ?_⟩
    · rw [List.length_map, List.length_map]
      omega
    · rw [List.take_length] at hl
      exact hl
end
end B

namespace B
open PySem PySem.Spec PyProof.Rows L2
open PySem.W (Frag)
section
variable {X : Cx} {tg : Expr}
/-! ### xs[i] op= e, of a list, at a place in its bounds -/
def rGetN (K : Frag) : V → V → Hp → VK → Prop := fun o i H Q => ∃ p xs k v, o = .ref p ∧ i = .int k ∧ SqL K H p xs ∧ 0 ≤ k ∧ atI xs k = some v ∧ Q v H
theorem get_list : PGet X (rGetN X.K) := by
  intro pins s σ H o i ov iv Q I ro ri h
  obtain ⟨p, xs, k, v, rfl, rfl, hq, k0, hv, q⟩ := h
  cases ro
  obtain ⟨t, rfl⟩ := ri
  obtain ⟨its, r, pl, hz⟩ := I.list hq
  obtain ⟨j, h1, h2, h3, h4, h5⟩ := atI_get hv
  obtain ⟨w, ew, rw'⟩ := r.get h2
  have hn := line63
  have hj : k.toNat = j := by
    rw [seqIndex_of k0 h5] at h1
    exact Option.some.inj h1
  exact wpAny_getItem_list pl.isList k0 (by omega) (by rw [hj]; simpa using ew) ⟨v, H, I, rw', q⟩
theorem ps_augL {o i e : Expr} {to ti te : TE} {tip : TIp} {op : Operator} {tpos pos : Pos} (ho : PE X o to) (hi : PE X i ti) (he : PE X e te) (hp : PIp X op tip)
    (ha : ∀ ov iv new, augStore i ov iv new = (do holding [new, ov, iv] (setItem ov iv new); release [new, ov, iv] []; pure .next) := by intros; rfl) : PS X (.AugAssign (.Subscript o i tpos) op e pos) (tAugS to ti te (rGetN X.K) tip rSetL) :=
  ps_augS ho hi get_list he hp set_list ha
end
section
variable {K : Frag} {σ : L2.St} {H H' : Hp} {Q : VK} {QT : Bool → Hp → Prop} {i j : Nat} {v x y z : V} {ta tb te tl to ti : TE} {tt : TT} {tr : TA} {b : Bool} {D : Ends} {ts : TS} {g : TG} {a l p : Addr} {xs ys : List V}
def rSetC (o i : V) (nx : Hp → Prop) : V → Hp → Prop := fun z H5 => rSetL o i z H5 nx
theorem x_augS {ip : TIp} (h : to σ H fun o H1 => ti σ H1 fun i H2 => rGetN K o i H2 fun x H3 => te σ H3 fun y H4 => ip x y H4 (rSetC o i (D.nx σ))) : tAugS to ti te (rGetN K) ip rSetL D σ H := h
theorem x_getN {n : Nat} (hl : SqL K H p xs) (hx : xs[n]? = some v) (q : Q v H) : rGetN K (.ref p) (.int (n : Nat)) H Q := ⟨p, xs, n, v, rfl, rfl, hl, by omega, atI_nat hx, q⟩
theorem x_setC {n : Nat} {nx : Hp → Prop} (hl : H l = some (.lst xs)) (hn : n < xs.length) (q : ∀ H', Upd H l (.lst (xs.set n v)) H' → nx H') : rSetC (.ref l) (.int (n : Nat)) nx v H := ⟨l, xs, (n : Int), n, rfl, rfl, hl, Evl.ixN_nat hn, q _ .mk0⟩
/-! ### range with a step of -1 -/
def rRng3 (R : It → Hp → Prop) : List V → Hp → Prop := fun vs H1 => ∃ (i j c : Int) (n : Nat), vs = [.int i, .int j, .int c] ∧ RgC i j c n ∧ R (Itc i c n) H1
theorem x_iRng3 {R : It → Hp → Prop} (h : tr σ H (rRng3 R)) : iRng3 tr σ H R := h
theorem x_down {R : It → Hp → Prop} {m n : Int} (hm : m ≤ 1000000 ∧ -1000000 ≤ m) (hn : n ≤ 1000000 ∧ -1000000 ≤ n) (h : R (Itc m (-1) (m - n).toNat) H) : rRng3 R [.int m, .int n, .int (-1)] H := ⟨m, n, -1, _, rfl, RgC.neg (by omega) (by omega) (by omega) (by omega), h⟩
theorem x_forC {lo c : Int} {n : Nat} (Pv : Nat → L2.St → Hp → Prop) (h0 : Pv 0 σ H)
    (hs : ∀ k σ' H', k < n → Pv k σ' H' → g (.int (lo + (k : Nat) * c)) σ' H' fun σ2 H2 => ts { D with nx := Pv (k + 1), ct := Pv (k + 1), bk := D.nx } σ2 H2)
    (hd : ∀ σ' H', Pv n σ' H' → D.nx σ' H') : ForRun g ts D σ (Itc lo c n) H := for_rangeC Pv h0 hs hd
/-! ### is, of bools -/
theorem op_isbl {X : Cx} : OpR X (compareOp .Is) rIsB := op_isBl
theorem x_isB {c d : Bool} (q : Q (.bl (decide (c = d))) H) : rIsB (.bl c) (.bl d) H Q := ⟨c, d, rfl, rfl, q⟩
/-! ### xs[::-1] -/
def rRevL (K : Frag) (Q : VK) : V → Hp → Prop := fun x H1 => ∃ a xs, x = .ref a ∧ SqL K H1 a xs ∧ ∀ p, H1 p = none → Q (.ref p) (upd H1 p (.lst xs.reverse))
theorem x_revL (h : te σ H (rRevL K Q)) : tRevL K te σ H Q := h
theorem x_rev (h : SqL K H a xs) (q : ∀ p H', H p = none → Ex H H' → H' p = some (.lst xs.reverse) → Q (.ref p) H') : rRevL K Q (.ref a) H := ⟨a, xs, rfl, h, x_new q⟩
/-! ### xs * n -/
theorem x_rep {n : Int} (hl : H l = some (.lst xs)) (h0 : 0 ≤ n) (h1 : n ≤ 1000000) (hz : xs.length ≤ 1) (q : ∀ p H', H p = none → Ex H H' → H' p = some (.lst ((List.replicate n.toNat xs).flatten)) → Q (.ref p) H') : rRep (.ref l) (.int n) H Q := by
  refine ⟨l, n, xs, rfl, rfl, hl, by omega, by omega, sz ?_, fun p hp => ?_⟩
  · have : xs.length * n.toNat ≤ 1 * n.toNat := Nat.mul_le_mul_right _ hz
    omega
  · exact q p _ hp (Evl.Ex.new hp) (by rw [upd_same])
/-! ### for i, x in enumerate(xs) -/
def rEnum (K : Frag) (R : It → Hp → Prop) : List V → Hp → Prop := fun vs H1 => ∃ a xs, vs = [.ref a] ∧ SqL K H1 a xs ∧ R (Ite K a) H1
theorem x_iEnum {R : It → Hp → Prop} (h : tr σ H (rEnum K R)) : iEnum K tr σ H R := h
theorem x_forE {α : Type} (as : List α) (f : α → V) (Pv : List α → L2.St → Hp → Prop) (h0 : Pv [] σ H) (hl : ∀ pre σ' H', pre.length ≤ as.length → Pv pre σ' H' → SqL K H' a (as.map f))
    (mono : ∀ pre σ' H' H'', Pv pre σ' H' → Ex H' H'' → Pv pre σ' H'')
    (hs : ∀ pre x post σ' H', as = pre ++ x :: post → Pv pre σ' H' → ts { D with nx := Pv (pre ++ [x]), ct := Pv (pre ++ [x]), bk := D.nx } ((σ'.set i (some (.int (pre.length : Nat)))).set j (some (f x))) H')
    (hd : ∀ σ' H', Pv as σ' H' → D.nx σ' H') : rEnum K (ForRun (gTup K 2 (gCons (gName i) (gCons (gName j) gNil))) ts D σ) [.ref a] H := by
  refine ⟨a, _, rfl, hl [] σ H (Nat.zero_le _) h0, fun k m σ' H' => m = as.length - k ∧ k ≤ as.length ∧ Pv (as.take k) σ' H', ⟨_, rfl, Nat.zero_le _, by rw [List.take_zero]; exact h0⟩, ?_⟩
  rintro k m σ' H' ⟨rfl, hk, p⟩
  have hq := hl _ σ' H' (by rw [List.length_take]; omega) p
  by_cases hlt : k < as.length
  · have ex : as[k]? = some as[k] := List.getElem?_eq_getElem hlt
    have ev : (as.map f)[k]? = some (f as[k]) := by rw [List.getElem?_map, ex]; rfl
    refine .inr ⟨⟨_, _, hq, ev⟩, Pv (as.take k ++ [as[k]]), fun σ'' H'' p' => ⟨as.length - (k + 1), by omega, rfl, hlt, by rw [take_snoc ex]; exact p'⟩, fun x H2 y => ?_⟩
    obtain ⟨T, x', rfl, hT, rfl, f1⟩ := y
    have e1 := Option.some.inj (ev.symm.trans (f1 _ hq))
    subst e1
    refine ⟨T, _, rfl, .inl (.inl upd_same), rfl, _, _, rfl, _, _, rfl, rfl, ?_⟩
    have q := hs (as.take k) as[k] (as.drop (k + 1)) σ' _ (split_at ex) (mono _ _ _ _ p (Evl.Ex.new (o := .tup [.int (k : Nat), f as[k]]) hT))
    have el : (as.take k).length = k := by rw [List.length_take]; omega
    rw [el] at q
    exact q
  · have e : k = as.length := by omega
    subst e
    refine .inl ⟨⟨_, hq, by rw [List.length_map]; exact Nat.le_refl _⟩, hd σ' H' ?_⟩
    rw [List.take_length] at p
    exact p
end
end B
namespace B
open PySem PySem.Spec PyProof.Rows L2
/-- a statement at which the steps stop -/
def tStop (t : TS) : TS := t
theorem ps_stop {X : Cx} {st : Stmt} {t : TS} (h : PS X st t) : PS X st (tStop t) := h
theorem x_stop {t : TS} {D : Ends} {σ : L2.St} {H : Hp} (h : t D σ H) : tStop t D σ H := h
/-- what follows a statement is shown once, from R -/
theorem x_join {t : TS} {D : Ends} {σ : L2.St} {H : Hp} (R : L2.St → Hp → Prop) (hr : ∀ σ' H', R σ' H' → D.nx σ' H') (h : (∀ σ' H', R σ' H' → D.nx σ' H') → t D σ H) : tStop t D σ H := h hr
/-- an edge that the search for facts does not take -/
def Far (H H' : Hp) : Prop := Ex H H'
theorem Far.of {H H' : Hp} (e : Ex H H') : Far H H' := e
theorem Far.e {H H' : Hp} (e : Far H H') : Ex H H' := e
theorem inV_int (b : Int) (ms : List Int) : inV (.int b) (ms.map V.int) = decide (b ∈ ms) := by
  unfold inV
  induction ms with
  | nil => simp
  | cons a ms ih =>
    rw [List.map_cons, List.any_cons, ih]
    by_cases h : b = a
    · subst h
      simp [eqV]
    · have h2 : ¬ a = b := fun z => h z.symm
      simp [eqV, h, h2]
theorem x_notIn {K : PySem.W.Frag} {H : Hp} {Q : VK} {p : Addr} {ms : List Int} {b : Int} (h : SqL K H p (ms.map V.int)) (q : Q (.bl (!decide (b ∈ ms))) H) : rIn K true (.int b) (.ref p) H Q :=
  ⟨p, _, rfl, .inl h, rfl, by simp [flatV], by rw [inV_int]; exact q⟩
theorem x_isIn {K : PySem.W.Frag} {H : Hp} {Q : VK} {p : Addr} {ms : List Int} {b : Int} (h : SqL K H p (ms.map V.int)) (q : Q (.bl (decide (b ∈ ms))) H) : rIn K false (.int b) (.ref p) H Q :=
  ⟨p, _, rfl, .inl h, rfl, by simp [flatV], by rw [inV_int]; exact q⟩
theorem cut_init (xs : List V) : cutV xs none (some (-1)) = xs.dropLast := by
  unfold cutV
  have h : HT.sIx xs.length xs.length (some (-1)) = xs.length - 1 := by
    show (if (-1 : Int) < 0 then ((-1 : Int) + (xs.length : Int)).toNat else min (-1 : Int).toNat xs.length) = _
    rw [if_pos (by decide)]
    omega
  rw [HT.sIx_none, h, List.drop_zero, Nat.sub_zero, List.dropLast_eq_take]
end B

namespace B
open PySem PySem.Spec PyProof.Rows L2
open PySem.W (Frag)
/-! ### an exception that is caught and kept under a name -/
/-- the exception at a: an instance of cls, with its fields, without a dict of its own -/
def ExC (a : Addr) (cls : Value) (d : Option Addr) : HO := .ext fun h => ∃ (oe : Obj) (vs : Array Value), h.get? a = some oe ∧ Zc cls d oe ∧ oe.data = .fields vs
section
variable {X : Cx} {pins : List (Addr × Obj)} {σ : L2.St} {H : Hp} {s : Shared}
theorem exC_ok {P : Program} {w : World} {H : Hp} {h : Heap} {a : Addr} {cls : Value} {d : Option Addr} {oe : Obj} {vs : Array Value} (e : h.get? a = some oe) (z : Zc cls d oe) (hd : oe.data = .fields vs) : ObjOk P w H h a (ExC a cls d) :=
  ⟨⟨oe, vs, e, z, hd⟩, ⟨oe, e⟩, fun h1 h2 ⟨o, us, g1, g2, g3⟩ k => ⟨o, us, k _ g1, g2, g3⟩⟩
/-- an object of which nothing was said, new since the entry, is told of from now on -/
theorem inv_track {a : Addr} {cls : Value} {d : Option Addr} {oe : Obj} {vs : Array Value} (I : Inv X pins σ H s) (e : s.heap.get? a = some oe) (z : Zc cls d oe) (hd : oe.data = .fields vs) (na : H a = none)
    (nL : a ≠ X.env.locals) (n0 : X.s_0.heap.get? a = none) (np : ∀ p ∈ X.pn ++ pins, p.1 ≠ a) : Inv X pins σ (upd H a (ExC a cls d)) s where
  ok := I.ok
  os := I.os
  bare := I.bare
  base :=
    { keep := I.base.keep
      slot := I.base.slot
      free := fun b o h1 h2 h3 => by
        rw [upd_ne (fun q => by rw [q, n0] at h1; cases h1)]
        exact I.base.free b o h1 h2 h3
      there := I.base.there
      tups := fun b xs q => by
        have r := I.base.tups b xs q
        rw [upd_ne (ne_of_none r na)]
        exact r
      frzs := fun b o u q => by
        have r := I.base.frzs b o u q
        rw [upd_ne (ne_of_none r na)]
        exact r
      tbls := fun b ps q => by
        obtain ⟨m, r⟩ := I.base.tbls b ps q
        exact ⟨m, by rw [upd_ne (ne_of_none r na)]; exact r⟩ }
  loc := I.loc
  cell := I.cell
  free := by rw [upd_ne (Ne.symm nL)]; exact I.free
  freeC := fun x c hc => by
    have ne : c ≠ a := by
      rintro rfl
      obtain ⟨v, hv⟩ := I.cell x c hc
      obtain ⟨oc, h1, h2⟩ := hv
      rw [e] at h1
      cases h1
      rw [hd] at h2
      cases h2
    rw [upd_ne ne]
    exact I.freeC x c hc
  pin := fun p hp => by
    obtain ⟨h1, h2, h3, h4, h5⟩ := I.pin p hp
    exact ⟨h1, by rw [upd_ne (np p hp)]; exact h2, h3, h4, h5⟩
  hok := fun b u q => by
    by_cases hb : b = a
    · subst hb
      rw [upd_same] at q
      cases q
      exact exC_ok e z hd
    · rw [upd_ne hb] at q
      exact (I.hok b u q).stay (fun _ _ _ r => r) (fun c r => by rw [upd_ne (ne_of_none r na)]; exact r) fun c xs r => by rw [upd_ne (ne_of_none r na)]; exact r
  len := I.len
/-- what is wished where the body raises: caught, kept in slot j, the clause's own name (slot i) gone; or not of the class -/
def wKeep (K : Frag) (c : Value) (i j : Nat) (Wout : WX) (D : Ends) : WX := fun cls d σ H =>
  ∃ b, PySem.W.exmOne K cls c = some b ∧ (b = true → ∀ a, H a = none → D.nx (((σ.set i (some (.ref a))).set j (some (.ref a))).set i none) (upd H a (ExC a cls d))) ∧ (b = false → Wout cls d σ H)
end
section
variable {X : Cx} {x n : Str} {c : Value} {i j : Nat} {body suite : List Stmt} {st0 : Stmt} {q1 q2 q3 : Pos} {tb : WX → TS} {Wout : WX}
/-- try: body / except x as n: kept = n -/
theorem ps_try_keep (stk : X.stack = X.env :: X.outer) (frm : X.env.frame = some X.env.locals) (noex : X.ex = []) (nd : X.N.Nodup) (ni : X.N[i]? = some n) (loc : X.env.kindOf n = some .local) (nm : Names X x c) (out : Takes X Wout)
    (run : ∀ (W : WX) (pn : List (Addr × Obj)) (xe : Value → Shared → Prop), Takes (X.tr pn xe) W → PassesOwn (model X.prog X.w) X.A X.env xe → PSs (X.tr pn xe) body (tb W))
    (sui : ∀ (a : Addr) (oe : Obj) (pn : List (Addr × Obj)), PSs (X.suite a ((a, oe) :: pn)) (st0 :: suite) (tAsg (tVar i) (gName j))) :
    PS X (.Try body [.ExceptHandler (some (.Name x q1)) (some n) (st0 :: suite) q2] [] [] q3) (fun D σ H => tb (wKeep X.K c i j Wout D) D σ H) := by
  constructor
  intro pins s σ H D I go
  have good := I.ok
  have hfrs : X.A.frames = some (X.env :: X.outer) := good.frames.trans (congrArg some stk)
  apply wpAny_Try_except
  have B0 := (run (wKeep X.K c i j Wout D) (X.pn ++ pins) (fun ev z1 => wpAny (model X.prog X.w) X.A (noteFrame ev X.env) (fun _ z2 => wpAny (model X.prog X.w) X.A (setFlight ev none) (fun _ z3 => wpAny (model X.prog X.w) X.A
    (handleBy ev X.env [.ExceptHandler (some (.Name x q1)) (some n) (st0 :: suite) q2]) (SP X pins D) X.xe z3) X.xe z2) X.xe z1) ?caught PassesOwn.looking).run [] s σ H D (I.toTry _) go
  case caught =>
    rintro u z ⟨a, G, sG, pp, σ', H', cls, d, rfl, JT, apart, upto, sky, free, eos, eag, b, isC, yes, no⟩
    have J : Inv X pins σ' H' sG := JT.ofTry good
    rw [stk] at sky
    show wpAny (model X.prog X.w) X.A (noteFrame (.ref a) X.env) _ _ _
    refine Sky.land Zc.steady hfrs frm sky fun hA fA uA => ?_
    have JA : Inv X pins σ' H' { z with heap := hA } := J.landed apart fA.1 (upto.trans uA) eos eag
    obtain ⟨oA, vA, gA, zA, dA⟩ := fA.there
    have offStack : a ∉ frs (X.env :: X.outer) := fun m => by
      obtain ⟨_, o', g', nf⟩ := fA.2.2.1.mem m
      rw [gA] at g'
      cases g'
      exact nf _ dA
    have offLoc : a ≠ X.env.locals := fun q => offStack (List.mem_filterMap.mpr ⟨X.env, List.mem_cons_self, by rw [frm, q]⟩)
    have offOut : a ∉ X.fs := fun m => by
      obtain ⟨ev, he, hq⟩ := List.mem_filterMap.mp m
      exact offStack (List.mem_filterMap.mpr ⟨ev, List.mem_cons_of_mem _ he, hq⟩)
    have newG : sG.heap.get? a = none := by
      cases e : sG.heap.get? a with
      | none => rfl
      | some o =>
        have g1 := apart a o e (by rw [stk]; exact offStack)
        rw [fA.2.1] at g1
        cases g1
    have newS : X.s_0.heap.get? a = none := by
      cases e : X.s_0.heap.get? a with
      | none => rfl
      | some o =>
        obtain ⟨o', g1⟩ := J.base.there a o e (by rw [noex]; simp)
        rw [newG] at g1
        cases g1
    have apartP : ∀ p ∈ X.pn ++ pins, p.1 ≠ a := fun p hp q => by
      have g1 := (J.pin p hp).1
      rw [q, newG] at g1
      cases g1
    have SA := JA.suite gA dA free offLoc offOut
    refine wpAny_handleBy_cons (codeAny_handlers_test ?_) (by intro q; cases q)
    have tyA : PySem.W.Looks (model X.prog X.w) hA (typeOf (.ref a)) cls := fun _ _ _ _ k r => wpAny_typeOf_ref (k _ _ gA) (by rw [zA.1]; exact r)
    have isA := PySem.W.exm_one (M := model X.prog X.w) JA.kIn tyA isC
    have look : ∀ {Q E : Value → Shared → Prop}, Q c { z with heap := hA } → wpAny (model X.prog X.w) (X.A.mark (some (.ref a))) (eval (.Name x q1) X.env) Q E { z with heap := hA } := fun r => by
      rcases nm with ⟨g1, g2, g3 | ⟨g3, g4, g5⟩⟩
      · exact ld_glob (X := X.suite a ((a, oA) :: (X.pn ++ pins))) SA g1 g3 r g2
      · exact ld_blt (X := X.suite a ((a, oA) :: (X.pn ++ pins))) SA g1 g3 g4 r g5 g2
    refine look (isA.here ?_)
    cases b
    · -- another class: it flies on
      show wpAny _ X.A (handleBy (.ref a) X.env []) _ _ _
      apply wpAny_handleBy_nil
      have flyOn : wpAny (model X.prog X.w) X.A (setFlight (.ref a) X.env.frame) (fun _ z4 => wpAny (model X.prog X.w) X.A (throw (.ref a) : Sem Flow) (SP X pins D) X.xe z4) X.xe { z with heap := hA } := by
        rw [frm]
        refine HandSPX.setFlight_upZ fA fun hB fB uB => wpAny_throw (out _ _ ⟨a, G, sG, pins, σ', H', cls, d, rfl, J, apart, (upto.trans uA).trans uB, ?_, free, eos, eag, no rfl⟩)
        rw [stk]
        exact .inr (.inr fB)
      obtain ⟨_, _, _, oe, us, T, oT, ts, g1, g2, g3, g4, g5⟩ := id fA
      unfold PySem.passOn
      refine wpAny_bind (wpAny_field g1 g3 g4 ?_)
      rw [if_neg (show ¬ ((Value.ref T == Value.none) = true) from by simp)]
      first
        | exact wpAny_bind (wpAny_pure (wpAny_bind flyOn))
        | exact wpAny_bind flyOn
    · -- the clause's own
      apply codeAny_handlers_suite_as
      refine HandSPX.lands_againZ fA fun hB fB uB => ?_
      have JB : Inv X pins σ' H' { z with heap := hB } := J.landed apart fB.1 ((upto.trans uA).trans uB) eos eag
      obtain ⟨oB, vB, gB, zB, dB⟩ := fB.there
      have SB := JB.suite gB dB free offLoc offOut
      refine store_ok (X := X.suite a ((a, oB) :: (X.pn ++ pins))) (v := .ref a) SB nd ni (.inl loc) rfl (fun z5 S5 => ?_) (.inr loc)
      have li : i < σ'.length := by rw [J.len]; exact (List.getElem?_eq_some_iff.mp ni).1
      have fin := (sui a oB (X.pn ++ pins)).run [] z5 _ H' { nx := fun σ6 H6 => σ6 = (σ'.set i (some (.ref a))).set j (some (.ref a)) ∧ H6 = H', rt := fun _ _ => False, bk := fun _ _ => False, ct := fun _ _ => False } S5
        ⟨.ref a, by rw [List.getElem?_set_self li], rfl, rfl⟩
      refine wpAny_mono fin (fun fl z6 hz => ?_) (fun _ _ q => q.elim)
      cases fl with
      | next =>
        obtain ⟨σ6, H6, S6, rfl, rfl⟩ := hz
        have g6 := (S6.pin (a, oB) (List.mem_append.mpr (.inl List.mem_cons_self))).1
        have T6 := inv_track (S6.unsuite good) g6 zB dB free offLoc newS apartP
        exact gone_ok T6 nd ni loc fun z7 J7 => ⟨_, _, J7, yes rfl a free⟩
      | brk => obtain ⟨_, _, _, q⟩ := hz; exact q.elim
      | cont => obtain ⟨_, _, _, q⟩ := hz; exact q.elim
      | ret u => obtain ⟨_, _, _, _, _, q⟩ := hz; exact q.elim
  refine wpAny_mono B0 (fun fl z hz => ?_) (fun _ _ q => q)
  cases fl with
  | next => obtain ⟨σ', H', J, q⟩ := hz; exact wpAny_execs_nil ⟨σ', H', J.ofTry good, q⟩
  | brk => obtain ⟨σ', H', J, q⟩ := hz; exact ⟨σ', H', J.ofTry good, q⟩
  | cont => obtain ⟨σ', H', J, q⟩ := hz; exact ⟨σ', H', J.ofTry good, q⟩
  | ret u => obtain ⟨v, σ', H', J, r, q⟩ := hz; exact ⟨v, σ', H', J.ofTry good, r, q⟩
end
/-! ### isinstance of what was caught -/
/-- None, or an exception whose class is D -/
inductive Caught (K : Frag) (H : Hp) : V → Option Addr → Prop where
  | no : Caught K H .non none
  | yes {a D : Addr} (h : H a = some (ExC a (.ref D) none)) : Caught K H (.ref a) (some D)
theorem Caught.ex {K : Frag} {H H' : Hp} {x : V} {o : Option Addr} (e : Ex H H') (h : Caught K H x o) : Caught K H' x o := by
  cases h with
  | no => exact .no
  | yes h => exact .yes (e _ _ h)
/-- the class of what was caught -/
def clsOf : Option Addr → Value
  | none => .type "NoneType"
  | some D => .ref D
def rIsiC (K : Frag) : List V → Hp → VK → Prop := fun xs H Q => ∃ (x cv : V) (o : Option Addr) (u : Value) (b : Bool), xs = [x, cv] ∧ ClsV cv u ∧ Caught K H x o ∧ (∀ D, o = some D → ExcC K D) ∧ PySem.W.kitOne K (clsOf o) u = some b ∧ Q (.bl b) H
def rIsiCT (K : Frag) : List V → Hp → VK → Prop := fun xs H Q => ∃ (x : V) (tp : Addr) (cs : List V) (o : Option Addr) (us : List Value) (b : Bool), xs = [x, .ref tp] ∧ H tp = some (.tup cs) ∧ Paired ClsV cs us ∧ Caught K H x o ∧ (∀ D, o = some D → ExcC K D) ∧ PySem.W.kitAny K (clsOf o) us = some b ∧ Q (.bl b) H
section
variable {X : Cx} {pins : List (Addr × Obj)} {σ : L2.St} {H : Hp} {s : Shared}
theorem kit_caught {x : V} {u : Value} {o : Option Addr} (I : Inv X pins σ H s) (rx : RelV x u) (h : Caught X.K H x o) (hc : ∀ D, o = some D → ExcC X.K D) : ∃ P : Heap → Prop, PySem.W.KitX X.K u (clsOf o) P ∧ P s.heap ∧ u ≠ .builtin "__main__.__loader__#opaque" := by
  cases h with
  | no => cases (show u = Value.none from rx); exact ⟨_, PySem.W.kitx_none, True.intro, fun z => nomatch z⟩
  | @yes a D e =>
    cases (show u = Value.ref a from rx)
    obtain ⟨⟨oe, vs, g1, g2, g3⟩, _, _⟩ := (show ObjOk X.prog X.w H s.heap a (ExC a (.ref D) none) from I.hok a _ e)
    have C := hc D rfl
    have J : PySem.W.InstAt s.heap a oe D none := by
      obtain ⟨oc, od, oda, osl⟩ := oe
      obtain ⟨e1, e2⟩ := g2
      dsimp only at e1 e2 g3
      subst e1 e2 g3
      exact ⟨g1, rfl, rfl, trivial⟩
    exact ⟨_, PySem.W.handS_kitx_exc C.hg C.hk C.hs C.hd C.ha C.hn C.ht C.hm, J, fun z => nomatch z⟩
theorem call_isiC : CallR X (.builtin "isinstance") (rIsiC X.K) := by
  intro pins s σ H xs us Q I r h
  obtain ⟨x, cv, o, w, b, rfl, k, ca, hc, e, q⟩ := h
  obtain ⟨u1, u2, rfl, r1, r2⟩ := vals2 r
  obtain rfl := k.eq r2
  obtain ⟨P, Z, p, hx⟩ := kit_caught I r1 ca hc
  exact PySem.W.kia_one Z I.kIn p e hx fun tk => ⟨.bl b, H, I.tok tk, rfl, q⟩
theorem call_isiCT : CallR X (.builtin "isinstance") (rIsiCT X.K) := by
  intro pins s σ H xs us Q I r h
  obtain ⟨x, tp, cs, o, ws, b, rfl, hT, k, ca, hc, e, q⟩ := h
  obtain ⟨u1, u2, rfl, r1, r2⟩ := vals2 r
  cases (show u2 = Value.ref tp from r2)
  obtain ⟨P, Z, p, hx⟩ := kit_caught I r1 ca hc
  obtain ⟨_, its, rv, ob, g1, g2, n, g3⟩ := (show ObjOk X.prog X.w H s.heap tp (.tup cs) from I.hok tp _ hT)
  obtain rfl := ClsV.all k rv
  obtain ⟨oc, od, dt, sl⟩ := ob
  simp only at g2 g3
  subst g2 g3
  exact PySem.W.kia_tup Z I.kIn p g1 e hx fun tk => ⟨.bl b, H, I.tok tk, rfl, q⟩
end
end B

namespace B
open PySem PySem.Spec PyProof.Rows L2
open PySem.W (Frag)
section
/-! ### (v,) * n, any n -/
theorem tupMul_one (l : Addr) (its : Array Value) (n : Nat) (dd : Option Addr) (sl : Array (Option Value)) (u : Tok) :
    Meets (Builtin.«tuple.__mul__» ⟨[.ref l, .int 1 u], []⟩) (fun _ R s => s.heap.get? l = some { cls := .type "tuple", dict := dd, data := .seq its n, slots := sl } ∧ R (.ok (.ret (Value.ref l))) s) :=
  .of_wp fun prog w A R s h => by
    obtain ⟨hp, g, d, tk, os⟩ := s
    obtain ⟨hl, h⟩ := h
    have f1 := AutoSeq1.idx_int
    have c1 : (its.isEmpty || (1 : Int) == 1) = true := by simp
    wp_walk using wpAny_loadPart' hl
    exact ⟨_, rfl, h⟩
theorem tupMul_none (l : Addr) (its : Array Value) (n : Nat) (dd : Option Addr) (sl : Array (Option Value)) (k : Int) (u : Tok) (hk : k ≤ 0) (hk2 : -1000000 ≤ k) (hi : its.isEmpty = false) :
    Meets (Builtin.«tuple.__mul__» ⟨[.ref l, .int k u], []⟩) (fun _ R s => s.heap.get? l = some { cls := .type "tuple", dict := dd, data := .seq its n, slots := sl } ∧
      R (.ok (.ret (Value.ref s.heap.objs.size))) { s with heap := s.heap.push { cls := Value.type "tuple", data := Data.seq #[] }, toks := s.toks }) :=
  .of_wp fun prog w A R s h => by
    obtain ⟨hp, g, d, tk, os⟩ := s
    obtain ⟨hl, h⟩ := h
    have f1 := AutoSeq1.idx_int
    have c0 : (decide (k < -(2 ^ 63)) || decide (k ≥ 2 ^ 63)) = false := by rw [decide_eq_false (by omega), decide_eq_false (by omega)] <;> rfl
    have c1 : (its.isEmpty || k == 1) = false := by rw [hi, Bool.false_or]; exact beq_eq_false_iff_ne.mpr (by omega)
    have c2 : (decide (k ≤ 0) || its.isEmpty) = true := by rw [decide_eq_true hk]; rfl
    wp_walk using wpAny_loadPart' hl
    repeat (first
      | (refine wpAny_ite_false (decide_eq_false (by rw [c0]; exact Bool.false_ne_true)) ?_; wp_walk using wpAny_loadPart' hl)
      | (refine wpAny_ite_false (decide_eq_false (by rw [c1]; exact Bool.false_ne_true)) ?_; wp_walk using wpAny_loadPart' hl)
      | (refine wpAny_ite_true (decide_eq_true c2) ?_; wp_walk using wpAny_loadPart' hl))
    exact ⟨_, rfl, h⟩
end
/-- t * k of a tuple that isn't empty -/
def rRepTX (K : Frag) : R2 := fun x y H Q => ∃ l k xs, x = .ref l ∧ y = .int k ∧ H l = some (.tup xs) ∧ xs ≠ [] ∧ -1000 ≤ k ∧ k ≤ 1000 ∧ xs.length ≤ 1000 ∧
  ∀ p H', Ex H H' → H' p = some (.tup (List.replicate k.toNat xs).flatten) → Q (.ref p) H'
theorem op_repTX {X : Cx} : OpR X (binaryOp .Mult) (rRepTX X.K) := by
  intro pins s σ H x y v u Q I rx ry h
  obtain ⟨l, k, xs, rfl, rfl, hT, hne, h1, h2, hz, q⟩ := h
  by_cases k2 : 2 ≤ k
  · exact op_repT pins s σ H _ _ v u Q I rx ry ⟨l, k, xs, rfl, rfl, .inl (.inl hT), hne, k2, h2, hz, fun p hp => q p _ (Evl.Ex.new hp) upd_same⟩
  · cases rx
    obtain ⟨t, rfl⟩ := ry
    obtain ⟨hs, its, r, ⟨cls, dd, data, sl⟩, ho, hc, n, hd⟩ := (show ObjOk X.prog X.w H s.heap l (.tup xs) from I.hok l _ hT)
    simp only at hc hd
    subst hc hd
    have hle : its.length = xs.length := r.length.symm
    have hi : its.toArray.isEmpty = false := by
      cases its with
      | nil => exact absurd (List.eq_nil_of_length_eq_zero hle.symm) hne
      | cons a b => rfl
    have go : ∀ {P : Value → Shared → Prop}, wpAny (model X.prog X.w) X.A (call (.builtin "tuple.__mul__") [.ref l, .int k t]) P X.xe s → wpAny (model X.prog X.w) X.A (binaryOp .Mult (.ref l) (.int k t)) P X.xe s := fun {P} w =>
      wpAny_binaryOp_repeat_ref (T := "tuple") (U := "int") (by decide) ⟨_, ho, rfl⟩ (fun s' => typeIs_int s' k t) noFill_tuple_mul F.fills_int_mul F.slot_int_rmul repeat_tuple F.slot_int_index.lookup
        (call_meets F.slot_int_rmul (typeIs_int s k t) F.entry_int_rmul (F.args_int_rmul_2 _ _) (int_rmul_tuple k t l its.toArray n dd sl) ⟨ho, rfl, ⟨_, ho, rfl⟩, w⟩)
    by_cases k1 : k = 1
    · subst k1
      refine go (call_meets F.slot_tuple_mul ⟨_, ho, rfl⟩ F.entry_tuple_mul (F.args_tuple_mul_2 _ _) (tupMul_one l its.toArray n dd sl t) ⟨ho, ?_⟩)
      refine ⟨.ref l, H, I, rfl, q l H (Evl.Ex.refl H) ?_⟩
      rw [hT]
      simp
    · refine go (call_meets F.slot_tuple_mul ⟨_, ho, rfl⟩ F.entry_tuple_mul (F.args_tuple_mul_2 _ _) (tupMul_none l its.toArray n dd sl k t (by omega) (by omega) hi) ⟨ho, ?_⟩)
      have hn := I.hok.fresh (Nat.le_refl _)
      refine ⟨.ref s.heap.objs.size, _, I.laid (t' := s.toks) (o := .tup []) (fun b ob q => Heap.get?_push_of_some _ q) (Nat.le_refl _) ⟨Nat.zero_le _, [], .nil, IsTup.new _ _⟩, rfl, q _ _ (Evl.Ex.new hn) ?_⟩
      rw [upd_same, show k.toNat = 0 from by omega]
      rfl
section
/-! ### xs + ys of lists that are only read -/
theorem addL_meets (l b : Addr) (its its2 : Array Value) (n n2 : Nat) (dd dd2 : Option Addr) (sl sl2 : Array (Option Value)) (hz : its.size + its2.size ≤ sizeLine) :
    Meets (Builtin.«list.__add__» ⟨[.ref l, .ref b], []⟩) (fun _ R s => s.heap.get? l = some { cls := .type "list", dict := dd, data := .seq its n, slots := sl } ∧ s.heap.get? b = some { cls := .type "list", dict := dd2, data := .seq its2 n2, slots := sl2 } ∧
      R (.ok (.ret (Value.ref s.heap.objs.size))) { s with heap := s.heap.push { cls := Value.type "list", data := Data.seq (its ++ its2) }, toks := s.toks }) :=
  .of_wp fun prog w A R s h => by
    obtain ⟨hp, g, d, tk, os⟩ := s
    obtain ⟨hl, hb, h⟩ := h
    have f3 := AutoSeq1.sub_list_list
    wp_walk using wpAny_loadPart' hl, wpAny_loadPart' hb
    exact ⟨_, rfl, h⟩
end
def rCatR (K : Frag) : R2 := fun x y H Q => ∃ l b xs ys, x = .ref l ∧ y = .ref b ∧ SqL K H l xs ∧ SqL K H b ys ∧ xs.length + ys.length ≤ 1000000 ∧ ∀ p, H p = none → Q (.ref p) (upd H p (.lst (xs ++ ys)))
theorem op_catR {X : Cx} : OpR X (binaryOp .Add) (rCatR X.K) := by
  intro pins s σ H x y v u Q I rx ry h
  obtain ⟨l, b, xs, ys, rfl, rfl, h1, h2, hz, q⟩ := h
  cases rx
  cases ry
  obtain ⟨its, r1, ⟨⟨c1, d1, t1, s1⟩, n1, g1, e1, e2, e3⟩, _⟩ := I.list h1
  obtain ⟨its2, r2, ⟨⟨c2, d2, t2, s2⟩, n2, g2, e4, e5, e6⟩, _⟩ := I.list h2
  simp only at e1 e2 e3 e4 e5 e6
  subst e1 e2 e3 e4 e5 e6
  have hl1 := r1.length
  have hl2 := r2.length
  refine concat_meets ⟨_, g1, rfl⟩ ⟨_, g2, rfl⟩ noFill_list_add seq_list_add F.slot_list_add F.entry_list_add (F.args_list_add_2 _ _) (addL_meets l b its.toArray its2.toArray n1 n2 none none s1 s2 (by rw [List.size_toArray, List.size_toArray]; exact sz (by omega))) ⟨g1, g2, ?_⟩
  have ea : its.toArray ++ its2.toArray = (its ++ its2).toArray := by simp
  rw [ea]
  exact ⟨.ref _, _, I.lnew (t' := s.toks) (r1.append r2) (by rw [List.length_append]; exact sz hz), rfl, q _ I.fresh⟩
/-! ### name *= e, of ints -/
def ipM : TIp := fun x y H Q => ∃ i j, x = .int i ∧ y = .int j ∧ CMul i j ∧ Q (.int (i * j)) H
theorem ip_mul {X : Cx} : PIp X .Mult ipM := by
  intro pins s σ H x y v u Q I r1 r2 h
  obtain ⟨i, j, rfl, rfl, c, q⟩ := h
  obtain ⟨t, rfl⟩ := r1
  obtain ⟨t', rfl⟩ := r2
  exact imul_int ⟨.int _, H, I.tok _, ⟨_, rfl⟩, q⟩ c.ok
section
variable {X : Cx} {k i : Nat} {f : Addr} {x : Str} {p pos : Pos} {e : Expr} {es : List Expr} {t : TA}
/-! ### a call of a def that a local name holds, one of a family; what it raises is wished for at the caller's slots -/
def tCallF (i : Nat) (S : Addr → Sp → Prop) (E : L2.St → XK) (t : TA) : TE := fun σ H Q => ∃ f sp, σ[i]? = some (some (.ref f)) ∧ S f sp ∧ t σ H fun vs H1 => sp vs H1 Q (E σ)
/-- the defs of a family keep their promises -/
def Fam (P : Program) (w : World) (K : Frag) (mg : Str → Option Value) (base : Heap) (k : Nat) (S : Addr → Sp → Prop) : Prop :=
  ∀ f sp, S f sp → ∃ fd ps, FnOk P w K mg base (L2.CX P w) k f fd ps sp ∧ PySem.W.keepIn K (.ref f) = true ∧ Binds K fd ps []
theorem pe_callF {S : Addr → Sp → Prop} {E : L2.St → XK} {j : Nat} (A : Fam X.prog X.w X.K X.mg X.base j S) (hr : Room k X.A) (hx : ∀ σ, PassesAt (L2.CX X.prog X.w) X σ (E σ)) (ha : PA X (e :: es) t) (hj : j ≤ k := by decide) (hN : X.N[i]? = some x := by rfl)
    (hv : Vis X.env.scope x := by first | exact Or.inl rfl | exact Or.inr (Or.inl rfl) | exact Or.inr (Or.inr rfl)) (hdb : (x == ("__debug__" : Str)) = false := by decide) (hcd : (x == ("__classdict__" : Str)) = false := by decide)
    (he : starEach (e :: es) X.env = (false, eval e X.env) :: starEach es X.env := by rfl) (hpl : (backTo pos (starEach es X.env)).any (·.1) = false := by rfl) : PE X (.Call (.Name x p) (e :: es) [] pos) (tCallF i S E t) := by
  constructor
  intro pins s σ H Q I h
  obtain ⟨f, sp, hs, hS, ht⟩ := h
  obtain ⟨fd, ps, F, hk, hb⟩ := A f sp hS
  refine wpAny_Call_Name_kw (thn ((pe_var (pos := p) hN hv hdb hcd).run pins s σ H (fun v H1 => v = .ref f ∧ H1 = H) I ⟨.ref f, hs, rfl, rfl⟩) fun u s1 z => ?_)
  obtain ⟨v, H1, I1, r1, rfl, rfl⟩ := z
  cases r1
  exact PySem.W.callWith_K (h₀ := X.base) I.ok.mod.kin hk (thn (ha.run pos pins s1 σ _ _ I1 ht) fun us s2 z2 => by
    obtain ⟨vs, H2, I2, r, q⟩ := z2
    exact ⟨I2.kIn, run_fnS F (hr.mono hj) hb (hx σ) I2 r q⟩) he hpl
end
section
variable {K : Frag} {σ : L2.St} {H H' : Hp} {Q : VK} {i j : Nat} {v x y z : V} {ta tb te tl to ti : TE} {tt : TT} {t tr : TA} {b : Bool} {D : Ends} {ts : TS} {g : TG} {a l p : Addr} {xs ys : List V}
theorem x_ipM {m n : Int} (c : CMul m n) (q : Q (.int (m * n)) H) : ipM (.int m) (.int n) H Q := ⟨m, n, rfl, rfl, c, q⟩
theorem x_catR (h1 : SqL K H a xs) (h2 : SqL K H l ys) (hz : xs.length + ys.length ≤ 1000000) (q : ∀ p H', H p = none → Ex H H' → H' p = some (.lst (xs ++ ys)) → Q (.ref p) H') : rCatR K (.ref a) (.ref l) H Q := ⟨a, l, xs, ys, rfl, rfl, h1, h2, hz, x_new q⟩
theorem x_cat (h1 : H a = some (.lst xs)) (h2 : H l = some (.lst ys)) (hz : xs.length + ys.length ≤ 1000000) (q : ∀ p H', H p = none → Ex H H' → H' p = some (.lst (xs ++ ys)) → Q (.ref p) H') : rCat (.ref a) (.ref l) H Q := ⟨a, l, xs, ys, rfl, rfl, h1, h2, sz hz, x_new q⟩
/-- (v,) * n -/
theorem x_repT {n : Int} (h : H a = some (.tup [v])) (h0 : -1000 ≤ n) (h1 : n ≤ 1000) (q : ∀ p H', Ex H H' → H' p = some (.tup (List.replicate n.toNat v)) → Q (.ref p) H') : rRepTX K (.ref a) (.int n) H Q :=
  ⟨a, n, [v], rfl, rfl, h, by simp, h0, h1, by simp, fun p H' e hp => q p H' e (by rw [hp, List.flatten_replicate_singleton])⟩
/-- xs * n, n from 0 -/
theorem x_repL {n : Int} (hl : H l = some (.lst xs)) (h0 : -1000000 ≤ n) (h1 : n ≤ 1000) (hz : xs.length ≤ 1000) (q : ∀ p H', H p = none → Ex H H' → H' p = some (.lst ((List.replicate n.toNat xs).flatten)) → Q (.ref p) H') : rRep (.ref l) (.int n) H Q := by
  refine ⟨l, n, xs, rfl, rfl, hl, by omega, by omega, sz ?_, fun p hp => q p _ hp (Evl.Ex.new hp) upd_same⟩
  have : xs.length * n.toNat ≤ 1000 * 1000 := Nat.mul_le_mul hz (by omega)
  omega
def rInt1 : List V → Hp → VK → Prop := fun xs H Q => (∃ i, xs = [.int i] ∧ Q (.int i) H) ∨ ∃ k, xs = [.bl k] ∧ Q (.int (if k then 1 else 0)) H
theorem call_int1 {X : Cx} : CallR X (.type "int") rInt1 := L2.call_int1
theorem x_intB {c : Bool} (q : Q (.int (if c then 1 else 0)) H) : rInt1 [.bl c] H Q := .inr ⟨c, rfl, q⟩
theorem x_callF {S : Addr → Sp → Prop} {E : L2.St → XK} {f : Addr} {sp : Sp} (hs : σ[i]? = some (some (.ref f))) (hS : S f sp) (h : t σ H fun vs H1 => sp vs H1 Q (E σ)) : tCallF i S E t σ H Q := ⟨f, sp, hs, hS, h⟩
theorem x_un' {m : Int} (q : Q (.int (-m)) H) : rU (fun i => V.int (-i)) (.int m) H Q := ⟨m, rfl, q⟩
end
/-! ### classes by their names -/
def at_ (mg : Str → Option Value) (x : Str) : Addr := match mg x with
  | some (.ref a) => a
  | _ => 0
theorem at_of {mg : Str → Option Value} {x : Str} {C : Addr} (h : mg x = some (.ref C)) : at_ mg x = C := by
  unfold at_
  rw [h]
theorem m_of {mg : Str → Option Value} {x : Str} {C : Addr} (h : mg x = some (.ref C)) : mg x = some (.ref (at_ mg x)) := by
  rw [at_of h]
  exact h
theorem pe_cls {X : Cx} {x : Str} {C : Addr} {pos : Pos} (m : X.mg x = some (.ref C)) (hg : Gl X x := by rfl) (hd : (x == ("__debug__" : Str)) = false := by decide) : PE X (.Name x pos) (tC (.ref C)) := pe_glob hg m rfl hd
theorem Has.held {P : Program} {w : World} {K : Frag} {mg : Str → Option Value} {base : Heap} {x : Str} {j k : Nat} {ps : List Str} {sp : Sp} (h : Has P w K mg base x j ps sp) (hj : j ≤ k) :
    ∃ fd ps, FnOk P w K mg base (L2.CX P w) k (at_ mg x) fd ps sp ∧ PySem.W.keepIn K (.ref (at_ mg x)) = true ∧ Binds K fd ps [] := by
  obtain ⟨f, fd, F, m, kp, b⟩ := h
  rw [at_of m]
  exact ⟨fd, ps, F.mono hj, kp, b⟩
section
variable {X : Cx} {k j : Nat} {x : Str} {ps : List Str} {sp : Sp} {E : L2.St → XK} {p pos : Pos} {e : Expr} {es : List Expr} {t : TA}
theorem pe_hasS (h : Has X.prog X.w X.K X.mg X.base x j ps sp) (hr : Room k X.A) (hx : ∀ σ, PassesAt (L2.CX X.prog X.w) X σ (E σ)) (ha : PA X (e :: es) t) (hj : j ≤ k := by decide) (hg : Gl X x := by rfl)
    (hdb : (x == ("__debug__" : Str)) = false := by decide) (he : starEach (e :: es) X.env = (false, eval e X.env) :: starEach es X.env := by rfl) (hpl : (backTo pos (starEach es X.env)).any (·.1) = false := by rfl) :
    PE X (.Call (.Name x p) (e :: es) [] pos) (tCallS sp E t) := by
  obtain ⟨f, fd, F, m, kp, b⟩ := h
  exact pe_callS F (hr.mono hj) hg m kp b hx ha hdb he hpl
theorem x_callS {σ : L2.St} {H : Hp} {Q : VK} (h : t σ H fun vs H1 => sp vs H1 Q (E σ)) : tCallS sp E t σ H Q := h
end
section
variable {K : Frag} {H : Hp} {Q : VK} {x : V} {o : Option Addr}
theorem x_isiC {cv : V} {u : Value} {b : Bool} (k : ClsV cv u) (c : Caught K H x o) (hc : ∀ D, o = some D → ExcC K D) (e : PySem.W.kitOne K (clsOf o) u = some b) (q : Q (.bl b) H) : rIsiC K [x, cv] H Q := ⟨x, cv, o, u, b, rfl, k, c, hc, e, q⟩
theorem x_isiCT {tp : Addr} {cs : List V} {us : List Value} {b : Bool} (h : H tp = some (.tup cs)) (k : Paired ClsV cs us) (c : Caught K H x o) (hc : ∀ D, o = some D → ExcC K D) (e : PySem.W.kitAny K (clsOf o) us = some b) (q : Q (.bl b) H) : rIsiCT K [x, .ref tp] H Q :=
  ⟨x, tp, cs, o, us, b, rfl, h, k, c, hc, e, q⟩
end
/-! ### a comprehension whose items are new objects -/
theorem x_lcN {K : Frag} {σ : L2.St} {H : Hp} {Q : VK} {j : Nat} {te : TE} {a : Addr} {vs : List Nat} {α : Type} (as : List α) (f : α → V) (o : α → HO) (hl : SqL K H a (as.map f)) (hz : as.length ≤ 1000000) (hw : ∀ x, wipe ((wipe σ vs).set j (some x)) vs = wipe σ vs)
    (he : ∀ x ∈ as, ∀ H', Ex H H' → ∀ Q' : VK, (∀ p H2, H' p = none → Ex H' H2 → H2 p = some (o x) → Q' (.ref p) H2) → te ((wipe σ vs).set j (some (f x))) H' Q')
    (q : ∀ D H2 (ps : List Addr), H D = none → Ex H H2 → H2 D = some (.lst (ps.map V.ref)) → ps.length = as.length → (∀ (i : Nat) (x : α) (p : Addr), as[i]? = some x → ps[i]? = some p → H2 p = some (o x)) → Q (.ref D) H2) :
    ∃ b, V.ref a = .ref b ∧ (∃ xs, SqL K H b xs) ∧ LcRun (gName j) tYes te vs σ Q (Itl K b) H := by
  refine ⟨a, rfl, ⟨_, hl⟩, fun Dl hD => lc_list (xs := as.map f) (fun k H' => Ex H H' ∧ ∃ ps : List Addr, H' Dl = some (.lst (ps.map V.ref)) ∧ ps.length = k ∧ ∀ (i : Nat) (x : α) (p : Addr), as[i]? = some x → ps[i]? = some p → p ≠ Dl ∧ H' p = some (o x))
    ⟨Evl.Ex.new hD, [], by rw [upd_same]; rfl, rfl, fun i x p _ h => by simp at h⟩ (fun k H' _ pp => Evl.ex_l pp.1 hl) (fun k x H' hx pp => ?_) fun H' pp => ?_⟩
  · rw [List.getElem?_map] at hx
    cases ex : as[k]? with
    | none => rw [ex] at hx; cases hx
    | some n =>
      rw [ex] at hx
      cases hx
      have hk : k < as.length := (List.getElem?_eq_some_iff.mp ex).1
      obtain ⟨e1, ps, hps, hlen, hall⟩ := pp
      refine ⟨hw _, ?_⟩
      refine x_true (B := True) ?_
      refine he n (List.mem_of_getElem? ex) H' e1 _ fun p H2 p0 e2 hp => ?_
      have npD : p ≠ Dl := Ne.symm (ne_of_none hps p0)
      refine ⟨_, e2 _ _ hps, by rw [List.length_map, hlen]; exact szl (by omega), Evl.Ex.mut (e1.trans e2) hD, ps ++ [p], by rw [upd_same, List.map_append]; rfl, by rw [List.length_append, hlen]; rfl, fun i y r hi hr => ?_⟩
      by_cases h : i < ps.length
      · rw [List.getElem?_append_left h] at hr
        obtain ⟨h1, h2⟩ := hall i y r hi hr
        exact ⟨h1, by rw [upd_ne h1]; exact e2 _ _ h2⟩
      · have h2 := (List.getElem?_eq_some_iff.mp hr).1
        rw [List.length_append, List.length_singleton] at h2
        have h3 : i = ps.length := by omega
        subst h3
        rw [List.getElem?_append_right (Nat.le_refl _), Nat.sub_self] at hr
        cases hr
        rw [hlen, ex] at hi
        cases hi
        exact ⟨npD, by rw [upd_ne npD]; exact hp⟩
  · obtain ⟨e1, ps, hps, hlen, hall⟩ := pp
    rw [List.length_map] at hlen
    exact q Dl H' ps hD e1 hps hlen fun i x p hi hp => (hall i x p hi hp).2
theorem at2 {x y : V} {k : Int} (h0 : 0 ≤ k) (h : k < 2) : ∃ v, atI [x, y] k = some v ∧ (v = x ∨ v = y) := by
  rcases (by omega : k = 0 ∨ k = 1) with rfl | rfl
  · exact ⟨x, rfl, .inl rfl⟩
  · exact ⟨y, rfl, .inr rfl⟩
end B

namespace B
open PySem PySem.Spec PyProof.Rows L2
open PySem.W (Frag)
theorem boot_ValueError : bootBuiltins "ValueError" = some (.type "ValueError") := by decide +kernel
/-! ### list(range(a, b, -1)) -/
/-- a, a - 1, .., b + 1 -/
def downs (a b : Int) : List Int := (List.range (a - b).toNat).map fun i => a - (i : Nat)
theorem downs_len (a b : Int) : (downs a b).length = (a - b).toNat := by unfold downs; rw [List.length_map, List.length_range]
def rDownL (Q : VK) : List V → Hp → Prop := fun vs H1 => ∃ i j, vs = [.int i, .int j, .int (-1)] ∧ i ≤ 1000000 ∧ -1000000 ≤ i ∧ j ≤ 1000000 ∧ -1000000 ≤ j ∧ ∀ p, H1 p = none → Q (.ref p) (upd H1 p (.lst ((downs i j).map V.int)))
def tLstDn (ta : TA) : TE := fun σ H Q => ta σ H (rDownL Q)
section
variable {X : Cx} {a b c : Expr} {ta : TA} {p pos p2 pos2 : Pos}
theorem pe_listDn (hc : X.calm = true) (hg : Gl X "list") (hm : X.mg "list" = none) (hg2 : Gl X "range") (hm2 : X.mg "range" = none) (ha : PA X [a, b, c] ta)
    (na : starEach [.Call (.Name "range" p2) [a, b, c] [] pos2] X.env = (false, eval (.Call (.Name "range" p2) [a, b, c] [] pos2) X.env) :: starEach [] X.env := by rfl)
    (hs : starEach [a, b, c] X.env = (false, eval a X.env) :: starEach [b, c] X.env := by rfl) (hpl : (backTo pos2 (starEach [b, c] X.env)).any (·.1) = false := by rfl) :
    PE X (.Call (.Name "list" p) [.Call (.Name "range" p2) [a, b, c] [] pos2] [] pos) (tLstDn ta) := by
  refine ⟨fun pins s σ H Q I h => ?_⟩
  refine Call_ (ld_blt I hg hm boot_list (PyProof.Rows.callWith_type1 (args_cons ?_ na) na))
  refine Call_ (ld_blt I hg2 hm2 boot_range (PyProof.Rows.callWith_type1 (thn (ha.run pos2 pins s σ H _ I h) fun us s1 ⟨vs, H1, I1, r1, q1⟩ => ?_) hs hpl))
  obtain ⟨i, j, e, i1, i2, j1, j2, q⟩ := q1
  subst e
  cases r1 with
  | cons r rr =>
    cases rr with
    | cons r' rr =>
      cases rr with
      | cons r'' rr =>
        cases rr
        obtain ⟨t, rfl⟩ := r
        obtain ⟨t', rfl⟩ := r'
        obtain ⟨t'', rfl⟩ := r''
        refine call_range_3 (by decide) ?_ (.inl (PyProof.noPylong_small (by decide)))
        refine args_nil ?_
        have I2 : Inv X pins σ H1 { s1 with heap := s1.heap.push { cls := .type "range", data := .fields #[.int i t, .int j t', .int (-1) t''] } } := I1.kept (t' := s1.toks) fun b o e => Heap.get?_push_of_some _ e
        refine call_list_range (n := (i - j).toNat) (I2.ok.hd hc) (IsRange.new ..) (PySem.W.small_down (by omega) (by omega) (by omega) (by omega)) (PySem.W.rangeSize_downNat i j) (by omega) fun h' tk acc c' hk e' hi => ?_
        refine ⟨.ref _, upd H1 _ (.lst ((downs i j).map V.int)), I2.laid hk (Nat.le_refl _) (show ObjOk X.prog X.w _ _ _ (.lst ((downs i j).map V.int)) from ⟨?_, acc.toList, c', ?_, ?_⟩), rfl, q _ (I2.hok.fresh (Nat.le_refl _))⟩
        · rw [List.length_map, downs_len]
          rw [sizeLine_eq]
          omega
        · have el : acc.toList.length = (i - j).toNat := by rw [Array.length_toList]; exact hi.1
          unfold downs
          rw [List.map_map, ← el]
          refine vals_of_get acc.toList _ fun k u hu => ?_
          obtain ⟨z, rfl⟩ := hi.2 k u (by rw [← hu, Array.getElem?_toList])
          refine ⟨z, ?_⟩
          show Value.int (i + (k : Nat) * -1) z = Value.int (i - (k : Nat)) z
          rw [show i + ((k : Nat) : Int) * -1 = i - (k : Nat) from by omega]
        · rw [Array.toArray_toList]; exact e'
end
section
variable {K : Frag} {σ : L2.St} {H H' : Hp} {Q : VK} {ta : TA}
theorem x_callF2 {i j k : Nat} {S : Addr → Sp → Prop} {E : L2.St → XK} {f : Addr} {x y : V} (hf : σ[i]? = some (some (.ref f))) (hx : σ[j]? = some (some x)) (hy : σ[k]? = some (some y)) (h : ∃ sp, S f sp ∧ sp [x, y] H Q (E σ)) :
    tCallF i S E (tCons (tVar j) (tCons (tVar k) tNil)) σ H Q := by
  obtain ⟨sp, h1, h2⟩ := h
  exact ⟨f, sp, hf, h1, x, hx, y, hy, h2⟩
theorem x_neD {x y : V} {d e : PyData} {b : Bool} (hd : Dp K H x d) (he : Dp K H y e) (sd : SeqAt.shaped d = true) (se : SeqAt.shaped e = true) (hb : PyData.eqv d e = b) (q : Q (.bl (!b)) H) : rNeD K x y H Q := ⟨d, e, hd, he, sd, se, by rw [hb]; exact q⟩
/-- an exception of the class: kept, the suite's end is what comes next -/
theorem x_kept {i j : Nat} {c cls : Value} {Wout : WX} {D : Ends} (e : PySem.W.exmOne K cls c = some true) (q : ∀ a H', H a = none → Ex H H' → H' a = some (ExC a cls none) → D.nx (((σ.set i (some (.ref a))).set j (some (.ref a))).set i none) H') : WE (wKeep K c i j Wout D) σ cls none H :=
  ⟨true, e, fun _ a h0 => q a _ h0 (Evl.Ex.new h0) upd_same, fun z => nomatch z⟩
theorem x_inL {x : V} {l : Addr} {xs : List V} (h : SqL K H l xs) (hx : flatV x = true) {b : Bool} (hs : xs.all flatV = true) (e : inV x xs = b) (q : Q (.bl b) H) : rIn K false x (.ref l) H Q := ⟨l, xs, rfl, .inl h, hx, hs, by rw [← e] at q; exact q⟩
theorem x_lstDn (h : ta σ H (rDownL Q)) : tLstDn ta σ H Q := h
theorem x_downs {m n : Int} (hm : m ≤ 1000000 ∧ -1000000 ≤ m) (hn : n ≤ 1000000 ∧ -1000000 ≤ n) (q : ∀ p H', H p = none → Ex H H' → H' p = some (.lst ((downs m n).map V.int)) → Q (.ref p) H') : rDownL Q [.int m, .int n, .int (-1)] H :=
  ⟨m, n, rfl, hm.1, hm.2, hn.1, hn.2, fun p hp => q p _ hp (Evl.Ex.new hp) (by rw [upd_same])⟩
end
end B

namespace My
open PySem PySem.Spec PyProof.Rows L2 B
/-! ### the steps' rows -/
local macro_rules | `(tactic| walk_at "hx") => `(tactic| first
  | assumption
  | exact Evl.Ex.refl _
  | exact Upd.same (by assumption)
  | ((with_reducible refine' exg (by assumption) ?k1); (case k1 => walk_at "hx"))
  | ((with_reducible refine' Upd.get (by assumption) (by walk_at "ne") ?k1); (case k1 => walk_at "hx"))
  | ((with_reducible refine' Evl.Ex.trans ?k1 (by assumption)); (case k1 => walk_at "hx"))
  | ((with_reducible refine' Upd.ex (by assumption) ?k1 (by first | assumption | exact exn (by assumption) (by assumption))); (case k1 => walk_at "hx"))
  | ((with_reducible refine' Sq.l ?k1); (case k1 => walk_at "hx"))
  | ((with_reducible refine' Sq.t ?k1); (case k1 => walk_at "hx"))
  | ((with_reducible refine' Or.inl ?k1); (case k1 => walk_at "hx"))
  | ((with_reducible refine' Or.inr ?k1); (case k1 => walk_at "hx"))
  | ((with_reducible refine' Evl.sq_of ?k1); (case k1 => walk_at "hx"))
  | ((with_reducible refine' Evl.st_of ?k1); (case k1 => walk_at "hx"))
  | ((with_reducible refine' Evl.ex_l (by assumption) ?k1); (case k1 => walk_at "hx"))
  | ((with_reducible refine' Evl.ex_t (by assumption) ?k1); (case k1 => walk_at "hx"))
  | ((with_reducible refine' Sq.ex (by assumption) ?k1); (case k1 => walk_at "hx"))
  | ((with_reducible refine' Wishes.ex (by assumption) ?k1); (case k1 => walk_at "hx")))
local macro_rules | `(tactic| walk_at "ne") => `(tactic| first
  | assumption
  | exact Ne.symm (by assumption)
  | exact ne_of_none (by assumption) (by assumption)
  | exact Ne.symm (ne_of_none (by assumption) (by assumption)))
local macro_rules | `(tactic| walk_at "goa") => `(tactic| first
  | with_reducible refine x_nx ?_
  | with_reducible refine x_seq ?_
  | with_reducible refine x_next ?_
  | with_reducible refine x_rt ?_
  | with_reducible refine x_asg ?_
  | with_reducible refine x_ret ?_
  | with_reducible refine x_gName ?_
  | with_reducible refine x_ifS ?_
  | with_reducible refine x_drop ?_
  | ((with_reducible refine' x_var ?k1 ?_); (case k1 => exact rfl))
  | with_reducible refine x_c ?_
  | with_reducible refine x_op ?_
  | with_reducible refine x_tup ?_
  | with_reducible refine x_lst ?_
  | with_reducible refine x_for ?_
  | with_reducible refine x_lc ?_
  | with_reducible refine x_iList ?_
  | with_reducible refine x_iTup ?_
  | with_reducible refine x_iZip ?_
  | with_reducible refine x_iRng3 ?_
  | with_reducible refine x_iEnum ?_
  | with_reducible refine x_augS ?_
  | with_reducible refine x_isB ?_
  | with_reducible refine x_revL ?_
  | with_reducible refine x_iRng1 ?_
  | with_reducible refine x_iRng2 ?_
  | with_reducible refine x_un ?_
  | with_reducible refine x_rI0 ?_
  | ((with_reducible refine x_rEq ?k1 ?_); (case k1 => exact rfl))
  | ((with_reducible refine x_rNe ?k1 ?_); (case k1 => exact rfl))
  | with_reducible refine x_rU ?_
  | with_reducible refine x_nil ?_
  | with_reducible refine x_cons ?_
  | with_reducible refine x_CB ?_
  | with_reducible refine x_call ?_
  | with_reducible refine x_test ?_
  | with_reducible refine x_B ?_
  | with_reducible refine x_bl ?_
  | with_reducible refine x_and ?_
  | with_reducible refine x_or ?_
  | with_reducible refine x_not ?_
  | with_reducible refine x_andV ?_
  | with_reducible refine x_orV ?_
  | with_reducible refine x_notV ?_
  | with_reducible refine x_blV ?_
  | with_reducible refine x_if ?_
  | with_reducible refine x_isN ?_
  | with_reducible refine x_notN ?_
  | with_reducible refine x_BM ?_
  | with_reducible refine x_BM0 ?_
  | with_reducible refine x_asgG ?_
  | with_reducible refine x_gSub ?_
  | with_reducible refine x_dIn ?_
  | with_reducible refine x_dNotIn ?_
  | with_reducible refine x_dGet ?_
  | with_reducible refine x_dPut ?_
  | with_reducible refine x_lstRg ?_
  | with_reducible refine x_rg1 ?_
  | with_reducible refine x_rg2 ?_
  | with_reducible refine x_CKw ?_
  | with_reducible refine x_sl ?_
  | with_reducible refine x_noPart ?_
  | with_reducible refine x_part ?_
  | with_reducible refine x_partI ?_
  | ((with_reducible refine' x_aug ?k1 ?_); (case k1 => exact rfl))
  | with_reducible refine x_ipI ?_
  | ((with_reducible refine' x_onL ?k1 ?_); (case k1 => walk_at "hx"))
  | ((with_reducible refine' x_onL0 ?k1 ?_); (case k1 => walk_at "hx"))
  | ((with_reducible refine' x_len ?k1 ?_); (case k1 => walk_at "hx"))
  | ((with_reducible refine' x_inI ?k1 ?_); (case k1 => walk_at "hx"))
  | ((with_reducible refine' x_inS ?k1 ?_); (case k1 => walk_at "hx"))
  | ((with_reducible refine' x_notInI ?k1 ?_); (case k1 => walk_at "hx"))
  | ((with_reducible refine' x_notInS ?k1 ?_); (case k1 => walk_at "hx"))
  | with_reducible refine x_brk ?_
  | with_reducible refine x_cont ?_
  | with_reducible refine x_true ?_
  | with_reducible refine x_false ?_)
local macro_rules | `(tactic| walk_at "go") => `(tactic| repeat walk_at "goa")


def top (i : Nat) : Stmt := PySem.Challenge.pw_berthrow_k06_how_many.main.body.getD i (.Pass ⟨0, 0, 0, 0⟩)
abbrev s_is_number : Stmt := top 10
abbrev n_is_number : List Str := ["thing", "least", "most"]
theorem sc_is_number : FnScope n_is_number ["thing", "least", "most"] (defScope s_is_number) := ⟨rfl, rfl, rfl, by decide +kernel, rfl, by decide +kernel, by decide +kernel⟩
abbrev s_need_quay : Stmt := top 11
abbrev n_need_quay : List Str := ["berths"]
theorem sc_need_quay : FnScope n_need_quay ["berths"] (defScope s_need_quay) := ⟨rfl, rfl, rfl, by decide +kernel, rfl, by decide +kernel, by decide +kernel⟩
abbrev s_how_many : Stmt := top 13
abbrev n_how_many : List Str := ["berths", "ships", "many", "turn"]
theorem sc_how_many : FnScope n_how_many ["berths", "ships"] (defScope s_how_many) := ⟨rfl, rfl, rfl, by decide +kernel, rfl, by decide +kernel, by decide +kernel⟩
abbrev s_need_ships : Stmt := top 14
abbrev n_need_ships : List Str := ["berths", "ships"]
theorem sc_need_ships : FnScope n_need_ships ["berths", "ships"] (defScope s_need_ships) := ⟨rfl, rfl, rfl, by decide +kernel, rfl, by decide +kernel, by decide +kernel⟩
abbrev s_first_row : Stmt := top 15
abbrev n_first_row : List Str := ["berths", "ships"]
theorem sc_first_row : FnScope n_first_row ["berths", "ships"] (defScope s_first_row) := ⟨rfl, rfl, rfl, by decide +kernel, rfl, by decide +kernel, by decide +kernel⟩
abbrev s_last_row : Stmt := top 16
abbrev n_last_row : List Str := ["berths", "ships", "ship"]
theorem sc_last_row : FnScope n_last_row ["berths", "ships"] (defScope s_last_row) := ⟨rfl, rfl, rfl, by decide +kernel, rfl, by decide +kernel, by decide +kernel⟩
abbrev s__law_cell_at : Stmt := top 18
abbrev n__law_cell_at : List Str := ["_law_script", "_law_k"]
theorem sc__law_cell_at : FnScope n__law_cell_at ["_law_script", "_law_k"] (defScope s__law_cell_at) := ⟨rfl, rfl, rfl, by decide +kernel, rfl, by decide +kernel, by decide +kernel⟩
abbrev s__law_whole : Stmt := top 19
abbrev n__law_whole : List Str := ["_law_found"]
theorem sc__law_whole : FnScope n__law_whole ["_law_found"] (defScope s__law_whole) := ⟨rfl, rfl, rfl, by decide +kernel, rfl, by decide +kernel, by decide +kernel⟩
abbrev s__law_due : Stmt := top 20
abbrev n__law_due : List Str := ["_law_berths", "_law_ships", "_law_many", "_law_k"]
theorem sc__law_due : FnScope n__law_due ["_law_berths", "_law_ships"] (defScope s__law_due) := ⟨rfl, rfl, rfl, by decide +kernel, rfl, by decide +kernel, by decide +kernel⟩
abbrev s__law_caught : Stmt := top 21
abbrev n__law_caught : List Str := ["_law_act", "_law_berths", "_law_ships", "_law_caught_here", "e", "_law_kinds"]
theorem sc__law_caught : FnScope n__law_caught ["_law_act", "_law_berths", "_law_ships"] (defScope s__law_caught) := ⟨rfl, rfl, rfl, by decide +kernel, rfl, by decide +kernel, by decide +kernel⟩
abbrev s_law : Stmt := top 22
abbrev n_law : List Str := ["_law_script", "_law_cell", "_law_berths", "_law_ships", "_law_found", "_law_act", "_law_odd"]
theorem sc_law : FnScope n_law ["_law_script"] (defScope s_law) := ⟨rfl, rfl, rfl, by decide +kernel, rfl, by decide +kernel, by decide +kernel⟩
structure Nms (K : PySem.W.Frag) (mg : Str → Option Value) : Prop where
  n_len : mg "len" = none
  n_isinstance : mg "isinstance" = none
  n_max : mg "max" = none
  n_range : mg "range" = none
  n_int : mg "int" = none
  n_bool : mg "bool" = none
  n_list : mg "list" = none
  n_tuple : mg "tuple" = none
  n_ValueError : mg "ValueError" = none
  c_MOST : B.Const mg "MOST" (.int 400)
  x_NoQuay : B.Err K mg "NoQuay"
  x_NoCount : B.Err K mg "NoCount"
  m_how_many : mg "how_many" = some (.ref (B.at_ mg "how_many"))
  m_first_row : mg "first_row" = some (.ref (B.at_ mg "first_row"))
  m_last_row : mg "last_row" = some (.ref (B.at_ mg "last_row"))
  m_BerthError : mg "BerthError" = some (.ref (B.at_ mg "BerthError"))
  m_NoOrder : mg "NoOrder" = some (.ref (B.at_ mg "NoOrder"))
  m_NoTree : mg "NoTree" = some (.ref (B.at_ mg "NoTree"))
  m_NoWishes : mg "NoWishes" = some (.ref (B.at_ mg "NoWishes"))
  m_TooMany : mg "TooMany" = some (.ref (B.at_ mg "TooMany"))
  m_NoQuay : mg "NoQuay" = some (.ref (B.at_ mg "NoQuay"))
  m_NoCount : mg "NoCount" = some (.ref (B.at_ mg "NoCount"))
  k_NoQuay : ExcC K (B.at_ mg "NoQuay")
  e_NoQuay : PySem.W.exmOne K (.ref (B.at_ mg "NoQuay")) (.ref (B.at_ mg "BerthError")) = some true
  k_NoCount : ExcC K (B.at_ mg "NoCount")
  e_NoCount : PySem.W.exmOne K (.ref (B.at_ mg "NoCount")) (.ref (B.at_ mg "BerthError")) = some true
  i_NoQuay_NoOrder : PySem.W.kitOne K (.ref (B.at_ mg "NoQuay")) (.ref (B.at_ mg "NoOrder")) = some false
  i_NoQuay_NoTree : PySem.W.kitOne K (.ref (B.at_ mg "NoQuay")) (.ref (B.at_ mg "NoTree")) = some false
  i_NoQuay_NoWishes : PySem.W.kitOne K (.ref (B.at_ mg "NoQuay")) (.ref (B.at_ mg "NoWishes")) = some false
  i_NoQuay_TooMany : PySem.W.kitOne K (.ref (B.at_ mg "NoQuay")) (.ref (B.at_ mg "TooMany")) = some false
  i_NoQuay_ValueError : PySem.W.kitOne K (.ref (B.at_ mg "NoQuay")) (.type "ValueError") = some true
  i_NoQuay_NoQuay : PySem.W.kitOne K (.ref (B.at_ mg "NoQuay")) (.ref (B.at_ mg "NoQuay")) = some true
  i_NoQuay_NoCount : PySem.W.kitOne K (.ref (B.at_ mg "NoQuay")) (.ref (B.at_ mg "NoCount")) = some false
  i_NoCount_NoOrder : PySem.W.kitOne K (.ref (B.at_ mg "NoCount")) (.ref (B.at_ mg "NoOrder")) = some false
  i_NoCount_NoTree : PySem.W.kitOne K (.ref (B.at_ mg "NoCount")) (.ref (B.at_ mg "NoTree")) = some false
  i_NoCount_NoWishes : PySem.W.kitOne K (.ref (B.at_ mg "NoCount")) (.ref (B.at_ mg "NoWishes")) = some false
  i_NoCount_TooMany : PySem.W.kitOne K (.ref (B.at_ mg "NoCount")) (.ref (B.at_ mg "TooMany")) = some false
  i_NoCount_ValueError : PySem.W.kitOne K (.ref (B.at_ mg "NoCount")) (.type "ValueError") = some true
  i_NoCount_NoQuay : PySem.W.kitOne K (.ref (B.at_ mg "NoCount")) (.ref (B.at_ mg "NoQuay")) = some false
  i_NoCount_NoCount : PySem.W.kitOne K (.ref (B.at_ mg "NoCount")) (.ref (B.at_ mg "NoCount")) = some true
  i_none_NoOrder : PySem.W.kitOne K (.type "NoneType") (.ref (B.at_ mg "NoOrder")) = some false
  i_none_NoTree : PySem.W.kitOne K (.type "NoneType") (.ref (B.at_ mg "NoTree")) = some false
  i_none_NoWishes : PySem.W.kitOne K (.type "NoneType") (.ref (B.at_ mg "NoWishes")) = some false
  i_none_TooMany : PySem.W.kitOne K (.type "NoneType") (.ref (B.at_ mg "TooMany")) = some false
  i_none_ValueError : PySem.W.kitOne K (.type "NoneType") (.type "ValueError") = some false
  i_none_NoQuay : PySem.W.kitOne K (.type "NoneType") (.ref (B.at_ mg "NoQuay")) = some false
  i_none_NoCount : PySem.W.kitOne K (.type "NoneType") (.ref (B.at_ mg "NoCount")) = some false
/-! ### promises of the program: numbers, quays, wishes -/
open PySem PySem.Spec PyProof.Rows L2 B
/-- an exception of the class x leaves -/
def Bad (mg : Str → Option Value) (x : Str) (H : Hp) (E : XK) : Prop := ∀ (C : Addr) (H' : Hp), mg x = some (.ref C) → Ex H H' → E (.ref C) none H'
theorem Bad.ex {mg : Str → Option Value} {x : Str} {H H' : Hp} {E : XK} (e : Ex H H') (b : Bad mg x H E) : Bad mg x H' E := fun C H2 m e2 => b C H2 m (e.trans e2)
def sp_is_number (K : PySem.W.Frag) : Sp := fun vs H Q _ => ∃ x s lo hi, vs = [x, .int lo, .int hi] ∧ Kind K H x s ∧ Q (.bl (inB x lo hi)) H
def sp_need_quay (K : PySem.W.Frag) (mg : Str → Option Value) : Sp := fun vs H Q E => ∃ b s, vs = [b] ∧ Kind K H b s ∧ (inB b 1 400 = true → Q .non H) ∧ (inB b 1 400 = false → Bad mg "NoQuay" H E)
theorem has_is_number {P : Program} {w : World} {K : PySem.W.Frag} {mg : Str → Option Value} {base : Heap} (S : B.Stands K mg "is_number" s_is_number) (N : Nms K mg)  : B.Has P w K mg base "is_number" 1 ["thing", "least", "most"] (sp_is_number K) := by
  refine B.has_ofN S sc_is_number (fun _ _ _ _ _ _ us hl => match us, hl with | [_, _, _], _ => rfl) (fun vs H Q E h => ?_)
    (fun f cdv A outer s H vs Q E hr h => ⟨_, (pss_one (ps_ret (pe_and (pe_callB (r := rIsi K) call_isi (by rfl) N.n_isinstance B.boot_isinstance (pa_cons (pv 0) (pa_cons (pe_bltn (v := .ty "int") (by rfl) N.n_int B.boot_int rfl) pa_nil))) (pe_and (pe_not (pe_callB (r := rIsi K) call_isi (by rfl) N.n_isinstance B.boot_isinstance (pa_cons (pv 0) (pa_cons (pe_bltn (v := .ty "bool") (by rfl) N.n_bool B.boot_bool rfl) pa_nil)))) (pe_and (pe_cmpR op_le (pv 1) (pv 0) (nomark _)) (pe_one (pe_cmpR op_le (pv 0) (pv 2) (nomark _)))))))), ?_⟩)
  · obtain ⟨x, s, lo, hi, rfl, _⟩ := h
    rfl
  · obtain ⟨x, s, lo, hi, rfl, k, q⟩ := h
    walk_at "go"
    have no : s.isA "int" = false → inB x lo hi = false := by intro e; cases k <;> first | rfl | (exact absurd e (by decide))
    have bo : s.isA "bool" = true → inB x lo hi = false := by intro e; cases k <;> first | rfl | (exact absurd e (by decide))
    have yes : s.isA "int" = true → s.isA "bool" = false → ∃ i, x = .int i := by
      intro e e2
      cases k <;> first | exact ⟨_, rfl⟩ | (exact absurd e (by decide)) | (exact absurd e2 (by decide))
    refine x_isi_int k ?_
    walk_at "go"
    refine x_b (fun e => ?_) (fun e => ?_)
    · walk_at "go"
      refine x_isi_bool k ?_
      walk_at "go"
      refine x_bN (fun e2 => ?_) (fun e2 => ?_)
      · obtain ⟨i, rfl⟩ := yes e e2
        walk_at "go"
        refine x_dec (fun c => ?_) (fun c => ?_)
        · walk_at "go"
          rw [show inB (.int i) lo hi = decide (i ≤ hi) from by simp [inB, c]] at q
          exact q
        · walk_at "go"
          rw [show inB (.int i) lo hi = false from by simp [inB, c]] at q
          exact q
      · rw [bo e2] at q
        exact q
    · rw [no e] at q
      exact q

theorem has_need_quay {P : Program} {w : World} {K : PySem.W.Frag} {mg : Str → Option Value} {base : Heap} (S : B.Stands K mg "need_quay" s_need_quay) (N : Nms K mg) (h_is_number : B.Has P w K mg base "is_number" 1 ["thing", "least", "most"] (sp_is_number K)) : B.Has P w K mg base "need_quay" 2 ["berths"] (sp_need_quay K mg) := by
  refine B.has_of S sc_need_quay (fun _ _ _ _ _ _ us hl => match us, hl with | [_], _ => rfl) (fun vs H Q E h => ?_)
    (fun f cdv A outer s H vs Q E hr h => ⟨_, (pss_one (ps_if (pt_not (pt_val (B.pe_has h_is_number hr B.passL (pa_cons (pv 0) (pa_cons pe_int (pa_cons (B.pe_const N.c_MOST) pa_nil)))))) (pss_one (ps_raise rfl (takes_of rfl rfl rfl rfl) (B.pmk N.x_NoQuay))) pss_nil)), ?_⟩)
  · obtain ⟨b, s, rfl, _⟩ := h
    rfl
  · obtain ⟨b, s, rfl, k, q1, q2⟩ := h
    walk_at "go"
    refine ⟨b, s, 1, 400, rfl, k, ?_⟩
    walk_at "go"
    refine x_bN (fun e => ?_) (fun e => ?_)
    · walk_at "go"
      exact fun C m => q2 e C H m (Evl.Ex.refl H)
    · walk_at "go"
      exact q1 e


/-! ### how many good wishes, the first and the last -/
def howMany (n m : Int) : Int := if m = 0 then 1 else (if n + 1 - m > 0 then n + 1 - m else 0) * (n + 1) ^ (m - 1).toNat
def CountAsk (K : PySem.W.Frag) (mg : Str → Option Value) (H : Hp) (E : XK) (b x : V) (due : Int → Int → Prop) : Prop := ∃ s s', Kind K H b s ∧ Kind K H x s' ∧
  ((inB b 1 400 = false ∧ Bad mg "NoQuay" H E) ∨ ∃ n, b = .int n ∧ 1 ≤ n ∧ n ≤ 400 ∧ ((inB x 0 400 = false ∧ Bad mg "NoCount" H E) ∨ ∃ m, x = .int m ∧ 0 ≤ m ∧ m ≤ 400 ∧ due n m))
theorem CountAsk.imp {K : PySem.W.Frag} {mg : Str → Option Value} {H : Hp} {E : XK} {b x : V} {due due' : Int → Int → Prop} (h : CountAsk K mg H E b x due) (f : ∀ n m, b = .int n → x = .int m → 1 ≤ n → n ≤ 400 → 0 ≤ m → m ≤ 400 → due n m → due' n m) : CountAsk K mg H E b x due' := by
  obtain ⟨s, s', k, k', h⟩ := h
  refine ⟨s, s', k, k', ?_⟩
  rcases h with h | ⟨n, rfl, n1, n2, h⟩
  · exact .inl h
  · refine .inr ⟨n, rfl, n1, n2, ?_⟩
    rcases h with h | ⟨m, rfl, m1, m2, h⟩
    · exact .inl h
    · exact .inr ⟨m, rfl, m1, m2, f n m rfl rfl n1 n2 m1 m2 h⟩
theorem CountAsk.ok {K : PySem.W.Frag} {mg : Str → Option Value} {H : Hp} {E : XK} {n m : Int} {due : Int → Int → Prop} (n1 : 1 ≤ n) (n2 : n ≤ 400) (m1 : 0 ≤ m) (m2 : m ≤ 400) (h : due n m) : CountAsk K mg H E (.int n) (.int m) due :=
  ⟨_, _, .int n, .int m, .inr ⟨n, rfl, n1, n2, .inr ⟨m, rfl, m1, m2, h⟩⟩⟩
theorem CountAsk.len {K : PySem.W.Frag} {mg : Str → Option Value} {H : Hp} {E : XK} {vs : List V} {due : V → V → Int → Int → Prop} (h : ∃ b x, vs = [b, x] ∧ CountAsk K mg H E b x (due b x)) : vs.length = 2 := by
  obtain ⟨b, x, rfl, _⟩ := h
  rfl
def sp_how_many (K : PySem.W.Frag) (mg : Str → Option Value) : Sp := fun vs H Q E => ∃ b x, vs = [b, x] ∧ CountAsk K mg H E b x fun n m => ∀ H', Ex H H' → Q (.int (howMany n m)) H'
theorem has_how_many {P : Program} {w : World} {K : PySem.W.Frag} {mg : Str → Option Value} {base : Heap} (S : B.Stands K mg "how_many" s_how_many) (N : Nms K mg) (h_need_quay : B.Has P w K mg base "need_quay" 2 ["berths"] (sp_need_quay K mg)) (h_is_number : B.Has P w K mg base "is_number" 1 ["thing", "least", "most"] (sp_is_number K)) : B.Has P w K mg base "how_many" 3 ["berths", "ships"] (sp_how_many K mg) := by
  refine B.has_of S sc_how_many (fun _ _ _ _ _ _ us hl => match us, hl with | [_, _], _ => rfl) (fun vs H Q E h => ?_)
    (fun f cdv A outer s H vs Q E hr h => ⟨_, (pss_cons (ps_expr (B.pe_has h_need_quay hr (B.passU (takes_of rfl rfl rfl rfl)) (pa_cons (pv 0) pa_nil)))
    (pss_cons (ps_if (pt_not (pt_val (B.pe_has h_is_number hr B.passL (pa_cons (pv 1) (pa_cons pe_int (pa_cons (B.pe_const N.c_MOST) pa_nil)))))) (pss_one (ps_raise rfl (takes_of rfl rfl rfl rfl) (B.pmk N.x_NoCount))) pss_nil)
    (pss_cons (ps_if (pt_cmpR op_eq (pv 1) pe_int (nomark _)) (pss_one (ps_ret pe_int)) pss_nil)
    (pss_cons (ps_set (i := 2) sc_how_many.nd rfl (by first | exact Or.inl rfl | exact Or.inr rfl) (pe_callB (B.call_max2 rfl) (by rfl) N.n_max B.boot_max (pa_cons pe_int (pa_cons (pe_op op_sub (pe_op op_add (pv 0) pe_int) (pv 1)) pa_nil))))
    (pss_cons (ps_for (passes_of rfl) rfl (pi_range1 rfl N.n_range (pa_cons (pe_op op_sub (pv 1) pe_int) pa_nil)) (pg_name (i := 3) sc_how_many.nd rfl (by first | exact Or.inl rfl | exact Or.inr rfl)) (pss_one (ps_aug (i := 2) sc_how_many.nd rfl (by first | exact Or.inl rfl | exact Or.inr rfl) (pe_op op_add (pv 0) pe_int) B.ip_mul)))
    (pss_one (ps_ret (pv 2)))))))), ?_⟩)
  · exact CountAsk.len h
  · obtain ⟨b, x, rfl, s, s', k, k', h⟩ := h
    walk_at "go"
    refine ⟨b, s, rfl, k, fun e => ?_, fun e => ?_⟩
    · rcases h with ⟨e2, _⟩ | ⟨n, rfl, n1, n2, h⟩
      · exact absurd (e.symm.trans e2) (by decide)
      walk_at "go"
      refine ⟨x, s', 0, 400, rfl, k', ?_⟩
      walk_at "go"
      refine x_bN (fun c => ?_) (fun c => ?_)
      · walk_at "go"
        rcases h with ⟨_, bad⟩ | ⟨m, rfl, m1, m2, _⟩
        · exact fun C hC => bad C H hC (Evl.Ex.refl H)
        · exact absurd c (by simp [inB, m1, m2])
      · rcases h with ⟨c2, _⟩ | ⟨m, rfl, m1, m2, q⟩
        · exact absurd (c.symm.trans c2) (by decide)
        walk_at "go"
        refine x_dec (fun c => ?_) (fun c => ?_)
        · walk_at "go"
          have c := V.int.inj c
          subst c
          exact q H (Evl.Ex.refl H)
        · walk_at "go"
          have c : m ≠ 0 := fun z => c (by rw [z])
          refine x_max2 ?_
          walk_at "go"
          refine x_rng1 (by omega) ?_
          refine x_forR (fun i σ' H' => (∃ v, σ' = [some (.int n), some (.int m), some (.int ((if n + 1 - m > 0 then n + 1 - m else 0) * (n + 1) ^ i)), v]) ∧ H' = H) ⟨⟨_, by rw [Int.pow_zero, Int.mul_one]; rfl⟩, rfl⟩ (fun i σ' H' hi p => ?_) (fun σ' H' p => ?_)
          · obtain ⟨⟨v, rfl⟩, rfl⟩ := p
            walk_at "go"
            refine x_ipM (.inr (by omega)) ?_
            walk_at "go"
            exact ⟨⟨_, by rw [Int.pow_succ, Int.mul_assoc]; rfl⟩, rfl⟩
          · obtain ⟨⟨v, rfl⟩, rfl⟩ := p
            walk_at "go"
            have := q H' (Evl.Ex.refl H')
            unfold howMany at this
            rw [if_neg c] at this
            exact this
    · rcases h with ⟨_, bad⟩ | ⟨n, rfl, n1, n2, h⟩
      · exact bad
      · exact absurd e (by simp [inB, n1, n2])
theorem howMany_zero {n m : Int} (n1 : 1 ≤ n) (m0 : 0 ≤ m) : howMany n m = 0 ↔ n < m := by
  unfold howMany
  by_cases h : m = 0
  · rw [if_pos h]
    omega
  · rw [if_neg h]
    by_cases h2 : n + 1 - m > 0
    · rw [if_pos h2]
      have h3 : (0 : Int) < (n + 1) ^ (m - 1).toNat := Int.pow_pos (by omega)
      have h4 : 0 < (n + 1 - m) * (n + 1) ^ (m - 1).toNat := Int.mul_pos h2 h3
      omega
    · rw [if_neg h2, Int.zero_mul]
      omega
def sp_need_ships (K : PySem.W.Frag) (mg : Str → Option Value) : Sp := fun vs H Q E => ∃ b x, vs = [b, x] ∧ CountAsk K mg H E b x fun n m => (n < m ∧ Bad mg "NoCount" H E) ∨ (m ≤ n ∧ ∀ H', Ex H H' → Q .non H')
theorem has_need_ships {P : Program} {w : World} {K : PySem.W.Frag} {mg : Str → Option Value} {base : Heap} (S : B.Stands K mg "need_ships" s_need_ships) (N : Nms K mg) (h_how_many : B.Has P w K mg base "how_many" 3 ["berths", "ships"] (sp_how_many K mg)) : B.Has P w K mg base "need_ships" 4 ["berths", "ships"] (sp_need_ships K mg) := by
  refine B.has_of S sc_need_ships (fun _ _ _ _ _ _ us hl => match us, hl with | [_, _], _ => rfl) (fun vs H Q E h => ?_)
    (fun f cdv A outer s H vs Q E hr h => ⟨_, (pss_one (ps_if (pt_cmpR op_eq (B.pe_has h_how_many hr (B.passU (takes_of rfl rfl rfl rfl)) (pa_cons (pv 0) (pa_cons (pv 1) pa_nil))) pe_int (nomark _)) (pss_one (ps_raise rfl (takes_of rfl rfl rfl rfl) (B.pmk N.x_NoCount))) pss_nil)), ?_⟩)
  · exact CountAsk.len h
  · obtain ⟨b, x, rfl, h⟩ := h
    walk_at "go"
    refine ⟨b, x, rfl, h.imp fun n m eb ex n1 n2 m1 m2 due H1 e1 => ?_⟩
    walk_at "go"
    refine x_dec (fun c => ?_) (fun c => ?_)
    · have c := (howMany_zero n1 m1).mp (V.int.inj c)
      walk_at "go"
      rcases due with ⟨_, bad⟩ | ⟨c2, _⟩
      · exact fun C hC => bad C H1 hC e1
      · omega
    · walk_at "go"
      rcases due with ⟨c2, _⟩ | ⟨_, q⟩
      · exact absurd (by rw [(howMany_zero n1 m1).mpr c2]) c
      · exact q H1 e1
def sp_first_row (K : PySem.W.Frag) (mg : Str → Option Value) : Sp := fun vs H Q E => ∃ b x, vs = [b, x] ∧ CountAsk K mg H E b x fun n m => (n < m ∧ Bad mg "NoCount" H E) ∨ (m ≤ n ∧ ∀ p H', Ex H H' → H' p = some (.tup (List.replicate m.toNat (.int 1))) → Q (.ref p) H')
theorem has_first_row {P : Program} {w : World} {K : PySem.W.Frag} {mg : Str → Option Value} {base : Heap} (S : B.Stands K mg "first_row" s_first_row) (N : Nms K mg) (h_need_ships : B.Has P w K mg base "need_ships" 4 ["berths", "ships"] (sp_need_ships K mg)) : B.Has P w K mg base "first_row" 5 ["berths", "ships"] (sp_first_row K mg) := by
  refine B.has_of S sc_first_row (fun _ _ _ _ _ _ us hl => match us, hl with | [_, _], _ => rfl) (fun vs H Q E h => ?_)
    (fun f cdv A outer s H vs Q E hr h => ⟨_, (pss_cons (ps_expr (B.pe_has h_need_ships hr (B.passU (takes_of rfl rfl rfl rfl)) (pa_cons (pv 0) (pa_cons (pv 1) pa_nil))))
    (pss_one (ps_ret (pe_op (r := B.rRepTX K) B.op_repTX (pe_tup (pa_cons pe_int pa_nil)) (pv 1))))), ?_⟩)
  · exact CountAsk.len h
  · obtain ⟨b, x, rfl, h⟩ := h
    walk_at "go"
    refine ⟨b, x, rfl, h.imp fun n m eb ex n1 n2 m1 m2 due => ?_⟩
    subst eb ex
    rcases due with due | ⟨c, q⟩
    · exact .inl due
    · refine .inr ⟨c, fun H1 e1 => ?_⟩
      walk_at "go"
      refine x_mkT (by simp) fun p H2 p0 e2 hp => ?_
      walk_at "go"
      refine x_repT hp (by omega) (by omega) fun r H3 e3 hr => ?_
      walk_at "go"
      exact q r H3 (by walk_at "hx") hr
def lastRow (n m : Int) : List Int := (irange 0 m).map fun k => n - k
def sp_last_row (K : PySem.W.Frag) (mg : Str → Option Value) : Sp := fun vs H Q E => ∃ b x, vs = [b, x] ∧ CountAsk K mg H E b x fun n m => (n < m ∧ Bad mg "NoCount" H E) ∨ (m ≤ n ∧ ∀ p H', H p = none → Ex H H' → H' p = some (.tup ((lastRow n m).map V.int)) → Q (.ref p) H')
theorem has_last_row {P : Program} {w : World} {K : PySem.W.Frag} {mg : Str → Option Value} {base : Heap} (S : B.Stands K mg "last_row" s_last_row) (N : Nms K mg) (h_need_ships : B.Has P w K mg base "need_ships" 4 ["berths", "ships"] (sp_need_ships K mg)) : B.Has P w K mg base "last_row" 5 ["berths", "ships"] (sp_last_row K mg) := by
  refine B.has_of S sc_last_row (fun _ _ _ _ _ _ us hl => match us, hl with | [_, _], _ => rfl) (fun vs H Q E h => ?_)
    (fun f cdv A outer s H vs Q E hr h => ⟨_, (pss_cons (ps_expr (B.pe_has h_need_ships hr (B.passU (takes_of rfl rfl rfl rfl)) (pa_cons (pv 0) (pa_cons (pv 1) pa_nil))))
    (pss_one (ps_ret (pe_callTy (r := B.rTupOf K) B.call_tupOf (by rfl) N.n_tuple B.boot_tuple (pa_cons (pe_lc (own := [("ship", 2)]) (g := (gName 2)) rfl sc_last_row.nd (pi_range1 rfl N.n_range (pa_cons (pv 1) pa_nil)) (blkOk_by (own := [("ship", 2)]) (N := n_last_row) (sc := defScope s_last_row) (by decide +kernel)) (fun _ _ _ _ _ => (pg_name (i := 2) sc_last_row.nd rfl (by first | exact Or.inl rfl | exact Or.inr rfl))) (fun _ _ _ _ _ => pts_nil) (fun _ _ _ _ _ => (pe_op op_sub (pv 0) (pv 2)))) pa_nil))))), ?_⟩)
  · exact CountAsk.len h
  · obtain ⟨b, x, rfl, h⟩ := h
    walk_at "go"
    refine ⟨b, x, rfl, h.imp fun n m eb ex n1 n2 m1 m2 due => ?_⟩
    subst eb ex
    rcases due with due | ⟨c, q⟩
    · exact .inl due
    · refine .inr ⟨c, fun H1 e1 => ?_⟩
      walk_at "go"
      refine x_rng1 (by omega) ?_
      rw [show m.toNat = (m - 0).toNat from by omega]
      refine x_lcR (K := K) (fun _ => true) (fun k => .int (n - k)) ⟨by rw [irange_len]; omega, fun _ => rfl, fun i _ H' e' QT k => ?_, fun i hi _ H' e' Q' k => ?_, fun c H2 c0 e2 hc => ?_⟩
      · exact k H' (Evl.Ex.refl _)
      · walk_at "go"
        exact k H' (Evl.Ex.refl _)
      have hc : H2 c = some (.lst ((lastRow n m).map V.int)) := by
        rw [hc, List.filter_eq_self.mpr (fun _ _ => rfl)]
        unfold lastRow
        rw [List.map_map]
        rfl
      walk_at "go"
      refine x_tupOf (by walk_at "hx") fun t H3 t0 e3 ht => ?_
      walk_at "go"
      exact q t H3 (exn e1 (exn e2 t0)) (by walk_at "hx") ht

/-! ### the law's readers -/
def sp__law_cell_at (K : PySem.W.Frag) : Sp := fun vs H Q _ => ∃ (a : Addr) (ns : List Int) (k : Nat), vs = [.ref a, .int (k : Nat)] ∧ SqL K H a (ns.map V.int) ∧ ns.length ≤ 63 ∧ Q (.int (ns.getD k 0)) H
theorem has__law_cell_at {P : Program} {w : World} {K : PySem.W.Frag} {mg : Str → Option Value} {base : Heap} (S : B.Stands K mg "_law_cell_at" s__law_cell_at) (N : Nms K mg)  : B.Has P w K mg base "_law_cell_at" 1 ["_law_script", "_law_k"] (sp__law_cell_at K) := by
  refine B.has_ofN S sc__law_cell_at (fun _ _ _ _ _ _ us hl => match us, hl with | [_, _], _ => rfl) (fun vs H Q E h => ?_)
    (fun f cdv A outer s H vs Q E hr h => ⟨_, (pss_cons (ps_if (pt_cmpR op_lt (pv 1) (pe_callB (r := B.rLen K) B.call_len (by rfl) N.n_len PySem.boot_len (pa_cons (pv 0) pa_nil)) (nomark _)) (pss_one (ps_ret (pe_ix (r := rIxL K) ix_list (pv 0) (pv 1) (fun _ _ => rfl)))) pss_nil)
    (pss_one (ps_ret pe_int))), ?_⟩)
  · obtain ⟨a, ns, k, rfl, _⟩ := h
    rfl
  · obtain ⟨a, ns, k, rfl, hs, hl, q⟩ := h
    have hq : Sq K H a (ns.map V.int) := .inl hs
    walk_at "go"
    refine x_dec (fun c => ?_) (fun c => ?_)
    · rw [List.length_map] at c
      have hk : k < ns.length := by omega
      walk_at "go"
      refine x_ixL hs (v := .int (ns.getD k 0)) (atI_nat ?_) ?_
      · rw [List.getElem?_map, List.getElem?_eq_getElem hk, List.getD_eq_getElem?_getD, List.getElem?_eq_getElem hk]
        rfl
      · walk_at "go"
        exact q
    · rw [List.length_map] at c
      walk_at "go"
      rw [show ns.getD k 0 = 0 from by rw [List.getD_eq_getElem?_getD, List.getElem?_eq_none (by omega)]; rfl] at q
      exact q
/-- an item of a short written list, by an index in its bounds -/
theorem at3 {x y z : V} {k : Int} (h0 : 0 ≤ k) (h : k < 3) : ∃ v, atI [x, y, z] k = some v ∧ (v = x ∨ v = y ∨ v = z) := by
  rcases (by omega : k = 0 ∨ k = 1 ∨ k = 2) with rfl | rfl | rfl
  · exact ⟨x, rfl, .inl rfl⟩
  · exact ⟨y, rfl, .inr (.inl rfl)⟩
  · exact ⟨z, rfl, .inr (.inr rfl)⟩
theorem at4 {x y z u : V} {k : Int} (h0 : 0 ≤ k) (h : k < 4) : ∃ v, atI [x, y, z, u] k = some v ∧ (v = x ∨ v = y ∨ v = z ∨ v = u) := by
  rcases (by omega : k = 0 ∨ k = 1 ∨ k = 2 ∨ k = 3) with rfl | rfl | rfl | rfl
  · exact ⟨x, rfl, .inl rfl⟩
  · exact ⟨y, rfl, .inr (.inl rfl)⟩
  · exact ⟨z, rfl, .inr (.inr (.inl rfl))⟩
  · exact ⟨u, rfl, .inr (.inr (.inr rfl))⟩
theorem x_mod {i j : Int} {H : Hp} {Q : VK} (h : 0 < j) (q : ∀ r, 0 ≤ r → r < j → r = i % j → Q (.int r) H) : rI (fun _ j => 0 < j) (fun i j => .int (i % j)) (.int i) (.int j) H Q :=
  x_rI h (q _ (Int.emod_nonneg _ (by omega)) (Int.emod_lt_of_pos _ h) rfl)
theorem x_fdiv {i j : Int} {H : Hp} {Q : VK} (h : 0 < j ∧ j < 1073741824) (q : Q (.int (i / j)) H) : rI CDiv (fun i j => .int (i / j)) (.int i) (.int j) H Q := x_rI h q

def sp__law_whole (K : PySem.W.Frag) : Sp := fun vs H Q _ => ∃ x s, vs = [x] ∧ Kind K H x s ∧ Q (.bl (s.isA "int" && !s.isA "bool")) H
theorem has__law_whole {P : Program} {w : World} {K : PySem.W.Frag} {mg : Str → Option Value} {base : Heap} (S : B.Stands K mg "_law_whole" s__law_whole) (N : Nms K mg)  : B.Has P w K mg base "_law_whole" 1 ["_law_found"] (sp__law_whole K) := by
  refine B.has_ofN S sc__law_whole (fun _ _ _ _ _ _ us hl => match us, hl with | [_], _ => rfl) (fun vs H Q E h => ?_)
    (fun f cdv A outer s H vs Q E hr h => ⟨_, (pss_one (ps_ret (pe_and (pe_callB (r := rIsi K) call_isi (by rfl) N.n_isinstance B.boot_isinstance (pa_cons (pv 0) (pa_cons (pe_bltn (v := .ty "int") (by rfl) N.n_int B.boot_int rfl) pa_nil))) (pe_one (pe_not (pe_callB (r := rIsi K) call_isi (by rfl) N.n_isinstance B.boot_isinstance (pa_cons (pv 0) (pa_cons (pe_bltn (v := .ty "bool") (by rfl) N.n_bool B.boot_bool rfl) pa_nil)))))))), ?_⟩)
  · obtain ⟨x, s, rfl, _⟩ := h
    rfl
  · obtain ⟨x, s, rfl, k, q⟩ := h
    walk_at "go"
    refine x_isi_int k ?_
    walk_at "go"
    refine x_b (fun e => ?_) (fun e => ?_)
    · walk_at "go"
      refine x_isi_bool k ?_
      walk_at "go"
      rw [e] at q
      exact q
    · rw [e] at q
      exact q

/-! ### the law's own -/
def sp__law_due (K : PySem.W.Frag) : Sp := fun vs H Q _ => ∃ n m, vs = [.int n, .int m] ∧ 1 ≤ n ∧ n ≤ 400 ∧ 0 ≤ m ∧ m ≤ 400 ∧ ∀ H', Ex H H' → Q (.int (howMany n m)) H'
theorem has__law_due {P : Program} {w : World} {K : PySem.W.Frag} {mg : Str → Option Value} {base : Heap} (S : B.Stands K mg "_law_due" s__law_due) (N : Nms K mg)  : B.Has P w K mg base "_law_due" 1 ["_law_berths", "_law_ships"] (sp__law_due K) := by
  refine B.has_ofN S sc__law_due (fun _ _ _ _ _ _ us hl => match us, hl with | [_, _], _ => rfl) (fun vs H Q E h => ?_)
    (fun f cdv A outer s H vs Q E hr h => ⟨_, (pss_cons (ps_if (pt_cmpR op_gt (pv 1) (pv 0) (nomark _)) (pss_one (ps_ret pe_int)) pss_nil)
    (pss_cons (ps_set (i := 2) sc__law_due.nd rfl (by first | exact Or.inl rfl | exact Or.inr rfl) pe_int)
    (pss_cons (ps_for PassesOwn.never rfl (pi_range1 rfl N.n_range (pa_cons (pe_op op_sub (pv 1) pe_int) pa_nil)) (pg_name (i := 3) sc__law_due.nd rfl (by first | exact Or.inl rfl | exact Or.inr rfl)) (pss_one (ps_set (i := 2) sc__law_due.nd rfl (by first | exact Or.inl rfl | exact Or.inr rfl) (pe_op op_mul (pv 2) (pe_op op_add (pv 0) pe_int)))))
    (pss_one (ps_ret (pe_op op_mul (pv 2) (pe_ix (r := rIxL K) ix_list (pe_lst (pa_cons pe_int (pa_cons (pe_op op_sub (pe_op op_add (pv 0) pe_int) (pv 1)) pa_nil))) (pe_callTy B.call_int1 (by rfl) N.n_int B.boot_int (pa_cons (pe_cmpR op_gt (pv 1) pe_int (nomark _)) pa_nil)) (fun _ _ => rfl)))))))), ?_⟩)
  · obtain ⟨n, m, rfl, _⟩ := h
    rfl
  · obtain ⟨n, m, rfl, n1, n2, m1, m2, q⟩ := h
    walk_at "go"
    refine x_dec (fun c => ?_) (fun c => ?_)
    · walk_at "go"
      have := q H (Evl.Ex.refl H)
      rw [(howMany_zero n1 m1).mpr c] at this
      exact this
    · walk_at "go"
      refine x_rng1 (by omega) ?_
      refine x_forR (fun i σ' H' => (∃ v, σ' = [some (.int n), some (.int m), some (.int ((n + 1) ^ i)), v]) ∧ H' = H) ⟨⟨_, by rw [Int.pow_zero]; rfl⟩, rfl⟩ (fun i σ' H' hi p => ?_) (fun σ' H' p => ?_)
      · obtain ⟨⟨v, rfl⟩, rfl⟩ := p
        walk_at "go"
        refine x_rI (.inr (by omega)) ?_
        walk_at "go"
        exact ⟨⟨_, by rw [Int.pow_succ]; rfl⟩, rfl⟩
      · obtain ⟨⟨v, rfl⟩, rfl⟩ := p
        walk_at "go"
        refine x_mkL (by simp) fun l H2 l0 e2 h2 => ?_
        walk_at "go"
        refine x_intB ?_
        walk_at "go"
        by_cases z : m > 0
        · rw [decide_eq_true z]
          refine x_ixL (v := .int (n + 1 - m)) (by walk_at "hx") rfl ?_
          walk_at "go"
          refine x_rI (.inr (by omega)) ?_
          have := q H2 e2
          unfold howMany at this
          rw [if_neg (by omega), if_pos (by omega), Int.mul_comm] at this
          exact this
        · rw [decide_eq_false z]
          refine x_ixL (v := .int 1) (by walk_at "hx") rfl ?_
          walk_at "go"
          refine x_rI (.inr (by omega)) ?_
          have := q H2 e2
          unfold howMany at this
          rw [if_pos (by omega)] at this
          rw [Int.mul_one, show (m - 1).toNat = 0 from by omega, Int.pow_zero]
          exact this
/-- how_many, first_row, last_row -/
def Acts (K : PySem.W.Frag) (mg : Str → Option Value) : Addr → Sp → Prop := fun f sp =>
  (f = B.at_ mg "how_many" ∧ sp = sp_how_many K mg) ∨ (f = B.at_ mg "first_row" ∧ sp = sp_first_row K mg) ∨ (f = B.at_ mg "last_row" ∧ sp = sp_last_row K mg)
theorem fam_acts {P : Program} {w : World} {K : PySem.W.Frag} {mg : Str → Option Value} {base : Heap} {ps qs rs : List Str} (h1 : B.Has P w K mg base "how_many" 3 ps (sp_how_many K mg)) (h2 : B.Has P w K mg base "first_row" 5 qs (sp_first_row K mg)) (h3 : B.Has P w K mg base "last_row" 5 rs (sp_last_row K mg)) :
    Fam P w K mg base 5 (Acts K mg) := by
  rintro f sp (⟨rfl, rfl⟩ | ⟨rfl, rfl⟩ | ⟨rfl, rfl⟩)
  · exact h1.held (by decide)
  · exact h2.held (by decide)
  · exact h3.held (by decide)
/-- what is refused, and how -/
def Wrong (f : Addr) (mg : Str → Option Value) (b x : V) (D : Str) : Prop := (D = "NoQuay" ∧ inB b 1 400 = false) ∨ (D = "NoCount" ∧ ∃ n, b = .int n ∧ 1 ≤ n ∧ n ≤ 400 ∧ (inB x 0 400 = false ∨ ∃ m, x = .int m ∧ 0 ≤ m ∧ m ≤ 400 ∧ n < m ∧ (f = B.at_ mg "first_row" ∨ f = B.at_ mg "last_row")))
def Act3 (mg : Str → Option Value) (f : Addr) : Prop := f = B.at_ mg "how_many" ∨ f = B.at_ mg "first_row" ∨ f = B.at_ mg "last_row"
/-- an act that is refused leaves an exception of its class -/
theorem act_bad {K : PySem.W.Frag} {mg : Str → Option Value} {f : Addr} {b x : V} {s s' : KS} {H : Hp} {Q : VK} {E : XK} {D : Str} (k : Kind K H b s) (k' : Kind K H x s') (ha : Act3 mg f) (hw : Wrong f mg b x D) (bad : Bad mg D H E) : ∃ sp, Acts K mg f sp ∧ sp [b, x] H Q E := by
  have key : ∀ (due : Int → Int → Prop), (∀ n m, b = .int n → x = .int m → n < m → D = "NoCount" → (f = B.at_ mg "first_row" ∨ f = B.at_ mg "last_row") → due n m) → CountAsk K mg H E b x due := by
    intro due hd
    refine ⟨s, s', k, k', ?_⟩
    rcases hw with ⟨rfl, e⟩ | ⟨rfl, n, rfl, n1, n2, e | ⟨m, rfl, m1, m2, lt, hf⟩⟩
    · exact .inl ⟨e, bad⟩
    · exact .inr ⟨n, rfl, n1, n2, .inl ⟨e, bad⟩⟩
    · exact .inr ⟨n, rfl, n1, n2, .inr ⟨m, rfl, m1, m2, hd n m rfl rfl lt rfl hf⟩⟩
  by_cases h1 : f = B.at_ mg "first_row"
  · exact ⟨_, .inr (.inl ⟨h1, rfl⟩), b, x, rfl, key _ fun n m _ _ lt eD _ => .inl ⟨lt, eD ▸ bad⟩⟩
  by_cases h2 : f = B.at_ mg "last_row"
  · exact ⟨_, .inr (.inr ⟨h2, rfl⟩), b, x, rfl, key _ fun n m _ _ lt eD _ => .inl ⟨lt, eD ▸ bad⟩⟩
  · refine ⟨_, .inl ⟨?_, rfl⟩, b, x, rfl, key _ fun n m _ _ _ _ hf => ?_⟩
    · rcases ha with h | h | h
      · exact h
      · exact absurd h h1
      · exact absurd h h2
    · rcases hf with h | h
      · exact absurd h h1
      · exact absurd h h2
def sp__law_caught (K : PySem.W.Frag) (mg : Str → Option Value) : Sp := fun vs H Q _ => ∃ f b x s s' D, vs = [.ref f, b, x] ∧ Kind K H b s ∧ Kind K H x s' ∧ Act3 mg f ∧ Wrong f mg b x D ∧ ∀ l H', H l = none → Ex H H' → H' l = some (.lst [.str D]) → Q (.ref l) H'
theorem has__law_caught {P : Program} {w : World} {K : PySem.W.Frag} {mg : Str → Option Value} {base : Heap} (S : B.Stands K mg "_law_caught" s__law_caught) (N : Nms K mg) (h_how_many : B.Has P w K mg base "how_many" 3 ["berths", "ships"] (sp_how_many K mg)) (h_first_row : B.Has P w K mg base "first_row" 5 ["berths", "ships"] (sp_first_row K mg)) (h_last_row : B.Has P w K mg base "last_row" 5 ["berths", "ships"] (sp_last_row K mg)) : B.Has P w K mg base "_law_caught" 6 ["_law_act", "_law_berths", "_law_ships"] (sp__law_caught K mg) := by
  refine B.has_ofN S sc__law_caught (fun _ _ _ _ _ _ us hl => match us, hl with | [_, _, _], _ => rfl) (fun vs H Q E h => ?_)
    (fun f cdv A outer s H vs Q E hr h => ⟨_, (pss_cons (ps_set (i := 3) sc__law_caught.nd rfl (by first | exact Or.inl rfl | exact Or.inr rfl) pe_non)
    (pss_cons (B.ps_try_keep (i := 4) (j := 3) rfl rfl rfl sc__law_caught.nd rfl rfl ⟨rfl, by decide, .inl N.m_BerthError⟩ takes0 (fun W pn xe tk _ => (pss_one (ps_expr (B.pe_callF (i := 0) (S := Acts K mg) (E := WE W) (fam_acts h_how_many h_first_row h_last_row) hr (fun σ => passAt tk σ) (pa_cons (pv 1) (pa_cons (pv 2) pa_nil)))))) (fun a oe pn => pss_one (ps_set (i := 3) sc__law_caught.nd rfl (Or.inl rfl) (pv 4))))
    (pss_cons (ps_set (i := 5) sc__law_caught.nd rfl (by first | exact Or.inl rfl | exact Or.inr rfl) (pe_lst (pa_cons (pe_callB (r := B.rIsiC K) B.call_isiC (by rfl) N.n_isinstance B.boot_isinstance (pa_cons (pv 3) (pa_cons (B.pe_cls N.m_NoOrder) pa_nil))) (pa_cons (pe_callB (r := B.rIsiC K) B.call_isiC (by rfl) N.n_isinstance B.boot_isinstance (pa_cons (pv 3) (pa_cons (B.pe_cls N.m_NoTree) pa_nil))) (pa_cons (pe_callB (r := B.rIsiC K) B.call_isiC (by rfl) N.n_isinstance B.boot_isinstance (pa_cons (pv 3) (pa_cons (B.pe_cls N.m_NoWishes) pa_nil))) pa_nil)))))
    (pss_cons (ps_if (PW.pt (pw_or (pt_cmpR (r := rIn K false) op_in_seq pe_bl (pv 5) (by rfl)) (pw_or (pt_val (pe_callB (r := B.rIsiC K) B.call_isiC (by rfl) N.n_isinstance B.boot_isinstance (pa_cons (pv 3) (pa_cons (B.pe_cls N.m_TooMany) pa_nil)))) (pw_or1 (pt_not (pt_val (pe_callB (r := B.rIsiC K) B.call_isiC (by rfl) N.n_isinstance B.boot_isinstance (pa_cons (pv 3) (pa_cons (pe_bltn (v := .ty "ValueError") (by rfl) N.n_ValueError B.boot_ValueError rfl) pa_nil))))))))) (pss_one (ps_ret (pe_lst (pa_cons pe_str pa_nil)))) pss_nil)
    (pss_one (ps_ret (pe_op op_cat (pe_op op_rep (pe_lst (pa_cons pe_str pa_nil)) (pe_callTy B.call_int1 (by rfl) N.n_int B.boot_int (pa_cons (pe_callB (r := B.rIsiC K) B.call_isiC (by rfl) N.n_isinstance B.boot_isinstance (pa_cons (pv 3) (pa_cons (B.pe_cls N.m_NoQuay) pa_nil))) pa_nil))) (pe_op op_rep (pe_lst (pa_cons pe_str pa_nil)) (pe_callTy B.call_int1 (by rfl) N.n_int B.boot_int (pa_cons (pe_callB (r := B.rIsiC K) B.call_isiC (by rfl) N.n_isinstance B.boot_isinstance (pa_cons (pv 3) (pa_cons (B.pe_cls N.m_NoCount) pa_nil))) pa_nil)))))))))), ?_⟩)
  · obtain ⟨f, b, x, s, s', D, rfl, _⟩ := h
    rfl
  · obtain ⟨f, b, x, s, s', D, rfl, k, k', ha, hw, q⟩ := h
    walk_at "go"
    refine x_callF2 (f := f) (x := b) (y := x) rfl rfl rfl (act_bad k k' ha hw fun C H1 hC e1 => ?_)
    obtain rfl : at_ mg D = C := at_of hC
    obtain ⟨F, Fm, F1, F2, F3, F4, F5, F6, F7⟩ : ExcC K (at_ mg D) ∧ PySem.W.exmOne K (.ref (at_ mg D)) (.ref (at_ mg "BerthError")) = some true ∧ PySem.W.kitOne K (.ref (at_ mg D)) (.ref (at_ mg "NoOrder")) = some false ∧
        PySem.W.kitOne K (.ref (at_ mg D)) (.ref (at_ mg "NoTree")) = some false ∧ PySem.W.kitOne K (.ref (at_ mg D)) (.ref (at_ mg "NoWishes")) = some false ∧ PySem.W.kitOne K (.ref (at_ mg D)) (.ref (at_ mg "TooMany")) = some false ∧
        PySem.W.kitOne K (.ref (at_ mg D)) (.type "ValueError") = some true ∧ PySem.W.kitOne K (.ref (at_ mg D)) (.ref (at_ mg "NoQuay")) = some (decide (D = "NoQuay")) ∧ PySem.W.kitOne K (.ref (at_ mg D)) (.ref (at_ mg "NoCount")) = some (decide (D = "NoCount")) := by
      rcases hw with ⟨rfl, _⟩ | ⟨rfl, _⟩
      · exact ⟨N.k_NoQuay, N.e_NoQuay, N.i_NoQuay_NoOrder, N.i_NoQuay_NoTree, N.i_NoQuay_NoWishes, N.i_NoQuay_TooMany, N.i_NoQuay_ValueError, N.i_NoQuay_NoQuay, N.i_NoQuay_NoCount⟩
      · exact ⟨N.k_NoCount, N.e_NoCount, N.i_NoCount_NoOrder, N.i_NoCount_NoTree, N.i_NoCount_NoWishes, N.i_NoCount_TooMany, N.i_NoCount_ValueError, N.i_NoCount_NoQuay, N.i_NoCount_NoCount⟩
    refine x_kept Fm fun a H2 a0 e2 ha2 => ?_
    have hF : ∀ D0, some (at_ mg D) = some D0 → ExcC K D0 := fun D0 z => by cases z; exact F
    have cau : ∀ H', Ex H2 H' → Caught K H' (.ref a) (some (at_ mg D)) := fun H' e => .yes (e _ _ ha2)
    walk_at "go"
    refine x_isiC (.own _) (cau _ (Evl.Ex.refl _)) hF F1 ?_
    walk_at "go"
    refine x_isiC (.own _) (cau _ (Evl.Ex.refl _)) hF F2 ?_
    walk_at "go"
    refine x_isiC (.own _) (cau _ (Evl.Ex.refl _)) hF F3 ?_
    walk_at "go"
    refine x_mkL (by simp) fun l H3 l0 e3 h3 => ?_
    walk_at "go"
    refine x_inL (xs := [.bl false, .bl false, .bl false]) (b := false) (by walk_at "hx") rfl rfl rfl ?_
    walk_at "go"
    refine x_isiC (.own _) (cau _ e3) hF F4 ?_
    walk_at "go"
    refine x_isiC (.ty _) (cau _ e3) hF F5 ?_
    walk_at "go"
    refine x_false ?_
    walk_at "go"
    refine x_mkL (by simp) fun l1 H4 l10 e4 h4 => ?_
    walk_at "go"
    refine x_isiC (.own _) (cau _ (by walk_at "hx")) hF F6 ?_
    walk_at "go"
    refine x_intB ?_
    walk_at "go"
    refine x_repL h4 (by split <;> decide) (by split <;> decide) (by decide) fun p1 H5 p10 e5 h5 => ?_
    walk_at "go"
    refine x_mkL (by simp) fun l2 H6 l20 e6 h6 => ?_
    walk_at "go"
    refine x_isiC (.own _) (cau _ (by walk_at "hx")) hF F7 ?_
    walk_at "go"
    refine x_intB ?_
    walk_at "go"
    refine x_repL h6 (by split <;> decide) (by split <;> decide) (by decide) fun p2 H7 p20 e7 h7 => ?_
    walk_at "go"
    have g5 : H7 p1 = some _ := e7 _ _ (e6 _ _ h5)
    refine x_cat g5 h7 ?_ fun p3 H8 p30 e8 h8 => ?_
    · rcases hw with ⟨rfl, _⟩ | ⟨rfl, _⟩ <;> decide
    · walk_at "go"
      have ex : Ex H H8 := e1.trans (e2.trans (e3.trans (e4.trans (e5.trans (e6.trans (e7.trans e8))))))
      refine q p3 H8 (exn (e1.trans (e2.trans (e3.trans (e4.trans (e5.trans (e6.trans e7)))))) p30) ex (h8.trans ?_)
      rcases hw with ⟨rfl, _⟩ | ⟨rfl, _⟩ <;> rfl

def sp_law (K : PySem.W.Frag) : Sp := fun vs H Q _ => ∃ (a : Addr) (ns : List Int), vs = [.ref a] ∧ SqL K H a (ns.map V.int) ∧ ns.length ≤ 63 ∧ ∀ H', Q (.bl true) H'

theorem downs_row {n m : Int} (m0 : 0 ≤ m) (h : m ≤ n) : (downs n 0).take m.toNat = lastRow n m := by
  unfold downs lastRow irange
  rw [← List.map_take, List.take_range, List.map_map]
  rw [show min m.toNat (n - 0).toNat = (m - 0).toNat from by omega]
  exact List.map_congr_left fun i _ => by
    show n - (i : Nat) = n - (0 + (i : Nat))
    omega
/-- something that is no number from lo to hi -/
def Odd (K : PySem.W.Frag) (H : Hp) (lo hi : Int) (x : V) : Prop := (∃ s, Kind K H x s) ∧ inB x lo hi = false
theorem Odd.ex {K : PySem.W.Frag} {H H' : Hp} {lo hi : Int} {x : V} (e : Ex H H') (h : Odd K H lo hi x) : Odd K H' lo hi x := by
  obtain ⟨⟨s, k⟩, h⟩ := h
  exact ⟨⟨s, k.ex e⟩, h⟩
theorem id_map (xs : List V) : xs.map (fun x => x) = xs := List.map_id' xs
theorem x_neW {K : PySem.W.Frag} {H : Hp} {Q : VK} {a b : Addr} {x y : Str} (h1 : H a = some (.lst [.str x])) (h2 : H b = some (.lst [.str y])) (e : x = y) (ok : PyData.strOk x = true) (q : Q (.bl false) H) : rNeD K (.ref a) (.ref b) H Q := by
  subst e
  refine x_neD (d := .list [.str x]) (e := .list [.str x]) (b := true) (.lst (Evl.sq_of h1) (.cons (.str _) .nil)) (.lst (Evl.sq_of h2) (.cons (.str _) .nil)) ?_ ?_ ?_ q
  · simp [SeqAt.shaped, PyData.canLay0, PyData.canLayAll0, PyData.depth, PyData.depthAll, ok]
  · simp [SeqAt.shaped, PyData.canLay0, PyData.canLayAll0, PyData.depth, PyData.depthAll, ok]
  · simp [PyData.eqv, PyData.eqvAll]
theorem x_neW2 {K : PySem.W.Frag} {H : Hp} {Q : VK} {a b a1 a2 b1 b2 : Addr} {x : Str} (ha : H a = some (.lst [.ref a1, .ref a2])) (h1 : H a1 = some (.lst [.str x])) (h2 : H a2 = some (.lst [.str x])) (hb : H b = some (.lst [.ref b1, .ref b2])) (h3 : H b1 = some (.lst [.str x])) (h4 : H b2 = some (.lst [.str x])) (ok : PyData.strOk x = true) (q : Q (.bl false) H) : rNeD K (.ref a) (.ref b) H Q := by
  refine x_neD (d := .list [.list [.str x], .list [.str x]]) (e := .list [.list [.str x], .list [.str x]]) (b := true) (.lst (Evl.sq_of ha) (.cons (.lst (Evl.sq_of h1) (.cons (.str _) .nil)) (.cons (.lst (Evl.sq_of h2) (.cons (.str _) .nil)) .nil)))
    (.lst (Evl.sq_of hb) (.cons (.lst (Evl.sq_of h3) (.cons (.str _) .nil)) (.cons (.lst (Evl.sq_of h4) (.cons (.str _) .nil)) .nil))) ?_ ?_ ?_ q
  · simp [SeqAt.shaped, PyData.canLay0, PyData.canLayAll0, PyData.depth, PyData.depthAll, ok]
  · simp [SeqAt.shaped, PyData.canLay0, PyData.canLayAll0, PyData.depth, PyData.depthAll, ok]
  · simp [PyData.eqv, PyData.eqvAll]
theorem law_ok {P : Program} {w : World} {K : PySem.W.Frag} {mg : Str → Option Value} {base : Heap} {f : Addr} {fd : FuncData} (F : Fun K "law" "law" s_law f fd) (N : Nms K mg)
    (h_how_many : B.Has P w K mg base "how_many" 3 ["berths", "ships"] (sp_how_many K mg))
    (h__law_whole : B.Has P w K mg base "_law_whole" 1 ["_law_found"] (sp__law_whole K))
    (h__law_due : B.Has P w K mg base "_law_due" 1 ["_law_berths", "_law_ships"] (sp__law_due K))
    (h_first_row : B.Has P w K mg base "first_row" 5 ["berths", "ships"] (sp_first_row K mg))
    (h__law_caught : B.Has P w K mg base "_law_caught" 6 ["_law_act", "_law_berths", "_law_ships"] (sp__law_caught K mg))
    (h_last_row : B.Has P w K mg base "last_row" 5 ["berths", "ships"] (sp_last_row K mg)) :
    FnOk P w K mg base (L2.CX P w) 7 f fd ["_law_script"] (sp_law K) := by
  refine B.fn_okN F sc_law (fun vs H Q E h => ?_)
    (fun cdv A outer s H vs Q E hr h => ⟨_, (pss_cons (ps_for PassesOwn.never rfl (pi_list (pe_op (r := B.rCatR K) B.op_catR (pe_lst (pa_cons pe_int pa_nil)) (pv 0))) (pg_name (i := 1) sc_law.nd rfl (by first | exact Or.inl rfl | exact Or.inr rfl)) (pss_cons (ps_set (i := 2) sc_law.nd rfl (by first | exact Or.inl rfl | exact Or.inr rfl) (pe_ix (r := rIxL K) ix_list (pe_lst (pa_cons (pe_op op_add pe_int (pe_op op_mod (pv 1) pe_int)) (pa_cons (pe_op op_add pe_int (pe_op op_mod (pe_op op_fdiv (pv 1) pe_int) pe_int)) pa_nil))) (pe_op op_mod (pe_op op_fdiv (pv 1) pe_int) pe_int) (fun _ _ => rfl)))
    (pss_cons (ps_set (i := 3) sc_law.nd rfl (by first | exact Or.inl rfl | exact Or.inr rfl) (pe_ix (r := rIxL K) ix_list (pe_lst (pa_cons (pe_op op_mod (pe_op op_fdiv (pv 1) pe_int) (pe_op op_add (pv 2) pe_int)) (pa_cons (pe_op op_mod (pe_op op_fdiv (pv 1) pe_int) pe_int) (pa_cons (pv 2) pa_nil)))) (pe_op op_mod (pe_op op_fdiv (pv 1) pe_int) pe_int) (fun _ _ => rfl)))
    (pss_cons (ps_set (i := 4) sc_law.nd rfl (by first | exact Or.inl rfl | exact Or.inr rfl) (B.pe_has h_how_many hr B.passL (pa_cons (pv 2) (pa_cons (pv 3) pa_nil))))
    (pss_cons (ps_if (PW.pt (pw_or (pt_not (pt_val (B.pe_has h__law_whole hr B.passL (pa_cons (pv 4) pa_nil)))) (pw_or1 (pt_cmpR op_ne (pv 4) (B.pe_has h__law_due hr B.passL (pa_cons (pv 2) (pa_cons (pv 3) pa_nil))) (nomark _))))) (pss_one (ps_ret pe_bl)) pss_nil)
    (pss_one (ps_if (pt_cmpR op_gt (pv 3) (pv 2) (nomark _)) (pss_one (ps_if (pt_cmpR (r := rNeD K) (op_neD hr.units) (pe_lc (own := [("_law_act", 5)]) (g := (gName 5)) rfl sc_law.nd (pi_list (pe_lst (pa_cons (B.pe_cls N.m_first_row) (pa_cons (B.pe_cls N.m_last_row) pa_nil)))) (blkOk_by (own := [("_law_act", 5)]) (N := n_law) (sc := defScope s_law) (by decide +kernel)) (fun _ _ _ _ _ => (pg_name (i := 5) sc_law.nd rfl (by first | exact Or.inl rfl | exact Or.inr rfl))) (fun _ _ _ _ _ => pts_nil) (fun _ _ _ _ _ => (B.pe_has h__law_caught hr B.passL (pa_cons (pv 5) (pa_cons (pv 2) (pa_cons (pv 3) pa_nil)))))) (pe_lst (pa_cons (pe_lst (pa_cons pe_str pa_nil)) (pa_cons (pe_lst (pa_cons pe_str pa_nil)) pa_nil))) (nomark _)) (pss_one (ps_ret pe_bl)) pss_nil)) (pss_one (ps_if (pt_cmpR (r := rNeD K) (op_neD hr.units) (B.pe_has h_first_row hr B.passL (pa_cons (pv 2) (pa_cons (pv 3) pa_nil))) (pe_op (r := B.rRepTX K) B.op_repTX (pe_tup (pa_cons pe_int pa_nil)) (pv 3)) (nomark _)) (pss_one (ps_ret pe_bl)) (pss_one (ps_if (pt_cmpR (r := rNeD K) (op_neD hr.units) (B.pe_has h_last_row hr B.passL (pa_cons (pv 2) (pa_cons (pv 3) pa_nil))) (pe_callTy (r := B.rTupOf K) B.call_tupOf (by rfl) N.n_tuple B.boot_tuple (pa_cons (pe_slice (r := rSlL K) sl_list (B.pe_listDn rfl (by rfl) N.n_list (by rfl) N.n_range (pa_cons (pv 2) (pa_cons pe_int (pa_cons (pe_un un_neg pe_int) pa_nil)))) po_none (po_some (pv 3))) pa_nil)) (nomark _)) (pss_one (ps_ret pe_bl)) pss_nil)))))))))))
    (pss_cons (ps_for PassesOwn.never rfl (pi_list (pe_lst (pa_cons (B.pe_cls N.m_how_many) (pa_cons (B.pe_cls N.m_first_row) (pa_cons (B.pe_cls N.m_last_row) pa_nil))))) (pg_name (i := 5) sc_law.nd rfl (by first | exact Or.inl rfl | exact Or.inr rfl)) (pss_cons (ps_for PassesOwn.never rfl (pi_list (pe_lst (pa_cons pe_int (pa_cons pe_int (pa_cons (pe_un un_neg pe_int) (pa_cons pe_non (pa_cons pe_bl (pa_cons pe_str (pa_cons (pe_lst (pa_cons pe_int pa_nil)) (pa_cons (pe_op op_pow pe_int pe_int) pa_nil)))))))))) (pg_name (i := 6) sc_law.nd rfl (by first | exact Or.inl rfl | exact Or.inr rfl)) (pss_one (ps_if (PW.pt (pw_or (pt_cmpR (r := rNeD K) (op_neD hr.units) (B.pe_has h__law_caught hr B.passL (pa_cons (pv 5) (pa_cons (pv 6) (pa_cons pe_int pa_nil)))) (pe_lst (pa_cons pe_str pa_nil)) (nomark _)) (pw_or1 (pt_cmpR (r := rNeD K) (op_neD hr.units) (B.pe_has h__law_caught hr B.passL (pa_cons (pv 5) (pa_cons (pv 6) (pa_cons (pe_un un_neg pe_int) pa_nil)))) (pe_lst (pa_cons pe_str pa_nil)) (nomark _))))) (pss_one (ps_ret pe_bl)) pss_nil)))
    (pss_one (ps_for PassesOwn.never rfl (pi_list (pe_lst (pa_cons (pe_un un_neg pe_int) (pa_cons pe_int (pa_cons pe_non (pa_cons pe_bl (pa_cons pe_str (pa_cons (pe_tup (pa_cons pe_int pa_nil)) (pa_cons (pe_op op_pow pe_int pe_int) pa_nil))))))))) (pg_name (i := 6) sc_law.nd rfl (by first | exact Or.inl rfl | exact Or.inr rfl)) (pss_one (ps_if (pt_cmpR (r := rNeD K) (op_neD hr.units) (B.pe_has h__law_caught hr B.passL (pa_cons (pv 5) (pa_cons pe_int (pa_cons (pv 6) pa_nil)))) (pe_lst (pa_cons pe_str pa_nil)) (nomark _)) (pss_one (ps_ret pe_bl)) pss_nil))))))
    (pss_one (ps_ret (pe_and (pe_cmpR op_eq (B.pe_has h_how_many hr B.passL (pa_cons pe_int (pa_cons pe_int pa_nil))) pe_int (nomark _)) (pe_and (pe_cmpR op_eq (B.pe_has h_how_many hr B.passL (pa_cons pe_int (pa_cons pe_int pa_nil))) pe_int (nomark _)) (pe_one (pe_cmpR op_eq (B.pe_has h_how_many hr B.passL (pa_cons pe_int (pa_cons pe_int pa_nil))) pe_int (nomark _))))))))), ?_⟩)
  · obtain ⟨a, ns, rfl, _⟩ := h
    rfl
  · obtain ⟨a, ns, rfl, hs, hl, q⟩ := h
    walk_at "go"
    refine x_mkL (by decide) fun p H1 p0 e1 hp => ?_
    walk_at "go"
    refine x_catR (Evl.sq_of hp) (by walk_at "hx") (by simp; omega) fun c H2 c0 e2 hc => ?_
    have hc : H2 c = some (.lst ((5 :: ns).map V.int)) := hc
    have e12 : Far H H2 := .of (e1.trans e2)
    refine x_forL (5 :: ns) V.int (fun pre σ' H' => (∃ z1 z2 z3 z4 z5 z6, σ' = [some (.ref a), z1, z2, z3, z4, z5, z6]) ∧ Far H2 H') ⟨⟨_, _, _, _, _, _, rfl⟩, .of (Evl.Ex.refl _)⟩ (fun pre σ' H' _ p => Evl.sq_of (p.2.e _ _ hc)) (fun pre w post σ' H' ea p => ?_) (fun σ' H' p => ?_)
    · obtain ⟨⟨z1, z2, z3, z4, z5, z6, rfl⟩, far⟩ := p
      walk_at "go"
      refine x_mod (by omega) fun r1 r10 r11 _ => ?_
      walk_at "go"
      refine x_fdiv (by decide) ?_
      walk_at "go"
      refine x_mod (by omega) fun r2 r20 r21 _ => ?_
      walk_at "go"
      refine x_mkL (by simp) fun l H3 l0 e3 h3 => ?_
      walk_at "go"
      refine x_fdiv (by decide) ?_
      walk_at "go"
      refine x_mod (by omega) fun r3 r30 r31 _ => ?_
      obtain ⟨v, hv, hv2⟩ := at2 (x := .int (1 + r1)) (y := .int (1 + r2)) r30 r31
      obtain ⟨n, rfl, n1, n2⟩ : ∃ n, v = .int n ∧ 1 ≤ n ∧ n ≤ 400 := by
        rcases hv2 with rfl | rfl
        · exact ⟨_, rfl, by omega, by omega⟩
        · exact ⟨_, rfl, by omega, by omega⟩
      refine x_ixL (by walk_at "hx") hv ?_
      walk_at "go"
      refine x_fdiv (by decide) ?_
      walk_at "go"
      refine x_mod (by omega) fun s1 s10 s11 _ => ?_
      walk_at "go"
      refine x_fdiv (by decide) ?_
      walk_at "go"
      refine x_mod (by omega) fun s2 s20 s21 _ => ?_
      walk_at "go"
      refine x_mkL (by simp) fun l2 H4 l20 e4 h4 => ?_
      walk_at "go"
      refine x_fdiv (by decide) ?_
      walk_at "go"
      refine x_mod (by omega) fun s3 s30 s31 _ => ?_
      obtain ⟨v, hv, hv2⟩ := at3 (x := .int s1) (y := .int s2) (z := .int n) s30 s31
      obtain ⟨m, rfl, m1, m2⟩ : ∃ m, v = .int m ∧ 0 ≤ m ∧ m ≤ 400 := by
        rcases hv2 with rfl | rfl | rfl
        · exact ⟨_, rfl, by omega, by omega⟩
        · exact ⟨_, rfl, by omega, by omega⟩
        · exact ⟨_, rfl, by omega, by omega⟩
      refine x_ixL (by walk_at "hx") hv ?_
      walk_at "go"
      refine ⟨_, _, rfl, .ok n1 n2 m1 m2 fun H5 e5 => ?_⟩
      walk_at "go"
      refine ⟨_, _, rfl, .int _, ?_⟩
      walk_at "go"
      refine x_false ?_
      walk_at "go"
      refine ⟨n, m, rfl, n1, n2, m1, m2, fun H6 e6 => ?_⟩
      walk_at "go"
      refine x_decN (fun z => absurd rfl z) fun _ => ?_
      walk_at "go"
      refine x_dec (fun lt => ?_) (fun le => ?_)
      · walk_at "go"
        refine x_mkL (by simp) fun l3 H7 l30 e7 h7 => ?_
        walk_at "go"
        refine x_lcN [at_ mg "first_row", at_ mg "last_row"] V.ref (fun _ => HO.lst [.str "NoCount"]) (Evl.sq_of h7) (by simp) (fun _ => rfl) (fun x hx H' e' Q' k => ?_) (fun D H8 ps D0 e8 hD pl hps => ?_)
        · walk_at "go"
          refine ⟨x, _, _, _, _, "NoCount", rfl, .int n, .int m, ?_, .inr ⟨rfl, n, rfl, n1, n2, .inr ⟨m, rfl, m1, m2, lt, ?_⟩⟩, fun l' H2' l0' e2' h2' => ?_⟩
          · simp only [List.mem_cons, List.not_mem_nil, or_false] at hx
            rcases hx with rfl | rfl
            · exact .inr (.inl rfl)
            · exact .inr (.inr rfl)
          · simp only [List.mem_cons, List.not_mem_nil, or_false] at hx
            exact hx
          · walk_at "go"
            exact k l' H2' l0' e2' h2'
        walk_at "go"
        refine x_mkL (by simp) fun l4 H9 l40 e9 h9 => ?_
        walk_at "go"
        refine x_mkL (by simp) fun l5 H10 l50 e10 h10 => ?_
        walk_at "go"
        refine x_mkL (by simp) fun l6 H11 l60 e11 h11 => ?_
        walk_at "go"
        match ps, pl with
        | [x1, x2], _ => ?_
        have g1 := hps 0 _ x1 rfl rfl
        have g2 := hps 1 _ x2 rfl rfl
        have ex : Ex H8 H11 := e9.trans (e10.trans e11)
        refine x_neW2 (ex _ _ hD) (ex _ _ g1) (ex _ _ g2) h11 (e11 _ _ (e10 _ _ h9)) (e11 _ _ h10) (by decide +kernel) ?_
        walk_at "go"
        exact ⟨⟨_, _, _, _, _, _, rfl⟩, .of (by walk_at "hx")⟩
      · walk_at "go"
        refine ⟨_, _, rfl, .ok n1 n2 m1 m2 (.inr ⟨by omega, fun p H7 e7 hp => ?_⟩)⟩
        walk_at "go"
        refine x_mkT (by simp) fun p1 H8 p10 e8 hp1 => ?_
        walk_at "go"
        refine x_repT hp1 (by omega) (by omega) fun r H9 e9 hr => ?_
        walk_at "go"
        refine x_neT (Evl.st_of (by walk_at "hx")) (Evl.st_of hr) ?_ ?_ ?_
        · simp [plainV]
        · simp [plainV]
        walk_at "go"
        refine x_decN (fun z => absurd rfl z) fun _ => ?_
        walk_at "go"
        refine ⟨_, _, rfl, .ok n1 n2 m1 m2 (.inr ⟨by omega, fun t H10 t0 e10 ht => ?_⟩)⟩
        walk_at "go"
        refine x_lstDn ?_
        walk_at "go"
        refine x_downs (by omega) (by decide) fun d H11 d0 e11 hd => ?_
        walk_at "go"
        refine x_slL (hi := some m) (Evl.sq_of hd) fun c2 H12 c20 e12 hc2 => ?_
        rw [show m = ((m.toNat : Nat) : Int) from by omega, cut_to, ← List.map_take, downs_row m1 (by omega)] at hc2
        walk_at "go"
        refine x_tupOf (by walk_at "hx") fun t2 H13 t20 e13 ht2 => ?_
        walk_at "go"
        refine x_neT (Evl.st_of (by walk_at "hx")) (Evl.st_of ht2) (plain_ints _) (plain_ints _) ?_
        walk_at "go"
        refine x_decN (fun z => absurd rfl z) fun _ => ?_
        walk_at "go"
        exact ⟨⟨_, _, _, _, _, _, rfl⟩, .of (by walk_at "hx")⟩
    · obtain ⟨⟨z1, z2, z3, z4, z5, z6, rfl⟩, far⟩ := p
      walk_at "go"
      -- what is no quay, no count
      refine x_mkL (by simp) fun l H3 l0 e3 h3 => ?_
      walk_at "go"
      refine x_forL [at_ mg "how_many", at_ mg "first_row", at_ mg "last_row"] V.ref (fun pre σ' H' => (∃ z1 z2 z3 z4 z5 z6, σ' = [some (.ref a), z1, z2, z3, z4, z5, z6]) ∧ Far H3 H') ⟨⟨_, _, _, _, _, _, rfl⟩, .of (Evl.Ex.refl _)⟩ (fun pre σ' H' _ p => Evl.sq_of (p.2.e _ _ h3)) (fun pre f0 post σ' H' ea p => ?_) (fun σ' H' p => ?_)
      · obtain ⟨⟨z1, z2, z3, z4, z5, z6, rfl⟩, far3⟩ := p
        have hf : Act3 mg f0 := by
          have : f0 ∈ [at_ mg "how_many", at_ mg "first_row", at_ mg "last_row"] := by rw [ea]; simp
          simp only [List.mem_cons, List.not_mem_nil, or_false] at this
          exact this
        walk_at "go"
        refine x_mkL (by simp) fun l3 H4 l30 e4 h4 => ?_
        walk_at "go"
        refine x_rI ⟨by decide, by decide, by decide⟩ ?_
        walk_at "go"
        refine x_mkL (by simp) fun lo H5 lo0 e5 h5 => ?_
        walk_at "go"
        have odd : ∀ x ∈ [V.int 0, .int 401, .int (-1), .non, .bl true, .str "5", .ref l3, .int (10 ^ 40)], Odd K H5 1 400 x := by
          intro x hx
          simp only [List.mem_cons, List.not_mem_nil, or_false] at hx
          rcases hx with rfl | rfl | rfl | rfl | rfl | rfl | rfl | rfl
          · exact ⟨⟨_, .int _⟩, rfl⟩
          · exact ⟨⟨_, .int _⟩, rfl⟩
          · exact ⟨⟨_, .int _⟩, rfl⟩
          · exact ⟨⟨_, .non⟩, rfl⟩
          · exact ⟨⟨_, .bl _⟩, rfl⟩
          · exact ⟨⟨_, .str _⟩, rfl⟩
          · exact ⟨⟨_, .lst (Evl.sq_of (e5 _ _ h4))⟩, rfl⟩
          · exact ⟨⟨_, .int _⟩, by decide⟩
        generalize hodds : [V.int 0, .int 401, .int (-1), .non, .bl true, .str "5", .ref l3, .int (10 ^ 40)] = odds at odd
        have h5 : H5 lo = some (.lst odds) := by rw [← hodds]; exact h5
        clear hodds
        refine x_forL odds (fun x => x) (fun pre σ' H' => (∃ z1 z2 z3 z4 z6, σ' = [some (.ref a), z1, z2, z3, z4, some (.ref f0), z6]) ∧ Far H5 H') ⟨⟨_, _, _, _, _, rfl⟩, .of (Evl.Ex.refl _)⟩ (fun pre σ' H' _ p => by rw [id_map]; exact Evl.sq_of (p.2.e _ _ h5)) (fun pre x post σ' H' ea p => ?_) (fun σ' H' p => ?_)
        · obtain ⟨⟨z1, z2, z3, z4, z6, rfl⟩, far5⟩ := p
          obtain ⟨⟨sx, kx⟩, bx⟩ := (odd x (by rw [ea]; simp)).ex far5.e
          walk_at "go"
          refine ⟨f0, x, .int 1, sx, _, "NoQuay", rfl, kx, .int 1, hf, .inl ⟨rfl, bx⟩, fun l6 H6 l60 e6 h6 => ?_⟩
          walk_at "go"
          refine x_mkL (by simp) fun l7 H7 l70 e7 h7 => ?_
          walk_at "go"
          refine x_neW (by walk_at "hx") h7 rfl (by decide +kernel) ?_
          walk_at "go"
          refine ⟨f0, x, .int (-1), sx, _, "NoQuay", rfl, kx.ex (by walk_at "hx"), .int (-1), hf, .inl ⟨rfl, bx⟩, fun l8 H8 l80 e8 h8 => ?_⟩
          walk_at "go"
          refine x_mkL (by simp) fun l9 H9 l90 e9 h9 => ?_
          walk_at "go"
          refine x_neW (by walk_at "hx") h9 rfl (by decide +kernel) ?_
          walk_at "go"
          exact ⟨⟨_, _, _, _, _, rfl⟩, .of (by walk_at "hx")⟩
        · obtain ⟨⟨z1, z2, z3, z4, z6, rfl⟩, far5⟩ := p
          walk_at "go"
          refine x_mkT (by simp) fun t3 H6 t30 e6 h6 => ?_
          walk_at "go"
          refine x_rI ⟨by decide, by decide, by decide⟩ ?_
          walk_at "go"
          refine x_mkL (by simp) fun lo2 H7 lo20 e7 h7 => ?_
          walk_at "go"
          have odd2 : ∀ x ∈ [V.int (-1), .int 401, .non, .bl false, .str "0", .ref t3, .int (10 ^ 40)], Odd K H7 0 400 x := by
            intro x hx
            simp only [List.mem_cons, List.not_mem_nil, or_false] at hx
            rcases hx with rfl | rfl | rfl | rfl | rfl | rfl | rfl
            · exact ⟨⟨_, .int _⟩, rfl⟩
            · exact ⟨⟨_, .int _⟩, rfl⟩
            · exact ⟨⟨_, .non⟩, rfl⟩
            · exact ⟨⟨_, .bl _⟩, rfl⟩
            · exact ⟨⟨_, .str _⟩, rfl⟩
            · exact ⟨⟨_, .tup (Evl.st_of (e7 _ _ h6))⟩, rfl⟩
            · exact ⟨⟨_, .int _⟩, by decide⟩
          generalize hodds : [V.int (-1), .int 401, .non, .bl false, .str "0", .ref t3, .int (10 ^ 40)] = odds2 at odd2
          have h7 : H7 lo2 = some (.lst odds2) := by rw [← hodds]; exact h7
          clear hodds
          refine x_forL odds2 (fun x => x) (fun pre σ' H' => (∃ z1 z2 z3 z4 z6, σ' = [some (.ref a), z1, z2, z3, z4, some (.ref f0), z6]) ∧ Far H7 H') ⟨⟨_, _, _, _, _, rfl⟩, .of (Evl.Ex.refl _)⟩ (fun pre σ' H' _ p => by rw [id_map]; exact Evl.sq_of (p.2.e _ _ h7)) (fun pre x post σ' H' ea p => ?_) (fun σ' H' p => ?_)
          · obtain ⟨⟨z1, z2, z3, z4, z6, rfl⟩, far7⟩ := p
            obtain ⟨⟨sx, kx⟩, bx⟩ := (odd2 x (by rw [ea]; simp)).ex far7.e
            walk_at "go"
            refine ⟨f0, .int 5, x, _, sx, "NoCount", rfl, .int 5, kx, hf, .inr ⟨rfl, 5, rfl, by decide, by decide, .inl bx⟩, fun l8 H8 l80 e8 h8 => ?_⟩
            walk_at "go"
            refine x_mkL (by simp) fun l9 H9 l90 e9 h9 => ?_
            walk_at "go"
            refine x_neW (by walk_at "hx") h9 rfl (by decide +kernel) ?_
            walk_at "go"
            exact ⟨⟨_, _, _, _, _, rfl⟩, .of (by walk_at "hx")⟩
          · obtain ⟨⟨z1, z2, z3, z4, z6, rfl⟩, far7⟩ := p
            walk_at "go"
            exact ⟨⟨_, _, _, _, _, _, rfl⟩, .of (far3.e.trans (e4.trans (e5.trans (far5.e.trans (e6.trans (e7.trans far7.e))))))⟩
      · obtain ⟨⟨z1, z2, z3, z4, z5, z6, rfl⟩, far3⟩ := p
        walk_at "go"
        refine ⟨_, _, rfl, .ok (n := 400) (m := 0) (by decide) (by decide) (by decide) (by decide) fun H4 e4 => ?_⟩
        walk_at "go"
        refine x_dec (fun _ => ?_) (fun z => absurd rfl z)
        walk_at "go"
        refine ⟨_, _, rfl, .ok (n := 1) (m := 1) (by decide) (by decide) (by decide) (by decide) fun H5 e5 => ?_⟩
        walk_at "go"
        refine x_dec (fun _ => ?_) (fun z => absurd rfl z)
        walk_at "go"
        refine ⟨_, _, rfl, .ok (n := 3) (m := 3) (by decide) (by decide) (by decide) (by decide) fun H6 e6 => ?_⟩
        walk_at "go"
        rw [decide_eq_true (show V.int (howMany 3 3) = V.int 16 from rfl)]
        exact q _

/-! ### what the top has written, the end -/
theorem all_mk {l : PySem.W.OpenLaw} {w : World} {K : PySem.W.Frag} {h : Heap} {mg : Str → Option Value} {fa : Addr} (X : K.In h) (G : h.Ns mainGlobals mg) (hfa : mg "law" = some (.ref fa))
    {f_is_number : Addr} {od_is_number an_is_number : Option Addr} {sl_is_number : Array (Option Value)} {oc_is_number kV_is_number dc_is_number pm_is_number cd_is_number ct_is_number : Value}
    {f_need_quay : Addr} {od_need_quay an_need_quay : Option Addr} {sl_need_quay : Array (Option Value)} {oc_need_quay kV_need_quay dc_need_quay pm_need_quay cd_need_quay ct_need_quay : Value}
    {f_how_many : Addr} {od_how_many an_how_many : Option Addr} {sl_how_many : Array (Option Value)} {oc_how_many kV_how_many dc_how_many pm_how_many cd_how_many ct_how_many : Value}
    {f_need_ships : Addr} {od_need_ships an_need_ships : Option Addr} {sl_need_ships : Array (Option Value)} {oc_need_ships kV_need_ships dc_need_ships pm_need_ships cd_need_ships ct_need_ships : Value}
    {f_first_row : Addr} {od_first_row an_first_row : Option Addr} {sl_first_row : Array (Option Value)} {oc_first_row kV_first_row dc_first_row pm_first_row cd_first_row ct_first_row : Value}
    {f_last_row : Addr} {od_last_row an_last_row : Option Addr} {sl_last_row : Array (Option Value)} {oc_last_row kV_last_row dc_last_row pm_last_row cd_last_row ct_last_row : Value}
    {f__law_cell_at : Addr} {od__law_cell_at an__law_cell_at : Option Addr} {sl__law_cell_at : Array (Option Value)} {oc__law_cell_at kV__law_cell_at dc__law_cell_at pm__law_cell_at cd__law_cell_at ct__law_cell_at : Value}
    {f__law_whole : Addr} {od__law_whole an__law_whole : Option Addr} {sl__law_whole : Array (Option Value)} {oc__law_whole kV__law_whole dc__law_whole pm__law_whole cd__law_whole ct__law_whole : Value}
    {f__law_due : Addr} {od__law_due an__law_due : Option Addr} {sl__law_due : Array (Option Value)} {oc__law_due kV__law_due dc__law_due pm__law_due cd__law_due ct__law_due : Value}
    {f__law_caught : Addr} {od__law_caught an__law_caught : Option Addr} {sl__law_caught : Array (Option Value)} {oc__law_caught kV__law_caught dc__law_caught pm__law_caught cd__law_caught ct__law_caught : Value}
    {f_law : Addr} {od_law an_law : Option Addr} {sl_law : Array (Option Value)} {oc_law kV_law dc_law pm_law cd_law ct_law : Value}
    {t_MOST : Tok}
    {C_NoQuay : Addr}
    {C_NoCount : Addr}
    {C_BerthError : Addr}
    {C_NoOrder : Addr}
    {C_NoTree : Addr}
    {C_NoWishes : Addr}
    {C_TooMany : Addr}
    (a_is_number : PySem.W.nsIn K mainGlobals "is_number" = some (some (.ref f_is_number)))
    (l_is_number : K.lookup f_is_number = some ⟨oc_is_number, od_is_number, .func (PySem.W.fnOf "is_number" "is_number" (defArgs s_is_number) (defBody s_is_number) (defScope s_is_number) .none kV_is_number dc_is_number pm_is_number an_is_number cd_is_number ct_is_number), sl_is_number⟩)
    (c_is_number : PySem.W.codeIn K cd_is_number "is_number" = true)
    (k_is_number : PySem.W.keepIn K (.ref f_is_number) = true)
    (a_need_quay : PySem.W.nsIn K mainGlobals "need_quay" = some (some (.ref f_need_quay)))
    (l_need_quay : K.lookup f_need_quay = some ⟨oc_need_quay, od_need_quay, .func (PySem.W.fnOf "need_quay" "need_quay" (defArgs s_need_quay) (defBody s_need_quay) (defScope s_need_quay) .none kV_need_quay dc_need_quay pm_need_quay an_need_quay cd_need_quay ct_need_quay), sl_need_quay⟩)
    (c_need_quay : PySem.W.codeIn K cd_need_quay "need_quay" = true)
    (k_need_quay : PySem.W.keepIn K (.ref f_need_quay) = true)
    (a_how_many : PySem.W.nsIn K mainGlobals "how_many" = some (some (.ref f_how_many)))
    (l_how_many : K.lookup f_how_many = some ⟨oc_how_many, od_how_many, .func (PySem.W.fnOf "how_many" "how_many" (defArgs s_how_many) (defBody s_how_many) (defScope s_how_many) .none kV_how_many dc_how_many pm_how_many an_how_many cd_how_many ct_how_many), sl_how_many⟩)
    (c_how_many : PySem.W.codeIn K cd_how_many "how_many" = true)
    (k_how_many : PySem.W.keepIn K (.ref f_how_many) = true)
    (a_need_ships : PySem.W.nsIn K mainGlobals "need_ships" = some (some (.ref f_need_ships)))
    (l_need_ships : K.lookup f_need_ships = some ⟨oc_need_ships, od_need_ships, .func (PySem.W.fnOf "need_ships" "need_ships" (defArgs s_need_ships) (defBody s_need_ships) (defScope s_need_ships) .none kV_need_ships dc_need_ships pm_need_ships an_need_ships cd_need_ships ct_need_ships), sl_need_ships⟩)
    (c_need_ships : PySem.W.codeIn K cd_need_ships "need_ships" = true)
    (k_need_ships : PySem.W.keepIn K (.ref f_need_ships) = true)
    (a_first_row : PySem.W.nsIn K mainGlobals "first_row" = some (some (.ref f_first_row)))
    (l_first_row : K.lookup f_first_row = some ⟨oc_first_row, od_first_row, .func (PySem.W.fnOf "first_row" "first_row" (defArgs s_first_row) (defBody s_first_row) (defScope s_first_row) .none kV_first_row dc_first_row pm_first_row an_first_row cd_first_row ct_first_row), sl_first_row⟩)
    (c_first_row : PySem.W.codeIn K cd_first_row "first_row" = true)
    (k_first_row : PySem.W.keepIn K (.ref f_first_row) = true)
    (a_last_row : PySem.W.nsIn K mainGlobals "last_row" = some (some (.ref f_last_row)))
    (l_last_row : K.lookup f_last_row = some ⟨oc_last_row, od_last_row, .func (PySem.W.fnOf "last_row" "last_row" (defArgs s_last_row) (defBody s_last_row) (defScope s_last_row) .none kV_last_row dc_last_row pm_last_row an_last_row cd_last_row ct_last_row), sl_last_row⟩)
    (c_last_row : PySem.W.codeIn K cd_last_row "last_row" = true)
    (k_last_row : PySem.W.keepIn K (.ref f_last_row) = true)
    (a__law_cell_at : PySem.W.nsIn K mainGlobals "_law_cell_at" = some (some (.ref f__law_cell_at)))
    (l__law_cell_at : K.lookup f__law_cell_at = some ⟨oc__law_cell_at, od__law_cell_at, .func (PySem.W.fnOf "_law_cell_at" "_law_cell_at" (defArgs s__law_cell_at) (defBody s__law_cell_at) (defScope s__law_cell_at) .none kV__law_cell_at dc__law_cell_at pm__law_cell_at an__law_cell_at cd__law_cell_at ct__law_cell_at), sl__law_cell_at⟩)
    (c__law_cell_at : PySem.W.codeIn K cd__law_cell_at "_law_cell_at" = true)
    (k__law_cell_at : PySem.W.keepIn K (.ref f__law_cell_at) = true)
    (a__law_whole : PySem.W.nsIn K mainGlobals "_law_whole" = some (some (.ref f__law_whole)))
    (l__law_whole : K.lookup f__law_whole = some ⟨oc__law_whole, od__law_whole, .func (PySem.W.fnOf "_law_whole" "_law_whole" (defArgs s__law_whole) (defBody s__law_whole) (defScope s__law_whole) .none kV__law_whole dc__law_whole pm__law_whole an__law_whole cd__law_whole ct__law_whole), sl__law_whole⟩)
    (c__law_whole : PySem.W.codeIn K cd__law_whole "_law_whole" = true)
    (k__law_whole : PySem.W.keepIn K (.ref f__law_whole) = true)
    (a__law_due : PySem.W.nsIn K mainGlobals "_law_due" = some (some (.ref f__law_due)))
    (l__law_due : K.lookup f__law_due = some ⟨oc__law_due, od__law_due, .func (PySem.W.fnOf "_law_due" "_law_due" (defArgs s__law_due) (defBody s__law_due) (defScope s__law_due) .none kV__law_due dc__law_due pm__law_due an__law_due cd__law_due ct__law_due), sl__law_due⟩)
    (c__law_due : PySem.W.codeIn K cd__law_due "_law_due" = true)
    (k__law_due : PySem.W.keepIn K (.ref f__law_due) = true)
    (a__law_caught : PySem.W.nsIn K mainGlobals "_law_caught" = some (some (.ref f__law_caught)))
    (l__law_caught : K.lookup f__law_caught = some ⟨oc__law_caught, od__law_caught, .func (PySem.W.fnOf "_law_caught" "_law_caught" (defArgs s__law_caught) (defBody s__law_caught) (defScope s__law_caught) .none kV__law_caught dc__law_caught pm__law_caught an__law_caught cd__law_caught ct__law_caught), sl__law_caught⟩)
    (c__law_caught : PySem.W.codeIn K cd__law_caught "_law_caught" = true)
    (k__law_caught : PySem.W.keepIn K (.ref f__law_caught) = true)
    (a_law : PySem.W.nsIn K mainGlobals "law" = some (some (.ref f_law)))
    (l_law : K.lookup f_law = some ⟨oc_law, od_law, .func (PySem.W.fnOf "law" "law" (defArgs s_law) (defBody s_law) (defScope s_law) .none kV_law dc_law pm_law an_law cd_law ct_law), sl_law⟩)
    (c_law : PySem.W.codeIn K cd_law "law" = true)
    (k_law : PySem.W.keepIn K (.ref f_law) = true)
    (z_len : PySem.W.nsIn K mainGlobals "len" = some none)
    (z_isinstance : PySem.W.nsIn K mainGlobals "isinstance" = some none)
    (z_max : PySem.W.nsIn K mainGlobals "max" = some none)
    (z_range : PySem.W.nsIn K mainGlobals "range" = some none)
    (z_int : PySem.W.nsIn K mainGlobals "int" = some none)
    (z_bool : PySem.W.nsIn K mainGlobals "bool" = some none)
    (z_list : PySem.W.nsIn K mainGlobals "list" = some none)
    (z_tuple : PySem.W.nsIn K mainGlobals "tuple" = some none)
    (z_ValueError : PySem.W.nsIn K mainGlobals "ValueError" = some none)
    (q_MOST : PySem.W.nsIn K mainGlobals "MOST" = some (some (.int 400 t_MOST)))
    (e_NoQuay : PySem.W.nsIn K mainGlobals "NoQuay" = some (some (.ref C_NoQuay)))
    (x_NoQuay : PySem.W.excIn K C_NoQuay [.type "ValueError", .type "Exception", .type "BaseException", .type "object"] "ValueError.__new__" = true)
    (w_NoQuay : PySem.W.keepIn K (.ref C_NoQuay) = true)
    (b_NoQuay : PySem.W.subIn K (.ref C_NoQuay) (.type "BaseException") = some true)
    (y_NoQuay : PySem.W.typeIn K (.ref C_NoQuay) = some (.type "type"))
    (e_NoCount : PySem.W.nsIn K mainGlobals "NoCount" = some (some (.ref C_NoCount)))
    (x_NoCount : PySem.W.excIn K C_NoCount [.type "ValueError", .type "Exception", .type "BaseException", .type "object"] "ValueError.__new__" = true)
    (w_NoCount : PySem.W.keepIn K (.ref C_NoCount) = true)
    (b_NoCount : PySem.W.subIn K (.ref C_NoCount) (.type "BaseException") = some true)
    (y_NoCount : PySem.W.typeIn K (.ref C_NoCount) = some (.type "type"))
    (e_BerthError : PySem.W.nsIn K mainGlobals "BerthError" = some (some (.ref C_BerthError)))
    (e_NoOrder : PySem.W.nsIn K mainGlobals "NoOrder" = some (some (.ref C_NoOrder)))
    (e_NoTree : PySem.W.nsIn K mainGlobals "NoTree" = some (some (.ref C_NoTree)))
    (e_NoWishes : PySem.W.nsIn K mainGlobals "NoWishes" = some (some (.ref C_NoWishes)))
    (e_TooMany : PySem.W.nsIn K mainGlobals "TooMany" = some (some (.ref C_TooMany)))
    (sb_BerthError : PySem.W.subIn K (.ref C_BerthError) (.type "BaseException") = some true)
    (hd_BerthError : PySem.W.hasDictIn K C_BerthError = true)
    (ty_BerthError : PySem.W.typeIn K (.ref C_BerthError) = some (.type "type"))
    (xn : PySem.W.specialIn K (.builtin "object.__class__") "__get__" = some (some (.builtin "getset_descriptor.__get__")))
    (xt : PySem.W.takesIn K (.builtin "object.__class__") = some true)
    (kg_NoQuay : PySem.W.findIn K (.ref C_NoQuay) "__getattribute__" = some (some (.builtin "BaseException.__getattribute__")))
    (kk_NoQuay : PySem.W.findIn K (.ref C_NoQuay) "__getattr__" = some none)
    (kd_NoQuay : PySem.W.hasDictIn K C_NoQuay = true)
    (ka_NoQuay : PySem.W.findIn K (.ref C_NoQuay) "__class__" = some (some (.builtin "object.__class__")))
    (km_NoQuay : PySem.W.mroIn K C_NoQuay (.type "object") = some true)
    (ks_NoQuay : PySem.W.subIn K (.ref C_NoQuay) (.ref C_BerthError) = some true)
    (kg_NoCount : PySem.W.findIn K (.ref C_NoCount) "__getattribute__" = some (some (.builtin "BaseException.__getattribute__")))
    (kk_NoCount : PySem.W.findIn K (.ref C_NoCount) "__getattr__" = some none)
    (kd_NoCount : PySem.W.hasDictIn K C_NoCount = true)
    (ka_NoCount : PySem.W.findIn K (.ref C_NoCount) "__class__" = some (some (.builtin "object.__class__")))
    (km_NoCount : PySem.W.mroIn K C_NoCount (.type "object") = some true)
    (ks_NoCount : PySem.W.subIn K (.ref C_NoCount) (.ref C_BerthError) = some true)
    (qi_NoQuay_NoOrder : PySem.W.kitOne K (.ref C_NoQuay) (.ref C_NoOrder) = some false)
    (qi_NoQuay_NoTree : PySem.W.kitOne K (.ref C_NoQuay) (.ref C_NoTree) = some false)
    (qi_NoQuay_NoWishes : PySem.W.kitOne K (.ref C_NoQuay) (.ref C_NoWishes) = some false)
    (qi_NoQuay_TooMany : PySem.W.kitOne K (.ref C_NoQuay) (.ref C_TooMany) = some false)
    (qi_NoQuay_ValueError : PySem.W.kitOne K (.ref C_NoQuay) (.type "ValueError") = some true)
    (qi_NoQuay_NoCount : PySem.W.kitOne K (.ref C_NoQuay) (.ref C_NoCount) = some false)
    (qi_NoCount_NoOrder : PySem.W.kitOne K (.ref C_NoCount) (.ref C_NoOrder) = some false)
    (qi_NoCount_NoTree : PySem.W.kitOne K (.ref C_NoCount) (.ref C_NoTree) = some false)
    (qi_NoCount_NoWishes : PySem.W.kitOne K (.ref C_NoCount) (.ref C_NoWishes) = some false)
    (qi_NoCount_TooMany : PySem.W.kitOne K (.ref C_NoCount) (.ref C_TooMany) = some false)
    (qi_NoCount_ValueError : PySem.W.kitOne K (.ref C_NoCount) (.type "ValueError") = some true)
    (qi_NoCount_NoQuay : PySem.W.kitOne K (.ref C_NoCount) (.ref C_NoQuay) = some false)
    (qi_none_NoOrder : PySem.W.kitOne K (.type "NoneType") (.ref C_NoOrder) = some false)
    (qi_none_NoTree : PySem.W.kitOne K (.type "NoneType") (.ref C_NoTree) = some false)
    (qi_none_NoWishes : PySem.W.kitOne K (.type "NoneType") (.ref C_NoWishes) = some false)
    (qi_none_TooMany : PySem.W.kitOne K (.type "NoneType") (.ref C_TooMany) = some false)
    (qi_none_NoQuay : PySem.W.kitOne K (.type "NoneType") (.ref C_NoQuay) = some false)
    (qi_none_NoCount : PySem.W.kitOne K (.type "NoneType") (.ref C_NoCount) = some false) :
    ∃ fd : FuncData, (∀ (s : Shared) (v : Value), BindsTo s fd ⟨[v], []⟩ [("_law_script", v)]) ∧ ∀ base : Heap, K.In base → base.Ns mainGlobals mg → FnOk l.prog w K mg base (L2.CX l.prog w) 7 fa fd ["_law_script"] (sp_law K) := by
  have e := hfa.symm.trans (PySem.W.mg_of X G a_law)
  cases e
  have N : Nms K mg := { n_len := PySem.W.mg_none_of X G z_len, n_isinstance := PySem.W.mg_none_of X G z_isinstance, n_max := PySem.W.mg_none_of X G z_max, n_range := PySem.W.mg_none_of X G z_range, n_int := PySem.W.mg_none_of X G z_int, n_bool := PySem.W.mg_none_of X G z_bool, n_list := PySem.W.mg_none_of X G z_list, n_tuple := PySem.W.mg_none_of X G z_tuple, n_ValueError := PySem.W.mg_none_of X G z_ValueError, c_MOST := ⟨_, PySem.W.mg_of X G q_MOST, ⟨_, rfl⟩⟩, x_NoQuay := ⟨_, PySem.W.mg_of X G e_NoQuay, x_NoQuay, w_NoQuay, b_NoQuay, y_NoQuay⟩, x_NoCount := ⟨_, PySem.W.mg_of X G e_NoCount, x_NoCount, w_NoCount, b_NoCount, y_NoCount⟩, m_how_many := B.m_of (PySem.W.mg_of X G a_how_many), m_first_row := B.m_of (PySem.W.mg_of X G a_first_row), m_last_row := B.m_of (PySem.W.mg_of X G a_last_row), m_BerthError := B.m_of (PySem.W.mg_of X G e_BerthError), m_NoOrder := B.m_of (PySem.W.mg_of X G e_NoOrder), m_NoTree := B.m_of (PySem.W.mg_of X G e_NoTree), m_NoWishes := B.m_of (PySem.W.mg_of X G e_NoWishes), m_TooMany := B.m_of (PySem.W.mg_of X G e_TooMany), m_NoQuay := B.m_of (PySem.W.mg_of X G e_NoQuay), m_NoCount := B.m_of (PySem.W.mg_of X G e_NoCount), k_NoQuay := by rw [B.at_of (PySem.W.mg_of X G e_NoQuay)]; exact ⟨kg_NoQuay, kk_NoQuay, b_NoQuay, kd_NoQuay, ka_NoQuay, xn, xt, km_NoQuay⟩, e_NoQuay := by rw [B.at_of (PySem.W.mg_of X G e_NoQuay), B.at_of (PySem.W.mg_of X G e_BerthError)]; exact PySem.W.exm_ref sb_BerthError hd_BerthError ty_BerthError ks_NoQuay, k_NoCount := by rw [B.at_of (PySem.W.mg_of X G e_NoCount)]; exact ⟨kg_NoCount, kk_NoCount, b_NoCount, kd_NoCount, ka_NoCount, xn, xt, km_NoCount⟩, e_NoCount := by rw [B.at_of (PySem.W.mg_of X G e_NoCount), B.at_of (PySem.W.mg_of X G e_BerthError)]; exact PySem.W.exm_ref sb_BerthError hd_BerthError ty_BerthError ks_NoCount, i_NoQuay_NoOrder := by rw [B.at_of (PySem.W.mg_of X G e_NoQuay), B.at_of (PySem.W.mg_of X G e_NoOrder)]; exact qi_NoQuay_NoOrder, i_NoQuay_NoTree := by rw [B.at_of (PySem.W.mg_of X G e_NoQuay), B.at_of (PySem.W.mg_of X G e_NoTree)]; exact qi_NoQuay_NoTree, i_NoQuay_NoWishes := by rw [B.at_of (PySem.W.mg_of X G e_NoQuay), B.at_of (PySem.W.mg_of X G e_NoWishes)]; exact qi_NoQuay_NoWishes, i_NoQuay_TooMany := by rw [B.at_of (PySem.W.mg_of X G e_NoQuay), B.at_of (PySem.W.mg_of X G e_TooMany)]; exact qi_NoQuay_TooMany, i_NoQuay_ValueError := by rw [B.at_of (PySem.W.mg_of X G e_NoQuay)]; exact qi_NoQuay_ValueError, i_NoQuay_NoQuay := by unfold PySem.W.kitOne; simp, i_NoQuay_NoCount := by rw [B.at_of (PySem.W.mg_of X G e_NoQuay), B.at_of (PySem.W.mg_of X G e_NoCount)]; exact qi_NoQuay_NoCount, i_NoCount_NoOrder := by rw [B.at_of (PySem.W.mg_of X G e_NoCount), B.at_of (PySem.W.mg_of X G e_NoOrder)]; exact qi_NoCount_NoOrder, i_NoCount_NoTree := by rw [B.at_of (PySem.W.mg_of X G e_NoCount), B.at_of (PySem.W.mg_of X G e_NoTree)]; exact qi_NoCount_NoTree, i_NoCount_NoWishes := by rw [B.at_of (PySem.W.mg_of X G e_NoCount), B.at_of (PySem.W.mg_of X G e_NoWishes)]; exact qi_NoCount_NoWishes, i_NoCount_TooMany := by rw [B.at_of (PySem.W.mg_of X G e_NoCount), B.at_of (PySem.W.mg_of X G e_TooMany)]; exact qi_NoCount_TooMany, i_NoCount_ValueError := by rw [B.at_of (PySem.W.mg_of X G e_NoCount)]; exact qi_NoCount_ValueError, i_NoCount_NoQuay := by rw [B.at_of (PySem.W.mg_of X G e_NoCount), B.at_of (PySem.W.mg_of X G e_NoQuay)]; exact qi_NoCount_NoQuay, i_NoCount_NoCount := by unfold PySem.W.kitOne; simp, i_none_NoOrder := by rw [B.at_of (PySem.W.mg_of X G e_NoOrder)]; exact qi_none_NoOrder, i_none_NoTree := by rw [B.at_of (PySem.W.mg_of X G e_NoTree)]; exact qi_none_NoTree, i_none_NoWishes := by rw [B.at_of (PySem.W.mg_of X G e_NoWishes)]; exact qi_none_NoWishes, i_none_TooMany := by rw [B.at_of (PySem.W.mg_of X G e_TooMany)]; exact qi_none_TooMany, i_none_ValueError := kit_ty (by decide +kernel), i_none_NoQuay := by rw [B.at_of (PySem.W.mg_of X G e_NoQuay)]; exact qi_none_NoQuay, i_none_NoCount := by rw [B.at_of (PySem.W.mg_of X G e_NoCount)]; exact qi_none_NoCount }
  refine ⟨PySem.W.fnOf "law" "law" (defArgs s_law) (defBody s_law) (defScope s_law) .none kV_law dc_law pm_law an_law cd_law ct_law, fun s v => .of_eq rfl, fun base hb hg => ?_⟩
  have S_is_number : B.Stands K mg "is_number" s_is_number := ⟨_, _, fun_mk (st := s_is_number) l_is_number c_is_number k_is_number, PySem.W.mg_of X G a_is_number⟩
  have H_is_number := has_is_number (P := l.prog) (w := w) (base := base) S_is_number N 
  have S__law_cell_at : B.Stands K mg "_law_cell_at" s__law_cell_at := ⟨_, _, fun_mk (st := s__law_cell_at) l__law_cell_at c__law_cell_at k__law_cell_at, PySem.W.mg_of X G a__law_cell_at⟩
  have H__law_cell_at := has__law_cell_at (P := l.prog) (w := w) (base := base) S__law_cell_at N 
  have S__law_whole : B.Stands K mg "_law_whole" s__law_whole := ⟨_, _, fun_mk (st := s__law_whole) l__law_whole c__law_whole k__law_whole, PySem.W.mg_of X G a__law_whole⟩
  have H__law_whole := has__law_whole (P := l.prog) (w := w) (base := base) S__law_whole N 
  have S__law_due : B.Stands K mg "_law_due" s__law_due := ⟨_, _, fun_mk (st := s__law_due) l__law_due c__law_due k__law_due, PySem.W.mg_of X G a__law_due⟩
  have H__law_due := has__law_due (P := l.prog) (w := w) (base := base) S__law_due N 
  have S_need_quay : B.Stands K mg "need_quay" s_need_quay := ⟨_, _, fun_mk (st := s_need_quay) l_need_quay c_need_quay k_need_quay, PySem.W.mg_of X G a_need_quay⟩
  have H_need_quay := has_need_quay (P := l.prog) (w := w) (base := base) S_need_quay N H_is_number
  have S_how_many : B.Stands K mg "how_many" s_how_many := ⟨_, _, fun_mk (st := s_how_many) l_how_many c_how_many k_how_many, PySem.W.mg_of X G a_how_many⟩
  have H_how_many := has_how_many (P := l.prog) (w := w) (base := base) S_how_many N H_need_quay H_is_number
  have S_need_ships : B.Stands K mg "need_ships" s_need_ships := ⟨_, _, fun_mk (st := s_need_ships) l_need_ships c_need_ships k_need_ships, PySem.W.mg_of X G a_need_ships⟩
  have H_need_ships := has_need_ships (P := l.prog) (w := w) (base := base) S_need_ships N H_how_many
  have S_first_row : B.Stands K mg "first_row" s_first_row := ⟨_, _, fun_mk (st := s_first_row) l_first_row c_first_row k_first_row, PySem.W.mg_of X G a_first_row⟩
  have H_first_row := has_first_row (P := l.prog) (w := w) (base := base) S_first_row N H_need_ships
  have S_last_row : B.Stands K mg "last_row" s_last_row := ⟨_, _, fun_mk (st := s_last_row) l_last_row c_last_row k_last_row, PySem.W.mg_of X G a_last_row⟩
  have H_last_row := has_last_row (P := l.prog) (w := w) (base := base) S_last_row N H_need_ships
  have S__law_caught : B.Stands K mg "_law_caught" s__law_caught := ⟨_, _, fun_mk (st := s__law_caught) l__law_caught c__law_caught k__law_caught, PySem.W.mg_of X G a__law_caught⟩
  have H__law_caught := has__law_caught (P := l.prog) (w := w) (base := base) S__law_caught N H_how_many H_first_row H_last_row
  exact law_ok (fun_mk (st := s_law) l_law c_law k_law) N H_how_many H__law_whole H__law_due H_first_row H__law_caught H_last_row
theorem walk {l : PySem.W.OpenLaw} {q : Program} {loose : List Str} {XP : (Str → Option Value) → Heap → Prop} {YP : World → Heap → Prop} {d : DefRec} {K : Params → PySem.W.Frag} (hn : l.most = some 63) (hdf : d.params.defaults = [])
    (hY : ∀ (w : World) (h : Heap), YP w h → (K w.params).In h)
    (F : ∀ (w : World) (mg : Str → Option Value) (fa : Addr) (h : Heap), (K w.params).In h → h.Ns mainGlobals mg → mg d.name = some (.ref fa) →
      ∃ fd : FuncData, (∀ (s : Shared) (u : Value), BindsTo s fd ⟨[u], []⟩ [("_law_script", u)]) ∧ ∀ base : Heap, (K w.params).In base → base.Ns mainGlobals mg → FnOk l.prog w (K w.params) mg base (L2.CX l.prog w) 7 fa fd ["_law_script"] (sp_law (K w.params))) :
    PySem.W.WalkO q loose XP YP l.row.toRowW d [] (fun f vs => PySem.call f vs) :=
  L2.walk_of (n := 63) (k := 7) (x := "_law_script") (CX := fun w => L2.CX l.prog w) (sp := fun w => sp_law (K w.params)) hn (by decide) hdf ⟨rfl, by decide, by decide⟩ hY F (fun _ _ a ns hl _ hS => ⟨a, ns, rfl, hS, hl, fun _ => rfl⟩) fun _ _ _ _ _ z => by
    obtain ⟨_, _, _, _, _, _, _, _, _, _, _, _, z⟩ := z
    exact z
end My
open PySem PySem.W PyProof.Rows
set_option maxRecDepth 100000 in
set_option maxHeartbeats 0 in
theorem PySem.Challenge.cw_berthrow_k06_how_many_holds : PySem.Challenge.rw_berthrow_k06_how_many.Holds := by
  w_on; o_law; k_head; (case hw => w_witness2)
  k_fill
  refine My.walk (l := PySem.Challenge.rw_berthrow_k06_how_many) rfl rfl (fun w h Y => PySem.W.kIn_of Y) ?F
  case F =>
    intro w mg fa h KX G hmg
    refine' My.all_mk KX G hmg ?a_is_number ?l_is_number ?c_is_number ?k_is_number ?a_need_quay ?l_need_quay ?c_need_quay ?k_need_quay ?a_how_many ?l_how_many ?c_how_many ?k_how_many ?a_need_ships ?l_need_ships ?c_need_ships ?k_need_ships ?a_first_row ?l_first_row ?c_first_row ?k_first_row ?a_last_row ?l_last_row ?c_last_row ?k_last_row ?a__law_cell_at ?l__law_cell_at ?c__law_cell_at ?k__law_cell_at ?a__law_whole ?l__law_whole ?c__law_whole ?k__law_whole ?a__law_due ?l__law_due ?c__law_due ?k__law_due ?a__law_caught ?l__law_caught ?c__law_caught ?k__law_caught ?a_law ?l_law ?c_law ?k_law ?z_len ?z_isinstance ?z_max ?z_range ?z_int ?z_bool ?z_list ?z_tuple ?z_ValueError ?q_MOST ?e_NoQuay ?x_NoQuay ?w_NoQuay ?b_NoQuay ?y_NoQuay ?e_NoCount ?x_NoCount ?w_NoCount ?b_NoCount ?y_NoCount ?e_BerthError ?e_NoOrder ?e_NoTree ?e_NoWishes ?e_TooMany ?sb_BerthError ?hd_BerthError ?ty_BerthError ?xn ?xt ?kg_NoQuay ?kk_NoQuay ?kd_NoQuay ?ka_NoQuay ?km_NoQuay ?ks_NoQuay ?kg_NoCount ?kk_NoCount ?kd_NoCount ?ka_NoCount ?km_NoCount ?ks_NoCount ?qi_NoQuay_NoOrder ?qi_NoQuay_NoTree ?qi_NoQuay_NoWishes ?qi_NoQuay_TooMany ?qi_NoQuay_ValueError ?qi_NoQuay_NoCount ?qi_NoCount_NoOrder ?qi_NoCount_NoTree ?qi_NoCount_NoWishes ?qi_NoCount_TooMany ?qi_NoCount_ValueError ?qi_NoCount_NoQuay ?qi_none_NoOrder ?qi_none_NoTree ?qi_none_NoWishes ?qi_none_TooMany ?qi_none_NoQuay ?qi_none_NoCount
    (case a_is_number => k_is)
    (case l_is_number => k_is)
    (case c_is_number => k_is)
    (case k_is_number => k_is)
    (case a_need_quay => k_is)
    (case l_need_quay => k_is)
    (case c_need_quay => k_is)
    (case k_need_quay => k_is)
    (case a_how_many => k_is)
    (case l_how_many => k_is)
    (case c_how_many => k_is)
    (case k_how_many => k_is)
    (case a_need_ships => k_is)
    (case l_need_ships => k_is)
    (case c_need_ships => k_is)
    (case k_need_ships => k_is)
    (case a_first_row => k_is)
    (case l_first_row => k_is)
    (case c_first_row => k_is)
    (case k_first_row => k_is)
    (case a_last_row => k_is)
    (case l_last_row => k_is)
    (case c_last_row => k_is)
    (case k_last_row => k_is)
    (case a__law_cell_at => k_is)
    (case l__law_cell_at => k_is)
    (case c__law_cell_at => k_is)
    (case k__law_cell_at => k_is)
    (case a__law_whole => k_is)
    (case l__law_whole => k_is)
    (case c__law_whole => k_is)
    (case k__law_whole => k_is)
    (case a__law_due => k_is)
    (case l__law_due => k_is)
    (case c__law_due => k_is)
    (case k__law_due => k_is)
    (case a__law_caught => k_is)
    (case l__law_caught => k_is)
    (case c__law_caught => k_is)
    (case k__law_caught => k_is)
    (case a_law => k_is)
    (case l_law => k_is)
    (case c_law => k_is)
    (case k_law => k_is)
    (case z_len => k_is)
    (case z_isinstance => k_is)
    (case z_max => k_is)
    (case z_range => k_is)
    (case z_int => k_is)
    (case z_bool => k_is)
    (case z_list => k_is)
    (case z_tuple => k_is)
    (case z_ValueError => k_is)
    (case q_MOST => k_is)
    (case e_NoQuay => k_is)
    (case x_NoQuay => k_exc)
    (case w_NoQuay => k_is)
    (case b_NoQuay => k_is)
    (case y_NoQuay => k_is)
    (case e_NoCount => k_is)
    (case x_NoCount => k_exc)
    (case w_NoCount => k_is)
    (case b_NoCount => k_is)
    (case y_NoCount => k_is)
    (case e_BerthError => k_is)
    (case e_NoOrder => k_is)
    (case e_NoTree => k_is)
    (case e_NoWishes => k_is)
    (case e_TooMany => k_is)
    (case sb_BerthError => k_is)
    (case hd_BerthError => k_is)
    (case ty_BerthError => k_is)
    (case xn => k_is)
    (case xt => k_is)
    (case kg_NoQuay => k_is)
    (case kk_NoQuay => k_is)
    (case kd_NoQuay => k_is)
    (case ka_NoQuay => k_is)
    (case km_NoQuay => k_is)
    (case ks_NoQuay => k_is)
    (case kg_NoCount => k_is)
    (case kk_NoCount => k_is)
    (case kd_NoCount => k_is)
    (case ka_NoCount => k_is)
    (case km_NoCount => k_is)
    (case ks_NoCount => k_is)
    (case qi_NoQuay_NoOrder => kit_is)
    (case qi_NoQuay_NoTree => kit_is)
    (case qi_NoQuay_NoWishes => kit_is)
    (case qi_NoQuay_TooMany => kit_is)
    (case qi_NoQuay_ValueError => kit_is)
    (case qi_NoQuay_NoCount => kit_is)
    (case qi_NoCount_NoOrder => kit_is)
    (case qi_NoCount_NoTree => kit_is)
    (case qi_NoCount_NoWishes => kit_is)
    (case qi_NoCount_TooMany => kit_is)
    (case qi_NoCount_ValueError => kit_is)
    (case qi_NoCount_NoQuay => kit_is)
    (case qi_none_NoOrder => kit_is)
    (case qi_none_NoTree => kit_is)
    (case qi_none_NoWishes => kit_is)
    (case qi_none_TooMany => kit_is)
    (case qi_none_NoQuay => kit_is)
    (case qi_none_NoCount => kit_is)

