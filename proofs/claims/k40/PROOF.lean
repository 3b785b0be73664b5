import PyProof.Rows.All
import Wide.All
import OpenK.AllK
import Wide.FinOn
import PySem.Challenge.RW_runsback_k40_letters_rows_and_orders
import HandS.ForMost
import HandS.ForExc
import HandS.TryMany
import HandS.StrMore
import HandS.Style
import HandS.Conv
import HandS.IsInst
import HandS.DictComp
import HandS.Property
import HandS.OwnEq
import HandS.DeepEq
import HandS.Strs
import HandS.TupAny
import HandS.Small
import HandS.Walk
import HandS.Steps
import HandS.Zip0
import KE.KIndexOf
import KE.KEqDict
import PyProof.StrOps2
import PyProof.Rows.StrRev
set_option Elab.async false
set_option linter.all false
set_option maxRecDepth 100000
set_option maxHeartbeats 4000000
/-! Steps of readings: one lemma for each combinator; the word walk_at "rd" goes on by them. -/
namespace Rb
open PySem L2
section
variable {σ : L2.St} {H : Hp} {D : Ends} {K : PySem.W.Frag}
theorem r_var {i : Nat} {Q : VK} (h : ∃ v, σ[i]? = some (some v) ∧ Q v H) : tVar i σ H Q := h
theorem r_c {v : V} {Q : VK} (q : Q v H) : tC v σ H Q := q
theorem r_op {r : R2} {ta tb : TE} {Q : VK} (h : ta σ H fun x H1 => tb σ H1 fun y H2 => r x y H2 Q) : tOp r ta tb σ H Q := h
theorem r_un {r : V → Hp → VK → Prop} {ta : TE} {Q : VK} (h : ta σ H fun x H1 => r x H1 Q) : tUn r ta σ H Q := h
theorem r_i0 {g : Int → Int → V} {i j : Int} {Q : VK} (q : Q (g i j) H) : rI0 g (.int i) (.int j) H Q := ⟨i, j, rfl, rfl, q⟩
theorem r_i1 {C : Int → Int → Prop} {g : Int → Int → V} {i j : Int} {Q : VK} (hc : C i j) (q : Q (g i j) H) : rI C g (.int i) (.int j) H Q := ⟨i, j, rfl, rfl, hc, q⟩
theorem r_u {g : Int → V} {i : Int} {Q : VK} (q : Q (g i) H) : rU g (.int i) H Q := ⟨i, rfl, q⟩
theorem r_eq {x y : V} {Q : VK} (hs : scal x y = true) (q : Q (.bl (decide (x = y))) H) : rEq x y H Q := ⟨hs, q⟩
theorem r_ne {x y : V} {Q : VK} (hs : scal x y = true) (q : Q (.bl (!decide (x = y))) H) : rNe x y H Q := ⟨hs, q⟩
theorem r_test {t : TE} {Q : Bool → Hp → Prop} (h : t σ H fun x H' => ∃ k, x = .bl k ∧ Q k H') : tTest t σ H Q := h
theorem r_tB {t : TE} {Q : Bool → Hp → Prop} (h : t σ H fun x H' => ∃ k, x = .bl k ∧ Q k H') : tB t σ H Q := h
theorem r_bl {b : Bool} {Q : Bool → Hp → Prop} (q : Q b H) : ∃ k, V.bl b = .bl k ∧ Q k H := ⟨b, rfl, q⟩
theorem r_and {t u : TT} {Q : Bool → Hp → Prop} (h : t σ H fun c H1 => if c = true then u σ H1 Q else Q false H1) : tAnd t u σ H Q := h
theorem r_or {t u : TT} {Q : Bool → Hp → Prop} (h : t σ H fun c H1 => if c = true then Q true H1 else u σ H1 Q) : tOr t u σ H Q := h
theorem r_not {t : TT} {Q : Bool → Hp → Prop} (h : t σ H fun c H1 => Q (!c) H1) : tNot t σ H Q := h
theorem r_andV {ta tb : TE} {Q : VK} (h : ta σ H fun x H1 => ∃ c, x = .bl c ∧ if c = true then tb σ H1 Q else Q (.bl false) H1) : tAndV ta tb σ H Q := h
theorem r_orV {ta tb : TE} {Q : VK} (h : ta σ H fun x H1 => ∃ c, x = .bl c ∧ if c = true then Q (.bl true) H1 else tb σ H1 Q) : tOrV ta tb σ H Q := h
theorem r_notV {ta : TE} {Q : VK} (h : ta σ H fun x H1 => ∃ c, x = .bl c ∧ Q (.bl (!c)) H1) : tNotV ta σ H Q := h
theorem r_blA {b : Bool} {P : Bool → Prop} (q : P b) : ∃ k, V.bl b = .bl k ∧ P k := ⟨b, rfl, q⟩
theorem r_if {t : TT} {ta tb : TE} {Q : VK} (h : t σ H fun c H1 => if c = true then ta σ H1 Q else tb σ H1 Q) : tIf t ta tb σ H Q := h
theorem r_seq {t u : TS} (h : t { D with nx := u D } σ H) : tSeq t u D σ H := h
theorem r_next (h : D.nx σ H) : tNext D σ H := h
theorem r_ifS {c : TT} {t u : TS} (h : c σ H fun b H1 => if b = true then t D σ H1 else u D σ H1) : tIfS c t u D σ H := h
theorem r_ret {te : TE} (h : te σ H D.rt) : tRet te D σ H := h
theorem r_retN (h : D.rt .non H) : tRetN D σ H := h
theorem r_drop {te : TE} (h : te σ H fun _ H1 => D.nx σ H1) : tDrop te D σ H := h
theorem r_asg {te : TE} {g : TG} (h : te σ H fun x H1 => g x σ H1 D.nx) : tAsg te g D σ H := h
theorem r_name {i : Nat} {v : V} {Q : L2.St → Hp → Prop} (h : Q (σ.set i (some v)) H) : gName i v σ H Q := h
theorem r_sub {to ti : TE} {t : TSet} {v : V} {Q : L2.St → Hp → Prop} (h : to σ H fun o H1 => ti σ H1 fun i H2 => t o i v H2 fun H3 => Q σ H3) : gSub to ti t v σ H Q := h
theorem r_nil {Q : List V → Hp → Prop} (h : Q [] H) : tNil σ H Q := h
theorem r_cons {ta : TE} {tr : TA} {Q : List V → Hp → Prop} (h : ta σ H fun x H1 => tr σ H1 fun xs H2 => Q (x :: xs) H2) : tCons ta tr σ H Q := h
theorem r_lst {t : TA} {Q : VK} (h : t σ H fun xs H1 => xs.length ≤ sizeLine ∧ ∀ p, H1 p = none → Q (.ref p) (upd H1 p (.lst xs))) : tLst t σ H Q := h
theorem r_tup {t : TA} {Q : VK} (h : t σ H fun xs H1 => xs.length ≤ sizeLine ∧ ∀ p, H1 p = none → Q (.ref p) (upd H1 p (.tup xs))) : tTup t σ H Q := h
theorem r_cb {r : List V → Hp → VK → Prop} {t : TA} {Q : VK} (h : t σ H fun vs H1 => r vs H1 Q) : tCB r t σ H Q := h
theorem r_call {sp : Sp} {dvs : List V} {E : XK} {t : TA} {Q : VK} (h : t σ H fun vs H1 => sp (vs ++ dvs) H1 Q E) : tCall sp dvs E t σ H Q := h
theorem r_callS {sp : Sp} {E : L2.St → XK} {t : TA} {Q : VK} (h : t σ H fun vs H1 => sp vs H1 Q (E σ)) : tCallS sp E t σ H Q := h
theorem r_bm {T : String} {r : V → List V → Hp → VK → Prop} {to : TE} {t : TA} {Q : VK} (h : to σ H fun x H1 => tyV K T x H1 ∧ t σ H1 fun xs H2 => r x xs H2 Q) : tBM K T r to t σ H Q := h
theorem r_bm0 {T : String} {r : V → List V → Hp → VK → Prop} {to : TE} {Q : VK} (h : to σ H fun x H1 => tyV K T x H1 ∧ r x [] H1 Q) : tBM0 K T r to σ H Q := h
theorem r_m0 {r : V → List V → Hp → VK → Prop} {to : TE} {Q : VK} (h : to σ H fun x H1 => (∃ a, x = .str a) ∧ r x [] H1 Q) : tM0 r to σ H Q := h
theorem r_m1 {r : V → List V → Hp → VK → Prop} {to te : TE} {Q : VK} (h : to σ H fun x H1 => (∃ a, x = .str a) ∧ te σ H1 fun y H2 => r x [y] H2 Q) : tM1 r to te σ H Q := h
theorem r_sl {r : V → Option Int → Option Int → Hp → VK → Prop} {te : TE} {tl th : TO} {Q : VK} (h : te σ H fun x H1 => tl σ H1 fun l H2 => th σ H2 fun u H3 => r x l u H3 Q) : tSl r te tl th σ H Q := h
theorem r_noPart {Q : Option Int → Hp → Prop} (h : Q none H) : tNoPart σ H Q := h
theorem r_part {t : TE} {Q : Option Int → Hp → Prop} (h : t σ H fun x H1 => ∃ i, x = .int i ∧ Q (some i) H1) : tPart t σ H Q := h
theorem r_intA {i : Int} {P : Int → Prop} (q : P i) : ∃ k, V.int i = .int k ∧ P k := ⟨i, rfl, q⟩
theorem r_chain {r r' : R2} {ta tb tc : TE} {Q : VK} (h : ta σ H fun x H1 => tb σ H1 fun y H2 => r x y H2 fun z H3 => ∃ k, z = .bl k ∧ (if k = true then tc σ H3 fun w' H4 => r' y w' H4 Q else Q (.bl false) H3)) : tChain r r' ta tb tc σ H Q := h
theorem r_fld {ta : TE} {f : Str} {Q : VK} (h : ta σ H fun x H1 => ∃ a C dx fs v, x = .ref a ∧ H1 a = some (.ins C dx fs) ∧ Cls K C ∧ NoAttr K C f ∧ fs.lookup f = some v ∧ Q v H1) : tFld K ta f σ H Q := h
theorem r_dget {td ty : TE} {Q : VK} (h : td σ H fun x H1 => ty σ H1 fun y H2 => ∃ a v, x = .ref a ∧ DGet H2 a y (some v) ∧ Q v H2) : tDGet td ty σ H Q := h
theorem r_din {td ty : TE} {Q : VK} (h : ty σ H fun y H1 => td σ H1 fun x H2 => ∃ a o, x = .ref a ∧ DGet H2 a y o ∧ Q (.bl o.isSome) H2) : tDIn ty td σ H Q := h
theorem r_dnotin {td ty : TE} {Q : VK} (h : ty σ H fun y H1 => td σ H1 fun x H2 => ∃ a o, x = .ref a ∧ DGet H2 a y o ∧ Q (.bl (!o.isSome)) H2) : tDNotIn ty td σ H Q := h
theorem r_dput {td ty tv : TE} (h : tv σ H fun v H1 => td σ H1 fun x H2 => ty σ H2 fun y H3 => ∃ a H4, x = .ref a ∧ DPut H3 a y v H4 ∧ D.nx σ H4) : sDPut td ty tv D σ H := h
theorem r_dnew {Q : VK} (h : ∀ p, H p = none → Q (.ref p) (upd H p (.dK []))) : tDNewK σ H Q := h
theorem r_aug {i : Nat} {te : TE} {ti : TIp} (h : ∃ x, σ[i]? = some (some x) ∧ te σ H fun y H1 => ti x y H1 fun z H2 => D.nx (σ.set i (some z)) H2) : tAug i te ti D σ H := h
theorem r_ipI {f : Int → Int → Int} {i j : Int} {Q : VK} (q : Q (.int (f i j)) H) : ipI f (.int i) (.int j) H Q := ⟨i, j, rfl, rfl, q⟩
theorem r_ixL {p : Addr} {i : Int} {xs : List V} {v : V} {Q : VK} (h : H p = some (.lst xs)) (e : atI xs i = some v) (q : Q v H) : rIxL K (.ref p) (.int i) H Q := ⟨p, xs, i, v, rfl, rfl, .inl (.inl h), e, q⟩
theorem r_ixLs {p : Addr} {i : Int} {xs : List V} {v : V} {Q : VK} (h : SqL K H p xs) (e : atI xs i = some v) (q : Q v H) : rIxL K (.ref p) (.int i) H Q := ⟨p, xs, i, v, rfl, rfl, h, e, q⟩
theorem r_ixT {p : Addr} {i : Int} {xs : List V} {v : V} {Q : VK} (h : SqT K H p xs) (e : atI xs i = some v) (q : Q v H) : rIxT K (.ref p) (.int i) H Q := ⟨p, xs, i, v, rfl, rfl, h, e, q⟩
theorem r_ixS {z : Str} {i : Int} {c : Nat} {Q : VK} (h : z.length ≤ sizeLine) (e : atI z.cps.toList i = some c) (q : Q (.str ⟨#[c]⟩) H) : rIxS (.str z) (.int i) H Q := ⟨z, i, c, rfl, rfl, h, e, q⟩
theorem r_setL {p : Addr} {k : Int} {j : Nat} {xs : List V} {v : V} {Q : Hp → Prop} (h : H p = some (.lst xs)) (e : ixN xs.length k = some j) (q : Q (upd H p (.lst (xs.set j v)))) : rSetL (.ref p) (.int k) v H Q := ⟨p, xs, k, j, rfl, rfl, h, e, q⟩
theorem r_popAt {p : Addr} {i : Int} {k : Nat} {xs : List V} {y : V} {Q : VK} (h : H p = some (.lst xs)) (h1 : -(2 ^ 63) ≤ i) (h2 : i < 2 ^ 63) (e : seqIndex? i xs.length = some k) (e2 : xs[k]? = some y) (q : Q y (upd H p (.lst (xs.eraseIdx k)))) : rPopAt (.ref p) [.int i] H Q := ⟨p, xs, i, k, y, rfl, rfl, h, h1, h2, e, e2, q⟩
theorem r_append {p : Addr} {xs : List V} {y : V} {Q : VK} (h : H p = some (.lst xs)) (h1 : xs.length < sizeLine) (q : Q .non (upd H p (.lst (xs ++ [y])))) : rAppend (.ref p) [y] H Q := ⟨p, xs, y, rfl, rfl, h, h1, q⟩
theorem tyV_list {p : Addr} {xs : List V} (h : H p = some (.lst xs)) : tyV K "list" (.ref p) H := .inl ⟨rfl, xs, .inl (.inl h)⟩
theorem r_itel {A B : Prop} (h : A) : if true = true then A else B := by rw [if_pos rfl]; exact h
theorem r_iter {A B : Prop} (h : B) : if false = true then A else B := by rw [if_neg Bool.false_ne_true]; exact h
theorem r_iteNT {A B : Prop} (h : B) : if (!true) = true then A else B := by rw [Bool.not_true, if_neg Bool.false_ne_true]; exact h
theorem r_iteNF {A B : Prop} (h : A) : if (!false) = true then A else B := by rw [Bool.not_false, if_pos rfl]; exact h
theorem r_par {i j : Nat} {ta : TA} (h : ta σ H fun vs H1 => ∃ v w, vs = [v, w] ∧ D.nx ((σ.set i (some v)).set j (some w)) H1) : tPar i j ta D σ H := h
theorem r_par2 {v w : V} {P : V → V → Prop} (h : P v w) : ∃ a b, [v, w] = [a, b] ∧ P a b := ⟨v, w, rfl, h⟩
theorem r_lstRg {te : L2.St → Hp → (Int → Int → Hp → Prop) → Prop} {Q : VK} (h : te σ H fun a b H1 => RgOk a b ∧ ∀ q, H1 q = none → Q (.ref q) (upd H1 q (.lst (rgV a b)))) : tLstRg te σ H Q := h
theorem r_rg1 {ta : TE} {Q : Int → Int → Hp → Prop} (h : ta σ H fun x H1 => ∃ n, x = .int n ∧ Q 0 n H1) : tRg1 ta σ H Q := h
theorem r_then {ta : TE} {k : V → Hp → VK → Prop} {Q : VK} (h : ta σ H fun x H1 => k x H1 Q) : tThen ta k σ H Q := h
theorem r_strA {a : Str} {P : Prop} (q : P) : (∃ z, V.str a = .str z) ∧ P := ⟨⟨a, rfl⟩, q⟩
end
end Rb
/-! Rules under names of their own (so that the readings can be told apart), and some that lack. -/
namespace Rb
open PySem L2 PySem.Spec PyProof.Rows
section
variable {X : Cx}
def rLenR (K : PySem.W.Frag) : List V → Hp → VK → Prop := fun xs H Q => ∃ x n, xs = [x] ∧ LenV K x H n ∧ Q (.int (n : Nat)) H
theorem call_lenR : CallR X (.builtin "len") (rLenR X.K) := call_len
def rLenDR : List V → Hp → VK → Prop := fun xs H Q => ∃ a kvs, xs = [V.ref a] ∧ H a = some (.dK kvs) ∧ Q (.int kvs.length) H
theorem call_lenDR : CallR X (.builtin "len") rLenDR := call_lenD
def rInt1 : List V → Hp → VK → Prop := fun xs H Q => (∃ i, xs = [.int i] ∧ Q (.int i) H) ∨ ∃ k, xs = [.bl k] ∧ Q (.int (if k then 1 else 0)) H
theorem call_int1R : CallR X (.type "int") rInt1 := call_int1
def rAbs : List V → Hp → VK → Prop := fun xs H Q => ∃ i, xs = [.int i] ∧ Q (.int (if i < 0 then -i else i)) H
theorem call_absR : CallR X (.builtin "abs") rAbs := call_abs
def rMin2 : List V → Hp → VK → Prop := fun xs H Q => ∃ i j, xs = [.int i, .int j] ∧ Q (.int (if j < i then j else i)) H
theorem call_min2R (hc : X.calm = true) : CallR X (.builtin "min") rMin2 := call_min2 hc
def rMax2 : List V → Hp → VK → Prop := fun xs H Q => ∃ i j, xs = [.int i, .int j] ∧ Q (.int (if j > i then j else i)) H
theorem call_max2R (hc : X.calm = true) : CallR X (.builtin "max") rMax2 := call_max2 hc
def rAddStr : R2 := fun x y H Q => ∃ i j, x = .str i ∧ y = .str j ∧ i.length + j.length ≤ sizeLine ∧ Q (.str (i ++ j)) H
theorem op_add_strR : OpR X (binaryOp .Add) rAddStr := op_add_str
def rLtStr : R2 := fun x y H Q => ∃ i j, x = .str i ∧ y = .str j ∧ Q (.bl (decide (i.cps.toList < j.cps.toList))) H
theorem op_lt_strR : OpR X (compareOp .Lt) rLtStr := op_lt_str
def rGeStr : R2 := fun x y H Q => ∃ i j, x = .str i ∧ y = .str j ∧ Q (.bl (!decide (i.cps.toList < j.cps.toList))) H
theorem op_ge_strR : OpR X (compareOp .GtE) rGeStr := op_ge_str
def rUpper : V → List V → Hp → VK → Prop := fun x xs H Q => ∃ a, x = .str a ∧ xs = [] ∧ a.length ≤ 5592405 ∧ Q (.str (Txt.upper a)) H
theorem mt_upperR : MtR X "str.upper" rUpper := mt_upper
def rLower : V → List V → Hp → VK → Prop := fun x xs H Q => ∃ a, x = .str a ∧ xs = [] ∧ a.length ≤ 5592405 ∧ Q (.str (Txt.lower a)) H
theorem mt_lowerR : MtR X "str.lower" rLower := mt_lower
def rSwapcase : V → List V → Hp → VK → Prop := fun x xs H Q => ∃ a, x = .str a ∧ xs = [] ∧ a.length ≤ 5592405 ∧ Q (.str (Txt.swapcase a)) H
theorem mt_swapcaseR : MtR X "str.swapcase" rSwapcase :=
  mt0 (C := fun a => a.length ≤ 5592405) (g := fun a => .str (Txt.swapcase a)) fun a _ s _ hc h =>
    PyProof.Rows.SCL.swapcase hc (fun _ => h _ (s.toks + 1) ⟨_, rfl⟩)
def rIslower : V → List V → Hp → VK → Prop := fun x xs H Q => ∃ a, x = .str a ∧ xs = [] ∧ True ∧ Q (.bl (Txt.islower a)) H
theorem mt_islowerR : MtR X "str.islower" rIslower := mt_islower
def rJoin (K : PySem.W.Frag) : V → List V → Hp → VK → Prop := fun x xs H Q => ∃ a p, ∃ ys : List Str, x = .str a ∧ xs = [.ref p] ∧ (SqL K H p (ys.map V.str) ∨ SqT K H p (ys.map V.str)) ∧
  (ys.map (·.length)).sum + ys.length * a.length ≤ 16777216 ∧ Q (.str (Txt.join a ys)) H
theorem mt_joinR : MtR X "str.join" (rJoin X.K) := mt_join
def rListOf (K : PySem.W.Frag) : List V → Hp → VK → Prop := fun xs H Q => ∃ p ys, xs = [.ref p] ∧ (SqL K H p ys ∨ SqT K H p ys) ∧ ∀ l, H l = none → Q (.ref l) (upd H l (.lst ys))
theorem call_list_ofR : CallR X (.type "list") (rListOf X.K) := call_list_of
theorem pt_truthR {a : Expr} {ta : TE} (ha : PE X a ta) (he : ∀ whole, isTrue a X.env whole = (do let v ← whole; standAt a.pos; holding [v] (truthy v))) : PT X a (tTru X.K ta) := pt_truth ha he
/-- raise X() -/
theorem pmk_own0 {C : Addr} {bmB : List Value} {B newId initId : String} {x : Str} {p pos : Pos} (F : ExcBaseFacts B newId initId bmB) (q : PySem.W.excIn X.K C bmB newId = true) (gC : X.mg x = some (.ref C))
    (kC : PySem.W.keepIn X.K (.ref C) = true) (r : Raises X (.ref C)) (hg : Gl X x) (hdb : (x == ("__debug__" : Str)) = false := by decide) :
    PMk X (.Call (.Name x p) [] [] pos) (fun _ H Q => Q (.ref C) none H) := by
  intro pins s σ H Q I h
  refine wpAny_Call_Name_kw (ld_glob I hg gC ?_ hdb)
  refine PySem.W.callWith_K0 I.kIn kC ?_
  show wpAny _ _ (call (.ref C) []) _ _ _
  obtain ⟨bm, N, nm, qn, bs, hdct, sn, sub, ab, col, dd, k0, k1, k2, k3, k5, mN, hC, hN, hni, T⟩ := exc_obj I.kIn q
  refine wpAny_call_exc_subT F T hC hN hni (fun h' e hm => ?_) (Nat.zero_le _)
  exact mk_of I hm r h (I.hok.gone hm.new)
end
/-- what type() and isinstance ask of an own class -/
structure TyI (K : PySem.W.Frag) (C : Addr) : Prop where
  ha : PySem.W.findIn K (.ref C) "__class__" = some (some (.builtin "object.__class__"))
  hn : PySem.W.specialIn K (.builtin "object.__class__") "__get__" = some (some (.builtin "getset_descriptor.__get__"))
  htk : PySem.W.takesIn K (.builtin "object.__class__") = some true
  hm : PySem.W.mroIn K C (.type "object") = some true
section
variable {K : PySem.W.Frag} {H : Hp} {Q : VK}
theorem r_lenL {p : Addr} {xs : List V} (h : SqL K H p xs) (q : Q (.int xs.length) H) : rLenR K [.ref p] H Q := ⟨_, _, rfl, .inl ⟨xs, h, rfl⟩, q⟩
theorem r_lenT {p : Addr} {xs : List V} (h : SqT K H p xs) (q : Q (.int xs.length) H) : rLenR K [.ref p] H Q := ⟨_, _, rfl, .inr ⟨xs, h, rfl⟩, q⟩
theorem r_lenS {z : Str} (h : z.length ≤ sizeLine) (q : Q (.int z.length) H) : rLenR K [.str z] H Q := ⟨_, _, rfl, ⟨h, rfl⟩, q⟩
theorem r_lenD {p : Addr} {kvs : List (Key × V)} (h : H p = some (.dK kvs)) (q : Q (.int kvs.length) H) : rLenDR [.ref p] H Q := ⟨p, kvs, rfl, h, q⟩
theorem r_int1 {i : Int} (q : Q (.int i) H) : rInt1 [.int i] H Q := .inl ⟨i, rfl, q⟩
theorem r_abs {i : Int} (q : Q (.int (if i < 0 then -i else i)) H) : rAbs [.int i] H Q := ⟨i, rfl, q⟩
theorem r_min2 {i j : Int} (q : Q (.int (if j < i then j else i)) H) : rMin2 [.int i, .int j] H Q := ⟨i, j, rfl, q⟩
theorem r_max2 {i j : Int} (q : Q (.int (if j > i then j else i)) H) : rMax2 [.int i, .int j] H Q := ⟨i, j, rfl, q⟩
theorem r_addStr {i j : Str} (h : i.length + j.length ≤ sizeLine) (q : Q (.str (i ++ j)) H) : rAddStr (.str i) (.str j) H Q := ⟨i, j, rfl, rfl, h, q⟩
theorem r_ltStr {i j : Str} (q : Q (.bl (decide (i.cps.toList < j.cps.toList))) H) : rLtStr (.str i) (.str j) H Q := ⟨i, j, rfl, rfl, q⟩
theorem r_geStr {i j : Str} (q : Q (.bl (!decide (i.cps.toList < j.cps.toList))) H) : rGeStr (.str i) (.str j) H Q := ⟨i, j, rfl, rfl, q⟩
theorem r_inS {c : Nat} {z : Str} (q : Q (.bl (decide (c ∈ z.cps.toList))) H) : rInS (.str ⟨#[c]⟩) (.str z) H Q := ⟨c, z, rfl, rfl, q⟩
theorem r_notInS {c : Nat} {z : Str} (q : Q (.bl (!decide (c ∈ z.cps.toList))) H) : rNotInS (.str ⟨#[c]⟩) (.str z) H Q := ⟨c, z, rfl, rfl, q⟩
theorem r_upper {a : Str} (h : a.length ≤ 5592405) (q : Q (.str (Txt.upper a)) H) : rUpper (.str a) [] H Q := ⟨a, rfl, rfl, h, q⟩
theorem r_lower {a : Str} (h : a.length ≤ 5592405) (q : Q (.str (Txt.lower a)) H) : rLower (.str a) [] H Q := ⟨a, rfl, rfl, h, q⟩
theorem r_swapcase {a : Str} (h : a.length ≤ 5592405) (q : Q (.str (Txt.swapcase a)) H) : rSwapcase (.str a) [] H Q := ⟨a, rfl, rfl, h, q⟩
theorem r_islower {a : Str} (q : Q (.bl (Txt.islower a)) H) : rIslower (.str a) [] H Q := ⟨a, rfl, rfl, trivial, q⟩
theorem r_listOfL {p : Addr} {ys : List V} (h : SqL K H p ys) (q : ∀ l, H l = none → Q (.ref l) (upd H l (.lst ys))) : rListOf K [.ref p] H Q := ⟨p, ys, rfl, .inl h, q⟩
theorem r_listOfT {p : Addr} {ys : List V} (h : SqT K H p ys) (q : ∀ l, H l = none → Q (.ref l) (upd H l (.lst ys))) : rListOf K [.ref p] H Q := ⟨p, ys, rfl, .inr h, q⟩
theorem r_cat {l b : Addr} {xs zs : List V} (h : H l = some (.lst xs)) (h2 : H b = some (.lst zs)) (e : xs.length + zs.length ≤ sizeLine) (q : ∀ p, H p = none → Q (.ref p) (upd H p (.lst (xs ++ zs)))) : rCat (.ref l) (.ref b) H Q := ⟨l, b, xs, zs, rfl, rfl, h, h2, e, q⟩
theorem r_tru {ta : TE} {σ : L2.St} {R : Bool → Hp → Prop} (h : ta σ H fun x H' => ∃ k, TruV K x H' k ∧ R k H') : tTru K ta σ H R := h
theorem r_join {a : Str} {p : Addr} {ys : List Str} (h : SqL K H p (ys.map V.str)) (h1 : (ys.map (·.length)).sum + ys.length * a.length ≤ 16777216) (q : Q (.str (Txt.join a ys)) H) : rJoin K (.str a) [.ref p] H Q := ⟨a, p, ys, rfl, rfl, .inl h, h1, q⟩
end
end Rb
/-! enumerate over a tuple and over a text -/
namespace Rb
open PySem L2 PySem.Spec PyProof.Rows
open AutoSeq1 (wpAny_loadPart')
open PySem.Sem (wp)
theorem Draws_tuple {prog : Program} {w : World} {A : Around} (hh : A.handled = none) (it l : Addr) (hne : l ≠ it) (items : Array Value) :
    Draws prog w A it [it, l] items.size (fun i v => items[i]? = some v) (fun i h => h.IsTupleIter it l i ∧ h.IsTuple l items) where
  live := fun _ _ st => let ⟨o, ho, _⟩ := st.1; ⟨o, ho⟩
  frame := fun _ _ _ st hk => ⟨st.1.at fun o e => hk it (by simp) o e, by
    obtain ⟨o, ho, hc, hd⟩ := st.2
    exact ⟨o, hk l (by simp) o ho, hc, hd⟩⟩
  item := fun i s Q E hi st hQ => by
    refine RZ.nextOf_tuple_item st.1 st.2 (x := items[i]) (by simp [hi]) fun h' hit' hs' => ?_
    refine hQ _ h' s.toks (by simp [hi]) ⟨hit', ?_⟩ hs'
    obtain ⟨o, ho, hc, hd⟩ := st.2
    exact ⟨o, hs'.extBut l o hne ho, hc, hd⟩
  done := fun s Q E st hE => RZ.nextOf_tuple_end hh st.1 st.2 (by simp) hE
theorem meets_enumerate_newT (l : Addr) (items : Array Value) (n : Nat) (dct : Option Addr) (sl : Array (Option Value)) :
    Meets (Builtin.«enumerate.__new__» ⟨[.type "enumerate", .ref l], []⟩) (fun _ R s => s.heap.get? l = some { cls := .type "tuple", dict := dct, data := .seq items n, slots := sl } ∧
      R (.ok (.ret (.ref (s.heap.push { cls := .type "tuple_iterator", data := .fields #[.ref l, .int 0 0] }).objs.size)))
        { s with heap := (s.heap.push { cls := .type "tuple_iterator", data := .fields #[.ref l, .int 0 0] }).push { cls := .type "enumerate", data := .fields #[.none, .bool false, .ref s.heap.objs.size, rawInt 0, .none, .none] } }) :=
  .of_wp fun prog w A R s h => by
    obtain ⟨hp, g, d, tk, os⟩ := s; obtain ⟨hl, h⟩ := h
    have hsub := sub_enumerate
    have hL : Heap.IsTuple (Shared.heap ⟨hp, g, d, tk, os⟩) l items := ⟨_, hl, rfl, n, rfl⟩
    wp_walk using wpAny_loadPart' hl
    refine wpAny_stack_any fun st => wpAny_pure ?_
    split
    · rename_i c _ _ _ _ _
      cases (c == Value.type "enumerate")
      · wp_walk using wpAny_loadPart' hl, wpAny_pyIter_tuple hL
        exact ⟨_, rfl, h⟩
      · wp_walk using wpAny_loadPart' hl, wpAny_pyIter_tuple hL
        exact ⟨_, rfl, h⟩
    · wp_walk using wpAny_loadPart' hl, wpAny_pyIter_tuple hL
      exact ⟨_, rfl, h⟩
theorem call_enumerate_tuple {prog : Program} {w : World} {A : Around} {E : Value → Shared → Prop} {s : Shared} {l : Addr} {items : Array Value} {Q : Value → Shared → Prop} (hL : s.heap.IsTuple l items)
    (h : ∀ h', IsEnum h' (s.heap.objs.size + 1) s.heap.objs.size 0 .none → h'.IsTupleIter s.heap.objs.size l 0 → h'.objs.size = s.heap.objs.size + 2 →
      (∀ b o, s.heap.get? b = some o → h'.get? b = some o) → Q (.ref (s.heap.objs.size + 1)) { s with heap := h' }) :
    wpAny (model prog w) A (call (.type "enumerate") [.ref l]) Q E s := by
  obtain ⟨⟨c, dct, dt, sl⟩, hl, hc, n, hd⟩ := hL
  replace hc : c = .type "tuple" := hc
  replace hd : dt = .seq items n := hd
  subst hc hd
  refine callType_new F.called_enumerate (by decide) (F.typeCall_enumerate_1 _) (F.newCall_enumerate_1 _) (fun obj => F.args_object_init_2 obj _) F.entry_enumerate_new
    (meets_enumerate_newT l items n dct sl) ⟨hl, ?_⟩
  have hz : (s.heap.push { cls := .type "tuple_iterator", data := .fields #[.ref l, .int 0 0] }).objs.size = s.heap.objs.size + 1 := Heap.size_push ..
  show _ ∧ _
  rw [hz]
  have he : IsEnum ((s.heap.push { cls := .type "tuple_iterator", data := .fields #[.ref l, .int 0 0] }).push
      { cls := .type "enumerate", data := .fields #[.none, .bool false, .ref s.heap.objs.size, rawInt 0, .none, .none] }) (s.heap.objs.size + 1) s.heap.objs.size 0 .none := by
    have := Heap.get?_push_size (s.heap.push { cls := .type "tuple_iterator", data := .fields #[.ref l, .int 0 0] })
      (o := { cls := .type "enumerate", data := .fields #[.none, .bool false, .ref s.heap.objs.size, rawInt 0, .none, .none] }) rfl
    rw [hz] at this; exact this
  refine ⟨⟨_, he, rfl⟩, h _ he ⟨_, Heap.get?_push_of_some _ (Heap.get?_push_size _ rfl), rfl, rfl⟩ (by rw [Heap.size_push, hz]) fun b o x => Heap.get?_push_of_some _ (Heap.get?_push_of_some _ x)⟩
/-- enumerate of anything that Draws: n turns, the i-th value val i -/
def Iteg (n : Nat) (val : Nat → Option V) (ok : Hp → Prop) : It :=
  ⟨fun i H => i < n ∧ ok H, fun i H v H' => ∃ T x, v = .ref T ∧ H T = none ∧ H' = upd H T (.tup [.int (i : Nat), x]) ∧ val i = some x, fun i H => n ≤ i ∧ ok H⟩
theorem walk_enumG {n : Nat} {val : Nat → Option V} {ok : Hp → Prop} : Walk (Iteg n val ok) n ok (YPair (fun i => some (.int (i : Nat))) val) :=
  ⟨fun _ _ hi q => ⟨hi, q⟩, fun _ q => ⟨Nat.le_refl _, q⟩, fun i H v H' hi q y => by
    obtain ⟨T, x, h1, h2, h3, h4⟩ := y
    exact ⟨T, .int (i : Nat), x, h1, h2, h3, rfl, h4⟩⟩
theorem turn_enumT {P : Program} {w : World} {K : PySem.W.Frag} {elts : List Expr} {kk : Nat} {tpos : Pos} (a e it : Addr) (xs : List V) :
    Turn P w K (.Tuple elts kk tpos) (Iteg xs.length (fun i => xs[i]?) fun H => SqT K H a xs) [e, it] e (fun i h => (∃ old, IsEnum h e it ((i : Nat) : Int) old) ∧ h.IsTupleIter it a i ∧ e ≠ it) where
  mem := by simp
  obj := fun i h st b hb => by
    obtain ⟨⟨old, he⟩, ⟨o, ho, hc, hd⟩, _⟩ := st
    have e' : b = e ∨ b = it := by simpa using hb
    rcases e' with z | z
    · rw [z]; exact ⟨_, he, fun v q => nomatch q⟩
    · rw [z]; exact ⟨o, ho, fun v q => by rw [hd] at q; cases q⟩
  keep := fun i h h' st k => let ⟨⟨old, he⟩, hi, hne⟩ := st; ⟨⟨old, k e (by simp) _ he⟩, hi.at fun o q => k it (by simp) o q, hne⟩
  item := by
    intro X hP hw hK hc i pins s σ H E I hf st hg
    subst hP hw hK
    obtain ⟨⟨old, he⟩, hit, hne⟩ := st
    obtain ⟨hlt, hq⟩ := hg
    have hx : xs[i]? = some xs[i] := List.getElem?_eq_getElem hlt
    generalize xs[i] = x at hx
    obtain ⟨its, rv, p, hz⟩ := I.tuple hq
    obtain ⟨u, hu, ru⟩ := rv.get hx
    have hel : e < s.heap.objs.size := Heap.lt_size he
    have hil : it < s.heap.objs.size := by obtain ⟨_, q, _⟩ := hit; exact Heap.lt_size q
    have hai : a ≠ it := by
      intro z
      obtain ⟨o, ho, hc1, _⟩ := hit
      obtain ⟨o2, ho2, hc2, _⟩ := p
      rw [z, ho] at ho2
      cases ho2
      rw [hc1] at hc2
      injection hc2 with h
      exact absurd h (by decide)
    have hae : a ≠ e := by
      intro z
      obtain ⟨o2, ho2, hc2, _⟩ := p
      rw [z, show s.heap.get? e = some _ from he] at ho2
      cases ho2
      injection hc2 with h
      exact absurd h (by decide)
    refine wpAny_pyNext_enum_itemD (Draws_tuple (A := X.A.in1) (I.ok.hd hc) it a hai its.toArray) he ⟨hit, p⟩ (by rw [List.size_toArray, ← rv.length]; exact hlt) hne (by simp [hne, hae.symm]) fun y h' tk hy ho hst' hT hsz hk => ?_
    have hy' : y = u := by
      have : its[i]? = some y := by simpa using hy
      rw [hu] at this
      exact (Option.some.inj this).symm
    subst hy'
    refine ⟨_, rfl, wpAny_letOwnedTupleGo_enum (s := { s with heap := h', toks := tk + 1 }) ho fun h'' he' sb => ?_⟩
    have hT2 : h''.get? s.heap.objs.size = some { cls := .type "tuple", data := .seq #[.int i tk, y] } := (sb.2 _ (Nat.ne_of_gt hel)).trans hT
    have new : ObjOk X.prog X.w (upd H s.heap.objs.size (.tup [.int (i : Nat), x])) h'' s.heap.objs.size (.tup [.int (i : Nat), x]) :=
      ⟨by show 2 ≤ sizeLine; decide, [.int i tk, y], .cons ⟨_, rfl⟩ (.cons ru .nil), ⟨_, hT2, rfl, _, rfl⟩⟩
    have I1 : Inv X pins σ (upd H s.heap.objs.size (.tup [.int (i : Nat), x])) { s with heap := h'', toks := tk + 1 } :=
      I.turnedNew (ch := [e, it]) (fun b ob hb q => (sb.2 b (fun z => hb (by simp [z]))).trans (hk b ob (fun z => hb (by simp [z])) (fun z => hb (by simp [z])) q)) hf (Nat.le_refl _) new
    refine ⟨.ref s.heap.objs.size, _, I1, rfl, ⟨_, x, rfl, I.hok.fresh (Nat.le_refl _), rfl, hx⟩, ⟨⟨y, ?_⟩, hst'.1.at fun o q => (sb.2 it (Ne.symm hne)).trans q, hne⟩, fun b hb => ?_⟩
    · have e1 : ((i + 1 : Nat) : Int) = (i : Int) + 1 := by omega
      rw [e1]; exact he'
    · have hb' : b < s.heap.objs.size := by
        have e' : b = e ∨ b = it := by simpa using hb
        rcases e' with z | z
        · rw [z]; exact hel
        · rw [z]; exact hil
      rw [upd_ne (Nat.ne_of_lt hb')]
      exact (hf b hb).1
  done := by
    intro X hP hw hK hc i pins s σ H E I hf st hg
    subst hP hw hK
    obtain ⟨⟨old, he⟩, hit, hne⟩ := st
    obtain ⟨hle, hq⟩ := hg
    obtain ⟨its, rv, p, hz⟩ := I.tuple hq
    obtain ⟨f0, f1, f2, f3, f4, f5⟩ := hf it (by simp)
    have hl := rv.length
    -- the end is at or behind the last item
    have hT : s.TypeIs (.ref e) "enumerate" := ⟨_, he, rfl⟩
    unfold pyNext
    refine wpAny_bind (wpAny_attempt (wpAny_callSpecial?_slot (name := Str.ofString "__next__") hT F.slot_enumerate_next
      (wpAny_call_entry F.slot_enumerate_next hT F.entry_enumerate_next ?_ (F.args_enumerate_next_1 _))))
    show wpAny _ _ (field (.ref e) 2 >>= _) _ _ _
    refine wpAny_bind (wpAny_field he rfl (x := .ref it) rfl ?_)
    refine wpAny_bind (RZ.nextOf_tuple_end (A := X.A.in1) (I.ok.hd hc) hit p (by simp; omega) fun h' x he' hx' => ?_)
    obtain ⟨o, ho, hc'⟩ := hx'
    refine wpAny_bind (wpAny_isInstance (T := "StopIteration") (b := true) ⟨o, ho, hc'⟩ isSubtype_stop ?_)
    exact wpAny_pure ⟨rfl, I.turned (t' := s.toks) (fun b o hb q => he' b o hb q) f0 f1 f3 f4 f5⟩
  self := fun A i s Q E st h => let ⟨⟨_, he⟩, _⟩ := st; wpAny_pyIter_enum he h
def iEnumT (K : PySem.W.Frag) (ta : TA) : TI := fun σ H R => ta σ H fun vs H1 => ∃ a xs, vs = [.ref a] ∧ SqT K H1 a xs ∧ R (Iteg xs.length (fun i => xs[i]?) fun H => SqT K H a xs) H1
theorem pi_enumT {X : Cx} {e : Expr} {ta : TA} {p pos tpos : Pos} {elts : List Expr} {kk : Nat} (hg : Gl X "enumerate") (hm : X.mg "enumerate" = none) (ha : PA X [e] ta) (hs : starEach [e] X.env = [(false, eval e X.env)] := by rfl) :
    PI X (.Tuple elts kk tpos) (.Call (.Name "enumerate" p) [e] [] pos) (iEnumT X.K ta) := by
  refine ⟨fun pins s σ H R I h => ?_⟩
  refine Call_ (ld_blt I hg hm boot_enumerate (PyProof.Rows.callWith_type1 (thn (ha.run pos pins s σ H _ I h) fun us s1 ⟨vs, H1, I1, r1, q1⟩ => ?_) hs rfl))
  obtain ⟨a, xs, ex, hq, q⟩ := q1
  subst ex
  cases r1 with
  | cons r rr =>
    cases rr
    cases r
    obtain ⟨its, rv, p', hz⟩ := I1.tuple hq
    refine call_enumerate_tuple p' fun h' he hit hsz hk => wpAny_pyIter_enum he ?_
    have I2 : Inv X pins σ H1 { s1 with heap := h' } := I1.kept (t' := s1.toks) hk
    refine ⟨s1.heap.objs.size + 1, [s1.heap.objs.size + 1, s1.heap.objs.size], _, _, H1, rfl, I2, turn_enumT a (s1.heap.objs.size + 1) s1.heap.objs.size xs, ⟨⟨.none, he⟩, hit, Nat.succ_ne_self _⟩, fun b hb => ?_, q⟩
    have e' : b = s1.heap.objs.size + 1 ∨ b = s1.heap.objs.size := by simpa using hb
    have hle : s1.heap.objs.size ≤ b := by
      rcases e' with z | z
      · rw [z]; exact Nat.le_add_right _ _
      · rw [z]; exact Nat.le_refl _
    exact I1.fpOk hle (I1.hok.fresh hle)
theorem r_iEnumT {K : PySem.W.Frag} {ta : TA} {σ : L2.St} {H : Hp} {R : It → Hp → Prop} (h : ta σ H fun vs H1 => ∃ a xs, vs = [.ref a] ∧ SqT K H1 a xs ∧ R (Iteg xs.length (fun i => xs[i]?) fun H => SqT K H a xs) H1) : iEnumT K ta σ H R := h
end Rb
/-! Rules that lack, the third part: text[::-1], text * int, tuple.index of ints, == of dicts. -/
namespace Rb
open PySem L2 PySem.Spec PyProof.Rows
section
variable {X : Cx}
/-! ### text[::-1] -/
def tRevS (te : TE) : TE := fun σ H Q => te σ H fun x H1 => ∃ z : List Nat, x = .str ⟨z.toArray⟩ ∧ z.length ≤ sizeLine ∧ Q (.str ⟨z.reverse.toArray⟩) H1
theorem rev_by (z : List Nat) (u : Tok) : Txt.sliceBy ⟨z.toArray⟩ none none (-1, u) = ⟨z.reverse.toArray⟩ := by
  have hl := step_rev_list ⟨z.toArray⟩ u
  have e : ∀ a b : Str, a.cps.toList = b.cps.toList → a = b := fun a b h => by
    obtain ⟨⟨a⟩⟩ := a
    obtain ⟨⟨b⟩⟩ := b
    cases (show a = b from h)
    rfl
  refine e _ _ ?_
  rw [hl]
  have hlen : (⟨z.toArray⟩ : Str).length = z.length := by show z.toArray.size = _; simp
  rw [hlen]
  show _ = z.reverse
  refine List.ext_getElem (by simp) fun i h1 h2 => ?_
  have hi : i < z.length := by simpa using h1
  rw [List.getElem_map, List.getElem_range, List.getElem_reverse]
  have h3 : z.length - 1 - i < z.length := by omega
  show z.toArray.getD (z.length - 1 - i) 0 = _
  simp [Array.getD, h3]
theorem pe_revS {e : Expr} {te : TE} {k : Nat} {p1 p2 p3 pos : Pos} (he : PE X e te) : PE X (.Subscript e (.Slice none none (some (.UnaryOp .USub (.Constant (.int 1) k p1) p2)) p3) pos) (tRevS te) := by
  refine ⟨fun pins s σ H Q I h => ?_⟩
  refine Subscript_ (thn (he.run pins s σ H _ I h) fun v s1 ⟨x, H1, I1, r1, q1⟩ => ?_)
  obtain ⟨z, ex, hx, q⟩ := q1
  subst ex
  obtain ⟨t, rfl⟩ := r1
  have hst : PO X (some (.UnaryOp .USub (.Constant (.int 1) k p1) p2)) (tPart (tUn (rU fun i => .int (-i)) (tC (.int 1)))) := po_some (pe_un un_neg pe_int)
  refine wpAny_Slice (thn (po_none.run pins s1 σ H1 (fun o H2 => o = none ∧ H2 = H1) I1 ⟨rfl, rfl⟩) fun vl s2 ⟨l, H2, I2, pl, el, e2⟩ => ?_)
  subst el e2
  refine thn (po_none.run pins s2 σ H2 (fun o H3 => o = none ∧ H3 = H2) I2 ⟨rfl, rfl⟩) fun vu s3 ⟨u, H3, I3, pu, eu, e3⟩ => ?_
  subst eu e3
  refine thn (hst.run pins s3 σ H3 (fun o H4 => o = some (-1) ∧ H4 = H3) I3 ⟨1, rfl, -1, rfl, rfl, rfl⟩) fun vs s4 ⟨o, H4, I4, ps, eo, e4⟩ => ?_
  subst eo e4
  obtain ⟨l0, rfl, el0⟩ := IsPart.raw pl
  obtain ⟨u0, rfl, eu0⟩ := IsPart.raw pu
  obtain ⟨k0, rfl, ek0⟩ := IsPart.raw ps
  cases l0 with
  | some _ => cases el0
  | none =>
  cases u0 with
  | some _ => cases eu0
  | none =>
  cases k0 with
  | none => cases ek0
  | some kk =>
  obtain ⟨kv, kt⟩ := kk
  cases (Option.some.inj ek0)
  have I5 : Inv X pins σ H4 { s4 with heap := s4.heap.push { cls := .type "slice", data := .fields #[.none, .none, .int (-1) kt] } } := I4.kept (t' := s4.toks) fun b ob q => Heap.get?_push_of_some _ q
  show wpAny (model X.prog X.w) X.A (subscriptTail e (.Slice none none (some (.UnaryOp .USub (.Constant (.int 1) k p1) p2)) p3) (.str ⟨z.toArray⟩ t) (.ref s4.heap.objs.size)) (EP X pins σ Q) X.xe { s4 with heap := s4.heap.push { cls := .type "slice", data := .fields #[.none, .none, .int (-1) kt] } }
  refine tail_any (ops := [.ref s4.heap.objs.size, .str ⟨z.toArray⟩ t]) (typeIs_str _ _ _) (PySem.F.slot_str_getitem.lookup) ?_ (by with_unfolding_all rfl)
  refine wpAny_getItem_str_slice (l := none) (u := none) (st := some ((-1 : Int), kt)) ⟨_, Heap.get?_push_size _ rfl, rfl, rfl⟩ rfl ?_
  refine post_val_or_str ?_
  show (Txt.sliceBy ⟨z.toArray⟩ none none (-1, kt)).length ≤ sizeLine ∧ ∀ t' k', EP X pins σ Q (.str (Txt.sliceBy ⟨z.toArray⟩ none none (-1, kt)) t') _
  rw [rev_by]
  refine ⟨?_, fun t' k' => ⟨.str _, H4, I5.tok k', ⟨_, rfl⟩, q⟩⟩
  show z.reverse.toArray.size ≤ sizeLine
  simpa using hx
/-! ### text * int -/
def rMulStr : R2 := fun x y H Q => ∃ (z : List Nat) (n : Nat), x = .str ⟨z.toArray⟩ ∧ y = .int n ∧ 1 ≤ n ∧ n ≤ 100000 ∧ z.length * n ≤ sizeLine ∧ Q (.str ⟨(List.replicate n z).flatten.toArray⟩) H
theorem fold_rep (z : List Nat) : ∀ (n : Nat) (a : Array Nat), ((List.replicate n z.toArray).foldl (· ++ ·) a) = a ++ (List.replicate n z).flatten.toArray
  | 0, a => by simp
  | n + 1, a => by
    rw [List.replicate_succ, List.foldl_cons, fold_rep z n, List.replicate_succ, List.flatten_cons]
    simp
theorem op_mul_str : OpR X (binaryOp .Mult) rMulStr := by
  intro pins s σ H x y v u Q I rx ry h
  obtain ⟨z, n, rfl, rfl, h1, h2, hz, q⟩ := h
  obtain ⟨t, rfl⟩ := rx
  obtain ⟨t', rfl⟩ := ry
  have hlen : (⟨z.toArray⟩ : Str).length = z.length := by show z.toArray.size = _; simp
  have hn : ¬ ((n : Int) < 1) := by omega
  have hsl : sizeLine ≤ 2 ^ 24 := by rw [sizeLine_eq]; decide
  refine P.mul_str ?_ (fun _ _ => ?_) (fun _ _ => ?_) ?_
  · rw [decide_eq_false (by omega : ¬ ((n : Int) < -(2 ^ 63 : Int))), decide_eq_false (by omega : ¬ ((n : Int) ≥ 2 ^ 63))]; rfl
  · rw [hlen]
    have : (z.length : Int) * (n : Int) ≤ 2 ^ 63 - 1 := by
      have : z.length * n ≤ 2 ^ 24 := Nat.le_trans hz hsl
      have h3 : ((z.length * n : Nat) : Int) ≤ 2 ^ 24 := by exact_mod_cast this
      rw [Int.natCast_mul] at h3
      omega
    have h4 := Int.le_ediv_of_mul_le (by omega : (0 : Int) < n) this
    omega
  · rw [hlen]
    show Builtin.Str.tooLong (z.length * n) = false
    unfold Builtin.Str.tooLong
    exact decide_eq_false (by omega)
  · rw [if_neg hn]
    by_cases c : ((n : Int) == 1 || (⟨z.toArray⟩ : Str).length == 0) = true
    · rw [if_pos c]
      have e : (⟨(List.replicate n z).flatten.toArray⟩ : Str) = ⟨z.toArray⟩ := by
        rw [hlen] at c
        rcases (Bool.or_eq_true _ _).mp c with c | c
        · have : n = 1 := by have := eq_of_beq c; omega
          subst this
          simp
        · have : z = [] := List.length_eq_zero_iff.mp (eq_of_beq c)
          subst this
          simp
      rw [e] at q
      exact ⟨.str _, H, I, ⟨_, rfl⟩, q⟩
    · rw [if_neg c]
      have e : (⟨(List.replicate ((n : Int)).toNat (⟨z.toArray⟩ : Str).cps).foldl (· ++ ·) #[]⟩ : Str) = ⟨(List.replicate n z).flatten.toArray⟩ := by
        show (⟨(List.replicate n z.toArray).foldl (· ++ ·) #[]⟩ : Str) = _
        rw [fold_rep]
        simp
      rw [e]
      refine ⟨?_, .str _, H, I.tok _, ⟨_, rfl⟩, q⟩
      show (List.replicate n z).flatten.toArray.size ≤ sizeLine
      rw [List.size_toArray, List.length_flatten, List.map_replicate, List.sum_replicate_nat]
      rw [Nat.mul_comm]; exact hz
/-! ### tuple(xs) whose answer is known to have no fields: methods of it may be called -/
def kTupP (K : PySem.W.Frag) (x : V) (H : Hp) (Q : VK) : Prop := ∃ p xs, x = .ref p ∧ SqL K H p xs ∧ ∀ q o, H q = none → o.dict = none → Q (.ref q) (upd H q (.frz o (.tup xs)))
theorem pe_tupleOfP {a : Expr} {ta : TE} {p pos : Pos} (hg : Gl X "tuple") (hm : X.mg "tuple" = none) (ha : PE X a ta) (na : starEach [a] X.env = (false, eval a X.env) :: starEach [] X.env := by rfl) :
    PE X (.Call (.Name "tuple" p) [a] [] pos) (tThen ta (kTupP X.K)) := by
  refine ⟨fun pins s σ H Q I h => ?_⟩
  refine Call_ (ld_blt I hg hm boot_tuple (PyProof.Rows.callWith_type1 (one_arg ha I h (fun v s2 x H2 I2 r q => ?_) na) na))
  obtain ⟨p, xs, rfl, hs, q⟩ := q
  obtain rfl : v = .ref p := r
  obtain ⟨its, rv, pl, hz⟩ := I2.list hs
  refine call_tuple_list pl.isList (fun h' hk => ?_) (by rw [List.size_toArray, ← rv.length]; exact hz)
  have I1 : Inv X pins σ H2 { s2 with heap := h' } := I2.kept (t' := s2.toks) hk
  have I3 : Inv X pins σ (upd H2 h'.objs.size (.frz { cls := .type "tuple", data := .seq its.toArray } (.tup xs))) { s2 with heap := h'.push { cls := .type "tuple", data := .seq its.toArray } } :=
    I1.laid (t' := s2.toks) (fun b o e => Heap.get?_push_of_some _ e) (Nat.le_refl _) (show ObjOk X.prog X.w _ _ _ (.frz _ (.tup xs)) from ⟨Heap.get?_push_size _ rfl, hz, its, rv, IsTup.new _ _⟩)
  exact ⟨.ref h'.objs.size, _, I3, rfl, q _ _ (I1.hok.fresh (Nat.le_refl _)) rfl⟩
/-- x.name(y, ..), x a tuple without fields -/
def tBMT (r : V → List V → Hp → VK → Prop) (to : TE) (t : TA) : TE := fun σ H Q => to σ H fun x H1 => (∃ a o xs, x = .ref a ∧ H1 a = some (.frz o (.tup xs)) ∧ o.dict = none) ∧ t σ H1 fun xs H2 => r x xs H2 Q
theorem pe_bmT {o e : Expr} {es : List Expr} {to : TE} {t : TA} {name : Str} {apos cpos : Pos} {id : String} {r : V → List V → Hp → VK → Prop} (pa : PlainAttrs "tuple") (slot : Slot "tuple" name id) (hty : typeOf (.builtin id) = pure (.type "method_descriptor")) (hm : MtR X id r) (ho : PE X o to) (ha : PA X (e :: es) t)
    (hbase : attributeBase o name X.env (eval o X.env) = eval o X.env := by rfl)
    (hfew : ((backTo cpos (starEach (e :: es) X.env)).all (fun x => !x.1) && (backToKw cpos (keywordEach [] X.env)).all (fun x => x.1.isSome)
      && decide ((e :: es).length + ([] : List Keyword).length + (if ([] : List Keyword).isEmpty then 0 else 1) < 30)) = true := by rfl)
    (hline : (apos.endLine == cpos.line) = true := by rfl) (hs : starEach (e :: es) X.env = (false, eval e X.env) :: starEach es X.env := by rfl) (hplain : (backTo cpos (starEach es X.env)).any (·.1) = false := by rfl) :
    PE X (.Call (.Attribute o name apos) (e :: es) [] cpos) (tBMT r to t) := by
  refine ⟨fun pins s σ H Q I h => ?_⟩
  refine wpAny_Call_method_late hbase hfew hline rfl (thn (ho.run pins s σ H _ I h) fun v s1 ⟨x, H1, I1, r1, ty, q1⟩ => ?_)
  obtain ⟨a, ob, xs, rfl, hh, hd⟩ := ty
  cases r1
  obtain ⟨e1, _, its, _, o', e2, hc, _⟩ := I1.hok a _ hh
  rw [e1] at e2
  cases (Option.some.inj e2)
  refine ⟨"tuple", id, pa, slot, hty, ⟨_, e1, hc⟩, fun b eb => ?_, ?_⟩
  · cases eb
    exact ⟨_, e1, hd⟩
  have hA := ha.run cpos pins s1 σ H1 _ I1 q1
  rw [hs] at hA ⊢
  refine Calls.callWith_builtin (by show (false || (backTo cpos (starEach es X.env)).any (·.1)) = false; rw [hplain] <;> rfl) (Calls.evalArgs_plain ?_)
  exact wpAny_mono hA (fun us s2 ⟨xs2, H2, I2, r2, q2⟩ => hm pins s2 σ H2 (.ref a) xs2 (.ref a) us Q I2 rfl r2 q2) fun _ _ z => z
/-- t.index(k), the place of an int that is there -/
def rTupIxI (K : PySem.W.Frag) : V → List V → Hp → VK → Prop := fun x xs H Q => ∃ (p : Addr) (l : List Nat) (k : Nat), x = .ref p ∧ xs = [.int k] ∧ SqT K H p (l.map fun n : Nat => V.int (n : Int)) ∧ k ∈ l ∧ Q (.int ((l.idxOf k : Nat) : Int)) H
theorem ints_are : ∀ {l : List Nat} {its : List Value}, Vals (l.map fun n : Nat => V.int (n : Int)) its → IntsAre its (l.map fun n : Nat => (n : Int))
  | [], _, .nil => .nil
  | n :: l, _, .cons ⟨t, e⟩ r => by subst e; exact .cons _ _ (ints_are r)
theorem idx_cast (k : Nat) : ∀ l : List Nat, (l.map fun n : Nat => (n : Int)).idxOf (k : Int) = l.idxOf k
  | [] => rfl
  | a :: l => by
    rw [List.map_cons, List.idxOf_cons, List.idxOf_cons, idx_cast k l]
    by_cases e : a = k
    · subst e; simp
    · have : ¬ ((a : Int) = (k : Int)) := by omega
      rw [beq_eq_false_iff_ne.mpr e, beq_eq_false_iff_ne.mpr this]
theorem mt_tup_indexI : MtR X "tuple.index" (rTupIxI X.K) := by
  intro pins s σ H x xs v us Q I rx rs h
  obtain ⟨p, l, k, rfl, rfl, hq, hk, q⟩ := h
  cases rx
  obtain ⟨u, rfl, t, rfl⟩ := vals1 rs
  obtain ⟨its, r, pl, hz⟩ := I.tuple hq
  refine SeqAt.tuple_index_ints (ns := l.map fun n : Nat => (n : Int)) pl (ints_are r) (List.mem_map.mpr ⟨k, hk, rfl⟩) ?_
  rw [idx_cast]
  exact ⟨.int _, H, I.tok _, ⟨_, rfl⟩, q⟩
/-! ### == of two dicts -/
inductive EqKV (K : PySem.W.Frag) (H : Hp) (ls : List (Key × V)) : List (Key × V) → Bool → Prop
  | nil : EqKV K H ls [] true
  | miss {k : Key} {v : V} {r : List (Key × V)} : valV ls k = none → EqKV K H ls ((k, v) :: r) false
  | hit {k : Key} {v y : V} {r : List (Key × V)} {d e : PyData} {b : Bool} : valV ls k = some y → Dp K H v d → Dp K H y e → SeqAt.shaped d = true → SeqAt.shaped e = true → EqKV K H ls r b → EqKV K H ls ((k, v) :: r) (PyData.eqv d e && b)
theorem eqKV_run {pins : List (Addr × Obj)} {σ : L2.St} {H : Hp} {s : Shared} (I : Inv X pins σ H s) {A : Around} (hu : A.in1.units + 64 < cLine) {ls : List (Key × V)} {vb : List (Key × Value)} (rb : KV ls vb) {ks : List (Key × V)} {b : Bool} (h : EqKV X.K H ls ks b) :
    ∀ {va : List (Key × Value)}, KV ks va → PySem.W.KeqHitsP X.prog X.w A.in1 s vb va b := by
  induction h with
  | nil => intro va ra; cases ra; exact .nil
  | @miss k v r hn =>
    intro va ra
    cases ra with
    | @cons _ q _ qs h t =>
      obtain ⟨key, w⟩ := q
      obtain ⟨h1, h2⟩ := h
      have h1' : k = key := h1
      subst h1'
      have rr : RelO none (valueAt vb k) := by rw [← hn]; exact rb.val k
      refine .miss ?_
      generalize valueAt vb k = o at rr
      cases o with
      | none => rfl
      | some z => exact False.elim rr
  | @hit k v y r d e b hy hd he sd se _ ih =>
    intro va ra
    cases ra with
    | @cons _ q _ qs h t =>
      obtain ⟨key, w⟩ := q
      obtain ⟨h1, h2⟩ := h
      have h1' : k = key := h1
      subst h1'
      have rr : RelO (some y) (valueAt vb k) := by rw [← hy]; exact rb.val k
      obtain ⟨yy, hyy, ry⟩ := rr.some_of
      obtain ⟨as, r1⟩ := Dp.reads I d v w hd h2
      obtain ⟨bs, r2⟩ := Dp.reads I e y yy he ry
      exact .hit hyy (PySem.W.keq_at r1 r2 sd se hu).eqP (ih t)
def rEqX (K : PySem.W.Frag) : R2 := fun x y H Q => rEqD K x y H Q ∨ ∃ (a b : Addr) (ks ls : List (Key × V)) (r : Bool), x = .ref a ∧ y = .ref b ∧ H a = some (.dK ks) ∧ H b = some (.dK ls) ∧ (ks.length = ls.length → EqKV K H ls ks r) ∧ Q (.bl (ks.length == ls.length && r)) H
theorem room65 {n : Nat} {A : Around} (hr : Room n A) : A.units + 65 < cLine := by have := hr.un; omega
theorem op_neX (hu2 : X.A.units + 65 < cLine) : OpR X (compareOp .NotEq) (rNeD X.K) := op_neD (by omega)
theorem op_eqX (hu2 : X.A.units + 65 < cLine) : OpR X (compareOp .Eq) (rEqX X.K) := by
  intro pins s σ H x y v u Q I rx ry h
  rcases h with h | ⟨a, b, ks, ls, r, rfl, rfl, ha, hb, hp, q⟩
  · exact op_eqD (by omega) pins s σ H x y v u Q I rx ry h
  · cases (show v = Value.ref a from rx)
    cases (show u = Value.ref b from ry)
    obtain ⟨_, ya, va, ra, da⟩ := (show ObjOk X.prog X.w H s.heap a (.dK ks) from I.hok a _ ha)
    obtain ⟨_, yb, vb, rb, db⟩ := (show ObjOk X.prog X.w H s.heap b (.dK ls) from I.hok b _ hb)
    have la : va.length = ks.length := ra.length.symm
    have lb : vb.length = ls.length := rb.length.symm
    refine PySem.W.rcP_dicts (knd := mixKind X.prog X.w) (r := r) ya yb da db (by omega) (fun hl => eqKV_run I (A := X.A) (by show X.A.units + 1 + 64 < cLine; omega) rb (hp (by omega)) ra) _ _ ?_
    rw [la, lb]
    exact ⟨.bl _, H, I, rfl, q⟩
/-! ### x == y, two objects of a class with an own __eq__ -/
def rEqW (C : Addr) (sp : Sp) (E : XK) : R2 := fun x y H Q => ∃ a b dx dy fs gs, x = .ref a ∧ y = .ref b ∧ H a = some (.ins C dx fs) ∧ H b = some (.ins C dy gs) ∧ sp [.ref a, .ref b] H Q E
theorem op_eqW {CX : CXT} {n : Nat} {C f : Addr} {fd : FuncData} {ps : List Str} {sp : Sp} {E : XK} (F : FnOk X.prog X.w X.K X.mg X.base CX n f fd ps sp) (hrm : Room n X.A)
    (hs : PySem.W.findIn X.K (.ref C) "__eq__" = some (some (.ref f))) (hf : PySem.W.isFn X.K (.ref f) = true) (hb : Binds X.K fd ps []) (hx : Passes CX X E) : OpR X (compareOp .Eq) (rEqW C sp E) := by
  intro pins s σ H x y v u Q I rx ry h
  obtain ⟨a, b, dx, dy, fs, gs, rfl, rfl, ha, hb', hsp⟩ := h
  cases rx
  cases ry
  show wpAny (model X.prog X.w) X.A (richCompare .Eq (.ref a) (.ref b)) (EP X pins σ Q) X.xe s
  obtain ⟨mA, J, _⟩ := ins_get I.hok ha
  obtain ⟨mB, J', _⟩ := ins_get I.hok hb'
  obtain ⟨od, J, _⟩ := J.look
  obtain ⟨od', J', _⟩ := J'.look
  obtain ⟨m, hF⟩ := I.fr
  refine PySem.W.cmp_K (op := .Eq) (tb := .ref C) hrm.units0 hF I.ok.mod.kin J J'.type (by simp [PySem.W.notFirst]) hs hf ?_
  have hl := F.len _ _ _ _ hsp
  have r2 : Vals [V.ref a, V.ref b] [Value.ref a, Value.ref b] := .cons rfl (.cons rfl .nil)
  refine wpAny_call (codeAny_mono (F.run X.A X.stack s H ⟨[.ref a, .ref b], []⟩ [.ref a, .ref b] [.ref a, .ref b] _ E hrm I.env0 (by
    have := hb s [.ref a, .ref b] I.kIn (by simpa using hl)
    simpa using this) r2 hsp) fun r s' hq => ?_)
  cases r with
  | error e => exact hx pins σ H s e s' I hq
  | ok fl =>
    cases fl with
    | ret w =>
      obtain ⟨z, H', I', rz, ez⟩ := I.after hq
      cases w with
      | notImplemented => exact absurd rz (by cases z <;> first | (intro h; cases h; done) | (rintro ⟨_, h⟩; cases h; done) | (intro h; exact h.elim))
      | _ => exact ⟨z, H', I', rz, ez⟩
    | next => exact False.elim hq
    | brk => exact False.elim hq
    | cont => exact False.elim hq
end
/-! ### steps of readings -/
theorem r_fldS {K : PySem.W.Frag} {ta tv : TE} {f : Str} {D : Ends} {σ : L2.St} {H : Hp} (h : tv σ H fun y H1 => ta σ H1 fun x H2 => ∃ a C dx fs, x = .ref a ∧ H2 a = some (.ins C dx fs) ∧ Cls K C ∧ NoAttr K C f ∧ fs.length < 1000 ∧ D.nx σ (upd H2 a (.ins C dx (putF f y fs)))) : sFld K ta tv f D σ H := h
theorem r_dc {wi : TI} {g : TG} {tt : TT} {tk tv : TE} {vs : List Nat} {σ : L2.St} {H : Hp} {Q : VK} (h : wi σ H fun J H1 => ∀ D, H1 D = none → ∃ W : Nat → Nat → Hp → Prop, (∃ m, W 0 m (upd H1 D (.dK []))) ∧ ∀ i m H, W i m H →
  (J.stop i H ∧ Q (.ref D) H) ∨ (J.go i H ∧ ∃ Nx : Hp → Prop, (∀ H', Nx H' → ∃ m', m' < m ∧ W (i + 1) m' H') ∧ ∀ x H', J.yld i H x H' → g x (wipe σ vs) H' fun σ2 H2 => wipe σ2 vs = wipe σ vs ∧ tt σ2 H2 fun b H3 =>
    if b = true then tk σ2 H3 fun y H4 => tv σ2 H4 fun z H5 => ∃ kvs k, y = kV k ∧ H5 D = some (.dK kvs) ∧ kvs.length < sizeLine ∧ Nx (upd H5 D (.dK (putK kvs k z))) else Nx H3)) : tDc wi g tt tk tv vs σ H Q := h
theorem r_revS {te : TE} {σ : L2.St} {H : Hp} {Q : VK} (h : te σ H fun x H1 => ∃ z : List Nat, x = .str ⟨z.toArray⟩ ∧ z.length ≤ sizeLine ∧ Q (.str ⟨z.reverse.toArray⟩) H1) : tRevS te σ H Q := h
theorem r_bmT {r : V → List V → Hp → VK → Prop} {to : TE} {t : TA} {σ : L2.St} {H : Hp} {Q : VK} (h : to σ H fun x H1 => (∃ a o xs, x = .ref a ∧ H1 a = some (.frz o (.tup xs)) ∧ o.dict = none) ∧ t σ H1 fun xs H2 => r x xs H2 Q) : tBMT r to t σ H Q := h
theorem r_meth {C : Addr} {m : Str} {sp : Sp} {dvs : List V} {E : XK} {ta : TE} {t : TA} {σ : L2.St} {H : Hp} {Q : VK} (h : ta σ H fun x H1 => ∃ a dx fs, x = .ref a ∧ H1 a = some (.ins C dx fs) ∧ fs.lookup m = none ∧ t σ H1 fun vs H2 => sp (x :: (vs ++ dvs)) H2 Q E) : tMeth C m sp dvs E ta t σ H Q := h
end Rb
namespace Rb
open PySem L2
section
def topS (i : Nat) : Stmt := PySem.Challenge.pw_runsback_k40_letters_rows_and_orders.main.body.getD i (.Pass ⟨0, 0, 0, 0⟩)
abbrev st_is_integer : Stmt := (topS 7)
theorem sc_is_integer : FnScope ["thing"] ["thing"] (defScope st_is_integer) := ⟨rfl, rfl, rfl, by decide +kernel, rfl, by decide +kernel, by decide +kernel⟩
abbrev st_is_string_of : Stmt := (topS 8)
theorem sc_is_string_of : FnScope ["thing", "signs", "sign"] ["thing", "signs"] (defScope st_is_string_of) := ⟨rfl, rfl, rfl, by decide +kernel, rfl, by decide +kernel, by decide +kernel⟩
abbrev st_is_word : Stmt := (topS 9)
theorem sc_is_word : FnScope ["thing"] ["thing"] (defScope st_is_word) := ⟨rfl, rfl, rfl, by decide +kernel, rfl, by decide +kernel, by decide +kernel⟩
abbrev st_is_deeds : Stmt := (topS 10)
theorem sc_is_deeds : FnScope ["thing", "at"] ["thing"] (defScope st_is_deeds) := ⟨rfl, rfl, rfl, by decide +kernel, rfl, by decide +kernel, by decide +kernel⟩
abbrev st_undoing_of : Stmt := (topS 11)
theorem sc_undoing_of : FnScope ["letter"] ["letter"] (defScope st_undoing_of) := ⟨rfl, rfl, rfl, by decide +kernel, rfl, by decide +kernel, by decide +kernel⟩
abbrev st_letters_over : Stmt := (topS 12)
theorem sc_letters_over : FnScope ["deeds", "deed", "letter"] ["deeds"] (defScope st_letters_over) := ⟨rfl, rfl, rfl, by decide +kernel, rfl, by decide +kernel, by decide +kernel⟩
abbrev st_is_row_over : Stmt := (topS 13)
theorem sc_is_row_over : FnScope ["deeds", "thing"] ["deeds", "thing"] (defScope st_is_row_over) := ⟨rfl, rfl, rfl, by decide +kernel, rfl, by decide +kernel, by decide +kernel⟩
abbrev st_check_row : Stmt := (topS 14)
theorem sc_check_row : FnScope ["deeds", "thing"] ["deeds", "thing"] (defScope st_check_row) := ⟨rfl, rfl, rfl, by decide +kernel, rfl, by decide +kernel, by decide +kernel⟩
abbrev st_standing_still : Stmt := (topS 16)
theorem sc_standing_still : FnScope ["size"] ["size"] (defScope st_standing_still) := ⟨rfl, rfl, rfl, by decide +kernel, rfl, by decide +kernel, by decide +kernel⟩
abbrev st_composed : Stmt := (topS 17)
theorem sc_composed : FnScope ["first", "second", "standing"] ["first", "second"] (defScope st_composed) := ⟨rfl, rfl, rfl, by decide +kernel, rfl, by decide +kernel, by decide +kernel⟩
abbrev st_turned_back : Stmt := (topS 18)
theorem sc_turned_back : FnScope ["move", "found", "standing", "goal"] ["move"] (defScope st_turned_back) := ⟨rfl, rfl, rfl, by decide +kernel, rfl, by decide +kernel, by decide +kernel⟩
abbrev st_circles_of : Stmt := (topS 19)
theorem sc_circles_of : FnScope ["move", "known", "found", "start", "circle", "standing"] ["move"] (defScope st_circles_of) := ⟨rfl, rfl, rfl, by decide +kernel, rfl, by decide +kernel, by decide +kernel⟩
abbrev st_greatest_divisor : Stmt := (topS 20)
theorem sc_greatest_divisor : FnScope ["one", "other"] ["one", "other"] (defScope st_greatest_divisor) := ⟨rfl, rfl, rfl, by decide +kernel, rfl, by decide +kernel, by decide +kernel⟩
abbrev st_order_of : Stmt := (topS 21)
theorem sc_order_of : FnScope ["move", "found", "circle"] ["move"] (defScope st_order_of) := ⟨rfl, rfl, rfl, by decide +kernel, rfl, by decide +kernel, by decide +kernel⟩
abbrev st_is_standing : Stmt := (topS 24)
theorem sc_is_standing : FnScope ["size", "thing"] ["size", "thing"] (defScope st_is_standing) := ⟨rfl, rfl, rfl, by decide +kernel, rfl, by decide +kernel, by decide +kernel⟩
abbrev st_is_move : Stmt := (topS 25)
theorem sc_is_move : FnScope ["size", "thing", "seen", "standing"] ["size", "thing"] (defScope st_is_move) := ⟨rfl, rfl, rfl, by decide +kernel, rfl, by decide +kernel, by decide +kernel⟩
abbrev st_are_moves : Stmt := (topS 26)
theorem sc_are_moves : FnScope ["deeds", "thing", "deed", "first"] ["deeds", "thing"] (defScope st_are_moves) := ⟨rfl, rfl, rfl, by decide +kernel, rfl, by decide +kernel, by decide +kernel⟩
abbrev st_all_moves : Stmt := (topS 27)
theorem sc_all_moves : FnScope ["deeds", "moves", "found", "deed"] ["deeds", "moves"] (defScope st_all_moves) := ⟨rfl, rfl, rfl, by decide +kernel, rfl, by decide +kernel, by decide +kernel⟩
abbrev st_World___init__ : Stmt := (inClass (topS 28) 0)
theorem sc_World___init__ : FnScope ["self", "deeds", "moves"] ["self", "deeds", "moves"] (defScope st_World___init__) := ⟨rfl, rfl, rfl, by decide +kernel, rfl, by decide +kernel, by decide +kernel⟩
abbrev st_World_keep : Stmt := (inClass (topS 28) 1)
theorem sc_World_keep : FnScope ["self", "deeds", "moves", "letter"] ["self", "deeds", "moves"] (defScope st_World_keep) := ⟨rfl, rfl, rfl, by decide +kernel, rfl, by decide +kernel, by decide +kernel⟩
abbrev st_World___eq__ : Stmt := (inClass (topS 28) 3)
theorem sc_World___eq__ : FnScope ["self", "thing"] ["self", "thing"] (defScope st_World___eq__) := ⟨rfl, rfl, rfl, by decide +kernel, rfl, by decide +kernel, by decide +kernel⟩
abbrev st_check_standing : Stmt := (topS 29)
theorem sc_check_standing : FnScope ["world", "standing"] ["world", "standing"] (defScope st_check_standing) := ⟨rfl, rfl, rfl, by decide +kernel, rfl, by decide +kernel, by decide +kernel⟩
abbrev st_row_move : Stmt := (topS 30)
theorem sc_row_move : FnScope ["world", "row", "found", "letter"] ["world", "row"] (defScope st_row_move) := ⟨rfl, rfl, rfl, by decide +kernel, rfl, by decide +kernel, by decide +kernel⟩
abbrev st_led : Stmt := (topS 31)
theorem sc_led : FnScope ["world", "standing", "row", "letter"] ["world", "standing", "row"] (defScope st_led) := ⟨rfl, rfl, rfl, by decide +kernel, rfl, by decide +kernel, by decide +kernel⟩
abbrev st_move_of : Stmt := (topS 32)
theorem sc_move_of : FnScope ["world", "row"] ["world", "row"] (defScope st_move_of) := ⟨rfl, rfl, rfl, by decide +kernel, rfl, by decide +kernel, by decide +kernel⟩
abbrev st_order : Stmt := (topS 33)
theorem sc_order : FnScope ["world", "row"] ["world", "row"] (defScope st_order) := ⟨rfl, rfl, rfl, by decide +kernel, rfl, by decide +kernel, by decide +kernel⟩
abbrev st__law_pot : Stmt := (topS 35)
theorem sc__law_pot : FnScope ["_law_script", "_law_cells", "_law_greats", "_law_smalls", "_law_cell"] ["_law_script"] (defScope st__law_pot) := ⟨rfl, rfl, rfl, by decide +kernel, rfl, by decide +kernel, by decide +kernel⟩
abbrev st__law_draw : Stmt := (topS 36)
theorem sc__law_draw : FnScope ["_law_pot_here", "_law_many", "_law_turn", "_law_number", "_law_seed"] ["_law_pot_here", "_law_many"] (defScope st__law_draw) := ⟨rfl, rfl, rfl, by decide +kernel, rfl, by decide +kernel, by decide +kernel⟩
abbrev st__law_any : Stmt := (topS 37)
theorem sc__law_any : FnScope ["_law_pot_here", "_law_items"] ["_law_pot_here", "_law_items"] (defScope st__law_any) := ⟨rfl, rfl, rfl, by decide +kernel, rfl, by decide +kernel, by decide +kernel⟩
abbrev st__law_deeds : Stmt := (topS 38)
theorem sc__law_deeds : FnScope ["_law_pot_here", "_law_most", "_law_at", "_law_deeds_here", "_law_k"] ["_law_pot_here", "_law_most"] (defScope st__law_deeds) := ⟨rfl, rfl, rfl, by decide +kernel, rfl, by decide +kernel, by decide +kernel⟩
abbrev st__law_other : Stmt := (topS 39)
theorem sc__law_other : FnScope ["_law_letter"] ["_law_letter"] (defScope st__law_other) := ⟨rfl, rfl, rfl, by decide +kernel, rfl, by decide +kernel, by decide +kernel⟩
abbrev st__law_back_row : Stmt := (topS 40)
theorem sc__law_back_row : FnScope ["_law_row_here", "_law_letter"] ["_law_row_here"] (defScope st__law_back_row) := ⟨rfl, rfl, rfl, by decide +kernel, rfl, by decide +kernel, by decide +kernel⟩
abbrev st__law_letters : Stmt := (topS 41)
theorem sc__law_letters : FnScope ["_law_deeds_here", "_law_letters_here", "_law_deed"] ["_law_deeds_here"] (defScope st__law_letters) := ⟨rfl, rfl, rfl, by decide +kernel, rfl, by decide +kernel, by decide +kernel⟩
abbrev st__law_row : Stmt := (topS 42)
theorem sc__law_row : FnScope ["_law_pot_here", "_law_deeds_here", "_law_most", "_law_k"] ["_law_pot_here", "_law_deeds_here", "_law_most"] (defScope st__law_row) := ⟨rfl, rfl, rfl, by decide +kernel, rfl, by decide +kernel, by decide +kernel⟩
abbrev st__law_mixed : Stmt := (topS 43)
theorem sc__law_mixed : FnScope ["_law_pot_here", "_law_items", "_law_line", "_law_k", "_law_at"] ["_law_pot_here", "_law_items"] (defScope st__law_mixed) := ⟨rfl, rfl, rfl, by decide +kernel, rfl, by decide +kernel, by decide +kernel⟩
abbrev st__law_moves : Stmt := (topS 44)
theorem sc__law_moves : FnScope ["_law_pot_here", "_law_deeds_here", "_law_size", "_law_moves_here", "_law_deed"] ["_law_pot_here", "_law_deeds_here", "_law_size"] (defScope st__law_moves) := ⟨rfl, rfl, rfl, by decide +kernel, rfl, by decide +kernel, by decide +kernel⟩
abbrev st__law_step : Stmt := (topS 45)
theorem sc__law_step : FnScope ["_law_moves_here", "_law_letter", "_law_standing"] ["_law_moves_here", "_law_letter", "_law_standing"] (defScope st__law_step) := ⟨rfl, rfl, rfl, by decide +kernel, rfl, by decide +kernel, by decide +kernel⟩
abbrev st__law_led : Stmt := (topS 46)
theorem sc__law_led : FnScope ["_law_moves_here", "_law_standing", "_law_row_here", "_law_letter"] ["_law_moves_here", "_law_standing", "_law_row_here"] (defScope st__law_led) := ⟨rfl, rfl, rfl, by decide +kernel, rfl, by decide +kernel, by decide +kernel⟩
abbrev st__law_net : Stmt := (topS 47)
theorem sc__law_net : FnScope ["_law_row_here", "_law_left", "_law_letter"] ["_law_row_here"] (defScope st__law_net) := ⟨rfl, rfl, rfl, by decide +kernel, rfl, by decide +kernel, by decide +kernel⟩
abbrev st__law_asked : Stmt := (topS 48)
theorem sc__law_asked : FnScope ["_law_which", "_law_world", "_law_standing", "_law_row_here", "_law_found"] ["_law_which", "_law_world", "_law_standing", "_law_row_here"] (defScope st__law_asked) := ⟨rfl, rfl, rfl, by decide +kernel, rfl, by decide +kernel, by decide +kernel⟩
abbrev st__law_order : Stmt := (topS 49)
theorem sc__law_order : FnScope ["_law_move", "_law_found", "_law_start", "_law_many", "_law_at", "_law_turn", "_law_least"] ["_law_move"] (defScope st__law_order) := ⟨rfl, rfl, rfl, by decide +kernel, rfl, by decide +kernel, by decide +kernel⟩
abbrev st_law : Stmt := (topS 50)
theorem sc_law : FnScope ["_law_script", "_law_pot_here", "_law_deeds_here", "_law_size", "_law_moves_here", "_law_world", "_law_row_here", "_law_due", "_law_standing", "_law_back", "_law_spare", "_law_none", "_law_wrong", "_law_which", "_law_sign", "_law_here"] ["_law_script"] (defScope st_law) := ⟨rfl, rfl, rfl, by decide +kernel, rfl, by decide +kernel, by decide +kernel⟩
/-- what the top has written -/
structure Txt (K : PySem.W.Frag) (mg : Str → Option Value) where
  C_NoRow : Addr
  g_NoRow : mg "NoRow" = some (.ref C_NoRow)
  k_NoRow : PySem.W.keepIn K (.ref C_NoRow) = true
  xb_NoRow : PySem.W.subIn K (.ref C_NoRow) (.type "BaseException") = some true
  xt_NoRow : PySem.W.typeIn K (.ref C_NoRow) = some (.type "type")
  xi_NoRow : PySem.W.isClsIn K C_NoRow = true
  x_NoRow : PySem.W.excIn K C_NoRow [.type "ValueError", .type "Exception", .type "BaseException", .type "object"] "ValueError.__new__" = true
  C_NoStanding : Addr
  g_NoStanding : mg "NoStanding" = some (.ref C_NoStanding)
  k_NoStanding : PySem.W.keepIn K (.ref C_NoStanding) = true
  xb_NoStanding : PySem.W.subIn K (.ref C_NoStanding) (.type "BaseException") = some true
  xt_NoStanding : PySem.W.typeIn K (.ref C_NoStanding) = some (.type "type")
  xi_NoStanding : PySem.W.isClsIn K C_NoStanding = true
  x_NoStanding : PySem.W.excIn K C_NoStanding [.type "ValueError", .type "Exception", .type "BaseException", .type "object"] "ValueError.__new__" = true
  C_World : Addr
  g_World : mg "World" = some (.ref C_World)
  cl_World : Cls K C_World
  ty_World : TyI K C_World
  s_NoRow_NoStanding : PySem.W.subIn K (.ref C_NoRow) (.ref C_NoStanding) = some false
  s_NoRow_NoRow : PySem.W.subIn K (.ref C_NoRow) (.ref C_NoRow) = some true
  s_NoStanding_NoStanding : PySem.W.subIn K (.ref C_NoStanding) (.ref C_NoStanding) = some true
  a_is_integer : Addr
  d_is_integer : FuncData
  F_is_integer : Fun K "is_integer" "is_integer" st_is_integer a_is_integer d_is_integer
  b_is_integer : Binds K d_is_integer ["thing"] []
  g_is_integer : mg "is_integer" = some (.ref a_is_integer)
  a_is_string_of : Addr
  d_is_string_of : FuncData
  F_is_string_of : Fun K "is_string_of" "is_string_of" st_is_string_of a_is_string_of d_is_string_of
  b_is_string_of : Binds K d_is_string_of ["thing", "signs"] []
  g_is_string_of : mg "is_string_of" = some (.ref a_is_string_of)
  a_is_word : Addr
  d_is_word : FuncData
  F_is_word : Fun K "is_word" "is_word" st_is_word a_is_word d_is_word
  b_is_word : Binds K d_is_word ["thing"] []
  g_is_word : mg "is_word" = some (.ref a_is_word)
  a_is_deeds : Addr
  d_is_deeds : FuncData
  F_is_deeds : Fun K "is_deeds" "is_deeds" st_is_deeds a_is_deeds d_is_deeds
  b_is_deeds : Binds K d_is_deeds ["thing"] []
  g_is_deeds : mg "is_deeds" = some (.ref a_is_deeds)
  a_undoing_of : Addr
  d_undoing_of : FuncData
  F_undoing_of : Fun K "undoing_of" "undoing_of" st_undoing_of a_undoing_of d_undoing_of
  b_undoing_of : Binds K d_undoing_of ["letter"] []
  g_undoing_of : mg "undoing_of" = some (.ref a_undoing_of)
  a_letters_over : Addr
  d_letters_over : FuncData
  F_letters_over : Fun K "letters_over" "letters_over" st_letters_over a_letters_over d_letters_over
  b_letters_over : Binds K d_letters_over ["deeds"] []
  g_letters_over : mg "letters_over" = some (.ref a_letters_over)
  a_is_row_over : Addr
  d_is_row_over : FuncData
  F_is_row_over : Fun K "is_row_over" "is_row_over" st_is_row_over a_is_row_over d_is_row_over
  b_is_row_over : Binds K d_is_row_over ["deeds", "thing"] []
  g_is_row_over : mg "is_row_over" = some (.ref a_is_row_over)
  a_check_row : Addr
  d_check_row : FuncData
  F_check_row : Fun K "check_row" "check_row" st_check_row a_check_row d_check_row
  b_check_row : Binds K d_check_row ["deeds", "thing"] []
  g_check_row : mg "check_row" = some (.ref a_check_row)
  a_standing_still : Addr
  d_standing_still : FuncData
  F_standing_still : Fun K "standing_still" "standing_still" st_standing_still a_standing_still d_standing_still
  b_standing_still : Binds K d_standing_still ["size"] []
  g_standing_still : mg "standing_still" = some (.ref a_standing_still)
  a_composed : Addr
  d_composed : FuncData
  F_composed : Fun K "composed" "composed" st_composed a_composed d_composed
  b_composed : Binds K d_composed ["first", "second"] []
  g_composed : mg "composed" = some (.ref a_composed)
  a_turned_back : Addr
  d_turned_back : FuncData
  F_turned_back : Fun K "turned_back" "turned_back" st_turned_back a_turned_back d_turned_back
  b_turned_back : Binds K d_turned_back ["move"] []
  g_turned_back : mg "turned_back" = some (.ref a_turned_back)
  a_circles_of : Addr
  d_circles_of : FuncData
  F_circles_of : Fun K "circles_of" "circles_of" st_circles_of a_circles_of d_circles_of
  b_circles_of : Binds K d_circles_of ["move"] []
  g_circles_of : mg "circles_of" = some (.ref a_circles_of)
  a_greatest_divisor : Addr
  d_greatest_divisor : FuncData
  F_greatest_divisor : Fun K "greatest_divisor" "greatest_divisor" st_greatest_divisor a_greatest_divisor d_greatest_divisor
  b_greatest_divisor : Binds K d_greatest_divisor ["one", "other"] []
  g_greatest_divisor : mg "greatest_divisor" = some (.ref a_greatest_divisor)
  a_order_of : Addr
  d_order_of : FuncData
  F_order_of : Fun K "order_of" "order_of" st_order_of a_order_of d_order_of
  b_order_of : Binds K d_order_of ["move"] []
  g_order_of : mg "order_of" = some (.ref a_order_of)
  a_is_standing : Addr
  d_is_standing : FuncData
  F_is_standing : Fun K "is_standing" "is_standing" st_is_standing a_is_standing d_is_standing
  b_is_standing : Binds K d_is_standing ["size", "thing"] []
  g_is_standing : mg "is_standing" = some (.ref a_is_standing)
  a_is_move : Addr
  d_is_move : FuncData
  F_is_move : Fun K "is_move" "is_move" st_is_move a_is_move d_is_move
  b_is_move : Binds K d_is_move ["size", "thing"] []
  g_is_move : mg "is_move" = some (.ref a_is_move)
  a_are_moves : Addr
  d_are_moves : FuncData
  F_are_moves : Fun K "are_moves" "are_moves" st_are_moves a_are_moves d_are_moves
  b_are_moves : Binds K d_are_moves ["deeds", "thing"] []
  g_are_moves : mg "are_moves" = some (.ref a_are_moves)
  a_all_moves : Addr
  d_all_moves : FuncData
  F_all_moves : Fun K "all_moves" "all_moves" st_all_moves a_all_moves d_all_moves
  b_all_moves : Binds K d_all_moves ["deeds", "moves"] []
  g_all_moves : mg "all_moves" = some (.ref a_all_moves)
  a_World___init__ : Addr
  d_World___init__ : FuncData
  F_World___init__ : Fun K "__init__" "World.__init__" st_World___init__ a_World___init__ d_World___init__
  b_World___init__ : Binds K d_World___init__ ["self", "deeds", "moves"] []
  mk_World : Mk K C_World a_World___init__
  a_World_keep : Addr
  d_World_keep : FuncData
  F_World_keep : Fun K "keep" "World.keep" st_World_keep a_World_keep d_World_keep
  b_World_keep : Binds K d_World_keep ["self", "deeds", "moves"] []
  m_World_keep : Meth K C_World "keep" a_World_keep
  a_World___eq__ : Addr
  d_World___eq__ : FuncData
  F_World___eq__ : Fun K "__eq__" "World.__eq__" st_World___eq__ a_World___eq__ d_World___eq__
  b_World___eq__ : Binds K d_World___eq__ ["self", "thing"] []
  m_World___eq__ : Meth K C_World "__eq__" a_World___eq__
  a_check_standing : Addr
  d_check_standing : FuncData
  F_check_standing : Fun K "check_standing" "check_standing" st_check_standing a_check_standing d_check_standing
  b_check_standing : Binds K d_check_standing ["world", "standing"] []
  g_check_standing : mg "check_standing" = some (.ref a_check_standing)
  a_row_move : Addr
  d_row_move : FuncData
  F_row_move : Fun K "row_move" "row_move" st_row_move a_row_move d_row_move
  b_row_move : Binds K d_row_move ["world", "row"] []
  g_row_move : mg "row_move" = some (.ref a_row_move)
  a_led : Addr
  d_led : FuncData
  F_led : Fun K "led" "led" st_led a_led d_led
  b_led : Binds K d_led ["world", "standing", "row"] []
  g_led : mg "led" = some (.ref a_led)
  a_move_of : Addr
  d_move_of : FuncData
  F_move_of : Fun K "move_of" "move_of" st_move_of a_move_of d_move_of
  b_move_of : Binds K d_move_of ["world", "row"] []
  g_move_of : mg "move_of" = some (.ref a_move_of)
  a_order : Addr
  d_order : FuncData
  F_order : Fun K "order" "order" st_order a_order d_order
  b_order : Binds K d_order ["world", "row"] []
  g_order : mg "order" = some (.ref a_order)
  a__law_pot : Addr
  d__law_pot : FuncData
  F__law_pot : Fun K "_law_pot" "_law_pot" st__law_pot a__law_pot d__law_pot
  b__law_pot : Binds K d__law_pot ["_law_script"] []
  g__law_pot : mg "_law_pot" = some (.ref a__law_pot)
  a__law_draw : Addr
  d__law_draw : FuncData
  F__law_draw : Fun K "_law_draw" "_law_draw" st__law_draw a__law_draw d__law_draw
  b__law_draw : Binds K d__law_draw ["_law_pot_here", "_law_many"] []
  g__law_draw : mg "_law_draw" = some (.ref a__law_draw)
  a__law_any : Addr
  d__law_any : FuncData
  F__law_any : Fun K "_law_any" "_law_any" st__law_any a__law_any d__law_any
  b__law_any : Binds K d__law_any ["_law_pot_here", "_law_items"] []
  g__law_any : mg "_law_any" = some (.ref a__law_any)
  a__law_deeds : Addr
  d__law_deeds : FuncData
  F__law_deeds : Fun K "_law_deeds" "_law_deeds" st__law_deeds a__law_deeds d__law_deeds
  b__law_deeds : Binds K d__law_deeds ["_law_pot_here", "_law_most"] []
  g__law_deeds : mg "_law_deeds" = some (.ref a__law_deeds)
  a__law_other : Addr
  d__law_other : FuncData
  F__law_other : Fun K "_law_other" "_law_other" st__law_other a__law_other d__law_other
  b__law_other : Binds K d__law_other ["_law_letter"] []
  g__law_other : mg "_law_other" = some (.ref a__law_other)
  a__law_back_row : Addr
  d__law_back_row : FuncData
  F__law_back_row : Fun K "_law_back_row" "_law_back_row" st__law_back_row a__law_back_row d__law_back_row
  b__law_back_row : Binds K d__law_back_row ["_law_row_here"] []
  g__law_back_row : mg "_law_back_row" = some (.ref a__law_back_row)
  a__law_letters : Addr
  d__law_letters : FuncData
  F__law_letters : Fun K "_law_letters" "_law_letters" st__law_letters a__law_letters d__law_letters
  b__law_letters : Binds K d__law_letters ["_law_deeds_here"] []
  g__law_letters : mg "_law_letters" = some (.ref a__law_letters)
  a__law_row : Addr
  d__law_row : FuncData
  F__law_row : Fun K "_law_row" "_law_row" st__law_row a__law_row d__law_row
  b__law_row : Binds K d__law_row ["_law_pot_here", "_law_deeds_here", "_law_most"] []
  g__law_row : mg "_law_row" = some (.ref a__law_row)
  a__law_mixed : Addr
  d__law_mixed : FuncData
  F__law_mixed : Fun K "_law_mixed" "_law_mixed" st__law_mixed a__law_mixed d__law_mixed
  b__law_mixed : Binds K d__law_mixed ["_law_pot_here", "_law_items"] []
  g__law_mixed : mg "_law_mixed" = some (.ref a__law_mixed)
  a__law_moves : Addr
  d__law_moves : FuncData
  F__law_moves : Fun K "_law_moves" "_law_moves" st__law_moves a__law_moves d__law_moves
  b__law_moves : Binds K d__law_moves ["_law_pot_here", "_law_deeds_here", "_law_size"] []
  g__law_moves : mg "_law_moves" = some (.ref a__law_moves)
  a__law_step : Addr
  d__law_step : FuncData
  F__law_step : Fun K "_law_step" "_law_step" st__law_step a__law_step d__law_step
  b__law_step : Binds K d__law_step ["_law_moves_here", "_law_letter", "_law_standing"] []
  g__law_step : mg "_law_step" = some (.ref a__law_step)
  a__law_led : Addr
  d__law_led : FuncData
  F__law_led : Fun K "_law_led" "_law_led" st__law_led a__law_led d__law_led
  b__law_led : Binds K d__law_led ["_law_moves_here", "_law_standing", "_law_row_here"] []
  g__law_led : mg "_law_led" = some (.ref a__law_led)
  a__law_net : Addr
  d__law_net : FuncData
  F__law_net : Fun K "_law_net" "_law_net" st__law_net a__law_net d__law_net
  b__law_net : Binds K d__law_net ["_law_row_here"] []
  g__law_net : mg "_law_net" = some (.ref a__law_net)
  a__law_asked : Addr
  d__law_asked : FuncData
  F__law_asked : Fun K "_law_asked" "_law_asked" st__law_asked a__law_asked d__law_asked
  b__law_asked : Binds K d__law_asked ["_law_which", "_law_world", "_law_standing", "_law_row_here"] []
  g__law_asked : mg "_law_asked" = some (.ref a__law_asked)
  a__law_order : Addr
  d__law_order : FuncData
  F__law_order : Fun K "_law_order" "_law_order" st__law_order a__law_order d__law_order
  b__law_order : Binds K d__law_order ["_law_move"] []
  g__law_order : mg "_law_order" = some (.ref a__law_order)
  a_law : Addr
  d_law : FuncData
  F_law : Fun K "law" "law" st_law a_law d_law
  b_law : Binds K d_law ["_law_script"] []
  g_law : mg "law" = some (.ref a_law)
  n_World_deeds : NoAttr K C_World "deeds"
  n_World_size : NoAttr K C_World "size"
  n_World_kept_moves : NoAttr K C_World "kept_moves"
  n_World_kept_backs : NoAttr K C_World "kept_backs"
  n_isinstance : mg "isinstance" = none
  n_int : mg "int" = none
  n_bool : mg "bool" = none
  n_str : mg "str" = none
  n_len : mg "len" = none
  n_tuple : mg "tuple" = none
  n_range : mg "range" = none
  n_list : mg "list" = none
  n_enumerate : mg "enumerate" = none
  n_dict : mg "dict" = none
  n_abs : mg "abs" = none
  n_sum : mg "sum" = none
  c_SMALL_t : Tok
  c_SMALL : mg "SMALL" = some (.str "abcdefghijklmnopqrstuvwxyz" c_SMALL_t)
  c_MOST_STANDINGS_t : Tok
  c_MOST_STANDINGS : mg "MOST_STANDINGS" = some (.int 24 c_MOST_STANDINGS_t)
end
end Rb
namespace Rb
open PySem L2
section
/-! ### heaps: the pot (the dice) changes; all else that was tracked stands -/
structure Pot where
  p : Addr
  g : Addr
  s : Addr
structure PotAt (o : Pot) (H : Hp) : Prop where
  ex : ∃ (gs ss : List Int) (t c : Int), H o.p = some (.lst [.ref o.g, .ref o.s, .int t, .int c]) ∧ H o.g = some (.lst (gs.map V.int)) ∧ H o.s = some (.lst (ss.map V.int)) ∧ 0 < ss.length ∧ gs.length ≤ 64
  pg : o.p ≠ o.g
  ps : o.p ≠ o.s
  gs : o.g ≠ o.s
/-- all but the pot stands -/
def Fr (o : Pot) (H H' : Hp) : Prop := ∀ a u, H a = some u → a ≠ o.p → a ≠ o.g → H' a = some u
theorem Fr.refl (o : Pot) (H : Hp) : Fr o H H := fun _ _ e _ _ => e
theorem Fr.trans {o : Pot} {H H1 H2 : Hp} (a : Fr o H H1) (b : Fr o H1 H2) : Fr o H H2 := fun x u e h1 h2 => b x u (a x u e h1 h2) h1 h2
theorem Fr.new {o : Pot} {H H' : Hp} {q : Addr} {u : HO} (a : Fr o H H') (h : H' q = none) : Fr o H (upd H' q u) := fun x v e h1 h2 => by
  have z := a x v e h1 h2
  rw [upd_ne (ne_of_none z h)]; exact z
theorem _root_.L2.Same.fr {o : Pot} {H H' : Hp} (a : Same H H') : Fr o H H' := fun x u e _ _ => a x u e
theorem Fr.same {o : Pot} {H H' H2 : Hp} (a : Fr o H H') (b : Same H' H2) : Fr o H H2 := fun x u e h1 h2 => b x u (a x u e h1 h2)
theorem _root_.L2.Same.new {H H' : Hp} {q : Addr} {u : HO} (a : Same H H') (h : H' q = none) : Same H (upd H' q u) := fun x v e => by
  have z := a x v e
  rw [upd_ne (ne_of_none z h)]; exact z
/-- a new object that is changed further -/
theorem _root_.L2.Same.mut {H H' : Hp} {q : Addr} {u : HO} (a : Same H H') (h : H q = none) : Same H (upd H' q u) := fun x v e => by
  rw [upd_ne (ne_of_none e h)]; exact a x v e
theorem Fr.mut {o : Pot} {H H' : Hp} {q : Addr} {u : HO} (a : Fr o H H') (h : H q = none) : Fr o H (upd H' q u) := fun x v e h1 h2 => by
  rw [upd_ne (ne_of_none e h)]; exact a x v e h1 h2
/-- it stands at a, apart from the pot -/
def At (o : Pot) (H : Hp) (a : Addr) (u : HO) : Prop := H a = some u ∧ a ≠ o.p ∧ a ≠ o.g
theorem Fr.at {o : Pot} {H H' : Hp} {a : Addr} {u : HO} (f : Fr o H H') (h : At o H a u) : At o H' a u := ⟨f a u h.1 h.2.1 h.2.2, h.2⟩
theorem At.newNe {o : Pot} {H : Hp} {a b : Addr} {u v : HO} (h : At o H a u) (n : H b = none) : At o (upd H b v) a u := ⟨by rw [upd_ne (ne_of_none h.1 n)]; exact h.1, h.2⟩
theorem PotAt.hp {o : Pot} {H : Hp} (h : PotAt o H) : ∃ u, H o.p = some u := by
  obtain ⟨gs, ss, t, c, h1, _⟩ := h.ex
  exact ⟨_, h1⟩
theorem PotAt.hg {o : Pot} {H : Hp} (h : PotAt o H) : ∃ u, H o.g = some u := by
  obtain ⟨gs, ss, t, c, _, h1, _⟩ := h.ex
  exact ⟨_, h1⟩
theorem PotAt.hs {o : Pot} {H : Hp} (h : PotAt o H) : ∃ u, H o.s = some u := by
  obtain ⟨gs, ss, t, c, _, _, h1, _⟩ := h.ex
  exact ⟨_, h1⟩
theorem PotAt.np {o : Pot} {H : Hp} {a : Addr} (h : PotAt o H) (n : H a = none) : a ≠ o.p := by
  obtain ⟨u, e⟩ := h.hp
  exact (ne_of_none e n).symm
theorem PotAt.ng {o : Pot} {H : Hp} {a : Addr} (h : PotAt o H) (n : H a = none) : a ≠ o.g := by
  obtain ⟨u, e⟩ := h.hg
  exact (ne_of_none e n).symm
theorem PotAt.ns {o : Pot} {H : Hp} {a : Addr} (h : PotAt o H) (n : H a = none) : a ≠ o.s := by
  obtain ⟨u, e⟩ := h.hs
  exact (ne_of_none e n).symm
theorem PotAt.of {o : Pot} {H H' : Hp} (h : PotAt o H) (e1 : H' o.p = H o.p) (e2 : H' o.g = H o.g) (e3 : H' o.s = H o.s) : PotAt o H' := by
  obtain ⟨⟨gs, ss, t, c, h1, h2, h3, h4⟩, a, b, d⟩ := h
  exact ⟨⟨gs, ss, t, c, by rw [e1]; exact h1, by rw [e2]; exact h2, by rw [e3]; exact h3, h4⟩, a, b, d⟩
theorem PotAt.upd {o : Pot} {H : Hp} {a : Addr} {u : HO} (h : PotAt o H) (h1 : a ≠ o.p) (h2 : a ≠ o.g) (h3 : a ≠ o.s) : PotAt o (upd H a u) :=
  h.of (by rw [upd_ne h1.symm]) (by rw [upd_ne h2.symm]) (by rw [upd_ne h3.symm])
theorem PotAt.new {o : Pot} {H : Hp} {a : Addr} {u : HO} (h : PotAt o H) (n : H a = none) : PotAt o (L2.upd H a u) := h.upd (h.np n) (h.ng n) (h.ns n)
theorem PotAt.same {o : Pot} {H H' : Hp} (h : PotAt o H) (s : Same H H') : PotAt o H' := by
  obtain ⟨⟨gs, ss, t, c, h1, h2, h3, h4⟩, a, b, d⟩ := h
  exact ⟨⟨gs, ss, t, c, s _ _ h1, s _ _ h2, s _ _ h3, h4⟩, a, b, d⟩
theorem At.new {o : Pot} {H : Hp} {a : Addr} {u : HO} (h : PotAt o H) (n : H a = none) : At o (L2.upd H a u) a u := ⟨upd_same, h.np n, h.ng n⟩
theorem At.same {o : Pot} {H H' : Hp} {a : Addr} {u : HO} (s : Same H H') (h : At o H a u) : At o H' a u := ⟨s _ _ h.1, h.2⟩
/-- a tuple of the heap or of the module: it stays -/
def TupK (K : PySem.W.Frag) (H : Hp) (a : Addr) (xs : List V) : Prop := SqT K H a xs
theorem tup_same {K : PySem.W.Frag} {H H' : Hp} {a : Addr} {xs : List V} (e : Same H H') (h : SqT K H a xs) : SqT K H' a xs := by
  rcases h with (h | ⟨o, h⟩) | h
  · exact .inl (.inl (e _ _ h))
  · exact .inl (.inr ⟨o, e _ _ h⟩)
  · exact .inr h
/-- tuples never change -/
theorem sz_le {n : Nat} (h : n ≤ 100000) : n ≤ sizeLine := Nat.le_trans h (by decide)
theorem sz_lt {n : Nat} (h : n < 100000) : n < sizeLine := Nat.lt_of_lt_of_le h (by decide)
theorem ixN_of {n j : Nat} (hj : j < n) : ixN n (j : Int) = some j := by
  unfold ixN
  rw [if_pos (by omega), if_pos (by omega)]
  simp
theorem atI_of {α : Type} {xs : List α} {z : Int} {j : Nat} {v : α} (e : z = (j : Int)) (h : xs[j]? = some v) : atI xs z = some v := by
  rw [e]; exact atI_nat h
theorem pop0 {n : Nat} (h : 0 < n) : seqIndex? 0 n = some 0 := (ixN_seq (ixN_of h)).1
theorem fmod_bd {a m : Int} (h : 0 < m) : 0 ≤ a.fmod m ∧ a.fmod m < m := ⟨Int.fmod_nonneg_of_pos a h, Int.fmod_lt_of_pos a h⟩
theorem ixN_zero {n : Nat} (h : 0 < n) : ixN n 0 = some 0 := ixN_of (j := 0) h
theorem atI_zero {α : Type} (x : α) (r : List α) : atI (x :: r) 0 = some x := atI_nat (j := 0) rfl
/-! ### what is changed lies in M -/
def FrM (M : Addr → Prop) (H H' : Hp) : Prop := ∀ a u, H a = some u → ¬ M a → H' a = some u
theorem FrM.refl (M : Addr → Prop) (H : Hp) : FrM M H H := fun _ _ e _ => e
theorem FrM.trans {M : Addr → Prop} {H H1 H2 : Hp} (a : FrM M H H1) (b : FrM M H1 H2) : FrM M H H2 := fun x u e h => b x u (a x u e h) h
theorem FrM.new {M : Addr → Prop} {H H' : Hp} {q : Addr} {u : HO} (a : FrM M H H') (h : H' q = none) : FrM M H (upd H' q u) := fun x v e h1 => by
  have z := a x v e h1
  rw [upd_ne (ne_of_none z h)]; exact z
theorem FrM.mut {M : Addr → Prop} {H H' : Hp} {q : Addr} {u : HO} (a : FrM M H H') (h : H q = none) : FrM M H (upd H' q u) := fun x v e h1 => by
  rw [upd_ne (ne_of_none e h)]; exact a x v e h1
theorem FrM.wide {M M' : Addr → Prop} {H H' : Hp} (a : FrM M H H') (h : ∀ x, M x → M' x) : FrM M' H H' := fun x v e h1 => a x v e fun z => h1 (h x z)
abbrev MP (o : Pot) : Addr → Prop := fun a => a = o.p ∨ a = o.g
abbrev M0 : Addr → Prop := fun _ => False
theorem FrM.fr {o : Pot} {H H' : Hp} (a : FrM (MP o) H H') : Fr o H H' := fun x u e h1 h2 => a x u e fun z => z.elim h1 h2
theorem Fr.m {o : Pot} {H H' : Hp} (a : Fr o H H') : FrM (MP o) H H' := fun x u e h => a x u e (fun z => h (.inl z)) fun z => h (.inr z)
theorem FrM.same {H H' : Hp} (a : FrM M0 H H') : Same H H' := fun x u e => a x u e id
theorem _root_.L2.Same.m {H H' : Hp} (a : Same H H') : FrM M0 H H' := fun x u e _ => a x u e
theorem _root_.L2.Same.mM {M : Addr → Prop} {H H' : Hp} (a : Same H H') : FrM M H H' := fun x u e _ => a x u e
/-- the pot's own conditions for the two lemmas below -/
theorem PotAt.own {o : Pot} {H1 : Hp} (h : PotAt o H1) (D : Addr) (n : H1 D = none) (H' : Hp) (u : HO) (j : PotAt o H') : PotAt o (L2.upd H' D u) := j.upd (h.np n) (h.ng n) (h.ns n)
theorem PotAt.nM {o : Pot} {H1 : Hp} (h : PotAt o H1) (D : Addr) (n : H1 D = none) : ¬ MP o D := fun z => z.elim (h.np n) (h.ng n)
/-- what a comprehension asks of its walk -/
def LcG (J : It) (g : TG) (tt : TT) (te : TE) (vs : List Nat) (σ : L2.St) (Q : VK) (H1 : Hp) : Prop := ∀ D, H1 D = none → ∃ W : Nat → Nat → Hp → Prop, (∃ m, W 0 m (upd H1 D (.lst []))) ∧ ∀ i m H, W i m H →
  (J.stop i H ∧ Q (.ref D) H) ∨ (J.go i H ∧ ∃ Nx : Hp → Prop, (∀ H', Nx H' → ∃ m', m' < m ∧ W (i + 1) m' H') ∧ ∀ x H', J.yld i H x H' → g x (wipe σ vs) H' fun σ2 H2 => wipe σ2 vs = wipe σ vs ∧ tt σ2 H2 fun b H3 =>
    if b = true then te σ2 H3 fun y H4 => ∃ acc, H4 D = some (.lst acc) ∧ acc.length < sizeLine ∧ Nx (upd H4 D (.lst (acc ++ [y]))) else Nx H3)
/-- what a loop asks of its walk -/
def ForG (J : It) (g : TG) (tb : TS) (D : Ends) (σ : L2.St) (H1 : Hp) : Prop := ∃ W : Nat → Nat → L2.St → Hp → Prop, (∃ m, W 0 m σ H1) ∧ ∀ i m σ H, W i m σ H →
      (J.stop i H ∧ D.nx σ H) ∨ (J.go i H ∧ ∃ N : L2.St → Hp → Prop, (∀ σ' H', N σ' H' → ∃ m', m' < m ∧ W (i + 1) m' σ' H') ∧ ∀ x H', J.yld i H x H' → g x σ H' fun σ2 H2 => tb { D with nx := N, ct := N, bk := D.nx } σ2 H2)
section
variable {J : Hp → Prop} {M : Addr → Prop} {It' : It} {n : Nat} {Gw : Hp → Prop} {Y : Nat → Hp → V → Hp → Prop} {j : Nat} {tt : TT} {te : TE} {σ : L2.St} {H1 : Hp} {Q : VK}
theorem wipe1 (σ : L2.St) (j : Nat) (x : Option V) : wipe ((wipe σ [j]).set j x) [j] = wipe σ [j] := by
  show ((σ.set j none).set j x).set j none = σ.set j none
  rw [List.set_set, List.set_set]
theorem wipe2 (σ : L2.St) (j : Nat) (x : Option V) : (wipe σ [j]).set j x = σ.set j x := by
  show (σ.set j none).set j x = σ.set j x
  rw [List.set_set]
theorem filter_snoc {b : Nat → Bool} (i : Nat) : (List.range (i + 1)).filter b = (List.range i).filter b ++ (if b i = true then [i] else []) := by
  rw [List.range_succ, List.filter_append]
  congr 1
  rw [List.filter_cons]
  split <;> simp_all
theorem filter_len (b : Nat → Bool) (i : Nat) : ((List.range i).filter b).length ≤ i := by
  have := List.length_filter_le b (List.range i)
  rw [List.length_range] at this; exact this
/-- [f x for x in .. if b x], told value by value -/
theorem lc_det (w : Walk It' n Gw Y) (xs : Nat → V) (hY : ∀ i H x H', i < n → Y i H x H' → H' = H ∧ x = xs i) (b : Nat → Bool) (f : Nat → V)
    (hG : ∀ H', FrM M H1 H' → J H' → Gw H') (hJ0 : J H1) (hJ : ∀ D, H1 D = none → ∀ H' u, J H' → J (upd H' D u)) (hM : ∀ D, H1 D = none → ¬ M D) (hn : n ≤ 100000)
    (hT : ∀ i H', i < n → FrM M H1 H' → J H' → ∀ R : Bool → Hp → Prop, (∀ H'', FrM M H' H'' → J H'' → R (b i) H'') → tt (σ.set j (some (xs i))) H' R)
    (hE : ∀ i H', i < n → b i = true → FrM M H1 H' → J H' → ∀ R : VK, (∀ H'', FrM M H' H'' → J H'' → R (f i) H'') → te (σ.set j (some (xs i))) H' R)
    (q : ∀ D H2, H1 D = none → FrM M H1 H2 → J H2 → H2 D = some (.lst (((List.range n).filter b).map f)) → Q (.ref D) H2) :
    LcG It' (gName j) tt te [j] σ Q H1 := by
  intro D nD
  refine lc_it w (fun i H => FrM M H1 H ∧ J H ∧ H D = some (.lst (((List.range i).filter b).map f))) ⟨(FrM.refl M H1).new nD, hJ D nD _ _ hJ0, upd_same⟩ (fun i H _ h => hG H h.1 h.2.1) (fun i x H H' hi h y => ?_) (fun H h => q D H nD h.1 h.2.1 h.2.2)
  obtain ⟨rfl, rfl⟩ := hY i H x H' hi y
  obtain ⟨h1, h2, h3⟩ := h
  show wipe ((wipe σ [j]).set j (some (xs i))) [j] = wipe σ [j] ∧ tt ((wipe σ [j]).set j (some (xs i))) _ _
  refine ⟨wipe1 σ j _, ?_⟩
  rw [wipe2]
  refine hT i _ hi h1 h2 _ fun H3 f3 j3 => ?_
  have d3 : H3 D = some (.lst (((List.range i).filter b).map f)) := f3 D _ h3 (hM D nD)
  cases e : b i with
  | false =>
    refine iteF ⟨h1.trans f3, j3, ?_⟩
    rw [filter_snoc, e]
    simpa using d3
  | true =>
    refine iteT ?_
    refine hE i _ hi e (h1.trans f3) j3 _ fun H4 f4 j4 => ?_
    have d4 : H4 D = some (.lst (((List.range i).filter b).map f)) := f4 D _ d3 (hM D nD)
    refine ⟨_, d4, ?_, ((h1.trans f3).trans f4).mut nD, hJ D nD _ _ j4, ?_⟩
    · rw [List.length_map]
      exact sz_lt (Nat.lt_of_le_of_lt (filter_len b i) (by omega))
    · rw [upd_same, filter_snoc, e]
      simp
theorem r_yes {σ : L2.St} {H : Hp} {Q : Bool → Hp → Prop} (h : Q true H) : tYes σ H Q := h
/-- [e for x in ..], the values free -/
theorem lc_any (w : Walk It' n Gw Y) (xs : Nat → V) (hY : ∀ i H x H', i < n → Y i H x H' → H' = H ∧ x = xs i) (G : Addr → Nat → V → Hp → Prop)
    (hGm : ∀ D i y H' H'', H1 D = none → FrM (fun a => M a ∨ a = D) H' H'' → G D i y H' → G D i y H'')
    (hG : ∀ H', FrM M H1 H' → J H' → Gw H') (hJ0 : J H1) (hJ : ∀ D, H1 D = none → ∀ H' u, J H' → J (upd H' D u)) (hM : ∀ D, H1 D = none → ¬ M D) (hn : n ≤ 100000)
    (hE : ∀ D i H', H1 D = none → (∃ l, H' D = some (.lst l)) → i < n → FrM M H1 H' → J H' → ∀ R : VK, (∀ y H'', FrM M H' H'' → J H'' → G D i y H'' → R y H'') → te (σ.set j (some (xs i))) H' R)
    (q : ∀ D ys H2, H1 D = none → FrM M H1 H2 → J H2 → H2 D = some (.lst ys) → ys.length = n → (∀ (i : Nat) y, ys[i]? = some y → G D i y H2) → Q (.ref D) H2) :
    LcG It' (gName j) tYes te [j] σ Q H1 := by
  intro D nD
  refine lc_it w (fun i H => FrM M H1 H ∧ J H ∧ ∃ ys, H D = some (.lst ys) ∧ ys.length = i ∧ ∀ (k : Nat) y, ys[k]? = some y → G D k y H) ⟨(FrM.refl M H1).new nD, hJ D nD _ _ hJ0, [], upd_same, rfl, fun k y e => by simp at e⟩ (fun i H _ h => hG H h.1 h.2.1) (fun i x H H' hi h y => ?_) (fun H h => by obtain ⟨h1, h2, ys, h3, h4, h5⟩ := h; exact q D ys H nD h1 h2 h3 h4 h5)
  obtain ⟨rfl, rfl⟩ := hY i H x H' hi y
  obtain ⟨h1, h2, ys, h3, h4, h5⟩ := h
  refine ⟨wipe1 σ j _, r_yes ?_⟩
  refine iteT ?_
  rw [wipe2]
  refine hE D i _ nD ⟨_, h3⟩ hi h1 h2 _ fun y H4 f4 j4 g4 => ?_
  have d4 : H4 D = some (.lst ys) := f4 D _ h3 (hM D nD)
  have fw : FrM (fun a => M a ∨ a = D) H4 (upd H4 D (.lst (ys ++ [y]))) := fun a u e hne => by
    rw [upd_ne (fun z => hne (.inr z))]; exact e
  have fw4 := f4.wide (M' := fun a => M a ∨ a = D) fun x z => .inl z
  refine ⟨_, d4, sz_lt (by omega), (h1.trans f4).mut nD, hJ D nD _ _ j4, ys ++ [y], upd_same, by rw [List.length_append, h4]; rfl, fun k z e => ?_⟩
  rcases Nat.lt_or_ge k ys.length with hk | hk
  · rw [List.getElem?_append_left hk] at e
    exact hGm D k z _ _ nD (fw4.trans fw) (h5 k z e)
  · rw [List.getElem?_append_right hk] at e
    have hk0 : k - ys.length = 0 := by
      rcases Nat.eq_zero_or_pos (k - ys.length) with z' | z'
      · exact z'
      · rw [List.getElem?_eq_none (by show 1 ≤ _; exact z')] at e; cases e
    rw [hk0] at e
    have ez : y = z := Option.some.inj e
    subst ez
    have hki : k = i := by omega
    subst hki
    exact hGm D k _ _ _ nD fw g4
end
/-- the walks in the form that lc_det and lc_any want -/
theorem yat {xs : List V} (i : Nat) (H : Hp) (x : V) (H' : Hp) (hi : i < xs.length) (y : YAt xs i H x H') : H' = H ∧ x = xs.getD i .non := by
  obtain ⟨e, h⟩ := y
  refine ⟨e, ?_⟩
  rw [List.getD_eq_getElem?_getD, h]; rfl
theorem yfn {f : Nat → V} {n : Nat} (i : Nat) (H : Hp) (x : V) (H' : Hp) (_ : i < n) (y : YFn f i H x H') : H' = H ∧ x = f i := y
theorem ystr {z : Str} (i : Nat) (H : Hp) (v : V) (H' : Hp) (hi : i < z.cps.size) (y : H' = H ∧ ∃ c, z.cps[i]? = some c ∧ v = .str ⟨#[c]⟩) : H' = H ∧ v = .str ⟨#[z.cps.getD i 0]⟩ := by
  obtain ⟨e, c, h, rfl⟩ := y
  refine ⟨e, ?_⟩
  rw [Array.getD_eq_getD_getElem?, h]; rfl
theorem r_lc {wi : TI} {g : TG} {tt : TT} {te : TE} {vs : List Nat} {σ : L2.St} {H : Hp} {Q : VK} (h : wi σ H fun J H1 => LcG J g tt te vs σ Q H1) : tLc wi g tt te vs σ H Q := h
theorem r_iList {K : PySem.W.Frag} {tl : TE} {σ : L2.St} {H : Hp} {R : It → Hp → Prop} (h : tl σ H fun x H1 => ∃ a, x = .ref a ∧ (∃ xs, SqL K H1 a xs) ∧ R (Itl K a) H1) : iList K tl σ H R := h
theorem r_iTup {K : PySem.W.Frag} {tl : TE} {σ : L2.St} {H : Hp} {R : It → Hp → Prop} (h : tl σ H fun x H1 => ∃ a, x = .ref a ∧ (∃ xs, SqT K H1 a xs) ∧ R (Itt K a) H1) : iTup K tl σ H R := h
theorem r_iStr {tl : TE} {σ : L2.St} {H : Hp} {R : It → Hp → Prop} (h : tl σ H fun v H1 => ∃ x, v = .str x ∧ R (Its x) H1) : iStr tl σ H R := h
theorem r_iRng1 {ta : TA} {σ : L2.St} {H : Hp} {R : It → Hp → Prop} (h : ta σ H fun vs H1 => ∃ j : Int, vs = [.int j] ∧ -(2 ^ 62) ≤ j ∧ j < 2 ^ 62 ∧ R (Itr 0 j.toNat) H1) : iRng1 ta σ H R := h
theorem r_iRng2 {ta : TA} {σ : L2.St} {H : Hp} {R : It → Hp → Prop} (h : ta σ H fun vs H1 => ∃ i j : Int, vs = [.int i, .int j] ∧ (-(2 ^ 62) ≤ i ∧ i < 2 ^ 62 ∧ -(2 ^ 62) ≤ j ∧ j < 2 ^ 62) ∧ R (Itr i (j - i).toNat) H1) : iRng2 ta σ H R := h
theorem r_for {wi : TI} {g : TG} {tb : TS} {D : Ends} {σ : L2.St} {H : Hp} (h : wi σ H fun J H1 => ForG J g tb D σ H1) : tFor wi g tb D σ H := h
theorem for_walk {J : It} {n : Nat} {G : Hp → Prop} {Y : Nat → Hp → V → Hp → Prop} (w : Walk J n G Y) {g : TG} {tb : TS} {D : Ends} {σ : L2.St} {H : Hp} (Pv : Nat → L2.St → Hp → Prop) (h0 : Pv 0 σ H) (hG : ∀ i σ H, i ≤ n → Pv i σ H → G H)
    (hs : ∀ i x σ H H', i < n → Pv i σ H → Y i H x H' → g x σ H' fun σ2 H2 => tb { D with nx := Pv (i + 1), ct := Pv (i + 1), bk := D.nx } σ2 H2) (hd : ∀ σ H, Pv n σ H → D.nx σ H) : ForG J g tb D σ H := for_it w Pv h0 hG hs hd
theorem r_slL {K : PySem.W.Frag} {a : Addr} {xs : List V} {lo hi : Option Int} {H : Hp} {Q : VK} (h : SqL K H a xs) (q : ∀ p, H p = none → Q (.ref p) (upd H p (.lst (cutV xs lo hi)))) : rSlL K (.ref a) lo hi H Q := ⟨a, xs, rfl, h, q⟩
end
end Rb
local macro_rules | `(tactic| walk_at "rd1") => `(tactic| first
  | ((with_reducible refine Rb.r_var ?_); refine ⟨_, rfl, ?_⟩)
  | with_reducible refine Rb.r_c ?_ | with_reducible refine Rb.r_op ?_ | with_reducible refine Rb.r_un ?_ | with_reducible refine Rb.r_i0 ?_ | with_reducible refine Rb.r_u ?_
  | ((with_reducible refine Rb.r_eq ?h0 ?_); (case h0 => rfl)) | ((with_reducible refine Rb.r_ne ?h0 ?_); (case h0 => rfl))
  | with_reducible refine Rb.r_seq ?_ | with_reducible refine Rb.r_asg ?_ | with_reducible refine Rb.r_name ?_ | with_reducible refine Rb.r_cons ?_ | with_reducible refine Rb.r_nil ?_
  | with_reducible refine Rb.r_test ?_ | with_reducible refine Rb.r_bl ?_ | with_reducible refine Rb.r_blA ?_ | with_reducible refine Rb.r_tB ?_
  | with_reducible refine Rb.r_next ?_ | with_reducible refine Rb.r_ifS ?_ | with_reducible refine Rb.r_ret ?_ | with_reducible refine Rb.r_retN ?_ | with_reducible refine Rb.r_drop ?_
  | with_reducible refine Rb.r_and ?_ | with_reducible refine Rb.r_or ?_ | with_reducible refine Rb.r_not ?_ | with_reducible refine Rb.r_andV ?_ | with_reducible refine Rb.r_orV ?_ | with_reducible refine Rb.r_notV ?_
  | with_reducible refine Rb.r_if ?_ | with_reducible refine Rb.r_sub ?_ | with_reducible refine Rb.r_lst ?_ | with_reducible refine Rb.r_tup ?_ | with_reducible refine Rb.r_cb ?_
  | with_reducible refine Rb.r_call ?_ | with_reducible refine Rb.r_callS ?_ | with_reducible refine Rb.r_bm ?_ | with_reducible refine Rb.r_bm0 ?_ | with_reducible refine Rb.r_m0 ?_ | with_reducible refine Rb.r_m1 ?_
  | with_reducible refine Rb.r_sl ?_ | with_reducible refine Rb.r_noPart ?_ | with_reducible refine Rb.r_part ?_ | with_reducible refine Rb.r_intA ?_ | with_reducible refine Rb.r_chain ?_
  | with_reducible refine Rb.r_fld ?_ | with_reducible refine Rb.r_dget ?_ | with_reducible refine Rb.r_din ?_ | with_reducible refine Rb.r_dnotin ?_ | with_reducible refine Rb.r_dput ?_
  | ((with_reducible refine Rb.r_aug ?_); refine ⟨_, rfl, ?_⟩) | with_reducible refine Rb.r_ipI ?_ | with_reducible refine Rb.r_itel ?_ | with_reducible refine Rb.r_iter ?_ | with_reducible refine Rb.r_iteNT ?_ | with_reducible refine Rb.r_iteNF ?_ | with_reducible refine Rb.r_int1 ?_ | with_reducible refine Rb.r_abs ?_ | with_reducible refine Rb.r_min2 ?_ | with_reducible refine Rb.r_max2 ?_ | with_reducible refine Rb.r_ltStr ?_ | with_reducible refine Rb.r_geStr ?_ | with_reducible refine Rb.r_inS ?_ | with_reducible refine Rb.r_notInS ?_ | with_reducible refine Rb.r_islower ?_
  | with_reducible refine Rb.r_par ?_ | with_reducible refine Rb.r_par2 ?_ | with_reducible refine Rb.r_strA ?_
  | with_reducible refine Rb.r_tru ?_ | with_reducible refine Rb.r_iEnumT ?_ | with_reducible refine Rb.r_lstRg ?_ | with_reducible refine Rb.r_rg1 ?_ | with_reducible refine Rb.r_then ?_
  | with_reducible refine Rb.r_lc ?_ | with_reducible refine Rb.r_iList ?_ | with_reducible refine Rb.r_iTup ?_ | with_reducible refine Rb.r_iStr ?_ | with_reducible refine Rb.r_iRng1 ?_ | with_reducible refine Rb.r_iRng2 ?_ | with_reducible refine Rb.r_for ?_)

local macro_rules | `(tactic| walk_at "rd") => `(tactic| (repeat walk_at "rd1"))
local macro_rules | `(tactic| walk_at "rd0") => `(tactic| (simp only [L2.start, L2.cxOf, List.map_cons, List.map_nil, List.length_cons, List.length_nil, Nat.reduceAdd, Nat.reduceSub, List.replicate_succ, List.replicate_zero, List.cons_append, List.nil_append, List.append_nil]))
local macro_rules | `(tactic| walk_at "rds") => `(tactic| (simp only [List.set_cons_zero, List.set_cons_succ]))

local macro_rules | `(tactic| walk_at "ne") => `(tactic| first | assumption | (apply Ne.symm; assumption) | (intro h_; cases h_; done))
local macro_rules | `(tactic| walk_at "hp") => `(tactic| first | assumption | exact L2.upd_same | (refine Eq.trans (L2.upd_ne ?hne) ?hrest; (case hne => walk_at "ne"); (case hrest => walk_at "hp")))
local macro_rules | `(tactic| walk_at "ixL") => `(tactic| (walk_at "rd"; refine' Rb.r_ixL ?hh ?he ?hq; (case hh => walk_at "hp"); (case he => first | exact rfl | exact Rb.atI_zero _ _); walk_at "rd"))
local macro_rules | `(tactic| walk_at "setL") => `(tactic| (walk_at "rd"; refine' Rb.r_setL ?hh ?he ?hq; (case hh => walk_at "hp"); (case he => first | exact rfl | exact Rb.ixN_zero (by simp)); walk_at "rd"))
local macro_rules | `(tactic| walk_at "lenL") => `(tactic| (walk_at "rd"; refine' Rb.r_lenL (.inl (.inl ?hh)) ?hq; (case hh => walk_at "hp"); walk_at "rd"))
namespace Rb
open PySem L2
section
open PyProof.Rows in
/-! ### texts over letters -/
abbrev tx (l : List Nat) : Str := ⟨l.toArray⟩
theorem tx_len (l : List Nat) : (tx l).length = l.length := by
  show l.toArray.size = l.length
  simp
theorem tx_tl (l : List Nat) : (tx l).cps.toList = l := by simp
theorem tx_app (a b : List Nat) : tx a ++ tx b = tx (a ++ b) := by
  show (⟨a.toArray ++ b.toArray⟩ : Str) = ⟨(a ++ b).toArray⟩
  simp
def isLow (c : Nat) : Prop := 97 ≤ c ∧ c ≤ 122
def isUp (c : Nat) : Prop := 65 ≤ c ∧ c ≤ 90
def isLet (c : Nat) : Prop := isLow c ∨ isUp c
instance (c : Nat) : Decidable (isLow c) := by unfold isLow; infer_instance
instance (c : Nat) : Decidable (isUp c) := by unfold isUp; infer_instance
instance (c : Nat) : Decidable (isLet c) := by unfold isLet; infer_instance
/-- the undoing of a letter -/
def flip (c : Nat) : Nat := if 97 ≤ c then c - 32 else c + 32
def up (c : Nat) : Nat := if 97 ≤ c then c - 32 else c
def lo (c : Nat) : Nat := if 97 ≤ c then c else c + 32
theorem swap_all : ∀ c, c < 128 → isLet c → Txt.swapcase (tx [c]) = tx [flip c] := by decide +kernel
theorem up_all : ∀ c, c < 128 → isLet c → Txt.upper (tx [c]) = tx [up c] := by decide +kernel
theorem lo_all : ∀ c, c < 128 → isLet c → Txt.lower (tx [c]) = tx [lo c] := by decide +kernel
theorem il_all : ∀ c, c < 128 → isLet c → Txt.islower (tx [c]) = decide (97 ≤ c) := by decide +kernel
theorem let_lt {c : Nat} (h : isLet c) : c < 128 := by
  simp only [isLet, isLow, isUp, flip, up, lo] at *
  (repeat' split) <;> omega
theorem swap_of {c : Nat} (h : isLet c) : Txt.swapcase (tx [c]) = tx [flip c] := swap_all c (let_lt h) h
theorem up_of {c : Nat} (h : isLet c) : Txt.upper (tx [c]) = tx [up c] := up_all c (let_lt h) h
theorem lo_of {c : Nat} (h : isLet c) : Txt.lower (tx [c]) = tx [lo c] := lo_all c (let_lt h) h
theorem il_of {c : Nat} (h : isLet c) : Txt.islower (tx [c]) = decide (97 ≤ c) := il_all c (let_lt h) h
theorem flip_let {c : Nat} (h : isLet c) : isLet (flip c) := by
  simp only [isLet, isLow, isUp, flip, up, lo] at *
  (repeat' split) <;> omega
theorem flip_flip {c : Nat} (h : isLet c) : flip (flip c) = c := by
  simp only [isLet, isLow, isUp, flip, up, lo] at *
  (repeat' split) <;> omega
theorem low_let {c : Nat} (h : isLow c) : isLet c := .inl h
theorem up_low {c : Nat} (h : isLow c) : up c = flip c := by
  simp only [isLet, isLow, isUp, flip, up, lo] at *
  (repeat' split) <;> omega
theorem lo_low {c : Nat} (h : isLow c) : lo c = c := by
  simp only [isLet, isLow, isUp, flip, up, lo] at *
  (repeat' split) <;> omega
theorem lo_flip {c : Nat} (h : isLow c) : lo (flip c) = c := by
  simp only [isLet, isLow, isUp, flip, up, lo] at *
  (repeat' split) <;> omega
theorem flip_up {c : Nat} (h : isLow c) : isUp (flip c) := by
  simp only [isLet, isLow, isUp, flip, up, lo] at *
  (repeat' split) <;> omega
theorem flip_inj {c d : Nat} (hc : isLet c) (hd : isLet d) (h : flip c = flip d) : c = d := by
  rw [← flip_flip hc, h, flip_flip hd]
theorem upper_low {l : List Nat} (h : ∀ c ∈ l, isLow c) : Txt.upper (tx l) = tx (l.map flip) := by
  rw [PyProof.Rows.upper_ascii (fun c hc => let_lt (low_let (h c (by simpa using hc))))]
  show (⟨l.toArray.map _⟩ : Str) = ⟨(l.map flip).toArray⟩
  rw [List.map_toArray]
  congr 1; congr 1
  refine List.map_congr_left fun c hc => ?_
  have hl := h c hc
  have h1 : ∀ c, c < 128 → isLow c → PyProof.Rows.up1 c = flip c := by decide +kernel
  exact h1 c (let_lt (low_let hl)) hl
theorem join_ones (l : List Nat) : Txt.join (tx []) (l.map fun c => tx [c]) = tx l := by
  rw [TL.join_eq]; exact PyProof.Rows.join_ones l
theorem abc_eq : ("abcdefghijklmnopqrstuvwxyz" : Str) = tx (List.range' 97 26) := by decide +kernel
theorem abc_mem {c : Nat} : c ∈ ("abcdefghijklmnopqrstuvwxyz" : Str).cps.toList ↔ isLow c := by
  rw [abc_eq, tx_tl, List.mem_range']
  unfold isLow
  constructor
  · rintro ⟨i, h1, h2⟩; omega
  · intro h; exact ⟨c - 97, by omega, by omega⟩
theorem str_one {c d : Nat} : V.str (tx [c]) = V.str (tx [d]) ↔ c = d := by
  constructor
  · intro h
    have h1 : tx [c] = tx [d] := V.str.inj h
    have h2 : [c] = [d] := by rw [← tx_tl [c], h1, tx_tl]
    exact List.cons.inj h2 |>.1
  · rintro rfl; rfl
theorem tx_inj {a b : List Nat} (h : tx a = tx b) : a = b := by rw [← tx_tl a, h, tx_tl]
theorem empty_tx : ("" : Str) = tx [] := by decide +kernel
end
end Rb
namespace Rb
open PySem L2
section
variable {P : Program} {w : World} {K : PySem.W.Frag} {mg : Str → Option Value} {base : Heap}
/-- a draw: some number below many; the pot changes -/
def spDraw : Sp := fun vs H Q _ => ∃ (o : Pot) (m : Int), vs = [.ref o.p, .int m] ∧ 0 < m ∧ m < 1073741824 ∧ PotAt o H ∧
  ∀ (r : Int) (H' : Hp), 0 ≤ r → r < m → PotAt o H' → Fr o H H' → Q (.int r) H'
theorem ok__law_draw (T : Txt K mg) : FnOk P w K mg base CX0 1 T.a__law_draw T.d__law_draw ["_law_pot_here", "_law_many"] spDraw := by
  refine T.F__law_draw.ok sc__law_draw (fun vs H Q E h => ?_) (fun cdv A outer s H vs Q E hr h => ?_)
  · obtain ⟨o, m, rfl, _⟩ := h
    rfl
  · obtain ⟨o, m, rfl, hm, hm2, hP, k⟩ := h
    obtain ⟨⟨gs, ss, t, c, h1, h2, h3, h4, h5⟩, npg, nps, ngs⟩ := hP
    have hm0 : m ≠ 0 := by omega
    refine ⟨_, (pss_cons (ps_set (i := 2) sc__law_draw.nd rfl (Or.inl rfl) (pe_ix ix_list (pv 0) pe_int (fun _ _ => rfl)))
      (pss_cons (ps_asg (pe_op op_add (pv 2) pe_int) (pg_sub (pv 0) pe_int set_list))
      (pss_cons (ps_if (pt_cmpR op_gt (pe_callB call_lenR (by rfl) T.n_len (by decide +kernel) (pa_cons (pe_ix ix_list (pv 0) pe_int (fun _ _ => rfl)) pa_nil)) pe_int (nomark _)) (pss_cons (ps_set (i := 3) sc__law_draw.nd rfl (Or.inl rfl) (pe_ix ix_list (pe_ix ix_list (pv 0) pe_int (fun _ _ => rfl)) pe_int (fun _ _ => rfl)))
      (pss_cons (ps_asg (pe_op op_fdivN (pv 3) (pv 1)) (pg_sub (pe_ix ix_list (pv 0) pe_int (fun _ _ => rfl)) pe_int set_list))
      (pss_cons (ps_if (pt_cmpR op_lt (pv 3) (pv 1) (nomark _)) (pss_one (ps_expr (pe_bm PySem.F.plainAttrs_list PySem.F.slot_list_pop PySem.F.type_list_pop mt_popAt (pe_ix ix_list (pv 0) pe_int (fun _ _ => rfl)) (pa_cons pe_int pa_nil)))) pss_nil)
      (pss_one (ps_ret (pe_op op_modN (pe_callTy call_int1R (by rfl) T.n_int (by decide +kernel) (pa_cons (pv 3) pa_nil)) (pv 1))))))) pss_nil)
      (pss_cons (ps_set (i := 4) sc__law_draw.nd rfl (Or.inl rfl) (pe_op op_add (pe_op op_add (pe_op op_mul (pe_ix ix_list (pe_ix ix_list (pv 0) pe_int (fun _ _ => rfl)) (pe_op op_modN (pe_callTy call_int1R (by rfl) T.n_int (by decide +kernel) (pa_cons (pv 2) pa_nil)) (pe_callB call_lenR (by rfl) T.n_len (by decide +kernel) (pa_cons (pe_ix ix_list (pv 0) pe_int (fun _ _ => rfl)) pa_nil))) (fun _ _ => rfl)) pe_int) (pe_op op_mul pe_int (pv 2))) (pe_op op_mul (pe_ix ix_list (pv 0) pe_int (fun _ _ => rfl)) pe_int)))
      (pss_cons (ps_set (i := 3) sc__law_draw.nd rfl (Or.inl rfl) (pe_op op_modN (pe_callTy call_int1R (by rfl) T.n_int (by decide +kernel) (pa_cons (pe_op op_add (pe_op op_mul (pv 4) pe_int) pe_int) pa_nil)) pe_int))
      (pss_cons (ps_set (i := 3) sc__law_draw.nd rfl (Or.inl rfl) (pe_op op_modN (pe_callTy call_int1R (by rfl) T.n_int (by decide +kernel) (pa_cons (pe_op op_mul (pv 3) (pe_op op_add (pe_op op_fdivN (pv 3) pe_int) pe_int)) pa_nil)) pe_int))
      (pss_cons (ps_set (i := 3) sc__law_draw.nd rfl (Or.inl rfl) (pe_op op_modN (pe_callTy call_int1R (by rfl) T.n_int (by decide +kernel) (pa_cons (pe_op op_add (pe_op op_mul (pv 3) (pe_op op_add (pe_op op_fdivN (pv 3) pe_int) pe_int)) (pv 2)) pa_nil)) pe_int))
      (pss_one (ps_ret (pe_op op_modN (pe_callTy call_int1R (by rfl) T.n_int (by decide +kernel) (pa_cons (pe_op op_fdivN (pv 3) pe_int) pa_nil)) (pv 1))))))))))), ?_⟩
    walk_at "rd0"
    walk_at "ixL"
    walk_at "setL"
    walk_at "ixL"
    walk_at "lenL"
    refine ite2 (fun e => ?_) (fun e => ?_)
    · -- a great number is there
      obtain ⟨g0, gr, rfl⟩ : ∃ g0 gr, gs = g0 :: gr := by
        cases gs with
        | nil => simp at e
        | cons a r => exact ⟨a, r, rfl⟩
      walk_at "ixL"
      walk_at "ixL"
      refine Rb.r_i1 ⟨hm0, by omega⟩ ?_
      walk_at "ixL"
      walk_at "setL"
      refine ite2 (fun e2 => ?_) (fun e2 => ?_)
      · walk_at "ixL"
        refine ⟨tyV_list upd_same, ?_⟩
        walk_at "rd"
        refine Rb.r_popAt upd_same (by decide) (by decide) (pop0 (by simp)) rfl ?_
        walk_at "rd"
        refine Rb.r_i1 hm0 ?_
        obtain ⟨b1, b2⟩ := fmod_bd (a := g0) hm
        refine k _ _ b1 b2 ⟨⟨gr, ss, t + 1, c, by walk_at "hp", ?_, by walk_at "hp", h4, by simp at h5; omega⟩, npg, nps, ngs⟩ (fun a u e n1 n2 => ?_)
        · rw [upd_same]; rfl
        · rw [upd_ne n2, upd_ne n2, upd_ne n1]; exact e
      · walk_at "rd"
        refine Rb.r_i1 hm0 ?_
        obtain ⟨b1, b2⟩ := fmod_bd (a := g0) hm
        refine k _ _ b1 b2 ⟨⟨(g0.fdiv m) :: gr, ss, t + 1, c, by walk_at "hp", ?_, by walk_at "hp", h4, h5⟩, npg, nps, ngs⟩ (fun a u e n1 n2 => ?_)
        · rw [upd_same]; rfl
        · rw [upd_ne n2, upd_ne n1]; exact e
    · walk_at "ixL"
      walk_at "ixL"
      walk_at "lenL"
      have hn0 : ((((ss.map V.int).length : Nat)) : Int) ≠ 0 := by
        rw [List.length_map]; omega
      refine Rb.r_i1 hn0 ?_
      obtain ⟨b1, b2⟩ := fmod_bd (a := t) (m := (((ss.map V.int).length : Nat) : Int)) (by rw [List.length_map]; omega)
      have hlt : (t.fmod (((ss.map V.int).length : Nat) : Int)).toNat < ss.length := by
        rw [List.length_map] at b2 b1 ⊢; omega
      refine Rb.r_ixL (by walk_at "hp") (atI_of (j := (t.fmod (((ss.map V.int).length : Nat) : Int)).toNat) (by omega) (by rw [List.getElem?_map, List.getElem?_eq_getElem hlt]; rfl)) ?_
      walk_at "rd"
      refine Rb.r_i1 (.inr (by decide)) ?_
      walk_at "rd"
      refine Rb.r_i1 (.inl (by decide)) ?_
      walk_at "ixL"
      refine Rb.r_i1 (.inr (by decide)) ?_
      walk_at "rd"
      refine Rb.r_i1 (.inr (by decide)) ?_
      walk_at "rd"
      refine Rb.r_i1 (by decide) ?_
      walk_at "rd"
      generalize hx : Int.fmod _ 2147483647 = x1
      have bx1 : 0 ≤ x1 ∧ x1 < 2147483647 := by rw [← hx]; exact fmod_bd (by decide)
      refine Rb.r_i1 ⟨by decide, by decide⟩ ?_
      walk_at "rd"
      refine Rb.r_i1 (.inl (by omega)) ?_
      walk_at "rd"
      refine Rb.r_i1 (by decide) ?_
      walk_at "rd"
      generalize hx2 : Int.fmod _ 2147483629 = x2
      have bx2 : 0 ≤ x2 ∧ x2 < 2147483629 := by rw [← hx2]; exact fmod_bd (by decide)
      refine Rb.r_i1 ⟨by decide, by decide⟩ ?_
      walk_at "rd"
      refine Rb.r_i1 (.inl (by omega)) ?_
      walk_at "rd"
      refine Rb.r_i1 (by decide) ?_
      walk_at "rd"
      refine Rb.r_i1 ⟨by decide, by decide⟩ ?_
      walk_at "rd"
      refine Rb.r_i1 hm0 ?_
      refine k _ _ (fmod_bd hm).1 (fmod_bd hm).2 ⟨⟨gs, ss, t + 1, c, by walk_at "hp", by walk_at "hp", by walk_at "hp", h4, h5⟩, npg, nps, ngs⟩ (fun a u e n1 n2 => ?_)
      rw [upd_ne n1]; exact e
end
end Rb
namespace Rb
open PySem L2
section
variable {P : Program} {w : World} {K : PySem.W.Frag} {mg : Str → Option Value} {base : Heap}
/-- the dice of a script -/
def spPot (K : PySem.W.Frag) : Sp := fun vs H Q _ => ∃ (a : Addr) (ns : List Int), vs = [.ref a] ∧ SqL K H a (ns.map V.int) ∧ ns.length ≤ 63 ∧
  ∀ (o : Pot) (H' : Hp), PotAt o H' → Same H H' → H o.p = none → H o.g = none → Q (.ref o.p) H'
theorem getI {ns : List Int} {i : Nat} (h : i < ns.length) : (ns.map V.int).getD i .non = V.int (ns.getD i 0) := by
  rw [List.getD_eq_getElem?_getD, List.getElem?_map, List.getD_eq_getElem?_getD, List.getElem?_eq_getElem h]; rfl
theorem cutV_len (xs : List V) (lo hi : Option Int) : (cutV xs lo hi).length ≤ xs.length := by
  unfold cutV
  rw [List.length_take, List.length_drop]
  omega
theorem cutV_ints (ns : List Int) (lo hi : Option Int) : ∃ ms : List Int, cutV (ns.map V.int) lo hi = ms.map V.int ∧ ms.length ≤ ns.length := by
  refine ⟨(ns.drop (HT.sIx ns.length 0 lo)).take (HT.sIx ns.length ns.length hi - HT.sIx ns.length 0 lo), ?_, ?_⟩
  · unfold cutV
    rw [List.length_map, List.map_take, List.map_drop]
  · rw [List.length_take, List.length_drop]; omega
theorem ok__law_pot (T : Txt K mg) : FnOk P w K mg base CX0 1 T.a__law_pot T.d__law_pot ["_law_script"] (spPot K) := by
  refine T.F__law_pot.ok sc__law_pot (fun vs H Q E h => ?_) (fun cdv A outer s H vs Q E hr h => ?_)
  · obtain ⟨a, ns, rfl, _⟩ := h
    rfl
  · obtain ⟨a, ns, rfl, hS, hn, k⟩ := h
    refine ⟨_, (pss_cons (ps_setLc (i := 1) (own := [("_law_cell", 4)]) (g := gName 4) (tt := tYes)  rfl sc__law_pot.nd rfl rfl (sw_true rfl rfl rfl (by decide +kernel)) (pi_list (pe_slice sl_list (pv 0) po_none (po_some pe_int))) (blkOk_by (own := [("_law_cell", 4)]) (N := ["_law_script", "_law_cells", "_law_greats", "_law_smalls", "_law_cell"]) (sc := defScope st__law_pot) (by decide +kernel)) (fun _ _ _ _ _ => (pg_name (i := 4) sc__law_pot.nd rfl (Or.inl rfl))) (fun _ _ _ _ _ => pts_nil) (fun _ _ _ _ _ => (pe_callTy call_int1R (by rfl) T.n_int (by decide +kernel) (pa_cons (pv 4) pa_nil))))
      (pss_cons (ps_setLc (i := 2) (own := [("_law_cell", 4)]) (g := gName 4)  rfl sc__law_pot.nd rfl rfl (sw_true rfl rfl rfl (by decide +kernel)) (pi_list (pv 1)) (blkOk_by (own := [("_law_cell", 4)]) (N := ["_law_script", "_law_cells", "_law_greats", "_law_smalls", "_law_cell"]) (sc := defScope st__law_pot) (by decide +kernel)) (fun _ _ _ _ _ => (pg_name (i := 4) sc__law_pot.nd rfl (Or.inl rfl))) (fun _ _ _ _ _ => pts_one (pt_cmpR op_ge (pe_callB call_absR (by rfl) T.n_abs (by decide +kernel) (pa_cons (pv 4) pa_nil)) (pe_op op_pow pe_int pe_int) (nomark _))) (fun _ _ _ _ _ => (pe_callB call_absR (by rfl) T.n_abs (by decide +kernel) (pa_cons (pv 4) pa_nil))))
      (pss_cons (ps_set (i := 3) sc__law_pot.nd rfl (Or.inl rfl) (pe_op op_cat (pe_lc (own := [("_law_cell", 4)]) (g := gName 4)  rfl sc__law_pot.nd (pi_list (pv 1)) (blkOk_by (own := [("_law_cell", 4)]) (N := ["_law_script", "_law_cells", "_law_greats", "_law_smalls", "_law_cell"]) (sc := defScope st__law_pot) (by decide +kernel)) (fun _ _ _ _ _ => (pg_name (i := 4) sc__law_pot.nd rfl (Or.inl rfl))) (fun _ _ _ _ _ => pts_one (pt_cmpR op_lt (pe_callB call_absR (by rfl) T.n_abs (by decide +kernel) (pa_cons (pv 4) pa_nil)) (pe_op op_pow pe_int pe_int) (nomark _))) (fun _ _ _ _ _ => (pe_op op_modN (pe_callTy call_int1R (by rfl) T.n_int (by decide +kernel) (pa_cons (pv 4) pa_nil)) pe_int))) (pe_lst (pa_cons (pe_op op_add (pe_callB call_lenR (by rfl) T.n_len (by decide +kernel) (pa_cons (pv 1) pa_nil)) pe_int) pa_nil))))
      (pss_one (ps_ret (pe_lst (pa_cons (pv 2) (pa_cons (pv 3) (pa_cons pe_int (pa_cons (pe_op op_modN (pe_callTy call_int1R (by rfl) T.n_int (by decide +kernel) (pa_cons (pe_callB (cr_sum rfl) (by rfl) T.n_sum (by decide +kernel) (pa_cons (pv 3) pa_nil)) pa_nil)) pe_int) pa_nil)))))))))), ?_⟩
    walk_at "rd0"
    walk_at "rd"
    refine Rb.r_slL hS fun c nc => ?_
    obtain ⟨ms, ems, hms⟩ := cutV_ints ns none (some 63)
    rw [ems]
    have s1 : Same H (upd H c (.lst (ms.map V.int))) := (Same.refl H).new nc
    refine ⟨c, rfl, ⟨_, .inl (.inl upd_same)⟩, ?_⟩
    -- the cells
    refine lc_det (M := M0) (J := fun _ => True) (walk_list (xs := ms.map V.int)) _ yat (fun _ => true) (fun i => .int (ms.getD i 0)) (fun H' f _ => .inl (.inl (f _ _ upd_same id))) trivial (fun _ _ _ _ _ => trivial) (fun _ _ => id) (by rw [List.length_map]; omega) ?_ ?_ ?_
    · exact fun i H' hi f _ R r => r _ (FrM.refl _ _) trivial
    · intro i H' hi _ f _ R r
      rw [List.length_map] at hi
      rw [getI hi]
      walk_at "rd"
      exact r _ (FrM.refl _ _) trivial
    intro D H2 nD f2 _ h2
    have hD : H2 D = some (.lst (((List.range ms.length).map fun i => ms.getD i 0).map V.int)) := by
      rw [h2, List.length_map, List.filter_eq_self.mpr (fun _ _ => rfl), List.map_map]; rfl
    have hcs : ((List.range ms.length).map fun i => ms.getD i 0).length ≤ 63 := by
      rw [List.length_map, List.length_range]; omega
    generalize ((List.range ms.length).map fun i => ms.getD i 0) = cs at hD hcs
    have s2 : Same H H2 := s1.trans f2.same
    have nDH : H D = none := s1.free nD
    clear h2 f2
    walk_at "rd"
    -- the greats
    refine ⟨D, rfl, ⟨_, .inl (.inl hD)⟩, ?_⟩
    refine lc_det (M := M0) (J := fun _ => True) (walk_list (xs := cs.map V.int)) _ yat (fun i => decide (10 ^ 18 ≤ (if cs.getD i 0 < 0 then -(cs.getD i 0) else cs.getD i 0))) (fun i => .int (if cs.getD i 0 < 0 then -(cs.getD i 0) else cs.getD i 0)) (fun H' f _ => .inl (.inl (f _ _ hD id))) trivial (fun _ _ _ _ _ => trivial) (fun _ _ => id) (by rw [List.length_map]; omega) ?_ ?_ ?_
    · intro i H' hi f _ R r
      rw [List.length_map] at hi
      rw [getI hi]
      walk_at "rd"
      refine Rb.r_i1 ⟨by decide, by decide, by decide⟩ ?_
      walk_at "rd"
      exact r _ (FrM.refl _ _) trivial
    · intro i H' hi _ f _ R r
      rw [List.length_map] at hi
      rw [getI hi]
      walk_at "rd"
      exact r _ (FrM.refl _ _) trivial
    intro g H3 ng f3 _ h3
    have hg : ∃ gs : List Int, H3 g = some (.lst (gs.map V.int)) ∧ gs.length ≤ 64 := by
      refine ⟨((List.range (cs.map V.int).length).filter fun i => decide (10 ^ 18 ≤ (if cs.getD i 0 < 0 then -(cs.getD i 0) else cs.getD i 0))).map fun i => (if cs.getD i 0 < 0 then -(cs.getD i 0) else cs.getD i 0), ?_, ?_⟩
      · rw [h3, List.map_map]; rfl
      · rw [List.length_map]
        refine Nat.le_trans (filter_len _ _) ?_
        rw [List.length_map]; omega
    obtain ⟨gs, hg, hgl⟩ := hg
    clear h3
    have hD3 : H3 D = some (.lst (cs.map V.int)) := f3 _ _ hD id
    have s3 : Same H H3 := s2.trans f3.same
    have ngH : H g = none := s2.free ng
    have nDg : D ≠ g := ne_of_none hD ng
    clear f3
    walk_at "rd"
    -- the smalls
    refine ⟨D, rfl, ⟨_, .inl (.inl hD3)⟩, ?_⟩
    refine lc_det (M := M0) (J := fun _ => True) (walk_list (xs := cs.map V.int)) _ yat (fun i => decide ((if cs.getD i 0 < 0 then -(cs.getD i 0) else cs.getD i 0) < 10 ^ 18)) (fun i => .int ((cs.getD i 0).fmod 1000000007)) (fun H' f _ => .inl (.inl (f _ _ hD3 id))) trivial (fun _ _ _ _ _ => trivial) (fun _ _ => id) (by rw [List.length_map]; omega) ?_ ?_ ?_
    · intro i H' hi f _ R r
      rw [List.length_map] at hi
      rw [getI hi]
      walk_at "rd"
      refine Rb.r_i1 ⟨by decide, by decide, by decide⟩ ?_
      walk_at "rd"
      exact r _ (FrM.refl _ _) trivial
    · intro i H' hi _ f _ R r
      rw [List.length_map] at hi
      rw [getI hi]
      walk_at "rd"
      refine Rb.r_i1 (by decide) ?_
      exact r _ (FrM.refl _ _) trivial
    intro e H4 ne f4 _ h4
    have he : ∃ es : List Int, H4 e = some (.lst (es.map V.int)) ∧ es.length ≤ 63 := by
      refine ⟨((List.range (cs.map V.int).length).filter fun i => decide ((if cs.getD i 0 < 0 then -(cs.getD i 0) else cs.getD i 0) < 10 ^ 18)).map fun i => ((cs.getD i 0).fmod 1000000007), ?_, ?_⟩
      · rw [h4, List.map_map]; rfl
      · rw [List.length_map]
        refine Nat.le_trans (filter_len _ _) ?_
        rw [List.length_map]; omega
    obtain ⟨es, he, hel⟩ := he
    clear h4
    have hD4 : H4 D = some (.lst (cs.map V.int)) := f4 _ _ hD3 id
    have hg4 : H4 g = some (.lst (gs.map V.int)) := f4 _ _ hg id
    have s4 : Same H H4 := s3.trans f4.same
    clear f4
    walk_at "lenL"
    refine ⟨sz_le (by show 1 ≤ 100000; decide), fun l nl => ?_⟩
    have hel' : (upd H4 l (.lst [V.int (((cs.map V.int).length : Nat) + 1)])) e = some (.lst (es.map V.int)) := by
      rw [upd_ne (ne_of_none he nl)]; exact he
    refine ⟨e, l, _, _, rfl, rfl, hel', upd_same, ?_, fun m nm => ?_⟩
    · rw [List.length_map]; exact sz_le (by show es.length + 1 ≤ _; omega)
    have nmg : g ≠ m := by
      refine ne_of_none (o := .lst (gs.map V.int)) ?_ nm
      rw [upd_ne (ne_of_none hg4 nl)]; exact hg4
    have nml : m ≠ l := by
      intro z
      rw [z, upd_same] at nm; cases nm
    have s5 : Same H (upd (upd H4 l (.lst [V.int (((cs.map V.int).length : Nat) + 1)])) m (.lst (es.map V.int ++ [V.int (((cs.map V.int).length : Nat) + 1)]))) := (s4.new nl).new nm
    have nmH : H m = none := (s4.new nl).free nm
    walk_at "rd"
    have esum : es.map V.int ++ [V.int (((cs.map V.int).length : Nat) + 1)] = (es ++ [(((cs.map V.int).length : Nat) : Int) + 1]).map V.int := by
      rw [List.map_append]; rfl
    rw [esum] at s5 ⊢
    have hfs : 0 < (es ++ [(((cs.map V.int).length : Nat) : Int) + 1]).length := by
      rw [List.length_append]; exact Nat.succ_pos _
    clear esum
    generalize (es ++ [(((cs.map V.int).length : Nat) : Int) + 1]) = fs at s5 hfs ⊢
    refine ⟨m, _, rfl, .inl (.inl upd_same), ?_⟩
    walk_at "rd"
    refine Rb.r_i1 (by decide) ?_
    walk_at "rd"
    refine ⟨sz_le (by show 4 ≤ 100000; decide), fun p np => ?_⟩
    have npm : m ≠ p := ne_of_none (by exact upd_same) np
    have hg5 : (upd (upd H4 l (.lst [V.int (((cs.map V.int).length : Nat) + 1)])) m (.lst (fs.map V.int))) g = some (.lst (gs.map V.int)) := by
      rw [upd_ne nmg, upd_ne (ne_of_none hg4 nl)]; exact hg4
    have npg : g ≠ p := ne_of_none hg5 np
    refine k ⟨p, g, m⟩ _ ⟨⟨gs, _, _, _, upd_same, ?_, ?_, hfs, hgl⟩, npg.symm, npm.symm, nmg⟩ (s5.new np) (s5.free np) ngH
    · rw [upd_ne npg]; exact hg5
    · rw [upd_ne npm]; exact upd_same
end
end Rb
namespace Rb
open PySem L2
section
variable {P : Program} {w : World} {K : PySem.W.Frag} {mg : Str → Option Value} {base : Heap}
/-! ### the dice's own defs -/
def AtM (M : Addr → Prop) (H : Hp) (a : Addr) (u : HO) : Prop := H a = some u ∧ ¬ M a
theorem FrM.at {M : Addr → Prop} {H H' : Hp} {a : Addr} {u : HO} (f : FrM M H H') (h : AtM M H a u) : AtM M H' a u := ⟨f a u h.1 h.2, h.2⟩
theorem AtM.newNe {M : Addr → Prop} {H : Hp} {a b : Addr} {u v : HO} (h : AtM M H a u) (n : H b = none) : AtM M (upd H b v) a u := ⟨by rw [upd_ne (ne_of_none h.1 n)]; exact h.1, h.2⟩
theorem AtM.l {M : Addr → Prop} {H : Hp} {a : Addr} {xs : List V} (h : AtM M H a (.lst xs)) : SqL K H a xs := .inl (.inl h.1)
theorem AtM.t {M : Addr → Prop} {H : Hp} {a : Addr} {xs : List V} (h : AtM M H a (.tup xs)) : SqT K H a xs := .inl (.inl h.1)
/-- one of them -/
def spAny (K : PySem.W.Frag) : Sp := fun vs H Q _ => ∃ (o : Pot) (x : V), vs = [.ref o.p, x] ∧ PotAt o H ∧
  ((∃ l : List Nat, x = .str (tx l) ∧ 0 < l.length ∧ l.length ≤ 1000 ∧ ∀ c H', c ∈ l → PotAt o H' → FrM (MP o) H H' → Q (.str (tx [c])) H') ∨
   (∃ a xs, x = .ref a ∧ (AtM (MP o) H a (.lst xs) ∨ AtM (MP o) H a (.tup xs)) ∧ 0 < xs.length ∧ xs.length ≤ 1000 ∧ ∀ v H', v ∈ xs → PotAt o H' → FrM (MP o) H H' → Q v H'))
theorem ok__law_any (T : Txt K mg) : FnOk P w K mg base CX0 2 T.a__law_any T.d__law_any ["_law_pot_here", "_law_items"] (spAny K) := by
  refine T.F__law_any.ok sc__law_any (fun vs H Q E h => ?_) (fun cdv A outer s H vs Q E hr h => ?_)
  · obtain ⟨o, x, rfl, _⟩ := h
    rfl
  · obtain ⟨o, x, rfl, hP, h⟩ := h
    refine ⟨_, (pss_one (ps_ret (pe_ix ix_seq (pv 1) (pe_call (ok__law_draw T) (hr.mono (by decide)) rfl T.g__law_draw T.F__law_draw.kp T.b__law_draw .nil pass0 (pa_cons (pv 0) (pa_cons (pe_callB call_lenR (by rfl) T.n_len (by decide +kernel) (pa_cons (pv 1) pa_nil)) pa_nil))) (fun _ _ => rfl)))), ?_⟩
    walk_at "rd0"
    walk_at "rd"
    rcases h with ⟨l, rfl, h0, h1, k⟩ | ⟨a, xs, rfl, ha, h0, h1, k⟩
    · refine Rb.r_lenS (by rw [tx_len]; exact sz_le (by omega)) ?_
      walk_at "rd"
      rw [tx_len]
      refine ⟨o, _, rfl, by omega, by omega, hP, fun r H' r0 r1 hP' fr => ?_⟩
      refine .inr (.inr ?_)
      have hlt : r.toNat < l.length := by omega
      refine Rb.r_ixS (by rw [tx_len]; exact sz_le (by omega)) (atI_of (j := r.toNat) (by omega) (by rw [tx_tl]; exact List.getElem?_eq_getElem hlt)) ?_
      exact k _ H' (List.getElem_mem hlt) hP' fr.m
    · rcases ha with ha | ha
      · refine Rb.r_lenL ha.l ?_
        walk_at "rd"
        refine ⟨o, _, rfl, by omega, by omega, hP, fun r H' r0 r1 hP' fr => ?_⟩
        refine .inl ?_
        have hlt : r.toNat < xs.length := by omega
        refine Rb.r_ixL (fr.m.at ha).1 (atI_of (j := r.toNat) (by omega) (List.getElem?_eq_getElem hlt)) ?_
        exact k _ H' (List.getElem_mem hlt) hP' fr.m
      · refine Rb.r_lenT ha.t ?_
        walk_at "rd"
        refine ⟨o, _, rfl, by omega, by omega, hP, fun r H' r0 r1 hP' fr => ?_⟩
        refine .inr (.inl ?_)
        have hlt : r.toNat < xs.length := by omega
        refine Rb.r_ixT (fr.m.at ha).t (atI_of (j := r.toNat) (by omega) (List.getElem?_eq_getElem hlt)) ?_
        exact k _ H' (List.getElem_mem hlt) hP' fr.m
/-- deeds: ascending small letters -/
structure Deeds (ds : List Nat) : Prop where
  ne : 0 < ds.length
  le : ds.length ≤ 4
  low : ∀ c ∈ ds, isLow c
  asc : ds.Pairwise (· < ·)
def spDeeds : Sp := fun vs H Q _ => ∃ (o : Pot) (m : Int), vs = [.ref o.p, .int m] ∧ PotAt o H ∧ 1 ≤ m ∧ m ≤ 4 ∧
  ∀ (ds : List Nat) (H' : Hp), Deeds ds → (ds.length : Int) ≤ m → PotAt o H' → FrM (MP o) H H' → Q (.str (tx ds)) H'
theorem abc_at {i : Int} (h0 : 0 ≤ i) (h1 : i < 26) : atI ("abcdefghijklmnopqrstuvwxyz" : Str).cps.toList i = some (97 + i.toNat) := by
  rw [abc_eq, tx_tl]
  refine atI_of (j := i.toNat) (by omega) ?_
  rw [List.getElem?_range' (by omega)]
  simp
theorem abc_len : ("abcdefghijklmnopqrstuvwxyz" : Str).length ≤ sizeLine := by decide +kernel
theorem ok__law_deeds (T : Txt K mg) : FnOk P w K mg base CX0 2 T.a__law_deeds T.d__law_deeds ["_law_pot_here", "_law_most"] spDeeds := by
  refine T.F__law_deeds.ok sc__law_deeds (fun vs H Q E h => ?_) (fun cdv A outer s H vs Q E hr h => ?_)
  · obtain ⟨o, x, rfl, _⟩ := h
    rfl
  · obtain ⟨o, m, rfl, hP, m1, m4, k⟩ := h
    refine ⟨_, (pss_cons (ps_set (i := 2) sc__law_deeds.nd rfl (Or.inl rfl) (pe_call (ok__law_draw T) (hr.mono (by decide)) rfl T.g__law_draw T.F__law_draw.kp T.b__law_draw .nil pass0 (pa_cons (pv 0) (pa_cons pe_int pa_nil))))
      (pss_cons (ps_set (i := 3) sc__law_deeds.nd rfl (Or.inl rfl) (pe_ix ix_str pe_str (pv 2) (fun _ _ => rfl)))
      (pss_cons (ps_for PassesOwn.never rfl (pi_range1 rfl T.n_range (pa_cons (pe_call (ok__law_draw T) (hr.mono (by decide)) rfl T.g__law_draw T.F__law_draw.kp T.b__law_draw .nil pass0 (pa_cons (pv 0) (pa_cons (pv 1) pa_nil))) pa_nil)) (pg_name (i := 4) sc__law_deeds.nd rfl (Or.inl rfl)) (pss_cons (ps_set (i := 2) sc__law_deeds.nd rfl (Or.inl rfl) (pe_op op_add (pe_op op_add (pv 2) pe_int) (pe_call (ok__law_draw T) (hr.mono (by decide)) rfl T.g__law_draw T.F__law_draw.kp T.b__law_draw .nil pass0 (pa_cons (pv 0) (pa_cons pe_int pa_nil)))))
      (pss_one (ps_set (i := 3) sc__law_deeds.nd rfl (Or.inl rfl) (pe_op op_add_strR (pv 3) (pe_ix ix_str pe_str (pv 2) (fun _ _ => rfl)))))))
      (pss_one (ps_ret (pv 3)))))), ?_⟩
    walk_at "rd0"
    walk_at "rd"
    refine ⟨o, _, rfl, by decide, by decide, hP, fun r H1 r0 r1 hP1 f1 => ?_⟩
    walk_at "rd"
    refine Rb.r_ixS abc_len (abc_at r0 (by omega)) ?_
    walk_at "rd"
    refine ⟨o, _, rfl, by omega, by omega, hP1, fun n H2 n0 n1 hP2 f2 => ?_⟩
    refine ⟨n, rfl, by omega, by omega, ?_⟩
    refine for_walk walk_range (fun i σ H' => ∃ (a : Int) (ds : List Nat) (v : Option V), σ = [some (.ref o.p), some (.int m), some (.int a), some (.str (tx ds)), v] ∧ 0 ≤ a ∧ a ≤ 17 + 2 * i ∧ ds.length = i + 1 ∧ (∀ c ∈ ds, isLow c) ∧ ds.Pairwise (· < ·) ∧ (∀ c ∈ ds, c ≤ 97 + a.toNat) ∧ PotAt o H' ∧ FrM (MP o) H H')
      ⟨r, [97 + r.toNat], none, rfl, r0, by omega, rfl, ?_, ?_, ?_, hP2, f1.m.trans f2.m⟩ (fun _ _ _ _ _ => trivial) ?_ ?_
    · intro c hc
      rw [List.mem_singleton.mp hc]
      unfold isLow; omega
    · exact List.pairwise_singleton _ _
    · intro c hc
      rw [List.mem_singleton.mp hc]; exact Nat.le_refl _
    · intro i x σ H3 H4 hi hW hy
      obtain ⟨rfl, rfl⟩ := hy
      obtain ⟨a, ds, v, rfl, a0, a1, hl, hlow, hasc, hlast, hP3, f3⟩ := hW
      walk_at "rd"
      refine ⟨o, _, rfl, by decide, by decide, hP3, fun b H5 b0 b1 hP5 f5 => ?_⟩
      walk_at "rd"
      refine Rb.r_ixS abc_len (abc_at (by omega) (by omega)) ?_
      refine Rb.r_addStr (by rw [tx_len, hl]; exact sz_le (by show _ + 1 ≤ _; omega)) ?_
      rw [show (⟨#[97 + (a + 1 + b).toNat]⟩ : Str) = tx [97 + (a + 1 + b).toNat] from rfl, tx_app]
      refine ⟨a + 1 + b, ds ++ [97 + (a + 1 + b).toNat], _, rfl, by omega, by omega, by simp [hl], ?_, ?_, ?_, hP5, f3.trans f5.m⟩
      · intro c hc
        rcases List.mem_append.mp hc with h | h
        · exact hlow c h
        · rw [List.mem_singleton.mp h]; unfold isLow; omega
      · rw [List.pairwise_append]
        refine ⟨hasc, List.pairwise_singleton _ _, fun x hx y hy => ?_⟩
        rw [List.mem_singleton.mp hy]
        have := hlast x hx
        omega
      · intro c hc
        rcases List.mem_append.mp hc with h | h
        · have := hlast c h; omega
        · rw [List.mem_singleton.mp h]; exact Nat.le_refl _
    · intro σ H3 hW
      obtain ⟨a, ds, v, rfl, a0, a1, hl, hlow, hasc, hlast, hP3, f3⟩ := hW
      walk_at "rd"
      exact k ds H3 ⟨by omega, by omega, hlow, hasc⟩ (by omega) hP3 f3
end
end Rb
namespace Rb
open PySem L2
section
variable {P : Program} {w : World} {K : PySem.W.Frag} {mg : Str → Option Value} {base : Heap}
/-- the letters over deeds, in their order -/
def lets (ds : List Nat) : List Nat := ds.flatMap fun c => [c, flip c]
theorem lets_mem {ds : List Nat} {x : Nat} : x ∈ lets ds ↔ ∃ c ∈ ds, x = c ∨ x = flip c := by
  unfold lets
  rw [List.mem_flatMap]
  constructor
  · rintro ⟨c, hc, h⟩
    simp at h
    exact ⟨c, hc, h⟩
  · rintro ⟨c, hc, h⟩
    exact ⟨c, hc, by simpa using h⟩
theorem lets_let {ds : List Nat} (h : ∀ c ∈ ds, isLow c) {x : Nat} (hx : x ∈ lets ds) : isLet x := by
  obtain ⟨c, hc, e⟩ := lets_mem.mp hx
  rcases e with rfl | rfl
  · exact .inl (h _ hc)
  · exact flip_let (.inl (h _ hc))
theorem lets_len (ds : List Nat) : (lets ds).length = 2 * ds.length := by
  unfold lets
  induction ds with
  | nil => rfl
  | cons a r ih => rw [List.flatMap_cons, List.length_append, ih, List.length_cons, List.length_cons, List.length_cons, List.length_nil]; omega
theorem take_snoc {α : Type} {l : List α} {i : Nat} {x : α} (h : l[i]? = some x) : l.take (i + 1) = l.take i ++ [x] := by
  rw [List.take_add_one, h]; rfl
abbrev sgs (l : List Nat) : List V := l.map fun c => V.str (tx [c])
def spLetters : Sp := fun vs H Q _ => ∃ (ds : List Nat), vs = [.str (tx ds)] ∧ ds.length ≤ 4 ∧ (∀ c ∈ ds, isLow c) ∧
  ∀ p H', H p = none → Same H H' → H' p = some (.lst (sgs (lets ds))) → Q (.ref p) H'
theorem ok__law_letters (T : Txt K mg) : FnOk P w K mg base CX0 1 T.a__law_letters T.d__law_letters ["_law_deeds_here"] spLetters := by
  refine T.F__law_letters.ok sc__law_letters (fun vs H Q E h => ?_) (fun cdv A outer s H vs Q E hr h => ?_)
  · obtain ⟨ds, rfl, _⟩ := h
    rfl
  · obtain ⟨ds, rfl, hl, hlow, k⟩ := h
    refine ⟨_, (pss_cons (ps_set (i := 1) sc__law_letters.nd rfl (Or.inl rfl) (pe_lst pa_nil))
      (pss_cons (ps_for PassesOwn.never rfl (pi_str (pv 0)) (pg_name (i := 2) sc__law_letters.nd rfl (Or.inl rfl)) (pss_one (ps_set (i := 1) sc__law_letters.nd rfl (Or.inl rfl) (pe_op op_cat (pv 1) (pe_lst (pa_cons (pv 2) (pa_cons (pe_m0 PySem.F.slot_str_upper PySem.F.type_str_upper mt_upperR (pv 2)) pa_nil)))))))
      (pss_one (ps_ret (pv 1))))), ?_⟩
    walk_at "rd0"
    walk_at "rd"
    refine ⟨by decide, fun p np => ?_⟩
    walk_at "rd"
    refine ⟨_, rfl, ?_⟩
    refine for_walk walk_str (fun i σ H' => ∃ (q : Addr) (v : Option V), σ = [some (.str (tx ds)), some (.ref q), v] ∧ H q = none ∧ H' q = some (.lst (sgs (lets (ds.take i)))) ∧ Same H H')
      ⟨p, none, rfl, np, upd_same, (Same.refl H).new np⟩ (fun _ _ _ _ _ => trivial) ?_ ?_
    · intro i x σ H3 H4 hi hW hy
      obtain ⟨rfl, c, hc, rfl⟩ := hy
      obtain ⟨q, v, rfl, nq, hq, s3⟩ := hW
      have hc' : ds[i]? = some c := by simpa using hc
      have hlow' : isLow c := hlow c (List.mem_of_getElem? hc')
      walk_at "rd"
      refine Rb.r_upper (by show 1 ≤ 5592405; decide) ?_
      rw [show (⟨#[c]⟩ : Str) = tx [c] from rfl, up_of (.inl hlow'), up_low hlow']
      walk_at "rd"
      refine ⟨sz_le (by show 2 ≤ 100000; decide), fun l nl => ?_⟩
      have hle : (lets (ds.take i)).length ≤ 8 := by
        rw [lets_len, List.length_take]; omega
      refine Rb.r_cat (xs := sgs (lets (ds.take i))) (zs := [V.str (tx [c]), V.str (tx [flip c])]) ?_ upd_same ?_ fun m nm => ?_
      · rw [upd_ne (ne_of_none hq nl)]; exact hq
      · rw [List.length_map]; exact sz_le (by show _ + 2 ≤ _; omega)
      refine ⟨m, _, rfl, (s3.new nl).free nm, ?_, (s3.new nl).new nm⟩
      rw [upd_same, take_snoc hc']
      unfold lets sgs
      rw [List.flatMap_append, List.map_append]
      rfl
    · intro σ H3 hW
      obtain ⟨q, v, rfl, nq, hq, s3⟩ := hW
      rw [show (tx ds).cps.size = ds.length by simp, List.take_length] at hq
      walk_at "rd"
      exact k q H3 nq s3 hq
def spRow : Sp := fun vs H Q _ => ∃ (o : Pot) (ds : List Nat) (m : Int), vs = [.ref o.p, .str (tx ds), .int m] ∧ PotAt o H ∧ Deeds ds ∧ 0 ≤ m ∧ m ≤ 20 ∧
  ∀ (l : List Nat) H', (∀ c ∈ l, c ∈ lets ds) → (l.length : Int) ≤ m → PotAt o H' → FrM (MP o) H H' → Q (.str (tx l)) H'
theorem sgs_of (ys : List V) (R : Nat → Prop) (h : ∀ (i : Nat) y, ys[i]? = some y → ∃ c, y = V.str (tx [c]) ∧ R c) : ∃ l : List Nat, ys = sgs l ∧ ∀ c ∈ l, R c := by
  induction ys with
  | nil => exact ⟨[], rfl, fun c hc => by cases hc⟩
  | cons y r ih =>
    obtain ⟨l, e, hl⟩ := ih fun i z hz => h (i + 1) z hz
    obtain ⟨c, e1, hc⟩ := h 0 y rfl
    refine ⟨c :: l, by rw [e1, e]; rfl, fun d hd => ?_⟩
    rcases List.mem_cons.mp hd with rfl | hd
    · exact hc
    · exact hl d hd
theorem join_sgs {l : List Nat} : Txt.join ("" : Str) (l.map fun c => tx [c]) = tx l := by
  rw [empty_tx]; exact join_ones l
theorem join_sum (l : List Nat) : ((l.map fun c => tx [c]).map (·.length)).sum = l.length := by
  induction l with
  | nil => rfl
  | cons a r ih =>
    rw [List.map_cons, List.map_cons, List.sum_cons, ih, List.length_cons]
    show 1 + _ = _
    omega
theorem ok__law_row (T : Txt K mg) : FnOk P w K mg base CX0 3 T.a__law_row T.d__law_row ["_law_pot_here", "_law_deeds_here", "_law_most"] spRow := by
  refine T.F__law_row.ok sc__law_row (fun vs H Q E h => ?_) (fun cdv A outer s H vs Q E hr h => ?_)
  · obtain ⟨o, ds, m, rfl, _⟩ := h
    rfl
  · obtain ⟨o, ds, m, rfl, hP, hd, m0, m1, k⟩ := h
    refine ⟨_, (pss_one (ps_ret (pe_m1 PySem.F.slot_str_join PySem.F.type_str_join mt_joinR pe_str (pe_lc (own := [("_law_k", 3)]) (g := gName 3) (tt := tYes)  rfl sc__law_row.nd (pi_range1 rfl T.n_range (pa_cons (pe_call (ok__law_draw T) (hr.mono (by decide)) rfl T.g__law_draw T.F__law_draw.kp T.b__law_draw .nil pass0 (pa_cons (pv 0) (pa_cons (pe_op op_add (pv 2) pe_int) pa_nil))) pa_nil)) (blkOk_by (own := [("_law_k", 3)]) (N := ["_law_pot_here", "_law_deeds_here", "_law_most", "_law_k"]) (sc := defScope st__law_row) (by decide +kernel)) (fun _ _ _ _ _ => (pg_name (i := 3) sc__law_row.nd rfl (Or.inl rfl))) (fun _ _ _ _ _ => pts_nil) (fun _ _ _ _ _ => (pe_call (ok__law_any T) (hr.mono (by decide)) rfl T.g__law_any T.F__law_any.kp T.b__law_any .nil pass0 (pa_cons (pv 0) (pa_cons (pe_call (ok__law_letters T) (hr.mono (by decide)) rfl T.g__law_letters T.F__law_letters.kp T.b__law_letters .nil pass0 (pa_cons (pv 1) pa_nil)) pa_nil)))))))), ?_⟩
    walk_at "rd0"
    walk_at "rd"
    refine ⟨o, _, rfl, by omega, by omega, hP, fun n H1 n0 n1 hP1 f1 => ?_⟩
    refine ⟨n, rfl, by omega, by omega, ?_⟩
    refine lc_any (M := MP o) (J := PotAt o) walk_range (fun i => V.int (0 + i)) yfn (fun _ _ y _ => ∃ c, y = V.str (tx [c]) ∧ c ∈ lets ds) (fun _ _ _ _ _ _ _ h => h) (fun _ _ _ => trivial) hP1 hP1.own hP1.nM (by omega) ?_ ?_
    · intro D i H' nD _ hi f' hP' R r
      walk_at "rd"
      refine ⟨ds, rfl, hd.le, hd.low, fun p H3 np s3 hp => ?_⟩
      walk_at "rd"
      have hP3 := hP'.same s3
      refine ⟨o, _, rfl, hP3, .inr ⟨p, _, rfl, .inl ⟨hp, hP'.nM p np⟩, ?_, ?_, fun v H4 hv hP4 f4 => ?_⟩⟩
      · rw [List.length_map, lets_len]; have := hd.ne; omega
      · rw [List.length_map, lets_len]; have := hd.le; omega
      · obtain ⟨c, hc, rfl⟩ := List.mem_map.mp hv
        exact r _ H4 (s3.mM.trans f4) hP4 ⟨c, rfl, hc⟩
    · intro D ys H2 nD f2 hP2 hD hl hG
      obtain ⟨l, e, hlet⟩ := sgs_of ys (fun c => c ∈ lets ds) hG
      subst e
      rw [List.length_map] at hl
      refine Rb.r_join (ys := l.map fun c => tx [c]) (.inl (.inl (by rw [hD, List.map_map]; rfl))) ?_ ?_
      · rw [join_sum, List.length_map]
        show _ + _ * 0 ≤ _
        omega
      · rw [join_sgs]
        exact k l H2 hlet (by omega) hP2 (f1.m.trans f2)
end
end Rb
namespace Rb
open PySem L2
section
variable {P : Program} {w : World} {K : PySem.W.Frag} {mg : Str → Option Value} {base : Heap}
theorem ixN_eq {n j : Nat} {i : Int} (e : i = (j : Int)) (hj : j < n) : ixN n i = some j := by
  rw [e]; exact ixN_of hj
abbrev nT (l : List Nat) : List V := l.map fun n : Nat => V.int (n : Int)
theorem nT_get {l : List Nat} {i : Nat} (h : i < l.length) : (nT l)[i]? = some (V.int ((l[i] : Nat) : Int)) := by
  rw [List.getElem?_map, List.getElem?_eq_getElem h]; rfl
/-- swapping two places is a permutation -/
theorem perm_set : ∀ (l : List Nat) (i : Nat) (x : Nat) (hi : i < l.length), (l[i] :: l.set i x).Perm (x :: l)
  | a :: r, 0, x, _ => List.Perm.swap x a r
  | a :: r, i + 1, x, hi => by
    have hi' : i < r.length := by simpa using hi
    have ih := perm_set r i x hi'
    show (r[i] :: a :: r.set i x).Perm (x :: a :: r)
    exact ((List.Perm.swap a r[i] _).trans (ih.cons a)).trans (List.Perm.swap x a r)
theorem perm_swap (l : List Nat) (i j : Nat) (hi : i < l.length) (hj : j < l.length) : ((l.set i l[j]).set j l[i]).Perm l := by
  have h1 := perm_set l i l[j] hi
  have hj2 : j < (l.set i l[j]).length := by rw [List.length_set]; exact hj
  have h2 := perm_set (l.set i l[j]) j l[i] hj2
  have e : (l.set i l[j])[j] = l[j] := by
    rw [List.getElem_set]
    split <;> rfl
  rw [e] at h2
  -- l[j] :: R ~ l[i] :: set ~ l[j] :: l
  exact (h2.trans h1).cons_inv
def spMixed (K : PySem.W.Frag) : Sp := fun vs H Q _ => ∃ (o : Pot) (a : Addr) (l : List Nat), vs = [.ref o.p, .ref a] ∧ PotAt o H ∧ SqL K H a (nT l) ∧ l.length ≤ 1000 ∧
  ∀ p (l' : List Nat) H', H p = none → PotAt o H' → FrM (MP o) H H' → H' p = some (.lst (nT l')) → l'.Perm l → Q (.ref p) H'
theorem ok__law_mixed (T : Txt K mg) : FnOk P w K mg base CX0 2 T.a__law_mixed T.d__law_mixed ["_law_pot_here", "_law_items"] (spMixed K) := by
  refine T.F__law_mixed.ok sc__law_mixed (fun vs H Q E h => ?_) (fun cdv A outer s H vs Q E hr h => ?_)
  · obtain ⟨o, a, l, rfl, _⟩ := h
    rfl
  · obtain ⟨o, a, l, rfl, hP, ha, hl, k⟩ := h
    refine ⟨_, (pss_cons (ps_set (i := 2) sc__law_mixed.nd rfl (Or.inl rfl) (pe_callTy call_list_ofR (by rfl) T.n_list (by decide +kernel) (pa_cons (pv 1) pa_nil)))
      (pss_cons (ps_for PassesOwn.never rfl (pi_range1 rfl T.n_range (pa_cons (pe_callB call_lenR (by rfl) T.n_len (by decide +kernel) (pa_cons (pv 2) pa_nil)) pa_nil)) (pg_name (i := 3) sc__law_mixed.nd rfl (Or.inl rfl)) (pss_cons (ps_set (i := 4) sc__law_mixed.nd rfl (Or.inl rfl) (pe_call (ok__law_draw T) (hr.mono (by decide)) rfl T.g__law_draw T.F__law_draw.kp T.b__law_draw .nil pass0 (pa_cons (pv 0) (pa_cons (pe_callB call_lenR (by rfl) T.n_len (by decide +kernel) (pa_cons (pv 2) pa_nil)) pa_nil))))
      (pss_one (ps_asg (pe_tup (pa_cons (pe_ix ix_list (pv 2) (pv 4) (fun _ _ => rfl)) (pa_cons (pe_ix ix_list (pv 2) (pv 3) (fun _ _ => rfl)) pa_nil))) (pg_tup rfl (pgs_cons (pg_sub (pv 2) (pv 3) set_list) (pgs_cons (pg_sub (pv 2) (pv 4) set_list) pgs_nil)))))))
      (pss_one (ps_ret (pv 2))))), ?_⟩
    walk_at "rd0"
    walk_at "rd"
    refine Rb.r_listOfL ha fun p np => ?_
    walk_at "rd"
    refine Rb.r_lenL (.inl (.inl upd_same)) ?_
    walk_at "rd"
    rw [List.length_map]
    refine ⟨_, rfl, by omega, by omega, ?_⟩
    have npM : ¬ MP o p := hP.nM p np
    refine for_walk walk_range (fun i σ H' => ∃ (l' : List Nat) (v w : Option V), σ = [some (.ref o.p), some (.ref a), some (.ref p), v, w] ∧ l'.Perm l ∧ H' p = some (.lst (nT l')) ∧ PotAt o H' ∧ FrM (MP o) H H')
      ⟨l, none, none, rfl, .refl _, upd_same, hP.new np, (FrM.refl _ H).new np⟩ (fun _ _ _ _ _ => trivial) ?_ ?_
    · intro i x σ H3 H4 hi hW hy
      obtain ⟨rfl, rfl⟩ := hy
      obtain ⟨l', v, w', rfl, hp, h3, hP3, f3⟩ := hW
      have hle := hp.length_eq
      have hi' : i < l'.length := by omega
      walk_at "rd"
      refine Rb.r_lenL (.inl (.inl h3)) ?_
      walk_at "rd"
      rw [List.length_map]
      refine ⟨o, _, rfl, by omega, by omega, hP3, fun b H5 b0 b1 hP5 f5 => ?_⟩
      have h5 : H5 p = some (.lst (nT l')) := f5.m _ _ h3 npM
      have hb : b.toNat < l'.length := by omega
      walk_at "rd"
      refine Rb.r_ixL h5 (atI_of (j := b.toNat) (by omega) (nT_get hb)) ?_
      walk_at "rd"
      refine Rb.r_ixL h5 (atI_of (j := i) (by omega) (nT_get hi')) ?_
      walk_at "rd"
      refine ⟨by show 2 ≤ sizeLine; decide, fun t nt => ?_⟩
      have nep : p ≠ t := ne_of_none h5 nt
      refine ⟨t, _, rfl, .inl (.inl upd_same), rfl, _, _, rfl, ?_⟩
      walk_at "rd"
      have h6 : (upd H5 t (.tup [V.int (l'[b.toNat] : Nat), V.int (l'[i] : Nat)])) p = some (.lst (nT l')) := by rw [upd_ne nep]; exact h5
      refine Rb.r_setL (j := i) h6 (ixN_eq (by omega) (by rw [List.length_map]; exact hi')) ?_
      refine ⟨_, _, rfl, ?_⟩
      walk_at "rd"
      refine Rb.r_setL (j := b.toNat) upd_same (ixN_eq (by omega) (by rw [List.length_set, List.length_map]; omega)) ?_
      refine ⟨rfl, (l'.set i l'[b.toNat]).set b.toNat l'[i], _, _, rfl, (perm_swap l' i b.toNat hi' hb).trans hp, ?_, ?_, ?_⟩
      · rw [upd_same]
        unfold nT
        rw [List.map_set, List.map_set]
      · exact hP.own p np _ _ (hP.own p np _ _ (hP5.new nt))
      · exact (((f3.trans f5.m).new nt).mut np).mut np
    · intro σ H3 hW
      obtain ⟨l', v, w', rfl, hp, h3, hP3, f3⟩ := hW
      walk_at "rd"
      exact k p l' H3 np hP3 f3 h3 hp
end
end Rb
namespace Rb
open PySem L2
section
variable {P : Program} {w : World} {K : PySem.W.Frag} {mg : Str → Option Value} {base : Heap}
/-! ### dicts from letters -/
abbrev kL (c : Nat) : Key := Sum.inr (tx [c])
def kvsOf (ds : List Nat) (f : Nat → V) : List (Key × V) := ds.map fun c => (kL c, f c)
theorem kL_inj {c d : Nat} (h : kL c = kL d) : c = d := by
  have h1 : tx [c] = tx [d] := Sum.inr.inj h
  have h2 := tx_inj h1
  exact (List.cons.inj h2).1
theorem val_kvs (f : Nat → V) (c : Nat) : ∀ ds : List Nat, valV (kvsOf ds f) (kL c) = if c ∈ ds then some (f c) else none
  | [] => by simp [kvsOf, valV_nil]
  | d :: r => by
    show valV ((kL d, f d) :: kvsOf r f) (kL c) = _
    by_cases e : d = c
    · subst e
      rw [valV_pos rfl, if_pos List.mem_cons_self]
    · rw [valV_neg (fun z => e (kL_inj z)), val_kvs f c r]
      by_cases hm : c ∈ r
      · rw [if_pos hm, if_pos (List.mem_cons_of_mem _ hm)]
      · rw [if_neg hm, if_neg]
        intro z
        rcases List.mem_cons.mp z with z | z
        · exact e z.symm
        · exact hm z
theorem val_in {f : Nat → V} {c : Nat} {ds : List Nat} (h : c ∈ ds) : valV (kvsOf ds f) (kL c) = some (f c) := by rw [val_kvs, if_pos h]
theorem val_out {f : Nat → V} {c : Nat} {ds : List Nat} (h : c ∉ ds) : valV (kvsOf ds f) (kL c) = none := by rw [val_kvs, if_neg h]
theorem kvs_congr {ds : List Nat} {f g : Nat → V} (h : ∀ c ∈ ds, f c = g c) : kvsOf ds f = kvsOf ds g := List.map_congr_left fun c hc => by rw [h c hc]
def setF {α : Type} (f : Nat → α) (c : Nat) (v : α) : Nat → α := fun x => if x = c then v else f x
theorem setF_eq {α : Type} {f : Nat → α} {c : Nat} {v : α} : setF f c v c = v := by unfold setF; rw [if_pos rfl]
theorem setF_ne {α : Type} {f : Nat → α} {c d : Nat} {v : α} (h : ¬ d = c) : setF f c v d = f d := by unfold setF; rw [if_neg h]
theorem kvs_put {ds : List Nat} {f : Nat → V} {c : Nat} {v : V} (h : c ∉ ds) : putK (kvsOf ds f) (kL c) v = kvsOf (ds ++ [c]) (fun x => if x = c then v else f x) := by
  rw [putK_new v (val_out h)]
  unfold kvsOf
  rw [List.map_append]
  congr 1
  · exact kvs_congr fun d hd => by rw [if_neg]; rintro rfl; exact h hd
  · simp
theorem kvs_len (ds : List Nat) (f : Nat → V) : (kvsOf ds f).length = ds.length := by unfold kvsOf; rw [List.length_map]
/-- moves, one for each letter of ds -/
def RdM (M : Addr → Prop) (H : Hp) (a : Addr) (u : HO) : Prop := Rd H a u ∧ ¬ M a
theorem FrM.rd {M : Addr → Prop} {H H' : Hp} {a : Addr} {u : HO} (f : FrM M H H') (h : RdM M H a u) : RdM M H' a u :=
  ⟨h.1.elim (fun e => .inl (f a u e h.2)) (fun ⟨o, e⟩ => .inr ⟨o, f a _ e h.2⟩), h.2⟩
theorem FrM.rd' {M : Addr → Prop} {H H' : Hp} {a : Addr} {u : HO} (f : FrM M H H') (h : Rd H a u) (n : ¬ M a) : Rd H' a u := (f.rd ⟨h, n⟩).1
theorem _root_.L2.Same.rd {H H' : Hp} {a : Addr} {u : HO} (f : Same H H') (h : Rd H a u) : Rd H' a u := h.elim (fun e => .inl (f a u e)) (fun ⟨o, e⟩ => .inr ⟨o, f a _ e⟩)
theorem rd_ne {H : Hp} {a b : Addr} {u v : HO} (h : Rd H a u) (h' : H b = some v) (n1 : v ≠ u) (n2 : ∀ o, v ≠ .frz o u) : a ≠ b := by
  rintro rfl
  rcases h with h | ⟨o, h⟩
  · rw [h'] at h; exact n1 (Option.some.inj h)
  · rw [h'] at h; exact n2 o (Option.some.inj h)
def MovesAt (M : Addr → Prop) (H : Hp) (m : Addr) (ds : List Nat) (mv : Nat → List Nat) : Prop :=
  ∃ ad : Nat → Addr, AtM M H m (.dK (kvsOf ds fun c => .ref (ad c))) ∧ ∀ c ∈ ds, RdM M H (ad c) (.tup (nT (mv c)))
/-- the same, the moves' methods may be called -/
def MovesP (M : Addr → Prop) (H : Hp) (m : Addr) (ds : List Nat) (mv : Nat → List Nat) : Prop :=
  ∃ ad : Nat → Addr, AtM M H m (.dK (kvsOf ds fun c => .ref (ad c))) ∧ ∀ c ∈ ds, ∃ ob : Obj, ob.dict = none ∧ AtM M H (ad c) (.frz ob (.tup (nT (mv c))))
theorem MovesP.at {M : Addr → Prop} {H : Hp} {m : Addr} {ds : List Nat} {mv : Nat → List Nat} (h : MovesP M H m ds mv) : MovesAt M H m ds mv := by
  obtain ⟨ad, h1, h2⟩ := h
  exact ⟨ad, h1, fun c hc => by obtain ⟨ob, _, h3, h4⟩ := h2 c hc; exact ⟨.inr ⟨ob, h3⟩, h4⟩⟩
theorem FrM.moves {M : Addr → Prop} {H H' : Hp} {m : Addr} {ds : List Nat} {mv : Nat → List Nat} (f : FrM M H H') (h : MovesAt M H m ds mv) : MovesAt M H' m ds mv := by
  obtain ⟨ad, h1, h2⟩ := h
  exact ⟨ad, f.at h1, fun c hc => f.rd (h2 c hc)⟩
theorem FrM.movesP {M : Addr → Prop} {H H' : Hp} {m : Addr} {ds : List Nat} {mv : Nat → List Nat} (f : FrM M H H') (h : MovesP M H m ds mv) : MovesP M H' m ds mv := by
  obtain ⟨ad, h1, h2⟩ := h
  exact ⟨ad, f.at h1, fun c hc => by obtain ⟨ob, h3, h4⟩ := h2 c hc; exact ⟨ob, h3, f.at h4⟩⟩
theorem MovesAt.wide {M M' : Addr → Prop} {H : Hp} {m : Addr} {ds : List Nat} {mv : Nat → List Nat} (h : MovesAt M H m ds mv) (w : ∀ a, M' a → M a) : MovesAt M' H m ds mv := by
  obtain ⟨ad, h1, h2⟩ := h
  exact ⟨ad, ⟨h1.1, fun z => h1.2 (w _ z)⟩, fun c hc => ⟨(h2 c hc).1, fun z => (h2 c hc).2 (w _ z)⟩⟩
/-- each deed moves the standings one to one -/
def IsMv (ds : List Nat) (n : Nat) (mv : Nat → List Nat) : Prop := ∀ c ∈ ds, (mv c).Perm (List.range n)
theorem nodup_asc {ds : List Nat} (h : ds.Pairwise (· < ·)) : ds.Nodup := h.imp fun h => Nat.ne_of_lt h
theorem notin_take {ds : List Nat} {i c : Nat} (h : ds.Nodup) (hc : ds[i]? = some c) : c ∉ ds.take i := by
  intro hm
  obtain ⟨j, hj, e⟩ := List.mem_iff_getElem.mp hm
  have hj' : j < i := by rw [List.length_take] at hj; omega
  have e2 : ds[j]? = some c := by
    rw [← List.getElem?_take_of_lt hj', List.getElem?_eq_getElem hj, e]
  have := nd_ix h e2 hc
  omega
def spMoves : Sp := fun vs H Q _ => ∃ (o : Pot) (ds : List Nat) (n : Nat), vs = [.ref o.p, .str (tx ds), .int n] ∧ PotAt o H ∧ Deeds ds ∧ n ≤ 1000 ∧
  ∀ m (mv : Nat → List Nat) H', H m = none → PotAt o H' → FrM (MP o) H H' → MovesP (MP o) H' m ds mv → IsMv ds n mv → Q (.ref m) H'
theorem ok__law_moves (T : Txt K mg) : FnOk P w K mg base CX0 3 T.a__law_moves T.d__law_moves ["_law_pot_here", "_law_deeds_here", "_law_size"] spMoves := by
  refine T.F__law_moves.ok sc__law_moves (fun vs H Q E h => ?_) (fun cdv A outer s H vs Q E hr h => ?_)
  · obtain ⟨o, ds, n, rfl, _⟩ := h
    rfl
  · obtain ⟨o, ds, n, rfl, hP, hd, hn, k⟩ := h
    refine ⟨_, (pss_cons (ps_set (i := 3) sc__law_moves.nd rfl (Or.inl rfl) pe_dnewK)
      (pss_cons (ps_for PassesOwn.never rfl (pi_str (pv 1)) (pg_name (i := 4) sc__law_moves.nd rfl (Or.inl rfl)) (pss_one (ps_dput (hu_of hr) (pv 3) (pv 4) (pe_tupleOfP (by rfl) T.n_tuple (pe_call (ok__law_mixed T) (hr.mono (by decide)) rfl T.g__law_mixed T.F__law_mixed.kp T.b__law_mixed .nil pass0 (pa_cons (pv 0) (pa_cons (pe_listRg rfl (by rfl) T.n_list (prg_1 (by rfl) T.n_range (pv 2))) pa_nil)))) rfl)))
      (pss_one (ps_ret (pv 3))))), ?_⟩
    walk_at "rd0"
    walk_at "rd"
    intro p np
    walk_at "rd"
    refine ⟨_, rfl, ?_⟩
    have npM := hP.nM p np
    refine for_walk walk_str (fun i σ H' => ∃ (ad : Nat → Addr) (mv : Nat → List Nat) (v : Option V), σ = [some (.ref o.p), some (.str (tx ds)), some (.int n), some (.ref p), v] ∧ H' p = some (.dK (kvsOf (ds.take i) fun c => .ref (ad c))) ∧ (∀ c ∈ ds.take i, ∃ ob : Obj, ob.dict = none ∧ AtM (MP o) H' (ad c) (.frz ob (.tup (nT (mv c))))) ∧ IsMv (ds.take i) n mv ∧ PotAt o H' ∧ FrM (MP o) H H')
      ⟨fun _ => 0, fun _ => [], none, rfl, upd_same, fun c hc => (by cases hc), fun c hc => (by cases hc), hP.new np, (FrM.refl _ H).new np⟩ (fun _ _ _ _ _ => trivial) ?_ ?_
    · intro i x σ H3 H4 hi hW hy
      obtain ⟨rfl, c, hc, rfl⟩ := hy
      obtain ⟨ad, mv, v, rfl, h3, ht, hmv, hP3, f3⟩ := hW
      have hc' : ds[i]? = some c := by simpa using hc
      have hnt : c ∉ ds.take i := notin_take (nodup_asc hd.asc) hc'
      walk_at "rd"
      -- tuple(mixed(pot, list(range(size))))
      refine ⟨⟨by omega, by omega, by omega, by omega, by omega⟩, fun q nq => ?_⟩
      walk_at "rd"
      have erg : rgV 0 n = nT (List.range n) := by
        unfold rgV nT
        rw [show ((n : Int) - 0).toNat = n by omega]
        refine List.map_congr_left fun a _ => ?_
        rw [show (0 : Int) + (a : Int) = (a : Int) by omega]
      rw [erg]
      have fq := (FrM.refl (MP o) H4).new (u := .lst (nT (List.range n))) nq
      refine ⟨o, q, List.range n, rfl, hP3.new nq, .inl (.inl upd_same), by rw [List.length_range]; omega, fun r l H5 nr hP5 f5 h5 hpm => ?_⟩
      refine ⟨r, _, rfl, .inl (.inl h5), fun t ob nt hob => ?_⟩
      have f6 : FrM (MP o) H4 (upd H5 t (.frz ob (.tup (nT l)))) := (fq.trans f5).new nt
      walk_at "rd"
      have h6 := f6 _ _ h3 npM
      refine ⟨p, _, rfl, DPut.k (k := kL c) h6 (by rw [kvs_len]; exact sz_lt (by have := hd.le; rw [List.length_take]; omega)), ?_⟩
      rw [kvs_put hnt]
      refine ⟨setF ad c t, setF mv c l, _, rfl, ?_, ?_, ?_, hP.own p np _ _ (hP5.new nt), (f3.trans f6).mut np⟩
      · rw [upd_same, take_snoc hc']
        congr 2
        refine kvs_congr fun d _ => ?_
        show (if d = c then _ else _) = V.ref (if d = c then _ else _)
        split <;> rfl
      · intro d hdm
        rw [take_snoc hc'] at hdm
        by_cases e : d = c
        · subst e
          rw [setF_eq, setF_eq]
          refine ⟨ob, hob, ?_, hP5.nM t nt⟩
          have : t ≠ p := (ne_of_none (f5 _ _ (fq _ _ h3 npM) npM) nt).symm
          rw [upd_ne this]; exact upd_same
        · rw [setF_ne e, setF_ne e]
          have hdm' : d ∈ ds.take i := by
            rcases List.mem_append.mp hdm with z | z
            · exact z
            · exact absurd (List.mem_singleton.mp z) e
          obtain ⟨ob', hob', z⟩ := ht d hdm'
          have z := f6.at z
          refine ⟨ob', hob', ?_, z.2⟩
          have : ad d ≠ p := ne_of z.1 h6 (by intro q; cases q)
          rw [upd_ne this]; exact z.1
      · intro d hdm
        rw [take_snoc hc'] at hdm
        by_cases e : d = c
        · subst e
          rw [setF_eq]; exact hpm
        · rw [setF_ne e]
          rcases List.mem_append.mp hdm with z | z
          · exact hmv d z
          · exact absurd (List.mem_singleton.mp z) e
    · intro σ H3 hW
      obtain ⟨ad, mv, v, rfl, h3, ht, hmv, hP3, f3⟩ := hW
      rw [show (tx ds).cps.size = ds.length by simp, List.take_length] at h3 ht hmv
      walk_at "rd"
      exact k p mv H3 np hP3 f3 ⟨ad, ⟨h3, npM⟩, ht⟩ hmv
end
end Rb
namespace Rb
open PySem L2
section
variable {P : Program} {w : World} {K : PySem.W.Frag} {mg : Str → Option Value} {base : Heap}
/-! ### checks.py -/
theorem walk_gen {J : It} {n : Nat} {G : Hp → Prop} {Y : Nat → Hp → V → Hp → Prop} (w : Walk J n G Y) {B : (Hp → Prop) → V → Hp → Prop} {Z : Hp → Prop} {H : Hp} (Pv : Nat → Hp → Prop) (h0 : Pv 0 H) (hG : ∀ i H, i ≤ n → Pv i H → G H)
    (hs : ∀ i x H H', i < n → Pv i H → Y i H x H' → B (Pv (i + 1)) x H') (hd : ∀ H, Pv n H → Z H) :
    ∃ W : Nat → Nat → Hp → Prop, (∃ m, W 0 m H) ∧ ∀ i m H, W i m H → (J.stop i H ∧ Z H) ∨ (J.go i H ∧ ∃ Nx : Hp → Prop, (∀ H', Nx H' → ∃ m', m' < m ∧ W (i + 1) m' H') ∧ ∀ x H', J.yld i H x H' → B Nx x H') := by
  refine ⟨fun i m H => m = n - i ∧ i ≤ n ∧ Pv i H, ⟨n, by simp, Nat.zero_le _, h0⟩, ?_⟩
  rintro i m H ⟨rfl, hi, p⟩
  have q := hG i H hi p
  by_cases hlt : i < n
  · refine .inr ⟨w.goes i H hlt q, Pv (i + 1), fun H' p' => ⟨n - (i + 1), by omega, rfl, hlt, p'⟩, fun x H' y => hs i x H H' hlt p (w.yields i H x H' hlt q y)⟩
  · have e : i = n := by omega
    subst e
    exact .inl ⟨w.stops H q, hd H p⟩
/-- a thing of a built-in type -/
abbrev Kd (K : PySem.W.Frag) (H : Hp) (x : V) (t : String) : Prop := TyX K H x (.type t)
theorem r_isi {K : PySem.W.Frag} {H : Hp} {x : V} {a b : String} {r : Bool} {Q : VK} (h : Kd K H x a) (e : kitB a b = some r) (q : Q (.bl r) H) : rIsi K [x, .ty b] H Q := ⟨x, .ty b, .type a, .type b, r, rfl, .ty b, h, kit_ty e, q⟩
theorem kd_str {K : PySem.W.Frag} {H : Hp} {z : Str} : Kd K H (.str z) "str" := .base (.str z)
theorem kd_int {K : PySem.W.Frag} {H : Hp} {z : Int} : Kd K H (.int z) "int" := .base (.int z)
/-- no text -/
def NoStr (K : PySem.W.Frag) (H : Hp) (x : V) : Prop := ∃ t, Kd K H x t ∧ kitB t "str" = some false
theorem kit_ss : kitB "str" "str" = some true := by decide +kernel
theorem kit_ii : kitB "int" "int" = some true := by decide +kernel
theorem kit_ib : kitB "int" "bool" = some false := by decide +kernel
def spIsInt (K : PySem.W.Frag) : Sp := fun vs H Q _ => ∃ x, vs = [x] ∧ ((∃ i, x = .int i ∧ Q (.bl true) H) ∨ (∃ t b, Kd K H x t ∧ kitB t "int" = some b ∧ (b = true → kitB t "bool" = some true) ∧ Q (.bl false) H))
theorem ok_is_integer (T : Txt K mg) : FnOk P w K mg base CX0 1 T.a_is_integer T.d_is_integer ["thing"] (spIsInt K) := by
  refine T.F_is_integer.ok sc_is_integer (fun vs H Q E h => ?_) (fun cdv A outer s H vs Q E hr h => ?_)
  · obtain ⟨x, rfl, _⟩ := h
    rfl
  · obtain ⟨x, rfl, h⟩ := h
    refine ⟨_, (pss_one (ps_ret (pe_and (pe_callB call_isi (by rfl) T.n_isinstance (by decide +kernel) (pa_cons (pv 0) (pa_cons (pe_bltn (v := .ty "int") (u := .type "int") (by rfl) T.n_int (by decide +kernel) rfl) pa_nil))) (pe_one (pe_not (pe_callB call_isi (by rfl) T.n_isinstance (by decide +kernel) (pa_cons (pv 0) (pa_cons (pe_bltn (v := .ty "bool") (u := .type "bool") (by rfl) T.n_bool (by decide +kernel) rfl) pa_nil)))))))), ?_⟩
    walk_at "rd0"
    walk_at "rd"
    rcases h with ⟨i, rfl, k⟩ | ⟨t, b, h, e, e2, k⟩
    · refine r_isi kd_int kit_ii ?_
      walk_at "rd"
      refine r_isi kd_int kit_ib ?_
      walk_at "rd"
      exact k
    · refine r_isi h e ?_
      cases b with
      | false =>
        walk_at "rd"
        exact k
      | true =>
        walk_at "rd"
        refine r_isi h (e2 rfl) ?_
        walk_at "rd"
        exact k
def spIsStr (K : PySem.W.Frag) : Sp := fun vs H Q _ => ∃ x sg, vs = [x, .str sg] ∧ ((∃ l, x = .str (tx l) ∧ Q (.bl (decide (∀ c ∈ l, c ∈ sg.cps.toList))) H) ∨ (NoStr K H x ∧ Q (.bl false) H))
theorem ok_is_string_of (T : Txt K mg) : FnOk P w K mg base CX0 1 T.a_is_string_of T.d_is_string_of ["thing", "signs"] (spIsStr K) := by
  refine T.F_is_string_of.ok sc_is_string_of (fun vs H Q E h => ?_) (fun cdv A outer s H vs Q E hr h => ?_)
  · obtain ⟨x, sg, rfl, _⟩ := h
    rfl
  · obtain ⟨x, sg, rfl, h⟩ := h
    refine ⟨_, (pss_cons (ps_if (pt_not (pt_val (pe_callB call_isi (by rfl) T.n_isinstance (by decide +kernel) (pa_cons (pv 0) (pa_cons (pe_bltn (v := .ty "str") (u := .type "str") (by rfl) T.n_str (by decide +kernel) rfl) pa_nil))))) (pss_one (ps_ret pe_bl)) pss_nil)
      (pss_cons (ps_for PassesOwn.never rfl (pi_str (pv 0)) (pg_name (i := 2) sc_is_string_of.nd rfl (Or.inl rfl)) (pss_one (ps_if (pt_cmpR op_notInS (pv 2) (pv 1) rfl) (pss_one (ps_ret pe_bl)) pss_nil)))
      (pss_one (ps_ret pe_bl)))), ?_⟩
    walk_at "rd0"
    walk_at "rd"
    rcases h with ⟨l, rfl, k⟩ | ⟨⟨t, h, e⟩, k⟩
    · refine r_isi kd_str kit_ss ?_
      walk_at "rd"
      refine ⟨_, rfl, ?_⟩
      refine for_walk walk_str (fun i σ H' => ∃ (v : Option V), σ = [some (.str (tx l)), some (.str sg), v] ∧ H' = H ∧ ∀ c ∈ l.take i, c ∈ sg.cps.toList)
        ⟨none, rfl, rfl, fun c hc => by cases hc⟩ (fun _ _ _ _ _ => trivial) ?_ ?_
      · intro i x σ H3 H4 hi hW hy
        obtain ⟨rfl, c, hc, rfl⟩ := hy
        obtain ⟨v, rfl, rfl, hall⟩ := hW
        have hc' : l[i]? = some c := by simpa using hc
        walk_at "rd"
        refine ite2 (fun e => ?_) (fun e => ?_)
        · walk_at "rd"
          have hno : ¬ c ∈ sg.cps.toList := by simpa using e
          rw [decide_eq_false (fun z => hno (z c (List.mem_of_getElem? hc')))] at k
          exact k
        · walk_at "rd"
          refine ⟨_, rfl, rfl, fun d hd => ?_⟩
          rw [take_snoc hc'] at hd
          rcases List.mem_append.mp hd with z | z
          · exact hall d z
          · rw [List.mem_singleton.mp z]
            simpa using e
      · intro σ H3 hW
        obtain ⟨v, rfl, rfl, hall⟩ := hW
        rw [show (tx l).cps.size = l.length by simp, List.take_length] at hall
        walk_at "rd"
        rw [decide_eq_true hall] at k
        exact k
    · refine r_isi h e ?_
      walk_at "rd"
      exact k
theorem one_lt {a b : Nat} : (([a] : List Nat) < [b]) ↔ a < b := by
  rw [List.cons_lt_cons_iff]
  constructor
  · rintro (h | ⟨_, h⟩)
    · exact h
    · exact absurd h (List.not_lt_nil _)
  · exact .inl
/-- is_word, is_deeds -/
def spIsWord (K : PySem.W.Frag) : Sp := fun vs H Q _ => ∃ x, vs = [x] ∧ ((∃ l, x = .str (tx l) ∧ l.length ≤ 1000 ∧ Q (.bl (decide ((∀ c ∈ l, isLow c) ∧ 0 < l.length))) H) ∨ (NoStr K H x ∧ Q (.bl false) H))
theorem ok_is_word (T : Txt K mg) : FnOk P w K mg base CX0 2 T.a_is_word T.d_is_word ["thing"] (spIsWord K) := by
  refine T.F_is_word.ok sc_is_word (fun vs H Q E h => ?_) (fun cdv A outer s H vs Q E hr h => ?_)
  · obtain ⟨x, rfl, _⟩ := h
    rfl
  · obtain ⟨x, rfl, h⟩ := h
    refine ⟨_, (pss_one (ps_ret (pe_and (pe_call (ok_is_string_of T) (hr.mono (by decide)) rfl T.g_is_string_of T.F_is_string_of.kp T.b_is_string_of .nil pass0 (pa_cons (pv 0) (pa_cons (pe_glob (v := .str "abcdefghijklmnopqrstuvwxyz") rfl T.c_SMALL ⟨_, rfl⟩) pa_nil))) (pe_one (pe_cmpR op_gt (pe_callB call_lenR (by rfl) T.n_len (by decide +kernel) (pa_cons (pv 0) pa_nil)) pe_int (nomark _)))))), ?_⟩
    walk_at "rd0"
    walk_at "rd"
    rcases h with ⟨l, rfl, hl, k⟩ | ⟨hn, k⟩
    · refine ⟨_, _, rfl, .inl ⟨l, rfl, ?_⟩⟩
      have e : (∀ c ∈ l, c ∈ ("abcdefghijklmnopqrstuvwxyz" : Str).cps.toList) ↔ ∀ c ∈ l, isLow c := forall_congr' fun c => forall_congr' fun _ => abc_mem
      by_cases h : ∀ c ∈ l, isLow c
      · rw [decide_eq_true (e.mpr h)]
        walk_at "rd"
        refine Rb.r_lenS (by rw [tx_len]; exact sz_le (by omega)) ?_
        walk_at "rd"
        rw [tx_len]
        have e2 : decide ((∀ c ∈ l, isLow c) ∧ 0 < l.length) = decide ((0 : Int) < (l.length : Int)) := by
          refine decide_eq_decide.mpr ⟨fun z => by have := z.2; omega, fun z => ⟨h, by omega⟩⟩
        rw [e2] at k
        exact k
      · rw [decide_eq_false (fun z => h (e.mp z))]
        walk_at "rd"
        rw [decide_eq_false (fun z => h z.1)] at k
        exact k
    · refine ⟨_, _, rfl, .inr ⟨hn, ?_⟩⟩
      walk_at "rd"
      exact k
instance (l : List Nat) : Decidable (Deeds l) := decidable_of_iff (0 < l.length ∧ l.length ≤ 4 ∧ (∀ c ∈ l, isLow c) ∧ l.Pairwise (· < ·)) ⟨fun h => ⟨h.1, h.2.1, h.2.2.1, h.2.2.2⟩, fun h => ⟨h.ne, h.le, h.low, h.asc⟩⟩
theorem pw_snoc {l : List Nat} {i x y : Nat} (h : (l.take (i + 1)).Pairwise (· < ·)) (hx : l[i]? = some x) (hy : l[i + 1]? = some y) (hlt : x < y) : (l.take (i + 2)).Pairwise (· < ·) := by
  rw [take_snoc hy, List.pairwise_append]
  refine ⟨h, List.pairwise_singleton _ _, fun a ha b hb => ?_⟩
  rw [List.mem_singleton.mp hb]
  rw [take_snoc hx] at ha h
  rcases List.mem_append.mp ha with z | z
  · have := (List.pairwise_append.mp h).2.2 a z x (List.mem_singleton.mpr rfl)
    omega
  · rw [List.mem_singleton.mp z]; exact hlt
def spIsDeeds (K : PySem.W.Frag) : Sp := fun vs H Q _ => ∃ x, vs = [x] ∧ ((∃ l, x = .str (tx l) ∧ l.length ≤ 1000 ∧ Q (.bl (decide (Deeds l))) H) ∨ (NoStr K H x ∧ Q (.bl false) H))
theorem ok_is_deeds (T : Txt K mg) : FnOk P w K mg base CX0 3 T.a_is_deeds T.d_is_deeds ["thing"] (spIsDeeds K) := by
  refine T.F_is_deeds.ok sc_is_deeds (fun vs H Q E h => ?_) (fun cdv A outer s H vs Q E hr h => ?_)
  · obtain ⟨x, rfl, _⟩ := h
    rfl
  · obtain ⟨x, rfl, h⟩ := h
    refine ⟨_, (pss_cons (ps_if (PW.pt (pw_or (pt_not (pt_val (pe_call (ok_is_word T) (hr.mono (by decide)) rfl T.g_is_word T.F_is_word.kp T.b_is_word .nil pass0 (pa_cons (pv 0) pa_nil)))) (pw_or1 (pt_cmpR op_gt (pe_callB call_lenR (by rfl) T.n_len (by decide +kernel) (pa_cons (pv 0) pa_nil)) pe_int (nomark _))))) (pss_one (ps_ret pe_bl)) pss_nil)
      (pss_cons (ps_for PassesOwn.never rfl (pi_range2 rfl T.n_range (pa_cons pe_int (pa_cons (pe_callB call_lenR (by rfl) T.n_len (by decide +kernel) (pa_cons (pv 0) pa_nil)) pa_nil))) (pg_name (i := 1) sc_is_deeds.nd rfl (Or.inl rfl)) (pss_one (ps_if (pt_cmpR op_ge_strR (pe_ix ix_str (pv 0) (pe_op op_sub (pv 1) pe_int) (fun _ _ => rfl)) (pe_ix ix_str (pv 0) (pv 1) (fun _ _ => rfl)) (nomark _)) (pss_one (ps_ret pe_bl)) pss_nil)))
      (pss_one (ps_ret pe_bl)))), ?_⟩
    walk_at "rd0"
    walk_at "rd"
    rcases h with ⟨l, rfl, hl, k⟩ | ⟨hn, k⟩
    · refine ⟨_, rfl, .inl ⟨l, rfl, hl, ?_⟩⟩
      by_cases h : (∀ c ∈ l, isLow c) ∧ 0 < l.length
      · rw [decide_eq_true h]
        walk_at "rd"
        refine Rb.r_lenS (by rw [tx_len]; exact sz_le (by omega)) ?_
        walk_at "rd"
        rw [tx_len]
        refine ite2 (fun e => ?_) (fun e => ?_)
        · walk_at "rd"
          have e4 : (4 : Int) < l.length := by simpa using e
          rw [decide_eq_false (fun z => by have := z.le; omega)] at k
          exact k
        · have e4 : ¬ (4 : Int) < l.length := by simpa using e
          walk_at "rd"
          refine Rb.r_lenS (by rw [tx_len]; exact sz_le (by omega)) ?_
          rw [tx_len]
          walk_at "rd"
          refine ⟨1, (l.length : Int), rfl, ⟨by decide, by decide, by omega, by omega⟩, ?_⟩
          refine for_walk walk_range (fun i σ H' => ∃ (v : Option V), σ = [some (.str (tx l)), v] ∧ H' = H ∧ (l.take (i + 1)).Pairwise (· < ·))
            ⟨none, rfl, rfl, ?_⟩ (fun _ _ _ _ _ => trivial) ?_ ?_
          · obtain ⟨a, r, rfl⟩ : ∃ a r, l = a :: r := by
              cases l with
              | nil => exact absurd h.2 (by simp)
              | cons a r => exact ⟨a, r, rfl⟩
            exact List.pairwise_singleton _ _
          · intro i x σ H3 H4 hi hW hy
            obtain ⟨rfl, rfl⟩ := hy
            obtain ⟨v, rfl, rfl, hpw⟩ := hW
            have h1 : i < l.length := by omega
            have h2 : i + 1 < l.length := by omega
            walk_at "rd"
            refine Rb.r_ixS (by rw [tx_len]; exact sz_le (by omega)) (atI_of (j := i) (by omega) (by rw [tx_tl]; exact List.getElem?_eq_getElem h1)) ?_
            walk_at "rd"
            refine Rb.r_ixS (by rw [tx_len]; exact sz_le (by omega)) (atI_of (j := i + 1) (by omega) (by rw [tx_tl]; exact List.getElem?_eq_getElem h2)) ?_
            walk_at "rd"
            have ec : decide ((⟨#[l[i]]⟩ : Str).cps.toList < (⟨#[l[i + 1]]⟩ : Str).cps.toList) = decide (l[i] < l[i + 1]) := by
              refine decide_eq_decide.mpr ?_
              exact one_lt
            rw [ec]
            refine ite2 (fun e => ?_) (fun e => ?_)
            · walk_at "rd"
              have hn : ¬ l[i] < l[i + 1] := by simpa using e
              rw [decide_eq_false (fun z => hn (List.pairwise_iff_getElem.mp z.asc i (i + 1) h1 h2 (Nat.lt_succ_self i)))] at k
              exact k
            · walk_at "rd"
              have hy : l[i] < l[i + 1] := by simpa using e
              exact ⟨_, rfl, rfl, pw_snoc hpw (List.getElem?_eq_getElem h1) (List.getElem?_eq_getElem h2) hy⟩
          · intro σ H3 hW
            obtain ⟨v, rfl, rfl, hpw⟩ := hW
            walk_at "rd"
            rw [List.take_of_length_le (by omega)] at hpw
            rw [decide_eq_true (show Deeds l from ⟨h.2, by omega, h.1, hpw⟩)] at k
            exact k
      · rw [decide_eq_false h]
        walk_at "rd"
        rw [decide_eq_false (fun z => h ⟨z.low, z.ne⟩)] at k
        exact k
    · refine ⟨_, rfl, .inr ⟨hn, ?_⟩⟩
      walk_at "rd"
      exact k
def spUndo : Sp := fun vs H Q _ => ∃ c, vs = [.str (tx [c])] ∧ isLet c ∧ Q (.str (tx [flip c])) H
theorem ok_undoing_of (T : Txt K mg) : FnOk P w K mg base CX0 1 T.a_undoing_of T.d_undoing_of ["letter"] spUndo := by
  refine T.F_undoing_of.ok sc_undoing_of (fun vs H Q E h => ?_) (fun cdv A outer s H vs Q E hr h => ?_)
  · obtain ⟨x, rfl, _⟩ := h
    rfl
  · obtain ⟨c, rfl, h, k⟩ := h
    refine ⟨_, (pss_one (ps_ret (pe_m0 PySem.F.slot_str_swapcase PySem.F.type_str_swapcase mt_swapcaseR (pv 0)))), ?_⟩
    walk_at "rd0"
    walk_at "rd"
    refine Rb.r_swapcase (by show 1 ≤ 5592405; decide) ?_
    rw [swap_of h]
    exact k
end
end Rb
namespace Rb
open PySem L2
section
/-! ### moves as lists: permutations of range n -/
def app (f : List Nat) (i : Nat) : Nat := f.getD i 0
abbrev IsP (n : Nat) (f : List Nat) : Prop := f.Perm (List.range n)
theorem IsP.len {n : Nat} {f : List Nat} (h : IsP n f) : f.length = n := by rw [h.length_eq, List.length_range]
theorem IsP.nd {n : Nat} {f : List Nat} (h : IsP n f) : f.Nodup := h.nodup_iff.mpr List.nodup_range
theorem IsP.mem {n : Nat} {f : List Nat} (h : IsP n f) {x : Nat} : x ∈ f ↔ x < n := by rw [h.mem_iff, List.mem_range]
theorem app_get {f : List Nat} {i : Nat} (h : i < f.length) : f[i]? = some (app f i) := by
  unfold app
  rw [List.getD_eq_getElem?_getD, List.getElem?_eq_getElem h]; rfl
theorem app_eq {f : List Nat} {i x : Nat} (h : f[i]? = some x) : app f i = x := by
  unfold app
  rw [List.getD_eq_getElem?_getD, h]; rfl
theorem IsP.lt {n : Nat} {f : List Nat} (h : IsP n f) {i : Nat} (hi : i < n) : app f i < n := h.mem.mp (List.mem_of_getElem? (app_get (by rw [h.len]; exact hi)))
theorem IsP.inj {n : Nat} {f : List Nat} (h : IsP n f) {i j : Nat} (hi : i < n) (hj : j < n) (e : app f i = app f j) : i = j := by
  have h1 := app_get (f := f) (i := i) (by rw [h.len]; exact hi)
  have h2 := app_get (f := f) (i := j) (by rw [h.len]; exact hj)
  rw [e] at h1
  exact nd_ix h.nd h1 h2
theorem IsP.surj {n : Nat} {f : List Nat} (h : IsP n f) {y : Nat} (hy : y < n) : ∃ i, i < n ∧ app f i = y := by
  obtain ⟨i, hi, e⟩ := List.mem_iff_getElem.mp (h.mem.mpr hy)
  exact ⟨i, by rw [← h.len]; exact hi, app_eq (by rw [List.getElem?_eq_getElem hi, e])⟩
/-- pigeons -/
theorem nodup_le : ∀ (n : Nat) (l : List Nat), l.Nodup → (∀ x ∈ l, x < n) → l.length ≤ n
  | 0, l, _, hb => by
    cases l with
    | nil => exact Nat.le_refl _
    | cons a r => exact absurd (hb a List.mem_cons_self) (Nat.not_lt_zero _)
  | n + 1, l, hn, hb => by
    by_cases hm : n ∈ l
    · have h1 := nodup_le n (l.erase n) (hn.erase n) fun x hx => by
        have h2 := (List.Nodup.mem_erase_iff hn).mp hx
        have h3 := hb x h2.2
        have h4 := h2.1
        omega
      rw [List.length_erase_of_mem hm] at h1
      omega
    · have h1 := nodup_le n l hn fun x hx => by
        have h3 := hb x hx
        have h4 : x ≠ n := fun z => hm (z ▸ hx)
        omega
      omega
/-- a list without repetition of so many numbers below n is a permutation -/
theorem perm_of {n : Nat} {l : List Nat} (hn : l.Nodup) (hb : ∀ x ∈ l, x < n) (hl : l.length = n) : IsP n l := by
  refine (List.perm_ext_iff_of_nodup hn List.nodup_range).mpr fun a => ?_
  rw [List.mem_range]
  refine ⟨hb a, fun ha => ?_⟩
  by_cases hm : a ∈ l
  · exact hm
  · have h1 := nodup_le n (a :: l) (List.nodup_cons.mpr ⟨hm, hn⟩) fun x hx => by
      rcases List.mem_cons.mp hx with rfl | hx
      · exact ha
      · exact hb x hx
    rw [List.length_cons] at h1
    omega
def comp (f g : List Nat) : List Nat := f.map (app g)
theorem app_comp {f g : List Nat} {i : Nat} (h : i < f.length) : app (comp f g) i = app g (app f i) := by
  refine app_eq ?_
  unfold comp
  rw [List.getElem?_map, app_get h]; rfl
theorem IsP.comp {n : Nat} {f g : List Nat} (hf : IsP n f) (hg : IsP n g) : IsP n (Rb.comp f g) := by
  refine perm_of ?_ ?_ (by unfold Rb.comp; rw [List.length_map, hf.len])
  · unfold Rb.comp
    refine List.pairwise_map.mpr ?_
    refine List.Pairwise.imp_of_mem ?_ hf.nd
    intro a b ha hb hne e
    exact hne (hg.inj (hf.mem.mp ha) (hf.mem.mp hb) e)
  · intro x hx
    unfold Rb.comp at hx
    obtain ⟨y, hy, rfl⟩ := List.mem_map.mp hx
    exact hg.lt (hf.mem.mp hy)
theorem isP_range (n : Nat) : IsP n (List.range n) := List.Perm.refl _
theorem app_range {n i : Nat} (h : i < n) : app (List.range n) i = i := app_eq (by rw [List.getElem?_range h])
/-- the way back -/
def inv (f : List Nat) : List Nat := (List.range f.length).map fun j => f.idxOf j
theorem inv_len (f : List Nat) : (inv f).length = f.length := by unfold inv; rw [List.length_map, List.length_range]
theorem app_inv {f : List Nat} {j : Nat} (h : j < f.length) : app (inv f) j = f.idxOf j := by
  refine app_eq ?_
  unfold inv
  rw [List.getElem?_map, List.getElem?_range h]; rfl
theorem idx_app {n : Nat} {f : List Nat} (h : IsP n f) {i : Nat} (hi : i < n) : f.idxOf (app f i) = i := by
  have h1 := app_get (f := f) (i := i) (by rw [h.len]; exact hi)
  have hm : app f i ∈ f := List.mem_of_getElem? h1
  have h2 : f[f.idxOf (app f i)]? = some (app f i) := by
    rw [List.getElem?_eq_getElem (List.idxOf_lt_length_of_mem hm)]
    rw [List.getElem_idxOf]
  exact nd_ix h.nd h2 h1
theorem inv_app {n : Nat} {f : List Nat} (h : IsP n f) {i : Nat} (hi : i < n) : app (inv f) (app f i) = i := by
  rw [app_inv (by rw [h.len]; exact h.lt hi), idx_app h hi]
theorem IsP.inv {n : Nat} {f : List Nat} (h : IsP n f) : IsP n (Rb.inv f) := by
  refine perm_of ?_ ?_ (by rw [inv_len, h.len])
  · unfold Rb.inv
    refine List.pairwise_map.mpr ?_
    refine List.Pairwise.imp_of_mem ?_ List.nodup_range
    intro a b ha hb hne e
    rw [List.mem_range, h.len] at ha hb
    obtain ⟨i, hi, rfl⟩ := h.surj ha
    obtain ⟨j, hj, rfl⟩ := h.surj hb
    rw [idx_app h hi, idx_app h hj] at e
    exact hne (by rw [e])
  · intro x hx
    unfold Rb.inv at hx
    obtain ⟨y, hy, rfl⟩ := List.mem_map.mp hx
    rw [List.mem_range, h.len] at hy
    obtain ⟨i, hi, rfl⟩ := h.surj hy
    rw [idx_app h hi]; exact hi
theorem app_inv_app {n : Nat} {f : List Nat} (h : IsP n f) {j : Nat} (hj : j < n) : app f (app (Rb.inv f) j) = j := by
  obtain ⟨i, hi, rfl⟩ := h.surj hj
  rw [inv_app h hi]
theorem ext_app {n : Nat} {f g : List Nat} (hf : f.length = n) (hg : g.length = n) (h : ∀ i, i < n → app f i = app g i) : f = g := by
  refine List.ext_getElem? fun i => ?_
  by_cases hi : i < n
  · rw [app_get (by omega), app_get (by omega), h i hi]
  · rw [List.getElem?_eq_none (by omega), List.getElem?_eq_none (by omega)]
/-! ### again and again -/
def it (f : List Nat) : Nat → Nat → Nat
  | 0, i => i
  | k + 1, i => app f (it f k i)
theorem it_lt {n : Nat} {f : List Nat} (h : IsP n f) {i : Nat} (hi : i < n) : ∀ k, it f k i < n
  | 0 => hi
  | k + 1 => h.lt (it_lt h hi k)
theorem it_add (f : List Nat) (i : Nat) : ∀ j k, it f (j + k) i = it f j (it f k i)
  | 0, k => by rw [Nat.zero_add]; rfl
  | j + 1, k => by
    rw [show j + 1 + k = (j + k) + 1 by omega]
    show app f (it f (j + k) i) = app f (it f j (it f k i))
    rw [it_add f i j k]
theorem it_inj {n : Nat} {f : List Nat} (h : IsP n f) {a b : Nat} (ha : a < n) (hb : b < n) : ∀ k, it f k a = it f k b → a = b
  | 0, e => e
  | k + 1, e => it_inj h ha hb k (h.inj (it_lt h ha k) (it_lt h hb k) e)
/-- the number m tells when all of S come home -/
def Ord (f : List Nat) (S : Nat → Prop) (m : Nat) : Prop := 0 < m ∧ ∀ k, (∀ i, S i → it f k i = i) ↔ m ∣ k
theorem Ord.uniq {f : List Nat} {S : Nat → Prop} {a b : Nat} (ha : Ord f S a) (hb : Ord f S b) : a = b :=
  Nat.dvd_antisymm ((ha.2 b).mp ((hb.2 b).mpr (Nat.dvd_refl b))) ((hb.2 a).mp ((ha.2 a).mpr (Nat.dvd_refl a)))
theorem ord_none (f : List Nat) : Ord f (fun _ => False) 1 := ⟨Nat.one_pos, fun k => ⟨fun _ => Nat.one_dvd k, fun _ i h => h.elim⟩⟩
theorem Ord.or {f : List Nat} {S R : Nat → Prop} {a b : Nat} (ha : Ord f S a) (hb : Ord f R b) : Ord f (fun i => S i ∨ R i) (Nat.lcm a b) := by
  refine ⟨Nat.lcm_pos ha.1 hb.1, fun k => ⟨fun h => ?_, fun h => ?_⟩⟩
  · exact Nat.lcm_dvd ((ha.2 k).mp fun i hi => h i (.inl hi)) ((hb.2 k).mp fun i hi => h i (.inr hi))
  · intro i hi
    rcases hi with hi | hi
    · exact (ha.2 k).mpr (Nat.dvd_trans (Nat.dvd_lcm_left a b) h) i hi
    · exact (hb.2 k).mpr (Nat.dvd_trans (Nat.dvd_lcm_right a b) h) i hi
theorem Ord.congr {f : List Nat} {S R : Nat → Prop} {a : Nat} (ha : Ord f S a) (h : ∀ i, S i ↔ R i) : Ord f R a :=
  ⟨ha.1, fun k => (forall_congr' fun i => by rw [h i]).symm.trans (ha.2 k)⟩
theorem it_mul {f : List Nat} {i p : Nat} (h : it f p i = i) : ∀ q, it f (p * q) i = i
  | 0 => rfl
  | q + 1 => by rw [Nat.mul_succ, it_add, h, it_mul h q]
/-- the first return is the period -/
theorem period {n : Nat} {f : List Nat} (hf : IsP n f) {s p : Nat} (hs : s < n) (hp : 0 < p) (h : it f p s = s) (hmin : ∀ j, 0 < j → j < p → it f j s ≠ s) : Ord f (fun i => i = s) p := by
  refine ⟨hp, fun k => ⟨fun hk => ?_, fun hk i hi => ?_⟩⟩
  · have hk' := hk s rfl
    have e : k = k % p + p * (k / p) := by rw [Nat.add_comm]; exact (Nat.div_add_mod k p).symm
    rw [e, it_add, it_mul h] at hk'
    rcases Nat.eq_zero_or_pos (k % p) with z | z
    · exact Nat.dvd_of_mod_eq_zero z
    · exact absurd hk' (hmin _ z (Nat.mod_lt _ hp))
  · subst hi
    obtain ⟨q, rfl⟩ := hk
    exact it_mul h q
/-- all of a circle come home with its start -/
theorem Ord.circle {n : Nat} {f : List Nat} (hf : IsP n f) {s p : Nat} (hs : s < n) (h : Ord f (fun i => i = s) p) : Ord f (fun i => ∃ j, i = it f j s) p := by
  refine ⟨h.1, fun k => ⟨fun hk => (h.2 k).mp fun i hi => ?_, fun hk i ⟨j, hj⟩ => ?_⟩⟩
  · rw [hi]; exact hk s ⟨0, rfl⟩
  · have h1 := (h.2 k).mpr hk s rfl
    rw [hj, ← it_add, Nat.add_comm, it_add, h1]
theorem lcm_eq (a b : Nat) (h : 0 < Nat.gcd a b) : a / Nat.gcd a b * b = Nat.lcm a b := by
  unfold Nat.lcm
  rw [Nat.mul_comm a b, Nat.mul_div_assoc b (Nat.gcd_dvd_left a b), Nat.mul_comm]
/-- the way back comes home as the way does -/
theorem it_inv {n : Nat} {f : List Nat} (hf : IsP n f) {i : Nat} (hi : i < n) : ∀ k, it (inv f) k (it f k i) = i
  | 0 => rfl
  | k + 1 => by
    have e : it f (k + 1) i = app f (it f k i) := rfl
    rw [show k + 1 = k + 1 from rfl, it_add (inv f) _ k 1, e]
    show it (inv f) k (app (inv f) (app f (it f k i))) = i
    rw [inv_app hf (it_lt hf hi k), it_inv hf hi k]
theorem Ord.inv {n : Nat} {f : List Nat} (hf : IsP n f) {m : Nat} (h : Ord f (fun i => i < n) m) : Ord (Rb.inv f) (fun i => i < n) m := by
  refine ⟨h.1, fun k => Iff.trans ⟨fun hk i hi => ?_, fun hk i hi => ?_⟩ (h.2 k)⟩
  · have h1 := it_inv hf hi k
    have h2 := hk (it f k i) (it_lt hf hi k)
    rw [h1] at h2
    exact h2.symm
  · have h1 := it_inv hf hi k
    rw [hk i hi] at h1
    exact h1
theorem it_congr {f g : List Nat} (h : ∀ i, app f i = app g i) (i : Nat) : ∀ k, it f k i = it g k i
  | 0 => rfl
  | k + 1 => by show app f _ = app g _; rw [it_congr h i k, h]
end
end Rb
namespace Rb
open PySem L2
section
variable {P : Program} {w : World} {K : PySem.W.Frag} {mg : Str → Option Value} {base : Heap}
theorem r_lc2 {wi : TI} {g : TG} {tt : TT} {wi1 : TI} {g1 : TG} {tt1 : TT} {te : TE} {vs vs1 : List Nat} {σ : L2.St} {H : Hp} {Q : VK} (h : wi σ H fun J H1 => ∀ D, H1 D = none → ∃ W : Nat → Nat → Hp → Prop, (∃ m, W 0 m (upd H1 D (.lst []))) ∧ ∀ i m H, W i m H →
  (J.stop i H ∧ Q (.ref D) H) ∨ (J.go i H ∧ ∃ Nx : Hp → Prop, (∀ H', Nx H' → ∃ m', m' < m ∧ W (i + 1) m' H') ∧ ∀ x H', J.yld i H x H' → g x (wipe σ vs) H' fun σ2 H2 => wipe σ2 vs = wipe σ vs ∧ tt σ2 H2 fun b H3 =>
    if b = true then wi1 σ2 H3 fun J1 H4 => ∃ W1 : Nat → Nat → Hp → Prop, (∃ m, W1 0 m H4) ∧ ∀ j k H, W1 j k H →
      (J1.stop j H ∧ Nx H) ∨ (J1.go j H ∧ ∃ Nx1 : Hp → Prop, (∀ H', Nx1 H' → ∃ k', k' < k ∧ W1 (j + 1) k' H') ∧ ∀ x H', J1.yld j H x H' → g1 x (wipe σ2 vs1) H' fun σ3 H5 => wipe σ3 vs1 = wipe σ2 vs1 ∧ tt1 σ3 H5 fun b H6 =>
        if b = true then te σ3 H6 fun y H7 => ∃ acc, H7 D = some (.lst acc) ∧ acc.length < sizeLine ∧ Nx1 (upd H7 D (.lst (acc ++ [y]))) else Nx1 H6)
    else Nx H3)) : tLc2 wi g tt wi1 g1 tt1 te vs vs1 σ H Q := h
def spLettersOver : Sp := fun vs H Q _ => ∃ (ds : List Nat), vs = [.str (tx ds)] ∧ ds.length ≤ 4 ∧ (∀ c ∈ ds, isLow c) ∧
  ∀ p H', H p = none → Same H H' → H' p = some (.tup (sgs (lets ds))) → Q (.ref p) H'
theorem ok_letters_over (T : Txt K mg) : FnOk P w K mg base CX0 1 T.a_letters_over T.d_letters_over ["deeds"] spLettersOver := by
  refine T.F_letters_over.ok sc_letters_over (fun vs H Q E h => ?_) (fun cdv A outer s H vs Q E hr h => ?_)
  · obtain ⟨ds, rfl, _⟩ := h
    rfl
  · obtain ⟨ds, rfl, hl, hlow, k⟩ := h
    refine ⟨_, (pss_one (ps_ret (pe_tupleOf (by rfl) T.n_tuple (pe_lc2 (own := [("deed", 1), ("letter", 2)]) (g := gName 1) (tt := tYes) (wi1 := iTup K (tTup (tCons (tVar 1) (tCons (tM0 rUpper (tVar 1)) tNil)))) (vs1 := [2]) (g1 := gName 2) (tt1 := tYes)  rfl sc_letters_over.nd (pi_str (pv 0)) (blkOk_by (own := [("deed", 1), ("letter", 2)]) (N := ["deeds", "deed", "letter"]) (sc := defScope st_letters_over) (by decide +kernel)) (by decide) (fun _ _ _ _ _ => (pg_name (i := 1) sc_letters_over.nd rfl (Or.inl rfl))) (fun _ _ _ _ _ => pts_nil) (fun _ _ _ _ _ => (pi_tup (pe_tup (pa_cons (pv 1) (pa_cons (pe_m0 PySem.F.slot_str_upper PySem.F.type_str_upper mt_upperR (pv 1)) pa_nil))))) (fun _ _ _ _ _ => (pg_name (i := 2) sc_letters_over.nd rfl (Or.inl rfl))) (fun _ _ _ _ _ => pts_nil) (fun _ _ _ _ _ => (pv 2)))))), ?_⟩
    walk_at "rd0"
    walk_at "rd"
    refine r_lc2 ?_
    walk_at "rd"
    refine ⟨_, rfl, fun D nD => ?_⟩
    refine walk_gen (B := fun Nx x H' => _) walk_str (fun i H' => H' D = some (.lst (sgs (lets (ds.take i)))) ∧ Same H H') ⟨upd_same, (Same.refl H).new nD⟩ (fun _ _ _ _ => trivial) ?_ ?_
    · intro i x H3 H4 hi hW hy
      obtain ⟨rfl, c, hc, rfl⟩ := hy
      obtain ⟨hD, s3⟩ := hW
      have hc' : ds[i]? = some c := by simpa using hc
      have hlow' : isLow c := hlow c (List.mem_of_getElem? hc')
      have hle : (lets (ds.take i)).length ≤ 8 := by
        rw [lets_len, List.length_take]; omega
      refine ⟨rfl, r_yes ?_⟩
      refine iteT ?_
      walk_at "rd"
      refine Rb.r_upper (by show 1 ≤ 5592405; decide) ?_
      rw [show (⟨#[c]⟩ : Str) = tx [c] from rfl, up_of (.inl hlow'), up_low hlow']
      walk_at "rd"
      refine ⟨sz_le (by show 2 ≤ 100000; decide), fun t nt => ?_⟩
      refine ⟨t, rfl, ⟨_, .inl (.inl upd_same)⟩, ?_⟩
      refine walk_gen (B := fun Nx x H' => _) (walk_tup (K := K) (xs := [V.str (tx [c]), V.str (tx [flip c])])) (fun j H' => H' D = some (.lst (sgs (lets (ds.take i) ++ [c, flip c].take j))) ∧ H' t = some (.tup [V.str (tx [c]), V.str (tx [flip c])]) ∧ Same H H')
        ⟨?_, upd_same, s3.new nt⟩ (fun _ _ _ h => .inl (.inl h.2.1)) ?_ ?_
      · rw [upd_ne (ne_of_none hD nt), hD]
        simp
      · intro j x H5 H6 hj hW hy
        obtain ⟨rfl, hx⟩ := hy
        obtain ⟨hD5, ht5, s5⟩ := hW
        have htD : t ≠ D := ne_of ht5 hD5 (by intro z; cases z)
        refine ⟨rfl, r_yes ?_⟩
        refine iteT ?_
        refine ⟨x, rfl, _, hD5, ?_, ?_, ?_, s5.mut nD⟩
        · rw [List.length_map, List.length_append]
          refine sz_lt ?_
          have := List.length_take_le j [c, flip c]
          simp at this
          rw [List.length_take]
          show _ + min j 2 < _
          omega
        · rw [upd_same]
          congr 2
          have : [c, flip c][j]? = some c ∧ x = V.str (tx [c]) ∨ [c, flip c][j]? = some (flip c) ∧ x = V.str (tx [flip c]) := by
            rcases j with _ | _ | j
            · left; exact ⟨rfl, (Option.some.inj hx).symm⟩
            · right; exact ⟨rfl, (Option.some.inj hx).symm⟩
            · simp at hx
          rcases this with ⟨e1, rfl⟩ | ⟨e1, rfl⟩
          · rw [take_snoc e1]; unfold sgs; simp only [List.map_append, List.append_assoc]; rfl
          · rw [take_snoc e1]; unfold sgs; simp only [List.map_append, List.append_assoc]; rfl
        · rw [upd_ne htD]; exact ht5
      · intro H5 hW
        obtain ⟨hD5, ht5, s5⟩ := hW
        refine ⟨?_, s5⟩
        rw [hD5, take_snoc hc']
        unfold lets
        rw [List.flatMap_append]
        rfl
    · intro H3 hW
      obtain ⟨hD, s3⟩ := hW
      rw [show (tx ds).cps.size = ds.length by simp, List.take_length] at hD
      refine .inl ⟨D, _, rfl, .inl (.inl hD), fun q nq => ?_⟩
      exact k q _ (s3.free nq) (s3.new nq) upd_same
theorem mem_over {ds : List Nat} (hd : ∀ c ∈ ds, isLow c) (c : Nat) : c ∈ (tx ds ++ tx (ds.map flip)).cps.toList ↔ c ∈ lets ds := by
  rw [tx_app, tx_tl, List.mem_append, lets_mem, List.mem_map]
  constructor
  · rintro (h | ⟨d, h, rfl⟩)
    · exact ⟨c, h, .inl rfl⟩
    · exact ⟨d, h, .inr rfl⟩
  · rintro ⟨d, h, rfl | rfl⟩
    · exact .inl h
    · exact .inr ⟨d, h, rfl⟩
/-- a row over deeds, or a thing that is none -/
def spRowOver (K : PySem.W.Frag) : Sp := fun vs H Q _ => ∃ (ds : List Nat) (x : V), vs = [.str (tx ds), x] ∧ Deeds ds ∧ ((∃ l, x = .str (tx l) ∧ Q (.bl (decide (∀ c ∈ l, c ∈ lets ds))) H) ∨ (NoStr K H x ∧ Q (.bl false) H))
theorem ok_is_row_over (T : Txt K mg) : FnOk P w K mg base CX0 2 T.a_is_row_over T.d_is_row_over ["deeds", "thing"] (spRowOver K) := by
  refine T.F_is_row_over.ok sc_is_row_over (fun vs H Q E h => ?_) (fun cdv A outer s H vs Q E hr h => ?_)
  · obtain ⟨ds, x, rfl, _⟩ := h
    rfl
  · obtain ⟨ds, x, rfl, hd, h⟩ := h
    refine ⟨_, (pss_one (ps_ret (pe_call (ok_is_string_of T) (hr.mono (by decide)) rfl T.g_is_string_of T.F_is_string_of.kp T.b_is_string_of .nil pass0 (pa_cons (pv 1) (pa_cons (pe_op op_add_strR (pv 0) (pe_m0 PySem.F.slot_str_upper PySem.F.type_str_upper mt_upperR (pv 0))) pa_nil))))), ?_⟩
    walk_at "rd0"
    walk_at "rd"
    refine Rb.r_upper (by rw [tx_len]; have := hd.le; omega) ?_
    rw [upper_low hd.low]
    refine Rb.r_addStr (by rw [tx_len, tx_len, List.length_map]; have := hd.le; exact sz_le (by omega)) ?_
    walk_at "rd"
    rcases h with ⟨l, rfl, k⟩ | ⟨hn, k⟩
    · refine ⟨_, _, rfl, .inl ⟨l, rfl, ?_⟩⟩
      have e : (∀ c ∈ l, c ∈ (tx ds ++ tx (ds.map flip)).cps.toList) ↔ ∀ c ∈ l, c ∈ lets ds := forall_congr' fun c => forall_congr' fun _ => mem_over hd.low c
      rw [decide_eq_decide.mpr e]
      exact k
    · exact ⟨_, _, rfl, .inr ⟨hn, k⟩⟩
/-- goes on for a row over the deeds, raises NoRow for all else -/
def spCheckRow (K : PySem.W.Frag) (C : Addr) : Sp := fun vs H Q E => ∃ (ds : List Nat) (x : V), vs = [.str (tx ds), x] ∧ Deeds ds ∧
  ((∃ l, x = .str (tx l) ∧ (∀ c ∈ l, c ∈ lets ds) ∧ Q .non H) ∨ (((∃ l, x = .str (tx l) ∧ ¬ ∀ c ∈ l, c ∈ lets ds) ∨ NoStr K H x) ∧ E (.ref C) none H))
theorem ok_check_row (T : Txt K mg) : FnOk P w K mg base (L2.CX P w) 3 T.a_check_row T.d_check_row ["deeds", "thing"] (spCheckRow K T.C_NoRow) := by
  refine T.F_check_row.okX sc_check_row (fun vs H Q E h => ?_) (fun cdv A outer s H vs Q E hr h => ?_)
  · obtain ⟨ds, x, rfl, _⟩ := h
    rfl
  · obtain ⟨ds, x, rfl, hd, h⟩ := h
    refine ⟨_, (pss_one (ps_if (pt_not (pt_val (pe_call (ok_is_row_over T) (hr.mono (by decide)) rfl T.g_is_row_over T.F_is_row_over.kp T.b_is_row_over .nil pass0 (pa_cons (pv 0) (pa_cons (pv 1) pa_nil))))) (pss_one (ps_raise rfl (takes_of rfl rfl rfl rfl) (pmk_own0 PySem.F.excBase_ValueError T.x_NoRow T.g_NoRow T.k_NoRow (raises_own T.xb_NoRow T.xt_NoRow) rfl))) pss_nil)), ?_⟩
    walk_at "rd0"
    walk_at "rd"
    rcases h with ⟨l, rfl, hl, k⟩ | ⟨hn, k⟩
    · refine ⟨ds, _, rfl, hd, .inl ⟨l, rfl, ?_⟩⟩
      rw [decide_eq_true hl]
      walk_at "rd"
      exact k
    · refine ⟨ds, x, rfl, hd, ?_⟩
      rcases hn with ⟨l, rfl, hl⟩ | hn
      · refine .inl ⟨l, rfl, ?_⟩
        rw [decide_eq_false hl]
        walk_at "rd"
        exact k
      · refine .inr ⟨hn, ?_⟩
        walk_at "rd"
        exact k
end
end Rb
namespace Rb
open PySem L2
section
variable {P : Program} {w : World} {K : PySem.W.Frag} {mg : Str → Option Value} {base : Heap}
/-! ### turns.py -/
theorem rgV_nT (n : Nat) : rgV 0 (n : Int) = nT (List.range n) := by
  unfold rgV nT
  rw [show ((n : Int) - 0).toNat = n by omega]
  refine List.map_congr_left fun a _ => ?_
  rw [show (0 : Int) + (a : Int) = (a : Int) by omega]
theorem nT_getD {l : List Nat} {i : Nat} (h : i < l.length) : (nT l).getD i .non = V.int ((app l i : Nat) : Int) := by
  rw [List.getD_eq_getElem?_getD, nT_get h, app_eq (List.getElem?_eq_getElem h)]; rfl
theorem nT_app {l : List Nat} {i : Nat} (h : i < l.length) : (nT l)[i]? = some (V.int ((app l i : Nat) : Int)) := by
  rw [nT_get h, app_eq (List.getElem?_eq_getElem h)]
theorem nT_len (l : List Nat) : (nT l).length = l.length := by unfold nT; rw [List.length_map]
def spStill : Sp := fun vs H Q _ => ∃ n : Nat, vs = [.int n] ∧ n ≤ 1000 ∧ ∀ p H', H p = none → Same H H' → H' p = some (.tup (nT (List.range n))) → Q (.ref p) H'
theorem ok_standing_still (T : Txt K mg) : FnOk P w K mg base CX0 1 T.a_standing_still T.d_standing_still ["size"] spStill := by
  refine T.F_standing_still.ok sc_standing_still (fun vs H Q E h => ?_) (fun cdv A outer s H vs Q E hr h => ?_)
  · obtain ⟨n, rfl, _⟩ := h
    rfl
  · obtain ⟨n, rfl, hn, k⟩ := h
    refine ⟨_, (pss_one (ps_ret (pe_tupleOf (by rfl) T.n_tuple (pe_listRg rfl (by rfl) T.n_list (prg_1 (by rfl) T.n_range (pv 0)))))), ?_⟩
    walk_at "rd0"
    walk_at "rd"
    refine ⟨⟨by omega, by omega, by omega, by omega, by omega⟩, fun q nq => ?_⟩
    refine .inl ⟨q, _, rfl, .inl (.inl upd_same), fun t nt => ?_⟩
    rw [rgV_nT] at nt ⊢
    exact k t _ (((Same.refl H).new nq).free nt) (((Same.refl H).new nq).new nt) upd_same
def spComposed (K : PySem.W.Frag) : Sp := fun vs H Q _ => ∃ (a b : Addr) (f g : List Nat), vs = [.ref a, .ref b] ∧ SqT K H a (nT f) ∧ SqT K H b (nT g) ∧ f.length ≤ 10000 ∧ (∀ x ∈ f, x < g.length) ∧
  ∀ p H', H p = none → Same H H' → H' p = some (.tup (nT (comp f g))) → Q (.ref p) H'
theorem ok_composed (T : Txt K mg) : FnOk P w K mg base CX0 1 T.a_composed T.d_composed ["first", "second"] (spComposed K) := by
  refine T.F_composed.ok sc_composed (fun vs H Q E h => ?_) (fun cdv A outer s H vs Q E hr h => ?_)
  · obtain ⟨a, b, f, g, rfl, _⟩ := h
    rfl
  · obtain ⟨a, b, f, g, rfl, ha, hb, hf, hg, k⟩ := h
    refine ⟨_, (pss_one (ps_ret (pe_tupleOf (by rfl) T.n_tuple (pe_lc (own := [("standing", 2)]) (g := gName 2) (tt := tYes) (te := tOp (rIxT K) (tVar 1) (tVar 2))  rfl sc_composed.nd (pi_tup (pv 0)) (blkOk_by (own := [("standing", 2)]) (N := ["first", "second", "standing"]) (sc := defScope st_composed) (by decide +kernel)) (fun _ _ _ _ _ => (pg_name (i := 2) sc_composed.nd rfl (Or.inl rfl))) (fun _ _ _ _ _ => pts_nil) (fun _ _ _ _ _ => (pe_ix ix_tup (pv 1) (pv 2) (fun _ _ => rfl))))))), ?_⟩
    walk_at "rd0"
    walk_at "rd"
    refine ⟨a, rfl, ⟨_, ha⟩, ?_⟩
    refine lc_det (M := M0) (J := fun _ => True) (walk_tup (xs := nT f)) _ yat (fun _ => true) (fun i => .int ((app g (app f i) : Nat) : Int)) (fun H' f' _ => tup_same f'.same ha) trivial (fun _ _ _ _ _ => trivial) (fun _ _ => id) (by rw [nT_len]; omega) ?_ ?_ ?_
    · exact fun i H' hi f _ R r => r _ (FrM.refl _ _) trivial
    · intro i H' hi _ f' _ R r
      rw [nT_len] at hi
      rw [nT_getD hi]
      walk_at "rd"
      refine Rb.r_ixT (tup_same f'.same hb) (atI_of (j := app f i) rfl (nT_app (hg _ (List.mem_of_getElem? (app_get hi))))) ?_
      exact r _ (FrM.refl _ _) trivial
    intro D H2 nD f2 _ h2
    refine .inl ⟨D, _, rfl, .inl (.inl h2), fun t nt => ?_⟩
    refine k t _ (f2.same.free nt) (f2.same.new nt) ?_
    rw [upd_same, nT_len, List.filter_eq_self.mpr (fun _ _ => rfl)]
    congr 2
    refine List.ext_getElem? fun i => ?_
    unfold comp nT
    rw [List.getElem?_map, List.getElem?_map, List.getElem?_map]
    by_cases hi : i < f.length
    · rw [List.getElem?_range hi, app_get hi]; rfl
    · rw [List.getElem?_eq_none (by rw [List.length_range]; omega), List.getElem?_eq_none (by omega)]; rfl
def spBack (K : PySem.W.Frag) : Sp := fun vs H Q _ => ∃ (a : Addr) (f : List Nat) (n : Nat), vs = [.ref a] ∧ SqT K H a (nT f) ∧ IsP n f ∧ n ≤ 10000 ∧
  ∀ p H', H p = none → Same H H' → H' p = some (.tup (nT (inv f))) → Q (.ref p) H'
theorem app_set {l : List Nat} {i x j : Nat} (hi : i < l.length) : app (l.set i x) j = if j = i then x else app l j := by
  unfold app
  rw [List.getD_eq_getElem?_getD, List.getD_eq_getElem?_getD, List.getElem?_set]
  by_cases e : i = j
  · subst e
    rw [if_pos rfl, if_pos hi, if_pos rfl]; rfl
  · rw [if_neg e, if_neg (fun z => e z.symm)]
theorem ok_turned_back (T : Txt K mg) : FnOk P w K mg base CX0 1 T.a_turned_back T.d_turned_back ["move"] (spBack K) := by
  refine T.F_turned_back.ok sc_turned_back (fun vs H Q E h => ?_) (fun cdv A outer s H vs Q E hr h => ?_)
  · obtain ⟨a, f, n, rfl, _⟩ := h
    rfl
  · obtain ⟨a, f, n, rfl, ha, hf, hn, k⟩ := h
    have hl := hf.len
    refine ⟨_, (pss_cons (ps_setLc (i := 1) (own := [("standing", 2)]) (g := gName 2) (tt := tYes)  rfl sc_turned_back.nd rfl rfl (sw_true rfl rfl rfl (by decide +kernel)) (pi_tup (pv 0)) (blkOk_by (own := [("standing", 2)]) (N := ["move", "found", "standing", "goal"]) (sc := defScope st_turned_back) (by decide +kernel)) (fun _ _ _ _ _ => (pg_name (i := 2) sc_turned_back.nd rfl (Or.inl rfl))) (fun _ _ _ _ _ => pts_nil) (fun _ _ _ _ _ => pe_int))
      (pss_cons (ps_for PassesOwn.never rfl (pi_enumT (by rfl) T.n_enumerate (pa_cons (pv 0) pa_nil)) (pg_tup rfl (pgs_cons (pg_name (i := 2) sc_turned_back.nd rfl (Or.inl rfl)) (pgs_cons (pg_name (i := 3) sc_turned_back.nd rfl (Or.inl rfl)) pgs_nil))) (pss_one (ps_asg (pv 2) (pg_sub (pv 1) (pv 3) set_list))))
      (pss_one (ps_ret (pe_tupleOf (by rfl) T.n_tuple (pv 1)))))), ?_⟩
    walk_at "rd0"
    walk_at "rd"
    refine ⟨a, rfl, ⟨_, ha⟩, ?_⟩
    refine lc_det (M := M0) (J := fun _ => True) (walk_tup (xs := nT f)) _ yat (fun _ => true) (fun i => .int ((0 : Nat) : Int)) (fun H' f' _ => tup_same f'.same ha) trivial (fun _ _ _ _ _ => trivial) (fun _ _ => id) (by rw [nT_len]; omega) ?_ ?_ ?_
    · exact fun i H' hi f _ R r => r _ (FrM.refl _ _) trivial
    · intro i H' hi _ f' _ R r
      walk_at "rd"
      exact r _ (FrM.refl _ _) trivial
    intro D H2 nD f2 _ h2
    have hD : H2 D = some (.lst (nT (List.replicate n 0))) := by
      rw [h2, nT_len, List.filter_eq_self.mpr (fun _ _ => rfl), hl]
      congr 2
      unfold nT
      rw [List.map_const', List.length_range, List.map_replicate]
    clear h2
    have s2 := f2.same
    walk_at "rd"
    refine ⟨a, _, rfl, tup_same s2 ha, ?_⟩
    refine for_walk walk_enumG (fun i σ H' => ∃ (l : List Nat) (v w : Option V), σ = [some (.ref a), some (.ref D), v, w] ∧ Same H H' ∧ H' D = some (.lst (nT l)) ∧ l.length = n ∧ ∀ j, j < n → app l j = if f.idxOf j < i then f.idxOf j else 0)
      ⟨List.replicate n 0, none, none, rfl, s2, hD, List.length_replicate, fun j hj => ?_⟩ (fun i σ H' _ h => by obtain ⟨_, _, _, _, s3, _⟩ := h; exact tup_same s3 ha) ?_ ?_
    · rw [if_neg (Nat.not_lt_zero _)]
      exact app_eq (List.getElem?_replicate_of_lt hj)
    · intro i x σ H3 H4 hi hW hy
      obtain ⟨l, v, w', rfl, s3, h3, hll, happ⟩ := hW
      obtain ⟨t, x1, x2, rfl, nt, rfl, e1, e2⟩ := hy
      rw [nT_len] at hi
      have e1' := Option.some.inj e1
      have e2' : x2 = V.int ((app f i : Nat) : Int) := by
        have e3 : (nT f)[i]? = some x2 := e2
        rw [nT_app hi] at e3
        exact (Option.some.inj e3).symm
      subst e1' e2'
      have hi' : i < n := by omega
      have hlt := hf.lt hi'
      have nDt : D ≠ t := ne_of_none h3 nt
      refine ⟨t, _, rfl, .inl (.inl upd_same), rfl, _, _, rfl, ?_⟩
      walk_at "rd"
      refine ⟨_, _, rfl, ?_⟩
      walk_at "rd"
      refine ⟨rfl, ?_⟩
      walk_at "rd"
      refine Rb.r_setL (xs := nT l) (j := app f i) (by rw [upd_ne nDt]; exact h3) (ixN_eq rfl (by rw [nT_len]; omega)) ?_
      refine ⟨l.set (app f i) i, _, _, rfl, (s3.new nt).mut nD, ?_, by rw [List.length_set]; exact hll, fun j hj => ?_⟩
      · rw [upd_same]
        unfold nT
        rw [List.map_set]
      · rw [app_set (by omega)]
        by_cases e : j = app f i
        · subst e
          rw [if_pos rfl, idx_app hf hi', if_pos (Nat.lt_succ_self i)]
        · rw [if_neg e, happ j hj]
          have hne : f.idxOf j ≠ i := by
            intro z
            obtain ⟨i2, h2, e3⟩ := hf.surj hj
            rw [← e3, idx_app hf h2] at z
            exact e (by rw [← e3, z])
          by_cases h5 : f.idxOf j < i
          · rw [if_pos h5, if_pos (by omega)]
          · rw [if_neg h5, if_neg (by omega)]
    · intro σ H3 hW
      obtain ⟨l, v, w', rfl, s3, h3, hll, happ⟩ := hW
      rw [nT_len] at happ
      walk_at "rd"
      refine .inl ⟨D, _, rfl, .inl (.inl h3), fun t nt => ?_⟩
      have e : l = inv f := by
        refine ext_app hll (by rw [inv_len, hl]) fun j hj => ?_
        rw [happ j hj, app_inv (by omega), if_pos]
        obtain ⟨i2, h2, e3⟩ := hf.surj hj
        rw [← e3, idx_app hf h2]; omega
      subst e
      exact k t _ (s3.free nt) (s3.new nt) upd_same
def spGcd : Sp := fun vs H Q _ => ∃ a b : Nat, vs = [.int a, .int b] ∧ Q (.int ((Nat.gcd a b : Nat) : Int)) H
theorem ok_greatest_divisor (T : Txt K mg) : FnOk P w K mg base CX0 1 T.a_greatest_divisor T.d_greatest_divisor ["one", "other"] spGcd := by
  refine T.F_greatest_divisor.ok sc_greatest_divisor (fun vs H Q E h => ?_) (fun cdv A outer s H vs Q E hr h => ?_)
  · obtain ⟨a, b, rfl, _⟩ := h
    rfl
  · obtain ⟨a, b, rfl, k⟩ := h
    refine ⟨_, (pss_cons (ps_while PassesOwn.never (pt_cmpR op_gt (pv 1) pe_int (nomark _)) (pss_one (ps_par (i := 0) (j := 1) (by rfl) sc_greatest_divisor.nd rfl rfl (by decide) rfl rfl (pa_cons (pv 1) (pa_cons (pe_op op_modN (pv 0) (pv 1)) pa_nil)) (by rfl))))
      (pss_one (ps_ret (pv 0)))), ?_⟩
    walk_at "rd0"
    walk_at "rd"
    refine ⟨fun m σ H' => ∃ x : Nat, σ = [some (.int x), some (.int m)] ∧ Nat.gcd x m = Nat.gcd a b ∧ H' = H, ⟨b, a, rfl, rfl, rfl⟩, fun m σ H' hW => ?_⟩
    obtain ⟨x, rfl, hg, rfl⟩ := hW
    walk_at "rd"
    refine ite2 (fun e => ?_) (fun e => ?_)
    · have hm : 0 < m := by have := of_decide_eq_true e; omega
      refine ⟨fun σ' H' => ∃ m', m' < m ∧ ∃ x : Nat, σ' = [some (.int x), some (.int m')] ∧ Nat.gcd x m' = Nat.gcd a b ∧ H' = _, fun _ _ h => h, ?_⟩
      walk_at "rd"
      refine Rb.r_i1 (by omega) ?_
      walk_at "rd"
      refine ⟨x % m, Nat.mod_lt _ hm, m, ?_, ?_, rfl⟩
      · have e2 : ((x : Int)).fmod (m : Int) = ((x % m : Nat) : Int) := by
          rw [Int.fmod_eq_emod_of_nonneg _ (by omega)]
          rfl
        rw [e2]; rfl
      · rw [← hg, Nat.gcd_comm x m, Nat.gcd_comm m (x % m)]
        exact (Nat.gcd_rec m x).symm
    · have hm : m = 0 := by
        have : ¬ (0 : Int) < (m : Int) := by simpa using e
        omega
      subst hm
      walk_at "rd"
      rw [Nat.gcd_zero_right] at hg
      rw [hg]
      exact k
end
end Rb
namespace Rb
open PySem L2
section
variable {P : Program} {w : World} {K : PySem.W.Frag} {mg : Str → Option Value} {base : Heap}
/-! ### circles -/
def orb (f : List Nat) (s j : Nat) : List Nat := (List.range j).map fun k => it f k s
theorem orb_mem {f : List Nat} {s j x : Nat} : x ∈ orb f s j ↔ ∃ k, k < j ∧ it f k s = x := by
  unfold orb
  rw [List.mem_map]
  constructor
  · rintro ⟨k, hk, e⟩; exact ⟨k, List.mem_range.mp hk, e⟩
  · rintro ⟨k, hk, e⟩; exact ⟨k, List.mem_range.mpr hk, e⟩
theorem orb_succ (f : List Nat) (s j : Nat) : orb f s (j + 1) = orb f s j ++ [it f j s] := by
  unfold orb
  rw [List.range_succ, List.map_append]; rfl
theorem orb_len (f : List Nat) (s j : Nat) : (orb f s j).length = j := by unfold orb; rw [List.length_map, List.length_range]
theorem nd_snoc' {l : List Nat} {x : Nat} (h : l.Nodup) (hx : x ∉ l) : (l ++ [x]).Nodup := nd_snoc h hx
def CircOk (n : Nat) (f l : List Nat) : Prop := ∃ s p, s < n ∧ 0 < p ∧ l = orb f s p ∧ it f p s = s ∧ Ord f (fun i => i = s) p
theorem CircOk.back {n : Nat} {f l : List Nat} (hf : IsP n f) (h : CircOk n f l) {y j : Nat} (hy : y < n) (hm : it f j y ∈ l) : y ∈ l := by
  obtain ⟨s, p, hs, hp, rfl, hret, _⟩ := h
  obtain ⟨a, ha, e⟩ := orb_mem.mp hm
  have h1 : it f (j + (a + p * j - j)) s = it f j y := by
    have h2 : j + (a + p * j - j) = a + p * j := by
      have : j ≤ p * j := Nat.le_mul_of_pos_left j hp
      omega
    rw [h2, it_add, it_mul hret, e]
  rw [it_add] at h1
  have h3 := it_inj hf (it_lt hf hs _) hy j h1
  -- any number of turns from s stays in the circle
  rw [← h3]
  generalize a + p * j - j = b
  have e2 : b = b % p + p * (b / p) := by rw [Nat.add_comm]; exact (Nat.div_add_mod b p).symm
  rw [e2, it_add, it_mul hret]
  exact orb_mem.mpr ⟨_, Nat.mod_lt _ hp, rfl⟩
theorem CircOk.ord {n : Nat} {f l : List Nat} (hf : IsP n f) (h : CircOk n f l) : Ord f (fun i => i ∈ l) l.length := by
  obtain ⟨s, p, hs, hp, rfl, hret, ho⟩ := h
  rw [orb_len]
  refine (ho.circle hf hs).congr fun i => ?_
  rw [orb_mem]
  constructor
  · rintro ⟨j, rfl⟩
    have e2 : j = j % p + p * (j / p) := by rw [Nat.add_comm]; exact (Nat.div_add_mod j p).symm
    refine ⟨j % p, Nat.mod_lt _ hp, ?_⟩
    rw (occs := .pos [2]) [e2]
    rw [it_add, it_mul hret]
  · rintro ⟨k, _, rfl⟩; exact ⟨k, rfl⟩
theorem CircOk.nd {n : Nat} {f l : List Nat} (hf : IsP n f) (h : CircOk n f l) : l.Nodup := by
  obtain ⟨s, p, hs, hp, rfl, hret, ho⟩ := h
  unfold orb
  refine List.pairwise_map.mpr (List.Pairwise.imp_of_mem ?_ List.pairwise_lt_range)
  intro a b ha hb hlt e
  rw [List.mem_range] at ha hb
  have h1 : it f a (it f (b - a) s) = it f a s := by rw [← it_add, show a + (b - a) = b by omega]; exact e.symm
  have h2 := it_inj hf (it_lt hf hs _) hs a h1
  have h3 := (ho.2 (b - a)).mp fun i hi => by rw [hi]; exact h2
  have h4 := Nat.le_of_dvd (by omega) h3
  omega
/-- where the walk comes to a known place, it is its start -/
theorem circ_end {n : Nat} {f : List Nat} (hf : IsP n f) {s j : Nat} (hs : s < n) (hj : 0 < j) (nd : (orb f s j).Nodup) {cl : List (List Nat)} (hcl : ∀ l ∈ cl, CircOk n f l) (hno : ∀ l ∈ cl, s ∉ l)
    (he : (∃ l ∈ cl, it f j s ∈ l) ∨ it f j s ∈ orb f s j) : CircOk n f (orb f s j) := by
  have hin : it f j s ∈ orb f s j := by
    rcases he with ⟨l, hl, hm⟩ | h
    · exact absurd ((hcl l hl).back hf hs hm) (hno l hl)
    · exact h
  obtain ⟨a, ha, e⟩ := orb_mem.mp hin
  have e1 : it f (j - a) s = s := by
    have h1 : it f a (it f (j - a) s) = it f a s := by rw [← it_add, show a + (j - a) = j by omega, e]
    exact it_inj hf (it_lt hf hs _) hs a h1
  have dist : ∀ b, 0 < b → b < j → it f b s ≠ s := fun b hb hbj z => by
    have g1 : (orb f s j)[b]? = some s := by
      unfold orb
      rw [List.getElem?_map, List.getElem?_range hbj]
      show some (it f b s) = _
      rw [z]
    have g2 : (orb f s j)[0]? = some s := by
      unfold orb
      rw [List.getElem?_map, List.getElem?_range hj]; rfl
    have := nd_ix nd g1 g2
    omega
  have ha0 : a = 0 := by
    rcases Nat.eq_zero_or_pos a with z | z
    · exact z
    · exact absurd e1 (dist (j - a) (by omega) (by omega))
  subst ha0
  have hret : it f j s = s := e.symm
  exact ⟨s, j, hs, hj, rfl, hret, period hf hs hj hret dist⟩
abbrev bT (l : List Bool) : List V := l.map V.bl
def flag (b : List Bool) (j : Nat) : Bool := b.getD j false
theorem bT_get {b : List Bool} {j : Nat} (h : j < b.length) : (bT b)[j]? = some (V.bl (flag b j)) := by
  unfold flag
  rw [List.getElem?_map, List.getD_eq_getElem?_getD, List.getElem?_eq_getElem h]; rfl
theorem flag_set {b : List Bool} {i j : Nat} (hi : i < b.length) : flag (b.set i true) j = (flag b j || decide (j = i)) := by
  unfold flag
  rw [List.getD_eq_getElem?_getD, List.getD_eq_getElem?_getD, List.getElem?_set]
  by_cases e : i = j
  · subst e
    rw [if_pos rfl, if_pos hi]; simp
  · rw [if_neg e]
    have : ¬ j = i := fun z => e z.symm
    simp [this]
theorem walk_range0 {n : Nat} : Walk (Itr 0 n) n (fun _ => True) (YFn fun i => .int (i : Nat)) :=
  ⟨fun _ _ hi _ => hi, fun _ _ => Nat.le_refl _, fun i H x H' _ _ y => ⟨y.1, by rw [y.2]; congr 1; omega⟩⟩
def spCircles (K : PySem.W.Frag) : Sp := fun vs H Q _ => ∃ (a : Addr) (f : List Nat) (n : Nat), vs = [.ref a] ∧ SqT K H a (nT f) ∧ IsP n f ∧ n ≤ 10000 ∧
  ∀ p H' (cs : List Addr) (cl : List (List Nat)), H p = none → Same H H' → H' p = some (.lst (cs.map V.ref)) → cs.length = cl.length → (∀ (k : Nat) c l, cs[k]? = some c → cl[k]? = some l → H' c = some (.lst (nT l))) →
    (∀ l ∈ cl, CircOk n f l) → (∀ j, j < n → ∃ l ∈ cl, j ∈ l) → cl.length ≤ n → Q (.ref p) H'
theorem ok_circles_of (T : Txt K mg) : FnOk P w K mg base CX0 1 T.a_circles_of T.d_circles_of ["move"] (spCircles K) := by
  refine T.F_circles_of.ok sc_circles_of (fun vs H Q E h => ?_) (fun cdv A outer s H vs Q E hr h => ?_)
  · obtain ⟨a, f, n, rfl, _⟩ := h
    rfl
  · obtain ⟨a, f, n, rfl, ha, hf, hn, k⟩ := h
    have hl := hf.len
    refine ⟨_, (pss_cons (ps_setLc (i := 1) (own := [("standing", 5)]) (g := gName 5) (tt := tYes)  rfl sc_circles_of.nd rfl rfl (sw_true rfl rfl rfl (by decide +kernel)) (pi_tup (pv 0)) (blkOk_by (own := [("standing", 5)]) (N := ["move", "known", "found", "start", "circle", "standing"]) (sc := defScope st_circles_of) (by decide +kernel)) (fun _ _ _ _ _ => (pg_name (i := 5) sc_circles_of.nd rfl (Or.inl rfl))) (fun _ _ _ _ _ => pts_nil) (fun _ _ _ _ _ => pe_bl))
      (pss_cons (ps_set (i := 2) sc_circles_of.nd rfl (Or.inl rfl) (pe_lst pa_nil))
      (pss_cons (ps_for PassesOwn.never rfl (pi_range1 rfl T.n_range (pa_cons (pe_callB call_lenR (by rfl) T.n_len (by decide +kernel) (pa_cons (pv 0) pa_nil)) pa_nil)) (pg_name (i := 3) sc_circles_of.nd rfl (Or.inl rfl)) (pss_cons (ps_set (i := 4) sc_circles_of.nd rfl (Or.inl rfl) (pe_lst pa_nil))
      (pss_cons (ps_set (i := 5) sc_circles_of.nd rfl (Or.inl rfl) (pv 3))
      (pss_cons (ps_while PassesOwn.never (pt_not (pt_val (pe_ix ix_list (pv 1) (pv 5) (fun _ _ => rfl)))) (pss_cons (ps_asg pe_bl (pg_sub (pv 1) (pv 5) set_list))
      (pss_cons (ps_expr (pe_bm PySem.F.plainAttrs_list PySem.F.slot_list_append PySem.F.type_list_append mt_append (pv 4) (pa_cons (pv 5) pa_nil)))
      (pss_one (ps_set (i := 5) sc_circles_of.nd rfl (Or.inl rfl) (pe_ix ix_tup (pv 0) (pv 5) (fun _ _ => rfl)))))))
      (pss_one (ps_if (pt_truthR (pv 4) (by intro _; rfl)) (pss_one (ps_expr (pe_bm PySem.F.plainAttrs_list PySem.F.slot_list_append PySem.F.type_list_append mt_append (pv 2) (pa_cons (pv 4) pa_nil)))) pss_nil))))))
      (pss_one (ps_ret (pv 2)))))), ?_⟩
    walk_at "rd0"
    walk_at "rd"
    refine ⟨a, rfl, ⟨_, ha⟩, ?_⟩
    refine lc_det (M := M0) (J := fun _ => True) (walk_tup (xs := nT f)) _ yat (fun _ => true) (fun i => .bl false) (fun H' f' _ => tup_same f'.same ha) trivial (fun _ _ _ _ _ => trivial) (fun _ _ => id) (by rw [nT_len]; omega) ?_ ?_ ?_
    · exact fun i H' hi f _ R r => r _ (FrM.refl _ _) trivial
    · intro i H' hi _ f' _ R r
      walk_at "rd"
      exact r _ (FrM.refl _ _) trivial
    intro D H2 nD f2 _ h2
    have hD : H2 D = some (.lst (bT (List.replicate n false))) := by
      rw [h2, nT_len, List.filter_eq_self.mpr (fun _ _ => rfl), hl]
      congr 2
      unfold bT
      rw [List.map_const', List.length_range, List.map_replicate]
    clear h2
    have s2 := f2.same
    walk_at "rd"
    refine ⟨sz_le (by show 0 ≤ 100000; decide), fun F nF => ?_⟩
    have nDF : D ≠ F := ne_of_none hD nF
    have nFH := s2.free nF
    walk_at "rd"
    refine Rb.r_lenT (tup_same (s2.new nF) ha) ?_
    walk_at "rd"
    rw [nT_len, hl]
    refine ⟨_, rfl, by omega, by omega, ?_⟩
    refine for_walk walk_range0 (fun i σ H' => ∃ (b : List Bool) (cl : List (List Nat)) (cs : List Addr) (v3 v4 v5 : Option V), σ = [some (.ref a), some (.ref D), some (.ref F), v3, v4, v5] ∧ Same H H' ∧ H' D = some (.lst (bT b)) ∧ b.length = n ∧ H' F = some (.lst (cs.map V.ref)) ∧ cs.length = cl.length ∧
        (∀ (k : Nat) c l, cs[k]? = some c → cl[k]? = some l → H' c = some (.lst (nT l)) ∧ c ≠ D ∧ c ≠ F) ∧ (∀ l ∈ cl, CircOk n f l) ∧ (∀ j, flag b j = true ↔ ∃ l ∈ cl, j ∈ l) ∧ (∀ j, j < i → flag b j = true) ∧ cl.length ≤ i)
      ⟨List.replicate n false, [], [], none, none, none, rfl, s2.new nF, by rw [upd_ne nDF]; exact hD, List.length_replicate, upd_same, rfl, fun k c l e => (by simp at e), fun l hm => (by cases hm), fun j => ?_, fun j hj => absurd hj (Nat.not_lt_zero _), Nat.le_refl _⟩ (fun _ _ _ _ _ => trivial) ?_ ?_
    · constructor
      · intro e
        unfold flag at e
        rw [List.getD_eq_getElem?_getD, List.getElem?_replicate] at e
        split at e <;> cases e
      · rintro ⟨l, hl', _⟩; cases hl'
    · intro i x σ H3 H4 hi hW hy
      obtain ⟨rfl, rfl⟩ := hy
      obtain ⟨b, cl, cs, v3, v4, v5, rfl, s3, h3D, hbl, h3F, hcc, h3c, hok, hfl, hdone, hclen⟩ := hW
      walk_at "rd"
      refine ⟨sz_le (by show 0 ≤ 100000; decide), fun c nc => ?_⟩
      have ncD : c ≠ D := (ne_of_none h3D nc).symm
      have ncF : c ≠ F := (ne_of_none h3F nc).symm
      have ncH := s3.free nc
      walk_at "rd"
      -- the walk round
      refine ⟨fun m σ H' => ∃ (j : Nat) (b' : List Bool), m = n - j ∧ j ≤ n ∧ σ = [some (.ref a), some (.ref D), some (.ref F), some (.int i), some (.ref c), some (.int (it f j i))] ∧ Same H H' ∧ H' D = some (.lst (bT b')) ∧ b'.length = n ∧ H' F = some (.lst (cs.map V.ref)) ∧ H' c = some (.lst (nT (orb f i j))) ∧
          (∀ (k : Nat) c' l, cs[k]? = some c' → cl[k]? = some l → H' c' = some (.lst (nT l)) ∧ c' ≠ D ∧ c' ≠ F ∧ c' ≠ c) ∧ (orb f i j).Nodup ∧ (∀ x, x ∈ orb f i j → flag b x = false) ∧ (∀ x, flag b' x = true ↔ flag b x = true ∨ x ∈ orb f i j),
        ⟨n, 0, b, rfl, Nat.zero_le _, rfl, s3.new nc, by rw [upd_ne (ne_of_none h3D nc)]; exact h3D, hbl, by rw [upd_ne (ne_of_none h3F nc)]; exact h3F, upd_same, ?_, List.nodup_nil, fun x hx => (by cases hx), fun x => ⟨.inl, fun h => h.elim id fun z => (by cases z)⟩⟩, ?_⟩
      · intro k c' l e1 e2
        obtain ⟨q1, q2, q3⟩ := h3c k c' l e1 e2
        exact ⟨by rw [upd_ne (ne_of_none q1 nc)]; exact q1, q2, q3, ne_of_none q1 nc⟩
      · rintro m σ H5 ⟨j, b', rfl, hjn, rfl, s5, h5D, hbl5, h5F, h5c, h5o, nd, hfresh, hfl5⟩
        have hlt := it_lt hf hi j
        walk_at "rd"
        refine Rb.r_ixL h5D (atI_of (j := it f j i) rfl (bT_get (by omega))) ?_
        walk_at "rd"
        cases e : flag b' (it f j i) with
        | false =>
          walk_at "rd"
          refine ⟨fun σ' H' => ∃ m', m' < n - j ∧ _, fun _ _ h => h, ?_⟩
          walk_at "rd"
          refine Rb.r_setL h5D (ixN_eq rfl (by rw [List.length_map]; omega)) ?_
          walk_at "rd"
          have h6c : (upd H5 D (.lst ((bT b').set (it f j i) (V.bl true)))) c = some (.lst (nT (orb f i j))) := by rw [upd_ne ncD]; exact h5c
          refine ⟨tyV_list h6c, ?_⟩
          walk_at "rd"
          refine Rb.r_append h6c (by rw [nT_len, orb_len]; exact sz_lt (by omega)) ?_
          walk_at "rd"
          refine Rb.r_ixT (tup_same ((s5.mut nD).mut ncH) ha) (atI_of (j := it f j i) rfl (nT_app (by omega))) ?_
          have hnot : it f j i ∉ orb f i j := fun z => by
            have := (hfl5 _).mpr (.inr z)
            rw [e] at this; cases this
          have hnb : flag b (it f j i) = false := by
            cases e2 : flag b (it f j i) with
            | false => rfl
            | true =>
              have := (hfl5 _).mpr (.inl e2)
              rw [e] at this; cases this
          have nd' : (orb f i (j + 1)).Nodup := by rw [orb_succ]; exact nd_snoc' nd hnot
          have hj1 : j + 1 ≤ n := by
            have := nodup_le n (orb f i (j + 1)) nd' fun x hx => by
              obtain ⟨k, _, rfl⟩ := orb_mem.mp hx
              exact it_lt hf hi k
            rw [orb_len] at this; exact this
          refine ⟨n - (j + 1), by omega, j + 1, b'.set (it f j i) true, rfl, hj1, rfl, (s5.mut nD).mut ncH, ?_, by rw [List.length_set]; exact hbl5, ?_, ?_, ?_, nd', ?_, ?_⟩
          · rw [upd_ne ncD.symm, upd_same]
            unfold bT
            rw [List.map_set]
          · rw [upd_ne ncF.symm, upd_ne nDF.symm]; exact h5F
          · rw [upd_same, orb_succ]
            unfold nT
            rw [List.map_append]; rfl
          · intro k c' l e1 e2
            obtain ⟨q1, q2, q3, q4⟩ := h5o k c' l e1 e2
            exact ⟨by rw [upd_ne q4, upd_ne q2]; exact q1, q2, q3, q4⟩
          · intro x hx
            rw [orb_succ] at hx
            rcases List.mem_append.mp hx with z | z
            · exact hfresh x z
            · rw [List.mem_singleton.mp z]; exact hnb
          · intro x
            rw [flag_set (by omega), orb_succ, List.mem_append, List.mem_singleton, Bool.or_eq_true, hfl5, decide_eq_true_eq, or_assoc]
        | true =>
          walk_at "rd"
          refine ⟨_, .inl ⟨_, .inl (.inl h5c), rfl⟩, ?_⟩
          by_cases hj0 : j = 0
          · subst hj0
            have e0 : (!(nT (orb f i 0)).isEmpty) = false := rfl
            rw [e0]
            walk_at "rd"
            refine ⟨b', cl, cs, _, _, _, rfl, s5, h5D, hbl5, h5F, hcc, fun k c' l e1 e2 => ⟨(h5o k c' l e1 e2).1, (h5o k c' l e1 e2).2.1, (h5o k c' l e1 e2).2.2.1⟩, hok, fun x => ?_, fun x hx => ?_, by omega⟩
            · rw [hfl5 x, ← hfl x]
              exact ⟨fun h => h.elim id fun z => (by cases z), .inl⟩
            · rcases Nat.lt_or_ge x i with z | z
              · exact (hfl5 x).mpr (.inl (hdone x z))
              · have : x = i := by omega
                subst this
                exact e
          · have e1 : (!(nT (orb f i j)).isEmpty) = true := by
              rw [Bool.not_eq_true', List.isEmpty_eq_false_iff]
              intro z
              have := congrArg List.length z
              rw [nT_len, orb_len] at this
              exact hj0 this
            rw [e1]
            have hsno : flag b i = false := hfresh i (orb_mem.mpr ⟨0, by omega, rfl⟩)
            have hno : ∀ l ∈ cl, i ∉ l := fun l hl' hm => by
              have := (hfl i).mpr ⟨l, hl', hm⟩
              rw [hsno] at this; cases this
            have hcirc : CircOk n f (orb f i j) := circ_end hf hi (by omega) nd hok hno (by
              rcases (hfl5 _).mp e with z | z
              · exact .inl ((hfl _).mp z)
              · exact .inr z)
            walk_at "rd"
            refine ⟨tyV_list h5F, ?_⟩
            walk_at "rd"
            refine Rb.r_append h5F (by rw [List.length_map, hcc]; exact sz_lt (by omega)) ?_
            refine ⟨b', cl ++ [orb f i j], cs ++ [c], _, _, _, rfl, s5.mut nFH, ?_, hbl5, ?_, by rw [List.length_append, List.length_append, hcc]; rfl, ?_, ?_, fun x => ?_, fun x hx => ?_, ?_⟩
            · rw [upd_ne nDF]; exact h5D
            · rw [upd_same, List.map_append]; rfl
            · intro k c' l g1 g2
              rcases Nat.lt_or_ge k cs.length with hk | hk
              · rw [List.getElem?_append_left hk] at g1
                rw [List.getElem?_append_left (by omega)] at g2
                obtain ⟨q1, q2, q3, q4⟩ := h5o k c' l g1 g2
                exact ⟨by rw [upd_ne q3]; exact q1, q2, q3⟩
              · rw [List.getElem?_append_right hk] at g1
                rw [List.getElem?_append_right (by omega)] at g2
                have hk0 : k - cs.length = 0 := by
                  rcases Nat.eq_zero_or_pos (k - cs.length) with z' | z'
                  · exact z'
                  · rw [List.getElem?_eq_none (by show 1 ≤ _; exact z')] at g1; cases g1
                rw [hk0] at g1
                rw [show k - cl.length = 0 by omega] at g2
                cases g1
                cases g2
                exact ⟨by rw [upd_ne ncF]; exact h5c, ncD, ncF⟩
            · intro l hl'
              rcases List.mem_append.mp hl' with z | z
              · exact hok l z
              · rw [List.mem_singleton.mp z]; exact hcirc
            · rw [hfl5 x, hfl x]
              constructor
              · rintro (⟨l, h1, h2⟩ | h)
                · exact ⟨l, List.mem_append_left _ h1, h2⟩
                · exact ⟨_, List.mem_append_right _ (List.mem_singleton.mpr rfl), h⟩
              · rintro ⟨l, h1, h2⟩
                rcases List.mem_append.mp h1 with z | z
                · exact .inl ⟨l, z, h2⟩
                · rw [List.mem_singleton.mp z] at h2; exact .inr h2
            · rcases Nat.lt_or_ge x i with z | z
              · exact (hfl5 x).mpr (.inl (hdone x z))
              · have : x = i := by omega
                subst this
                exact (hfl5 x).mpr (.inr (orb_mem.mpr ⟨0, by omega, rfl⟩))
            · rw [List.length_append]; show _ + 1 ≤ _; omega
    · intro σ H3 hW
      obtain ⟨b, cl, cs, v3, v4, v5, rfl, s3, h3D, hbl, h3F, hcc, h3c, hok, hfl, hdone, hclen⟩ := hW
      walk_at "rd"
      rw [Int.toNat_natCast] at hdone hclen
      exact k F H3 cs cl nFH s3 h3F hcc (fun k c l e1 e2 => (h3c k c l e1 e2).1) hok (fun j hj => (hfl j).mp (hdone j hj)) hclen
end
end Rb
namespace Rb
open PySem L2
section
variable {P : Program} {w : World} {K : PySem.W.Frag} {mg : Str → Option Value} {base : Heap}
def spOrderOf (K : PySem.W.Frag) : Sp := fun vs H Q _ => ∃ (a : Addr) (f : List Nat) (n : Nat), vs = [.ref a] ∧ SqT K H a (nT f) ∧ IsP n f ∧ n ≤ 10000 ∧
  ∀ (m : Nat) H', Ord f (fun i => i < n) m → Same H H' → Q (.int m) H'
theorem ok_order_of (T : Txt K mg) : FnOk P w K mg base CX0 2 T.a_order_of T.d_order_of ["move"] (spOrderOf K) := by
  refine T.F_order_of.ok sc_order_of (fun vs H Q E h => ?_) (fun cdv A outer s H vs Q E hr h => ?_)
  · obtain ⟨a, f, n, rfl, _⟩ := h
    rfl
  · obtain ⟨a, f, n, rfl, ha, hf, hn, k⟩ := h
    refine ⟨_, (pss_cons (ps_set (i := 1) sc_order_of.nd rfl (Or.inl rfl) pe_int)
      (pss_cons (ps_for PassesOwn.never rfl (pi_list (pe_call (ok_circles_of T) (hr.mono (by decide)) rfl T.g_circles_of T.F_circles_of.kp T.b_circles_of .nil pass0 (pa_cons (pv 0) pa_nil))) (pg_name (i := 2) sc_order_of.nd rfl (Or.inl rfl)) (pss_one (ps_set (i := 1) sc_order_of.nd rfl (Or.inl rfl) (pe_op op_mul (pe_op op_fdivN (pv 1) (pe_call (ok_greatest_divisor T) (hr.mono (by decide)) rfl T.g_greatest_divisor T.F_greatest_divisor.kp T.b_greatest_divisor .nil pass0 (pa_cons (pv 1) (pa_cons (pe_callB call_lenR (by rfl) T.n_len (by decide +kernel) (pa_cons (pv 2) pa_nil)) pa_nil)))) (pe_callB call_lenR (by rfl) T.n_len (by decide +kernel) (pa_cons (pv 2) pa_nil))))))
      (pss_one (ps_ret (pv 1))))), ?_⟩
    walk_at "rd0"
    walk_at "rd"
    refine ⟨a, f, n, rfl, ha, hf, hn, fun p H1 cs cl np s1 hp hcc hc hok hcov hcl => ?_⟩
    refine ⟨p, rfl, ⟨_, .inl (.inl hp)⟩, ?_⟩
    refine for_walk (walk_list (xs := cs.map V.ref)) (fun i σ H' => ∃ (m : Nat) (v : Option V), σ = [some (.ref a), some (.int m), v] ∧ H' = H1 ∧ Ord f (fun x => ∃ l ∈ cl.take i, x ∈ l) m)
      ⟨1, none, rfl, rfl, (ord_none f).congr fun i => ⟨fun h => h.elim, fun ⟨l, h, _⟩ => (by cases h)⟩⟩ (fun i σ H' _ h => by obtain ⟨_, _, _, rfl, _⟩ := h; exact .inl (.inl hp)) ?_ ?_
    · intro i x σ H3 H4 hi hW hy
      obtain ⟨rfl, hx⟩ := hy
      obtain ⟨m, v, rfl, rfl, ho⟩ := hW
      rw [List.length_map] at hi
      have hx' : cs[i]? = some cs[i] := List.getElem?_eq_getElem hi
      have exr : x = V.ref cs[i] := by
        rw [List.getElem?_map, hx'] at hx
        exact (Option.some.inj hx).symm
      subst exr
      have hl : cl[i]? = some cl[i] := List.getElem?_eq_getElem (by omega)
      have hci := hc i _ _ hx' hl
      have hol := (hok _ (List.mem_of_getElem? hl))
      have hord := hol.ord hf
      have hpos : 0 < cl[i].length := hord.1
      have hle : cl[i].length ≤ n := by
        obtain ⟨s, p', hs, hp', e, _, _⟩ := hol
        refine nodup_le n _ ?_ ?_
        · exact CircOk.nd hf (hok _ (List.mem_of_getElem? hl))
        · intro x hx
          rw [e] at hx
          obtain ⟨k, _, rfl⟩ := orb_mem.mp hx
          exact it_lt hf hs k
      walk_at "rd"
      refine Rb.r_lenL (.inl (.inl hci)) ?_
      rw [nT_len]
      walk_at "rd"
      refine ⟨m, cl[i].length, rfl, ?_⟩
      have hg : 0 < Nat.gcd m cl[i].length := Nat.gcd_pos_of_pos_right _ hpos
      have hg2 : Nat.gcd m cl[i].length ≤ cl[i].length := Nat.gcd_le_right _ hpos
      refine Rb.r_i1 ⟨by omega, by omega⟩ ?_
      walk_at "rd"
      refine Rb.r_lenL (.inl (.inl hci)) ?_
      rw [nT_len]
      refine Rb.r_i1 (.inr ⟨by omega, by omega⟩) ?_
      refine ⟨Nat.lcm m cl[i].length, some (V.ref cs[i]), ?_, rfl, (ho.or hord).congr fun x => ?_⟩
      · have e1 : ((m : Int)).fdiv ((Nat.gcd m cl[i].length : Nat) : Int) = ((m / Nat.gcd m cl[i].length : Nat) : Int) := by
          rw [Int.fdiv_eq_ediv_of_nonneg _ (by omega)]; rfl
        rw [e1, ← lcm_eq m cl[i].length hg]
        show _ = [_, some (V.int ((_ * _ : Nat) : Int)), _]
        rw [Int.natCast_mul]
        rfl
      · rw [take_snoc hl]
        constructor
        · rintro (⟨l, h1, h2⟩ | h)
          · exact ⟨l, List.mem_append_left _ h1, h2⟩
          · exact ⟨_, List.mem_append_right _ (List.mem_singleton.mpr rfl), h⟩
        · rintro ⟨l, h1, h2⟩
          rcases List.mem_append.mp h1 with z | z
          · exact .inl ⟨l, z, h2⟩
          · rw [List.mem_singleton.mp z] at h2; exact .inr h2
    · intro σ H3 hW
      obtain ⟨m, v, rfl, rfl, ho⟩ := hW
      rw [List.length_map, hcc, List.take_length] at ho
      walk_at "rd"
      refine k m _ (ho.congr fun x => ⟨fun ⟨l, h1, h2⟩ => ?_, fun h => hcov x h⟩) s1
      obtain ⟨s, p', hs, hp', rfl, _, _⟩ := hok l h1
      obtain ⟨j, _, rfl⟩ := orb_mem.mp h2
      exact it_lt hf hs j
end
end Rb
namespace Rb
open PySem L2
section
variable {P : Program} {w : World} {K : PySem.W.Frag} {mg : Str → Option Value} {base : Heap}
theorem iteNE {x : V} {A B : Prop} (h : B) : if (!decide (x = x)) = true then A else B := by
  rw [decide_eq_true rfl]; exact iteF h
/-! ### worlds.py -/
theorem Kd.fr {K : PySem.W.Frag} {H : Hp} {i : Int} : Kd K H (.int i) "int" := kd_int
/-- no standing, whatever it is: its type is told -/
def NoInt (K : PySem.W.Frag) (H : Hp) (x : V) : Prop := ∃ t b, Kd K H x t ∧ kitB t "int" = some b ∧ (b = true → kitB t "bool" = some true)
def spIsStanding (K : PySem.W.Frag) : Sp := fun vs H Q _ => ∃ (n : Nat) (x : V), vs = [.int n, x] ∧ ((∃ i : Int, x = .int i ∧ Q (.bl (decide (0 ≤ i ∧ i < n))) H) ∨ (NoInt K H x ∧ Q (.bl false) H))
theorem ok_is_standing (T : Txt K mg) : FnOk P w K mg base CX0 2 T.a_is_standing T.d_is_standing ["size", "thing"] (spIsStanding K) := by
  refine T.F_is_standing.ok sc_is_standing (fun vs H Q E h => ?_) (fun cdv A outer s H vs Q E hr h => ?_)
  · obtain ⟨n, x, rfl, _⟩ := h
    rfl
  · obtain ⟨n, x, rfl, h⟩ := h
    refine ⟨_, (pss_one (ps_ret (pe_and (pe_call (ok_is_integer T) (hr.mono (by decide)) rfl T.g_is_integer T.F_is_integer.kp T.b_is_integer .nil pass0 (pa_cons (pv 1) pa_nil)) (pe_one (pe_chain op_le op_lt pe_int (pv 1) (pv 0)))))), ?_⟩
    walk_at "rd0"
    walk_at "rd"
    rcases h with ⟨i, rfl, k⟩ | ⟨⟨t, b, h, e, e2⟩, k⟩
    · refine ⟨_, rfl, .inl ⟨i, rfl, ?_⟩⟩
      walk_at "rd"
      by_cases h1 : (0 : Int) ≤ i
      · rw [decide_eq_true h1]
        walk_at "rd"
        rw [show decide (i < (n : Int)) = decide (0 ≤ i ∧ i < (n : Int)) from decide_eq_decide.mpr ⟨fun z => ⟨h1, z⟩, fun z => z.2⟩]
        exact k
      · rw [decide_eq_false h1]
        walk_at "rd"
        rw [decide_eq_false (fun z => h1 z.1)] at k
        exact k
    · refine ⟨_, rfl, .inr ⟨t, b, h, e, e2, ?_⟩⟩
      walk_at "rd"
      exact k
theorem kd_rd {K : PySem.W.Frag} {H : Hp} {a : Addr} {xs : List V} (h : Rd H a (.tup xs)) : Kd K H (.ref a) "tuple" := h.elim (fun e => .base (.tup e)) (fun ⟨_, e⟩ => .fTuple e)
/-- a right move -/
def spIsMove (K : PySem.W.Frag) : Sp := fun vs H Q _ => ∃ (n : Nat) (a : Addr) (f : List Nat), vs = [.int n, .ref a] ∧ Rd H a (.tup (nT f)) ∧ IsP n f ∧ n ≤ 10000 ∧ ∀ H', Same H H' → Q (.bl true) H'
theorem kit_tt : kitB "tuple" "tuple" = some true := by decide +kernel
theorem kit_dd : kitB "dict" "dict" = some true := by decide +kernel
def iK (n : Nat) : Key := Sum.inl (n : Int)
theorem iK_inj {a b : Nat} (h : iK a = iK b) : a = b := by
  have h1 : (a : Int) = (b : Int) := Sum.inl.inj h
  omega
def seenOf (l : List Nat) : List (Key × V) := l.map fun n => (iK n, V.bl true)
theorem seen_val (c : Nat) : ∀ l : List Nat, valV (seenOf l) (iK c) = if c ∈ l then some (V.bl true) else none
  | [] => by simp [seenOf, valV_nil]
  | d :: r => by
    show valV ((iK d, V.bl true) :: seenOf r) (iK c) = _
    by_cases e : d = c
    · subst e
      rw [valV_pos rfl, if_pos List.mem_cons_self]
    · rw [valV_neg (fun z => e (iK_inj z)), seen_val c r]
      by_cases hm : c ∈ r
      · rw [if_pos hm, if_pos (List.mem_cons_of_mem _ hm)]
      · rw [if_neg hm, if_neg]
        intro z
        rcases List.mem_cons.mp z with z | z
        · exact e z.symm
        · exact hm z
theorem ok_is_move (T : Txt K mg) : FnOk P w K mg base CX0 3 T.a_is_move T.d_is_move ["size", "thing"] (spIsMove K) := by
  refine T.F_is_move.ok sc_is_move (fun vs H Q E h => ?_) (fun cdv A outer s H vs Q E hr h => ?_)
  · obtain ⟨n, a, f, rfl, _⟩ := h
    rfl
  · obtain ⟨n, a, f, rfl, ha, hf, hn, k⟩ := h
    have hl := hf.len
    refine ⟨_, (pss_cons (ps_if (PW.pt (pw_or (pt_not (pt_val (pe_callB call_isi (by rfl) T.n_isinstance (by decide +kernel) (pa_cons (pv 1) (pa_cons (pe_bltn (v := .ty "tuple") (u := .type "tuple") (by rfl) T.n_tuple (by decide +kernel) rfl) pa_nil))))) (pw_or1 (pt_cmpR op_ne (pe_callB call_lenR (by rfl) T.n_len (by decide +kernel) (pa_cons (pv 1) pa_nil)) (pv 0) (nomark _))))) (pss_one (ps_ret pe_bl)) pss_nil)
      (pss_cons (ps_set (i := 2) sc_is_move.nd rfl (Or.inl rfl) pe_dnewK)
      (pss_cons (ps_for PassesOwn.never rfl (pi_tup (pv 1)) (pg_name (i := 3) sc_is_move.nd rfl (Or.inl rfl)) (pss_cons (ps_if (PW.pt (pw_or (pt_not (pt_val (pe_call (ok_is_standing T) (hr.mono (by decide)) rfl T.g_is_standing T.F_is_standing.kp T.b_is_standing .nil pass0 (pa_cons (pv 0) (pa_cons (pv 3) pa_nil))))) (pw_or1 (pt_cmp (pc_din (hu_of hr) (pv 3) (pv 2)))))) (pss_one (ps_ret pe_bl)) pss_nil)
      (pss_one (ps_dput (hu_of hr) (pv 2) (pv 3) pe_bl rfl))))
      (pss_one (ps_ret pe_bl))))), ?_⟩
    walk_at "rd0"
    walk_at "rd"
    refine r_isi (kd_rd ha) kit_tt ?_
    walk_at "rd"
    refine Rb.r_lenT (.inl ha) ?_
    rw [nT_len, hl]
    walk_at "rd"
    refine iteNE ?_
    walk_at "rd"
    intro p np
    walk_at "rd"
    have s1 := (Same.refl H).new (u := .dK []) np
    refine ⟨a, rfl, ⟨_, .inl (s1.rd ha)⟩, ?_⟩
    refine for_walk (walk_tup (xs := nT f)) (fun i σ H' => ∃ (v : Option V), σ = [some (.int n), some (.ref a), some (.ref p), v] ∧ Same H H' ∧ H' p = some (.dK (seenOf (f.take i))))
      ⟨none, rfl, s1, upd_same⟩ (fun i σ H' _ h => by obtain ⟨_, _, s2, _⟩ := h; exact .inl (s2.rd ha)) ?_ ?_
    · intro i x σ H3 H4 hi hW hy
      obtain ⟨rfl, hx⟩ := hy
      obtain ⟨v, rfl, s3, h3⟩ := hW
      rw [nT_len] at hi
      have hi' : i < n := by omega
      have hlt := hf.lt hi'
      have ex : x = V.int ((app f i : Nat) : Int) := by
        rw [nT_app hi] at hx
        exact (Option.some.inj hx).symm
      subst ex
      walk_at "rd"
      refine ⟨n, _, rfl, .inl ⟨_, rfl, ?_⟩⟩
      rw [decide_eq_true (show (0 : Int) ≤ ((app f i : Nat) : Int) ∧ ((app f i : Nat) : Int) < (n : Int) by omega)]
      walk_at "rd"
      have hno : app f i ∉ f.take i := notin_take hf.nd (app_get hi)
      refine ⟨p, _, rfl, DGet.k (k := iK (app f i)) h3, ?_⟩
      rw [seen_val, if_neg hno]
      walk_at "rd"
      refine iteF ?_
      walk_at "rd"
      refine ⟨p, _, rfl, DPut.k (k := iK (app f i)) h3 ?_, ?_⟩
      · unfold seenOf
        rw [List.length_map, List.length_take]
        exact sz_lt (by omega)
      · refine ⟨_, rfl, s3.mut np, ?_⟩
        rw [upd_same, putK_new _ (by rw [seen_val, if_neg hno]), take_snoc (app_get hi)]
        unfold seenOf
        rw [List.map_append]; rfl
    · intro σ H3 hW
      obtain ⟨v, rfl, s3, h3⟩ := hW
      walk_at "rd"
      exact k _ s3
/-- right moves -/
def spAreMoves (K : PySem.W.Frag) : Sp := fun vs H Q _ => ∃ (ds : List Nat) (m : Addr) (n : Nat) (mv : Nat → List Nat), vs = [.str (tx ds), .ref m] ∧ Deeds ds ∧ MovesAt M0 H m ds mv ∧ IsMv ds n mv ∧ 1 ≤ n ∧ n ≤ 24 ∧ ∀ H', Same H H' → Q (.bl true) H'
theorem ds_first {ds : List Nat} (h : Deeds ds) : ∃ d r, ds = d :: r := by
  cases ds with
  | nil => exact absurd h.ne (by simp)
  | cons d r => exact ⟨d, r, rfl⟩
theorem ok_are_moves (T : Txt K mg) : FnOk P w K mg base CX0 4 T.a_are_moves T.d_are_moves ["deeds", "thing"] (spAreMoves K) := by
  refine T.F_are_moves.ok sc_are_moves (fun vs H Q E h => ?_) (fun cdv A outer s H vs Q E hr h => ?_)
  · obtain ⟨ds, m, n, mv, rfl, _⟩ := h
    rfl
  · obtain ⟨ds, m, n, mv, rfl, hd, ⟨ad, hm, hmv⟩, hperm, hn1, hn24, k⟩ := h
    have hm := hm.1
    have hmv := fun c hc => (hmv c hc).1
    obtain ⟨d, r, eds⟩ := ds_first hd
    have hdd : d ∈ ds := by rw [eds]; exact List.mem_cons_self
    refine ⟨_, (pss_cons (ps_if (PW.pt (pw_or (pt_not (pt_val (pe_callB call_isi (by rfl) T.n_isinstance (by decide +kernel) (pa_cons (pv 1) (pa_cons (pe_bltn (v := .ty "dict") (u := .type "dict") (by rfl) T.n_dict (by decide +kernel) rfl) pa_nil))))) (pw_or1 (pt_cmpR op_ne (pe_callB call_lenDR (by rfl) T.n_len (by decide +kernel) (pa_cons (pv 1) pa_nil)) (pe_callB call_lenR (by rfl) T.n_len (by decide +kernel) (pa_cons (pv 0) pa_nil)) (nomark _))))) (pss_one (ps_ret pe_bl)) pss_nil)
      (pss_cons (ps_lock (ps_for PassesOwn.never rfl (pi_keys (pv 1)) (pg_name (i := 2) sc_are_moves.nd rfl (Or.inl rfl)) (pss_one (ps_if (PW.pt (pw_or (pt_not (pt_val (pe_callB call_isi (by rfl) T.n_isinstance (by decide +kernel) (pa_cons (pv 2) (pa_cons (pe_bltn (v := .ty "str") (u := .type "str") (by rfl) T.n_str (by decide +kernel) rfl) pa_nil))))) (pw_or (pt_cmpR op_ne (pe_callB call_lenR (by rfl) T.n_len (by decide +kernel) (pa_cons (pv 2) pa_nil)) pe_int (nomark _)) (pw_or1 (pt_cmpR op_notInS (pv 2) (pv 0) rfl))))) (pss_one (ps_ret pe_bl)) pss_nil))))
      (pss_cons (ps_set (i := 3) sc_are_moves.nd rfl (Or.inl rfl) (pe_dget (hu_of hr) (pv 1) (pe_ix ix_str (pv 0) pe_int (fun _ _ => rfl)) (fun _ _ => rfl)))
      (pss_cons (ps_if (PW.pt (pw_or (pt_not (pt_val (pe_callB call_isi (by rfl) T.n_isinstance (by decide +kernel) (pa_cons (pv 3) (pa_cons (pe_bltn (v := .ty "tuple") (u := .type "tuple") (by rfl) T.n_tuple (by decide +kernel) rfl) pa_nil))))) (pw_or1 (pt_not (pt_chain op_le op_le pe_int (pe_callB call_lenR (by rfl) T.n_len (by decide +kernel) (pa_cons (pv 3) pa_nil)) (pe_glob (v := .int 24) rfl T.c_MOST_STANDINGS ⟨_, rfl⟩)))))) (pss_one (ps_ret pe_bl)) pss_nil)
      (pss_cons (ps_for PassesOwn.never rfl (pi_str (pv 0)) (pg_name (i := 2) sc_are_moves.nd rfl (Or.inl rfl)) (pss_one (ps_if (pt_not (pt_val (pe_call (ok_is_move T) (hr.mono (by decide)) rfl T.g_is_move T.F_is_move.kp T.b_is_move .nil pass0 (pa_cons (pe_callB call_lenR (by rfl) T.n_len (by decide +kernel) (pa_cons (pv 3) pa_nil)) (pa_cons (pe_dget (hu_of hr) (pv 1) (pv 2) (fun _ _ => rfl)) pa_nil))))) (pss_one (ps_ret pe_bl)) pss_nil)))
      (pss_one (ps_ret pe_bl))))))), ?_⟩
    walk_at "rd0"
    walk_at "rd"
    refine r_isi (.base (.dK hm)) kit_dd ?_
    walk_at "rd"
    refine Rb.r_lenD hm ?_
    walk_at "rd"
    refine Rb.r_lenS (by rw [tx_len]; have := hd.le; exact sz_le (by omega)) ?_
    rw [tx_len, kvs_len]
    walk_at "rd"
    refine iteNE ?_
    walk_at "rd"
    -- for deed in thing
    refine ⟨m, _, hm, trivial, fun od => ?_⟩
    walk_at "rd"
    refine ⟨_, rfl, m, od, rfl, .inl ⟨_, upd_same, ?_⟩⟩
    refine for_walk walk_keys (fun i σ H' => ∃ (v : Option V), σ = [some (.str (tx ds)), some (.ref m), v, none] ∧ H' = upd H m (.frz od (.dK (kvsOf ds fun c => .ref (ad c)))))
      ⟨none, rfl, rfl⟩ (fun i σ H' _ h => by obtain ⟨_, _, rfl⟩ := h; exact upd_same) ?_ ?_
    · intro i x σ H3 H4 hi hW hy
      obtain ⟨rfl, kk, vv, hx, rfl⟩ := hy
      obtain ⟨v, rfl, rfl⟩ := hW
      rw [kvs_len] at hi
      have ek : kk = kL ds[i] := by
        unfold kvsOf at hx
        rw [List.getElem?_map, List.getElem?_eq_getElem hi] at hx
        exact (Prod.mk.inj (Option.some.inj hx)).1.symm
      subst ek
      show gName 2 (.str (tx [ds[i]])) _ _ _
      walk_at "rd"
      refine r_isi kd_str kit_ss ?_
      walk_at "rd"
      refine Rb.r_lenS (by rw [tx_len]; exact sz_le (by show 1 ≤ _; decide)) ?_
      rw [tx_len]
      walk_at "rd"
      refine iteNE ?_
      walk_at "rd"
      rw [tx_tl, decide_eq_true (List.getElem_mem hi)]
      refine iteF ?_
      walk_at "rd"
      exact ⟨_, rfl, rfl⟩
    · intro σ H3 hW
      obtain ⟨v, rfl, rfl⟩ := hW
      refine ⟨upd_same, ?_⟩
      have eH : upd (upd H m (.frz od (.dK (kvsOf ds fun c => .ref (ad c))))) m (.dK (kvsOf ds fun c => .ref (ad c))) = H := by
        funext b
        by_cases e : b = m
        · subst e; rw [upd_same]; exact hm.symm
        · rw [upd_ne e, upd_ne e]
      rw [eH]
      walk_at "rd"
      refine Rb.r_ixS (by rw [tx_len]; have := hd.le; exact sz_le (by omega)) (c := d) (by rw [tx_tl, eds]; exact atI_zero _ _) ?_
      have hget := DGet.k (k := kL d) hm
      rw [val_in hdd] at hget
      refine ⟨m, _, rfl, hget, ?_⟩
      walk_at "rd"
      refine r_isi (kd_rd (hmv d hdd)) kit_tt ?_
      walk_at "rd"
      refine Rb.r_lenT (.inl (hmv d hdd)) ?_
      have hlen : (nT (mv d)).length = n := by rw [nT_len]; exact IsP.len (hperm d hdd)
      rw [hlen]
      walk_at "rd"
      rw [decide_eq_true (show (1 : Int) ≤ (n : Int) by omega)]
      walk_at "rd"
      rw [decide_eq_true (show (n : Int) ≤ 24 by omega)]
      refine iteF ?_
      walk_at "rd"
      refine ⟨_, rfl, ?_⟩
      refine for_walk walk_str (fun i σ H' => ∃ (v : Option V), σ = [some (.str (tx ds)), some (.ref m), v, some (.ref (ad d))] ∧ Same H H')
        ⟨_, rfl, Same.refl H⟩ (fun _ _ _ _ _ => trivial) ?_ ?_
      · intro i x σ H3 H4 hi hW hy
        obtain ⟨rfl, c, hc, rfl⟩ := hy
        obtain ⟨v, rfl, s3⟩ := hW
        have hc' : ds[i]? = some c := by simpa using hc
        have hcm := List.mem_of_getElem? hc'
        walk_at "rd"
        refine Rb.r_lenT (.inl (s3.rd (hmv d hdd))) ?_
        rw [hlen]
        walk_at "rd"
        have hget := DGet.k (k := kL c) (s3 _ _ hm)
        rw [val_in hcm] at hget
        refine ⟨m, _, rfl, hget, ?_⟩
        walk_at "rd"
        refine ⟨n, ad c, mv c, rfl, s3.rd (hmv c hcm), hperm c hcm, by omega, fun H5 s5 => ?_⟩
        walk_at "rd"
        exact ⟨_, rfl, s3.trans s5⟩
      · intro σ H3 hW
        obtain ⟨v, rfl, s3⟩ := hW
        walk_at "rd"
        exact k _ s3
end
end Rb
namespace Rb
open PySem L2
section
variable {P : Program} {w : World} {K : PySem.W.Frag} {mg : Str → Option Value} {base : Heap}
/-! ### worlds.py, the second part -/
def mvL (mv : Nat → List Nat) (x : Nat) : List Nat := if 97 ≤ x then mv x else inv (mv (flip x))
theorem mvL_low {mv : Nat → List Nat} {c : Nat} (h : isLow c) : mvL mv c = mv c := by
  unfold mvL; exact if_pos h.1
theorem mvL_up {mv : Nat → List Nat} {c : Nat} (h : isLow c) : mvL mv (flip c) = inv (mv c) := by
  have h1 := flip_up h
  unfold mvL
  rw [if_neg (by have := h1.2; omega), flip_flip (.inl h)]
theorem mvL_isP {ds : List Nat} {n : Nat} {mv : Nat → List Nat} (hl : ∀ c ∈ ds, isLow c) (h : IsMv ds n mv) {x : Nat} (hx : x ∈ lets ds) : IsP n (mvL mv x) := by
  obtain ⟨c, hc, rfl | rfl⟩ := lets_mem.mp hx
  · rw [mvL_low (hl _ hc)]; exact h _ hc
  · rw [mvL_up (hl _ hc)]; exact IsP.inv (h _ hc)
theorem inv_inv {n : Nat} {f : List Nat} (h : IsP n f) : inv (inv f) = f := by
  refine ext_app (n := n) (by rw [inv_len, inv_len, h.len]) h.len fun j hj => ?_
  have h1 := app_inv_app h.inv hj
  have h2 := inv_app h hj
  exact h.inv.inj (h.inv.inv.lt hj) (h.lt hj) (h1.trans h2.symm)
theorem mvL_flip {ds : List Nat} {n : Nat} {mv : Nat → List Nat} (hl : ∀ c ∈ ds, isLow c) (h : IsMv ds n mv) {x : Nat} (hx : x ∈ lets ds) : mvL mv (flip x) = inv (mvL mv x) := by
  obtain ⟨c, hc, rfl | rfl⟩ := lets_mem.mp hx
  · rw [mvL_low (hl _ hc), mvL_up (hl _ hc)]
  · rw [flip_flip (.inl (hl _ hc)), mvL_low (hl _ hc), mvL_up (hl _ hc), inv_inv (h _ hc)]
theorem low_notin {ds : List Nat} {c : Nat} (hl : ∀ d ∈ ds, isLow d) (hc : isLow c) (h : c ∉ ds) : c ∉ lets ds := by
  intro z
  obtain ⟨d, hd, rfl | e⟩ := lets_mem.mp z
  · exact h hd
  · have h1 := flip_up (hl d hd)
    have := hc.1
    have := h1.2
    omega
theorem up_notin {ds : List Nat} {c : Nat} (hl : ∀ d ∈ ds, isLow d) (hc : isLow c) (h : c ∉ ds) : flip c ∉ lets ds ++ [c] := by
  have h2 := flip_up hc
  intro z
  rcases List.mem_append.mp z with z | z
  · obtain ⟨d, hd, e | e⟩ := lets_mem.mp z
    · have := (hl d hd).1
      have := h2.2
      omega
    · have := flip_inj (.inl hc) (.inl (hl d hd)) e
      subst this
      exact h hd
  · have := List.mem_singleton.mp z
    have := h2.2
    have := hc.1
    omega
theorem lets_snoc (l : List Nat) (c : Nat) : lets (l ++ [c]) = lets l ++ [c] ++ [flip c] := by
  unfold lets
  rw [List.flatMap_append]
  simp
def spAllMoves : Sp := fun vs H Q _ => ∃ (M : Addr → Prop) (ds : List Nat) (m : Addr) (n : Nat) (mv : Nat → List Nat), vs = [.str (tx ds), .ref m] ∧ Deeds ds ∧ MovesAt M H m ds mv ∧ IsMv ds n mv ∧ n ≤ 10000 ∧ (∀ a, H a = none → ¬ M a) ∧
  ∀ p H', H p = none → Same H H' → MovesAt M H' p (lets ds) (mvL mv) → Q (.ref p) H'
theorem ok_all_moves (T : Txt K mg) : FnOk P w K mg base CX0 2 T.a_all_moves T.d_all_moves ["deeds", "moves"] spAllMoves := by
  refine T.F_all_moves.ok sc_all_moves (fun vs H Q E h => ?_) (fun cdv A outer s H vs Q E hr h => ?_)
  · obtain ⟨M, ds, m, n, mv, rfl, _⟩ := h
    rfl
  · obtain ⟨M, ds, m, n, mv, rfl, hd, ⟨ad, hm, hmv⟩, hp, hn, hM, k⟩ := h
    refine ⟨_, (pss_cons (ps_set (i := 2) sc_all_moves.nd rfl (Or.inl rfl) pe_dnewK)
      (pss_cons (ps_for PassesOwn.never rfl (pi_str (pv 0)) (pg_name (i := 3) sc_all_moves.nd rfl (Or.inl rfl)) (pss_cons (ps_dput (hu_of hr) (pv 2) (pv 3) (pe_dget (hu_of hr) (pv 1) (pv 3) (fun _ _ => rfl)) rfl)
      (pss_one (ps_dput (hu_of hr) (pv 2) (pe_call (ok_undoing_of T) (hr.mono (by decide)) rfl T.g_undoing_of T.F_undoing_of.kp T.b_undoing_of .nil pass0 (pa_cons (pv 3) pa_nil)) (pe_call (ok_turned_back T) (hr.mono (by decide)) rfl T.g_turned_back T.F_turned_back.kp T.b_turned_back .nil pass0 (pa_cons (pe_dget (hu_of hr) (pv 1) (pv 3) (fun _ _ => rfl)) pa_nil)) rfl))))
      (pss_one (ps_ret (pv 2))))), ?_⟩
    walk_at "rd0"
    walk_at "rd"
    refine Rb.r_dnew fun p np => ?_
    walk_at "rd"
    have npM := hM p np
    refine ⟨_, rfl, ?_⟩
    refine for_walk walk_str (fun i σ H' => ∃ (a2 : Nat → Addr) (v : Option V), σ = [some (.str (tx ds)), some (.ref m), some (.ref p), v] ∧ Same H H' ∧ H' p = some (.dK (kvsOf (lets (ds.take i)) fun c => .ref (a2 c))) ∧ ∀ c ∈ lets (ds.take i), RdM M H' (a2 c) (.tup (nT (mvL mv c))))
      ⟨fun _ => 0, none, rfl, (Same.refl H).new np, upd_same, fun c hc => (by cases hc)⟩ (fun _ _ _ _ _ => trivial) ?_ ?_
    · intro i x σ H3 H4 hi hW hy
      obtain ⟨rfl, c, hc, rfl⟩ := hy
      obtain ⟨a2, v, rfl, s3, h3, ht⟩ := hW
      have hc' : ds[i]? = some c := by simpa using hc
      have hcm := List.mem_of_getElem? hc'
      have hlow := hd.low c hcm
      have hnt : c ∉ ds.take i := notin_take (nodup_asc hd.asc) hc'
      have hlt : ∀ d ∈ ds.take i, isLow d := fun d hd' => hd.low d (List.mem_of_mem_take hd')
      have hlen : (lets (ds.take i)).length ≤ 8 := by
        rw [lets_len, List.length_take]; have := hd.le; omega
      walk_at "rd"
      -- found[deed] = moves[deed]
      have hget := DGet.k (k := kL c) (s3 _ _ hm.1)
      rw [val_in hcm] at hget
      refine ⟨m, _, rfl, hget, ?_⟩
      walk_at "rd"
      refine ⟨p, _, rfl, DPut.k (k := kL c) h3 (by rw [kvs_len]; exact sz_lt (by omega)), ?_⟩
      rw [kvs_put (low_notin hlt hlow hnt)]
      have s4 : Same H (upd H4 p (.dK (kvsOf (lets (ds.take i) ++ [c]) fun x => if x = c then V.ref (ad c) else V.ref (a2 x)))) := s3.mut np
      have nmp : m ≠ p := ne_of_none hm.1 np
      -- found[undoing_of(deed)] = turned_back(moves[deed])
      walk_at "rd"
      have hget2 := DGet.k (k := kL c) (s4 _ _ hm.1)
      rw [val_in hcm] at hget2
      refine ⟨m, _, rfl, hget2, ?_⟩
      walk_at "rd"
      refine ⟨ad c, mv c, n, rfl, .inl (s4.rd (hmv c hcm).1), hp c hcm, hn, fun t H5 nt s5 h5 => ?_⟩
      walk_at "rd"
      refine ⟨c, rfl, .inl hlow, ?_⟩
      walk_at "rd"
      have h5p := s5 _ _ upd_same
      refine ⟨p, _, rfl, DPut.k (k := kL (flip c)) h5p (by rw [kvs_len, List.length_append]; exact sz_lt (by show _ + 1 < _; omega)), ?_⟩
      rw [kvs_put (up_notin hlt hlow hnt)]
      have ntH4 : H4 t = none := by
        by_cases e : t = p
        · subst e; rw [upd_same] at nt; cases nt
        · rw [upd_ne e] at nt; exact nt
      have ntp : t ≠ p := by rintro rfl; rw [upd_same] at nt; cases nt
      have ntc : flip c ≠ c := by have := (flip_up hlow).2; have := hlow.1; omega
      refine ⟨setF (setF a2 c (ad c)) (flip c) t, _, rfl, (s4.trans s5).mut np, ?_, ?_⟩
      · rw [upd_same, take_snoc hc', lets_snoc]
        congr 2
        refine kvs_congr fun d _ => ?_
        show (if d = flip c then _ else (if d = c then _ else _)) = V.ref (if d = flip c then _ else (if d = c then _ else _))
        split
        · rfl
        · split <;> rfl
      · intro d hdm
        rw [take_snoc hc', lets_snoc] at hdm
        by_cases e2 : d = flip c
        · subst e2
          rw [setF_eq, mvL_up hlow]
          refine ⟨.inl ?_, hM t (s3.free ntH4)⟩
          rw [upd_ne ntp]
          exact h5
        · rw [setF_ne e2]
          by_cases e1 : d = c
          · subst e1
            rw [setF_eq, mvL_low hlow]
            refine ⟨?_, (hmv d hcm).2⟩
            exact ((s4.trans s5).mut np).rd (hmv d hcm).1
          · rw [setF_ne e1]
            have hdm' : d ∈ lets (ds.take i) := by
              rcases List.mem_append.mp hdm with z | z
              · rcases List.mem_append.mp z with z | z
                · exact z
                · exact absurd (List.mem_singleton.mp z) e1
              · exact absurd (List.mem_singleton.mp z) e2
            obtain ⟨z, zM⟩ := ht d hdm'
            refine ⟨?_, zM⟩
            have nap : a2 d ≠ p := rd_ne z h3 (by intro q; cases q) (by intro o q; cases q)
            have z4 : Rd (upd H4 p (.dK (kvsOf (lets (ds.take i) ++ [c]) fun x => if x = c then V.ref (ad c) else V.ref (a2 x)))) (a2 d) (.tup (nT (mvL mv d))) := by
              unfold Rd; rw [upd_ne nap]; exact z
            have z5 := s5.rd z4
            unfold Rd; rw [upd_ne nap]; exact z5
    · intro σ H3 hW
      obtain ⟨a2, v, rfl, s3, h3, ht⟩ := hW
      rw [show (tx ds).cps.size = ds.length by simp, List.take_length] at h3 ht
      walk_at "rd"
      exact k p H3 np s3 ⟨a2, ⟨h3, npM⟩, ht⟩
end
end Rb
namespace Rb
open PySem L2
section
variable {P : Program} {w : World} {K : PySem.W.Frag} {mg : Str → Option Value} {base : Heap}
theorem lets_flip {ds : List Nat} (hl : ∀ c ∈ ds, isLow c) {x : Nat} (hx : x ∈ lets ds) : flip x ∈ lets ds := by
  obtain ⟨c, hc, rfl | rfl⟩ := lets_mem.mp hx
  · exact lets_mem.mpr ⟨_, hc, .inr rfl⟩
  · exact lets_mem.mpr ⟨c, hc, .inl (flip_flip (.inl (hl _ hc)))⟩
theorem lets_nd : ∀ {ds : List Nat}, (∀ c ∈ ds, isLow c) → ds.Nodup → (lets ds).Nodup
  | [], _, _ => List.nodup_nil
  | d :: r, hl, hn => by
    have hr : ∀ c ∈ r, isLow c := fun c hc => hl c (List.mem_cons_of_mem _ hc)
    have hd := hl d List.mem_cons_self
    have hdr : d ∉ r := (List.nodup_cons.mp hn).1
    have ih := lets_nd hr (List.nodup_cons.mp hn).2
    show (d :: flip d :: lets r).Nodup
    have h1 := low_notin hr hd hdr
    have h2 := up_notin hr hd hdr
    have h3 : flip d ∉ lets r := fun z => h2 (List.mem_append_left _ z)
    refine List.nodup_cons.mpr ⟨fun z => ?_, List.nodup_cons.mpr ⟨h3, ih⟩⟩
    rcases List.mem_cons.mp z with z | z
    · have := (flip_up hd).2
      have := hd.1
      omega
    · exact h1 z
/-- a world of the heap -/
structure WorldAt (M : Addr → Prop) (H : Hp) (w C : Addr) (ds : List Nat) (n : Nat) (mv : Nat → List Nat) : Prop where
  ex : ∃ (dx km kb : Addr) (fs : List (Str × V)), AtM M H w (.ins C dx fs) ∧ fs.lookup ("deeds" : Str) = some (.str (tx ds)) ∧ fs.lookup ("size" : Str) = some (.int n) ∧ fs.lookup ("kept_moves" : Str) = some (.ref km) ∧ fs.lookup ("kept_backs" : Str) = some (.ref kb) ∧
    MovesAt M H km (lets ds) (mvL mv) ∧ MovesAt M H kb (lets ds) (fun x => mvL mv (flip x))
theorem FrM.world {M : Addr → Prop} {H H' : Hp} {w C : Addr} {ds : List Nat} {n : Nat} {mv : Nat → List Nat} (f : FrM M H H') (h : WorldAt M H w C ds n mv) : WorldAt M H' w C ds n mv := by
  obtain ⟨dx, km, kb, fs, h1, h2, h3, h4, h5, h6, h7⟩ := h.ex
  exact ⟨dx, km, kb, fs, f.at h1, h2, h3, h4, h5, f.moves h6, f.moves h7⟩
theorem AtM.wide {M M' : Addr → Prop} {H : Hp} {a : Addr} {u : HO} (h : AtM M H a u) (w : ∀ a, M' a → M a) : AtM M' H a u := ⟨h.1, fun z => h.2 (w _ z)⟩
theorem WorldAt.wide {M M' : Addr → Prop} {H : Hp} {w C : Addr} {ds : List Nat} {n : Nat} {mv : Nat → List Nat} (h : WorldAt M H w C ds n mv) (k : ∀ a, M' a → M a) : WorldAt M' H w C ds n mv := by
  obtain ⟨dx, km, kb, fs, h1, h2, h3, h4, h5, h6, h7⟩ := h.ex
  exact ⟨dx, km, kb, fs, h1.wide k, h2, h3, h4, h5, h6.wide k, h7.wide k⟩
/-- what keep asks of the class -/
structure WCls (K : PySem.W.Frag) (C : Addr) : Prop where
  cls : Cls K C
  n1 : NoAttr K C "deeds"
  n2 : NoAttr K C "size"
  n3 : NoAttr K C "kept_moves"
  n4 : NoAttr K C "kept_backs"
theorem FrM.wr {w : Addr} {H H' : Hp} {u : HO} (a : FrM (fun a => a = w) H H') : FrM (fun a => a = w) H (upd H' w u) := fun x v e h1 => by
  rw [upd_ne h1]; exact a x v e h1
def spKeep (K : PySem.W.Frag) : Sp := fun vs H Q _ => ∃ (M : Addr → Prop) (w m C dx : Addr) (fs : List (Str × V)) (ds : List Nat) (n : Nat) (mv : Nat → List Nat), vs = [.ref w, .str (tx ds), .ref m] ∧
  H w = some (.ins C dx fs) ∧ ¬ M w ∧ fs.length ≤ 10 ∧ WCls K C ∧ Deeds ds ∧ MovesAt M H m ds mv ∧ IsMv ds n mv ∧ n ≤ 10000 ∧ (∀ a, H a = none → ¬ M a) ∧
  ∀ H', FrM (fun a => a = w) H H' → WorldAt M H' w C ds n mv → Q .non H'
theorem moves_ne {M : Addr → Prop} {H : Hp} {m w C dx : Addr} {fs : List (Str × V)} {ds : List Nat} {mv : Nat → List Nat} (h : MovesAt M H m ds mv) (hw : H w = some (.ins C dx fs)) : MovesAt (fun a => M a ∨ a = w) H m ds mv := by
  obtain ⟨ad, h1, h2⟩ := h
  refine ⟨ad, ⟨h1.1, fun z => z.elim h1.2 fun z => ?_⟩, fun c hc => ⟨(h2 c hc).1, fun z => z.elim (h2 c hc).2 fun z => ?_⟩⟩
  · subst z
    have := h1.1
    rw [hw] at this; cases this
  · exact rd_ne (h2 c hc).1 hw (by intro q; cases q) (by intro o q; cases q) z
theorem ok_World_keep (T : Txt K mg) : FnOk P w K mg base CX0 3 T.a_World_keep T.d_World_keep ["self", "deeds", "moves"] (spKeep K) := by
  refine T.F_World_keep.ok sc_World_keep (fun vs H Q E h => ?_) (fun cdv A outer s H vs Q E hr h => ?_)
  · obtain ⟨M, w, m, C, dx, fs, ds, n, mv, rfl, _⟩ := h
    rfl
  · obtain ⟨M, w, m, C, dx, fs, ds, n, mv, rfl, hw, hMw, hfs, hC, hd, hmoves, hp, hn, hM, k⟩ := h
    obtain ⟨d, r, eds⟩ := ds_first hd
    have hdd : d ∈ ds := by rw [eds]; exact List.mem_cons_self
    have hnd := nodup_asc hd.asc
    refine ⟨_, (pss_cons (ps_fld (pv 0) (pv 1) rfl)
      (pss_cons (ps_fld (pv 0) (pe_callB call_lenR (by rfl) T.n_len (by decide +kernel) (pa_cons (pe_dget (hu_of hr) (pv 2) (pe_ix ix_str (pv 1) pe_int (fun _ _ => rfl)) (fun _ _ => rfl)) pa_nil)) rfl)
      (pss_cons (ps_fld (pv 0) (pe_call (ok_all_moves T) (hr.mono (by decide)) rfl T.g_all_moves T.F_all_moves.kp T.b_all_moves .nil pass0 (pa_cons (pv 1) (pa_cons (pv 2) pa_nil))) rfl)
      (pss_one (ps_fld (pv 0) (pe_dc (own := [("letter", 3)]) (g := gName 3) (tt := tYes) (tk := tVar 3) (tv := tDGet (tFld K (tVar 0) "kept_moves") (tCall spUndo [] E0 (tCons (tVar 3) tNil)))  rfl sc_World_keep.nd (pi_tup (pe_call (ok_letters_over T) (hr.mono (by decide)) rfl T.g_letters_over T.F_letters_over.kp T.b_letters_over .nil pass0 (pa_cons (pv 1) pa_nil))) (blkOk_by (own := [("letter", 3)]) (N := ["self", "deeds", "moves", "letter"]) (sc := defScope st_World_keep) (by decide +kernel)) (fun _ _ _ _ _ => (pg_name (i := 3) sc_World_keep.nd rfl (Or.inl rfl))) (fun _ _ _ _ _ => pts_nil) (fun _ _ _ _ _ => (pv 3)) (fun _ _ _ _ _ => (pe_dget (hu_of hr) (pe_fld (pv 0) rfl) (pe_call (ok_undoing_of T) (hr.mono (by decide)) rfl T.g_undoing_of T.F_undoing_of.kp T.b_undoing_of .nil pass0 (pa_cons (pv 3) pa_nil)) (fun _ _ => rfl)))) rfl))))), ?_⟩
    walk_at "rd0"
    walk_at "rd"
    refine r_fldS ?_
    walk_at "rd"
    refine ⟨w, C, dx, fs, rfl, hw, hC.cls, hC.n1, by omega, ?_⟩
    have hmW := moves_ne hmoves hw
    have hMW : ∀ a, H a = none → ¬ (M a ∨ a = w) := fun a ha z => z.elim (hM a ha) fun z => by subst z; rw [hw] at ha; cases ha
    have f1 : FrM (fun a => a = w) H (upd H w (.ins C dx (putF "deeds" (.str (tx ds)) fs))) := (FrM.refl _ H).wr
    have l1 := length_putF "deeds" (V.str (tx ds)) fs
    have fw : ∀ {H1 H2 : Hp}, FrM (fun a => a = w) H1 H2 → FrM (fun a => M a ∨ a = w) H1 H2 := fun f => f.wide fun x z => .inr z
    -- self.size = len(moves[deeds[0]])
    walk_at "rd"
    refine r_fldS ?_
    walk_at "rd"
    refine Rb.r_ixS (by rw [tx_len]; have := hd.le; exact sz_le (by omega)) (c := d) (by rw [tx_tl, eds]; exact atI_zero _ _) ?_
    have hm1 := (fw f1).moves hmW
    obtain ⟨ad, hma, hmv⟩ := id hm1
    have hget := DGet.k (k := kL d) hma.1
    rw [val_in hdd] at hget
    refine ⟨m, _, rfl, hget, ?_⟩
    walk_at "rd"
    refine Rb.r_lenT (.inl (hmv d hdd).1) ?_
    rw [nT_len, IsP.len (hp d hdd)]
    walk_at "rd"
    refine ⟨w, C, dx, _, rfl, upd_same, hC.cls, hC.n2, by omega, ?_⟩
    have f2 := f1.wr (u := .ins C dx (putF "size" (.int n) (putF "deeds" (.str (tx ds)) fs)))
    have l2 := length_putF "size" (V.int n) (putF "deeds" (.str (tx ds)) fs)
    -- self.kept_moves = all_moves(deeds, moves)
    walk_at "rd"
    refine r_fldS ?_
    walk_at "rd"
    refine ⟨_, ds, m, n, mv, rfl, hd, (fw f2).moves hmW, hp, hn, fun a ha => hMW a ?_, fun km H3 nkm s3 hkm => ?_⟩
    · by_cases e : a = w
      · subst e; rw [upd_same] at ha; cases ha
      · rw [upd_ne e, upd_ne e] at ha; exact ha
    walk_at "rd"
    refine ⟨w, C, dx, _, rfl, s3 _ _ upd_same, hC.cls, hC.n3, by omega, ?_⟩
    have f3 := (f2.trans s3.mM).wr (u := .ins C dx (putF "kept_moves" (.ref km) (putF "size" (.int n) (putF "deeds" (.str (tx ds)) fs))))
    have l3 := length_putF "kept_moves" (V.ref km) (putF "size" (.int n) (putF "deeds" (.str (tx ds)) fs))
    have hkm3 : MovesAt (fun a => M a ∨ a = w) _ km (lets ds) (mvL mv) := (fw ((FrM.refl (fun a => a = w) H3).wr (u := .ins C dx (putF "kept_moves" (.ref km) (putF "size" (.int n) (putF "deeds" (.str (tx ds)) fs)))))).moves hkm
    -- self.kept_backs = {..}
    walk_at "rd"
    dsimp only
    refine r_fldS ?_
    refine r_dc ?_
    walk_at "rd"
    refine ⟨ds, rfl, hd.le, hd.low, fun q H4 nq s4 hq => ?_⟩
    refine ⟨q, rfl, ⟨_, .inl (.inl hq)⟩, fun D nD => ?_⟩
    have hkm4 := (fw s4.mM).moves hkm3
    obtain ⟨a2, hka, hkv⟩ := hkm4
    have hw4 := s4 _ _ upd_same
    refine walk_gen (B := fun Nx x H' => _) (walk_tup (xs := sgs (lets ds))) (fun i H' => H' D = some (.dK (kvsOf ((lets ds).take i) fun c => .ref (a2 (flip c)))) ∧ Same H4 H') ⟨upd_same, (Same.refl H4).new nD⟩ (fun i H' _ h => .inl (.inl (h.2 _ _ hq))) ?_ ?_
    · intro i x H5 H6 hi hW hy
      obtain ⟨rfl, hx⟩ := hy
      obtain ⟨h5, s5⟩ := hW
      have hi' : i < (lets ds).length := by unfold sgs at hi; rw [List.length_map] at hi; exact hi
      have hc' : (lets ds)[i]? = some (lets ds)[i] := List.getElem?_eq_getElem hi'
      generalize (lets ds)[i] = c at hc'
      have ex : x = V.str (tx [c]) := by
        unfold sgs at hx
        rw [List.getElem?_map, hc'] at hx
        exact (Option.some.inj hx).symm
      subst ex
      have hcm := List.mem_of_getElem? hc'
      have hcl := lets_let hd.low hcm
      have hnt : c ∉ (lets ds).take i := notin_take (lets_nd hd.low hnd) hc'
      have hlen : ((lets ds).take i).length ≤ 8 := by
        rw [List.length_take, lets_len]; have := hd.le; omega
      refine ⟨rfl, r_yes ?_⟩
      refine iteT ?_
      walk_at "rd"
      refine ⟨w, C, dx, _, _, rfl, s5 _ _ hw4, hC.cls, hC.n3, by rw [lookup_putF, if_pos rfl], ?_⟩
      walk_at "rd"
      refine ⟨c, rfl, hcl, ?_⟩
      walk_at "rd"
      have hget := DGet.k (k := kL (flip c)) (s5 _ _ hka.1)
      rw [val_in (lets_flip hd.low hcm)] at hget
      refine ⟨km, _, rfl, hget, ?_⟩
      refine ⟨_, kL c, rfl, h5, by rw [kvs_len]; exact sz_lt (by omega), ?_, s5.mut nD⟩
      rw [upd_same, kvs_put hnt, take_snoc hc']
      congr 2
      refine kvs_congr fun d _ => ?_
      show (if d = c then V.ref (a2 (flip c)) else V.ref (a2 (flip d))) = V.ref (a2 (flip d))
      by_cases e : d = c
      · subst e; rw [if_pos rfl]
      · rw [if_neg e]
    · intro H5 hW
      obtain ⟨h5, s5⟩ := hW
      have hl : (sgs (lets ds)).length = (lets ds).length := by unfold sgs; rw [List.length_map]
      rw [hl, List.take_length] at h5
      walk_at "rd"
      refine ⟨w, C, dx, _, rfl, s5 _ _ hw4, hC.cls, hC.n4, by omega, ?_⟩
      walk_at "rd"
      have f5 := ((f3.trans s4.mM).trans s5.mM).wr (u := .ins C dx (putF "kept_backs" (.ref D) (putF "kept_moves" (.ref km) (putF "size" (.int n) (putF "deeds" (.str (tx ds)) fs)))))
      have fl : FrM (fun a => a = w) H4 (upd H5 w (.ins C dx (putF "kept_backs" (.ref D) (putF "kept_moves" (.ref km) (putF "size" (.int n) (putF "deeds" (.str (tx ds)) fs)))))) := (s5.mM (M := fun a => a = w)).wr
      refine k _ f5 ⟨⟨dx, km, D, _, ⟨upd_same, hMw⟩, ?_, ?_, ?_, ?_, ?_, ?_⟩⟩
      · rw [lookup_putF, if_neg (by decide), lookup_putF, if_neg (by decide), lookup_putF, if_neg (by decide), lookup_putF, if_pos rfl]
      · rw [lookup_putF, if_neg (by decide), lookup_putF, if_neg (by decide), lookup_putF, if_pos rfl]
      · rw [lookup_putF, if_neg (by decide), lookup_putF, if_pos rfl]
      · rw [lookup_putF, if_pos rfl]
      · exact ((fw fl).moves ⟨a2, hka, hkv⟩).wide fun a z => .inl z
      · have nDM : ¬ (M D ∨ D = w) := by
          intro z
          rcases z with z | z
          · refine hM D ?_ z
            have n4 : H3 D = none := by
              have z4 := s4.free nD
              by_cases e : D = w
              · subst e; rw [upd_same] at z4; cases z4
              · rw [upd_ne e] at z4; exact z4
            have n3 := s3.free n4
            by_cases e : D = w
            · subst e; rw [upd_same] at n3; cases n3
            · rw [upd_ne e, upd_ne e] at n3; exact n3
          · subst z; rw [hw4] at nD; cases nD
        refine MovesAt.wide (M := fun a => M a ∨ a = w) ⟨fun c => a2 (flip c), ⟨?_, nDM⟩, fun c hc => ?_⟩ fun a z => .inl z
        · rw [upd_ne (fun z => nDM (.inr z))]; exact h5
        · exact (fw fl).rd (hkv (flip c) (lets_flip hd.low hc))
end
end Rb
namespace Rb
open PySem L2
section
/-! ### data that are compared -/
def nDs (l : List Nat) : List PyData := l.map fun n : Nat => PyData.int (n : Int)
def nD (l : List Nat) : PyData := .tuple (nDs l)
theorem dpAll_nT {K : PySem.W.Frag} {H : Hp} : ∀ l : List Nat, DpAll K H (nT l) (nDs l)
  | [] => .nil
  | n :: l => .cons (.int _) (dpAll_nT l)
theorem dp_nT {K : PySem.W.Frag} {H : Hp} {a : Addr} {l : List Nat} (h : SqT K H a (nT l)) : Dp K H (.ref a) (nD l) := .tup h (dpAll_nT l)
theorem can_nDs : ∀ l : List Nat, PyData.canLayAll0 (nDs l) = true
  | [] => by simp only [nDs, List.map_nil, PyData.canLayAll0]
  | n :: l => by
    have ih := can_nDs l
    unfold nDs at ih ⊢
    rw [List.map_cons, PyData.canLayAll0, ih]
    simp only [PyData.canLay0, Bool.and_self]
theorem dep_nDs : ∀ l : List Nat, PyData.depthAll (nDs l) ≤ 1
  | [] => by simp [nDs, PyData.depthAll]
  | n :: l => by
    have ih := dep_nDs l
    unfold nDs at ih ⊢
    rw [List.map_cons, PyData.depthAll]
    simp only [PyData.depth]
    omega
theorem dep_nD (l : List Nat) : (nD l).depth ≤ 2 := by
  have := dep_nDs l
  unfold nD
  rw [PyData.depth]
  omega
theorem can_nD (l : List Nat) : (nD l).canLay0 = true := by
  unfold nD
  rw [PyData.canLay0]
  exact can_nDs l
theorem shaped_of {d : PyData} (h1 : d.canLay0 = true) (h2 : d.depth ≤ 64) : SeqAt.shaped d = true := by
  unfold SeqAt.shaped
  rw [h1, decide_eq_true h2]; rfl
theorem sh_nD (l : List Nat) : SeqAt.shaped (nD l) = true := shaped_of (can_nD l) (by have := dep_nD l; omega)
theorem eqv_nDs : ∀ a b : List Nat, PyData.eqvAll (nDs a) (nDs b) = decide (a = b)
  | [], [] => by simp [nDs, PyData.eqvAll]
  | [], _ :: _ => by simp [nDs, PyData.eqvAll]
  | _ :: _, [] => by simp [nDs, PyData.eqvAll]
  | x :: a, y :: b => by
    have ih := eqv_nDs a b
    unfold nDs at ih ⊢
    rw [List.map_cons, List.map_cons, PyData.eqvAll, ih, PyData.eqv]
    by_cases e : x = y
    · subst e; simp
    · have e' : ¬ ((x : Int) = (y : Int)) := by omega
      rw [beq_eq_false_iff_ne.mpr e', Bool.false_and]
      exact (decide_eq_false (fun z => e (List.cons.inj z).1)).symm
theorem eqv_nD (a b : List Nat) : PyData.eqv (nD a) (nD b) = decide (a = b) := by
  unfold nD
  rw [PyData.eqv]
  exact eqv_nDs a b
/-- (text, x) -/
def pD (s : Str) (d : PyData) : PyData := .tuple [.str s, d]
theorem dp_pD {K : PySem.W.Frag} {H : Hp} {a : Addr} {s : Str} {v : V} {d : PyData} (h : SqT K H a [.str s, v]) (hd : Dp K H v d) : Dp K H (.ref a) (pD s d) := .tup h (.cons (.str s) (.cons hd .nil))
theorem sh_pD {s : Str} {d : PyData} (hs : PyData.strOk s = true) (h1 : d.canLay0 = true) (h2 : d.depth ≤ 60) : SeqAt.shaped (pD s d) = true := by
  refine shaped_of ?_ ?_
  · unfold pD
    simp only [PyData.canLay0, PyData.canLayAll0, Bool.and_true, Bool.and_eq_true]
    exact ⟨hs, h1⟩
  · unfold pD
    rw [PyData.depth, PyData.depthAll, PyData.depthAll, PyData.depthAll, PyData.depth]
    omega
theorem eqv_pD (s t : Str) (d e : PyData) : PyData.eqv (pD s d) (pD t e) = (s == t && PyData.eqv d e) := by
  unfold pD
  simp only [PyData.eqv, PyData.eqvAll, Bool.and_true]
/-- two dicts from letters to moves -/
theorem eqkv_moves {K : PySem.W.Frag} {H : Hp} {l0 : List Nat} {f g : Nat → Addr} {A B : Nat → List Nat} (hB : ∀ c ∈ l0, SqT K H (g c) (nT (B c))) :
    ∀ l : List Nat, (∀ c ∈ l, c ∈ l0) → (∀ c ∈ l, SqT K H (f c) (nT (A c))) → EqKV K H (kvsOf l0 fun c => .ref (g c)) (kvsOf l fun c => .ref (f c)) (decide (∀ c ∈ l, A c = B c))
  | [], _, _ => by
    rw [decide_eq_true (fun c hc => by cases hc)]; exact .nil
  | c :: l, hl, hA => by
    have hc := hl c List.mem_cons_self
    have ih := eqkv_moves hB l (fun d hd => hl d (List.mem_cons_of_mem _ hd)) (fun d hd => hA d (List.mem_cons_of_mem _ hd))
    have e : decide (∀ d ∈ c :: l, A d = B d) = (PyData.eqv (nD (A c)) (nD (B c)) && decide (∀ d ∈ l, A d = B d)) := by
      rw [eqv_nD, ← Bool.decide_and]
      refine decide_eq_decide.mpr ⟨fun h => ⟨h c List.mem_cons_self, fun d hd => h d (List.mem_cons_of_mem _ hd)⟩, fun h d hd => ?_⟩
      rcases List.mem_cons.mp hd with rfl | hd
      · exact h.1
      · exact h.2 d hd
    rw [e]
    exact .hit (val_in hc) (dp_nT (hA c List.mem_cons_self)) (dp_nT (hB c hc)) (sh_nD _) (sh_nD _) ih
end
end Rb
namespace Rb
open PySem L2
section
variable {P : Program} {w : World} {K : PySem.W.Frag} {mg : Str → Option Value} {base : Heap}
def spWInit (K : PySem.W.Frag) (C : Addr) : Sp := fun vs H Q _ => ∃ (M : Addr → Prop) (w m dx : Addr) (fs : List (Str × V)) (ds : List Nat) (n : Nat) (mv : Nat → List Nat), vs = [.ref w, .str (tx ds), .ref m] ∧
  H w = some (.ins C dx fs) ∧ ¬ M w ∧ fs = [] ∧ WCls K C ∧ Deeds ds ∧ MovesAt M H m ds mv ∧ IsMv ds n mv ∧ 1 ≤ n ∧ n ≤ 24 ∧ (∀ a, H a = none → ¬ M a) ∧
  ∀ H', FrM (fun a => a = w) H H' → WorldAt M H' w C ds n mv → Q .non H'
theorem ok_World___init__ (T : Txt K mg) : FnOk P w K mg base CX0 5 T.a_World___init__ T.d_World___init__ ["self", "deeds", "moves"] (spWInit K T.C_World) := by
  refine T.F_World___init__.ok sc_World___init__ (fun vs H Q E h => ?_) (fun cdv A outer s H vs Q E hr h => ?_)
  · obtain ⟨M, w, m, dx, fs, ds, n, mv, rfl, _⟩ := h
    rfl
  · obtain ⟨M, w, m, dx, fs, ds, n, mv, rfl, hw, hMw, rfl, hC, hd, hmoves, hp, hn1, hn, hM, k⟩ := h
    refine ⟨_, (pss_cons (ps_if (pt_not (pt_val (pe_call (ok_is_deeds T) (hr.mono (by decide)) rfl T.g_is_deeds T.F_is_deeds.kp T.b_is_deeds .nil pass0 (pa_cons (pv 1) pa_nil)))) (pss_one ps_never) pss_nil)
      (pss_cons (ps_if (pt_not (pt_val (pe_call (ok_are_moves T) (hr.mono (by decide)) rfl T.g_are_moves T.F_are_moves.kp T.b_are_moves .nil pass0 (pa_cons (pv 1) (pa_cons (pv 2) pa_nil))))) (pss_one ps_never) pss_nil)
      (pss_one (ps_expr (pe_meth (pv 0) T.cl_World T.m_World_keep (ok_World_keep T) (hr.mono (by decide)) T.b_World_keep .nil pass0 (pa_cons (pv 1) (pa_cons (pv 2) pa_nil))))))), ?_⟩
    walk_at "rd0"
    walk_at "rd"
    refine ⟨_, rfl, .inl ⟨ds, rfl, by have := hd.le; omega, ?_⟩⟩
    rw [decide_eq_true hd]
    walk_at "rd"
    refine ⟨ds, m, n, mv, rfl, hd, hmoves.wide (fun a z => z.elim), hp, hn1, hn, fun H2 s2 => ?_⟩
    walk_at "rd"
    refine r_meth ?_
    walk_at "rd"
    refine ⟨w, dx, [], rfl, s2 _ _ hw, rfl, ?_⟩
    walk_at "rd"
    refine ⟨M, w, m, T.C_World, dx, [], ds, n, mv, rfl, s2 _ _ hw, hMw, by decide, hC, hd, s2.mM.moves hmoves, hp, by omega, fun a ha => hM a (s2.free ha), fun H3 f3 hW => ?_⟩
    walk_at "rd"
    exact k H3 (s2.mM.trans f3) hW
/-- == of worlds -/
def spWEq (K : PySem.W.Frag) (C : Addr) : Sp := fun vs H Q _ => ∃ (M : Addr → Prop) (a b : Addr) (ds : List Nat) (n : Nat) (mv : Nat → List Nat) (ds' : List Nat) (n' : Nat) (mv' : Nat → List Nat), vs = [.ref a, .ref b] ∧ WCls K C ∧ WorldAt M H a C ds n mv ∧ WorldAt M H b C ds' n' mv' ∧
  Deeds ds ∧ Deeds ds' ∧ IsMv ds n mv ∧ IsMv ds' n' mv' ∧ Q (.bl (decide (ds = ds' ∧ ∀ c ∈ ds, mv c = mv' c))) H
theorem mvL_ext {ds : List Nat} {mv mv' : Nat → List Nat} (hl : ∀ c ∈ ds, isLow c) : (∀ c ∈ lets ds, mvL mv c = mvL mv' c) ↔ ∀ c ∈ ds, mv c = mv' c := by
  constructor
  · intro h c hc
    have := h c (lets_mem.mpr ⟨c, hc, .inl rfl⟩)
    rw [mvL_low (hl c hc), mvL_low (hl c hc)] at this
    exact this
  · intro h x hx
    obtain ⟨c, hc, rfl | rfl⟩ := lets_mem.mp hx
    · rw [mvL_low (hl _ hc), mvL_low (hl _ hc)]; exact h _ hc
    · rw [mvL_up (hl _ hc), mvL_up (hl _ hc), h _ hc]
theorem tx_dec (a b : List Nat) : decide (V.str (tx a) = V.str (tx b)) = decide (a = b) :=
  decide_eq_decide.mpr ⟨fun h => tx_inj (V.str.inj h), fun h => by rw [h]⟩
theorem r_isiO {K : PySem.W.Frag} {H : Hp} {Q : VK} {a C dx : Addr} {fs : List (Str × V)} (e : H a = some (.ins C dx fs)) (cl : Cls K C) (ty : TyI K C) (q : Q (.bl true) H) : rIsi K [.ref a, .ref C] H Q :=
  ⟨.ref a, .ref C, .ref C, .ref C, true, rfl, .own C, .base (.ins e cl ty.ha ty.hn ty.htk ty.hm), by unfold PySem.W.kitOne; exact if_pos (beq_self_eq_true _), q⟩
theorem ok_World___eq__ (T : Txt K mg) : FnOk P w K mg base CX0 1 T.a_World___eq__ T.d_World___eq__ ["self", "thing"] (spWEq K T.C_World) := by
  refine T.F_World___eq__.ok sc_World___eq__ (fun vs H Q E h => ?_) (fun cdv A outer s H vs Q E hr h => ?_)
  · obtain ⟨M, a, b, ds, n, mv, ds', n', mv', rfl, _⟩ := h
    rfl
  · obtain ⟨M, a, b, ds, n, mv, ds', n', mv', rfl, hC, ⟨dx, km, kb, fs, ha, l1, l2, l3, l4, hk, hb⟩, ⟨dx', km', kb', fs', ha', l1', l2', l3', l4', hk', hb'⟩, hd, hd', hp, hp', k⟩ := h
    refine ⟨_, (pss_cons (ps_if (pt_not (pt_val (pe_callB call_isi (by rfl) T.n_isinstance (by decide +kernel) (pa_cons (pv 1) (pa_cons (pe_glob (v := .ref T.C_World) rfl T.g_World rfl) pa_nil))))) (pss_one (ps_ret pe_bl)) pss_nil)
      (pss_one (ps_ret (pe_and (pe_cmpR op_eq (pe_fld (pv 0) rfl) (pe_fld (pv 1) rfl) (nomark _)) (pe_one (pe_cmpR (op_eqX (room65 hr)) (pe_fld (pv 0) rfl) (pe_fld (pv 1) rfl) (nomark _))))))), ?_⟩
    walk_at "rd0"
    walk_at "rd"
    refine r_isiO ha'.1 T.cl_World T.ty_World ?_
    walk_at "rd"
    refine ⟨a, T.C_World, dx, fs, _, rfl, ha.1, hC.cls, hC.n1, l1, ?_⟩
    walk_at "rd"
    refine ⟨b, T.C_World, dx', fs', _, rfl, ha'.1, hC.cls, hC.n1, l1', ?_⟩
    walk_at "rd"
    rw [tx_dec]
    by_cases e : ds = ds'
    · subst e
      rw [decide_eq_true rfl]
      walk_at "rd"
      refine ⟨a, T.C_World, dx, fs, _, rfl, ha.1, hC.cls, hC.n3, l3, ?_⟩
      walk_at "rd"
      refine ⟨b, T.C_World, dx', fs', _, rfl, ha'.1, hC.cls, hC.n3, l3', ?_⟩
      obtain ⟨ad, hka, hkv⟩ := hk
      obtain ⟨ad', hka', hkv'⟩ := hk'
      refine .inr ⟨km, km', _, _, _, rfl, rfl, hka.1, hka'.1, fun _ => eqkv_moves (A := mvL mv) (fun c hc => .inl (hkv' c hc).1) (lets ds) (fun c hc => hc) (fun c hc => .inl (hkv c hc).1), ?_⟩
      rw [kvs_len, kvs_len, beq_self_eq_true, Bool.true_and]
      rw [show decide (∀ c ∈ lets ds, mvL mv c = mvL mv' c) = decide (ds = ds ∧ ∀ c ∈ ds, mv c = mv' c) from decide_eq_decide.mpr ((mvL_ext hd.low).trans ⟨fun h => ⟨rfl, h⟩, fun h => h.2⟩)]
      exact k
    · rw [decide_eq_false e]
      walk_at "rd"
      rw [decide_eq_false (fun z => e z.1)] at k
      exact k
/-- goes on for a standing of a world, raises NoStanding for all else -/
def spCheckStanding (K : PySem.W.Frag) (D : Addr) : Sp := fun vs H Q E => ∃ (M : Addr → Prop) (w C : Addr) (ds : List Nat) (n : Nat) (mv : Nat → List Nat) (x : V), vs = [.ref w, x] ∧ WCls K C ∧ WorldAt M H w C ds n mv ∧
  ((∃ i : Int, x = .int i ∧ 0 ≤ i ∧ i < n ∧ Q .non H) ∨ (((∃ i : Int, x = .int i ∧ ¬ (0 ≤ i ∧ i < n)) ∨ NoInt K H x) ∧ E (.ref D) none H))
theorem ok_check_standing (T : Txt K mg) : FnOk P w K mg base (L2.CX P w) 3 T.a_check_standing T.d_check_standing ["world", "standing"] (spCheckStanding K T.C_NoStanding) := by
  refine T.F_check_standing.okX sc_check_standing (fun vs H Q E h => ?_) (fun cdv A outer s H vs Q E hr h => ?_)
  · obtain ⟨M, w, C, ds, n, mv, x, rfl, _⟩ := h
    rfl
  · obtain ⟨M, w, C, ds, n, mv, x, rfl, hC, ⟨dx, km, kb, fs, ha, l1, l2, l3, l4, hk, hb⟩, h⟩ := h
    refine ⟨_, (pss_one (ps_if (pt_not (pt_val (pe_call (ok_is_standing T) (hr.mono (by decide)) rfl T.g_is_standing T.F_is_standing.kp T.b_is_standing .nil pass0 (pa_cons (pe_fld (pv 0) rfl) (pa_cons (pv 1) pa_nil))))) (pss_one (ps_raise rfl (takes_of rfl rfl rfl rfl) (pmk_own0 PySem.F.excBase_ValueError T.x_NoStanding T.g_NoStanding T.k_NoStanding (raises_own T.xb_NoStanding T.xt_NoStanding) rfl))) pss_nil)), ?_⟩
    walk_at "rd0"
    walk_at "rd"
    refine ⟨w, C, dx, fs, _, rfl, ha.1, hC.cls, hC.n2, l2, ?_⟩
    walk_at "rd"
    rcases h with ⟨i, rfl, h0, h1, k⟩ | ⟨hn, k⟩
    · refine ⟨n, _, rfl, .inl ⟨i, rfl, ?_⟩⟩
      rw [decide_eq_true ⟨h0, h1⟩]
      walk_at "rd"
      exact k
    · refine ⟨n, x, rfl, ?_⟩
      rcases hn with ⟨i, rfl, hi⟩ | hn
      · refine .inl ⟨i, rfl, ?_⟩
        rw [decide_eq_false hi]
        walk_at "rd"
        exact k
      · refine .inr ⟨hn, ?_⟩
        walk_at "rd"
        exact k
/-- the move of a row -/
def rowM (n : Nat) (mv : Nat → List Nat) (l : List Nat) : List Nat := l.foldl (fun f x => comp f (mvL mv x)) (List.range n)
theorem rowM_snoc (n : Nat) (mv : Nat → List Nat) (l : List Nat) (x : Nat) : rowM n mv (l ++ [x]) = comp (rowM n mv l) (mvL mv x) := by
  unfold rowM
  rw [List.foldl_append]; rfl
theorem rowM_isP {ds : List Nat} {n : Nat} {mv : Nat → List Nat} (hl : ∀ c ∈ ds, isLow c) (h : IsMv ds n mv) (l : List Nat) : (∀ x ∈ l, x ∈ lets ds) → IsP n (rowM n mv l) := by
  suffices ∀ (l : List Nat) (f : List Nat), IsP n f → (∀ x ∈ l, x ∈ lets ds) → IsP n (l.foldl (fun f x => comp f (mvL mv x)) f) from this l _ (isP_range n)
  intro l
  induction l with
  | nil => exact fun f hf _ => hf
  | cons x l ih => exact fun f hf hx => ih _ (hf.comp (mvL_isP hl h (hx x List.mem_cons_self))) fun y hy => hx y (List.mem_cons_of_mem _ hy)
def spRowMove (K : PySem.W.Frag) : Sp := fun vs H Q _ => ∃ (M : Addr → Prop) (w C : Addr) (ds : List Nat) (n : Nat) (mv : Nat → List Nat) (l : List Nat), vs = [.ref w, .str (tx l)] ∧ WCls K C ∧ WorldAt M H w C ds n mv ∧ Deeds ds ∧ IsMv ds n mv ∧ n ≤ 1000 ∧ (∀ x ∈ l, x ∈ lets ds) ∧
  ∀ p H', H p = none → Same H H' → H' p = some (.tup (nT (rowM n mv l))) → Q (.ref p) H'
theorem ok_row_move (T : Txt K mg) : FnOk P w K mg base CX0 2 T.a_row_move T.d_row_move ["world", "row"] (spRowMove K) := by
  refine T.F_row_move.ok sc_row_move (fun vs H Q E h => ?_) (fun cdv A outer s H vs Q E hr h => ?_)
  · obtain ⟨M, w, C, ds, n, mv, l, rfl, _⟩ := h
    rfl
  · obtain ⟨M, w, C, ds, n, mv, l, rfl, hC, ⟨dx, km, kb, fs, ha, l1, l2, l3, l4, ⟨ad, hka, hkv⟩, hb⟩, hd, hp, hn, hl, k⟩ := h
    refine ⟨_, (pss_cons (ps_set (i := 2) sc_row_move.nd rfl (Or.inl rfl) (pe_call (ok_standing_still T) (hr.mono (by decide)) rfl T.g_standing_still T.F_standing_still.kp T.b_standing_still .nil pass0 (pa_cons (pe_fld (pv 0) rfl) pa_nil)))
      (pss_cons (ps_for PassesOwn.never rfl (pi_str (pv 1)) (pg_name (i := 3) sc_row_move.nd rfl (Or.inl rfl)) (pss_one (ps_set (i := 2) sc_row_move.nd rfl (Or.inl rfl) (pe_call (ok_composed T) (hr.mono (by decide)) rfl T.g_composed T.F_composed.kp T.b_composed .nil pass0 (pa_cons (pv 2) (pa_cons (pe_dget (hu_of hr) (pe_fld (pv 0) rfl) (pv 3) (fun _ _ => rfl)) pa_nil))))))
      (pss_one (ps_ret (pv 2))))), ?_⟩
    walk_at "rd0"
    walk_at "rd"
    refine ⟨w, C, dx, fs, _, rfl, ha.1, hC.cls, hC.n2, l2, ?_⟩
    walk_at "rd"
    refine ⟨n, rfl, hn, fun p H1 np s1 h1 => ?_⟩
    walk_at "rd"
    refine ⟨_, rfl, ?_⟩
    refine for_walk walk_str (fun i σ H' => ∃ (q : Addr) (v : Option V), σ = [some (.ref w), some (.str (tx l)), some (.ref q), v] ∧ Same H H' ∧ H q = none ∧ H' q = some (.tup (nT (rowM n mv (l.take i)))))
      ⟨p, none, rfl, s1, np, h1⟩ (fun _ _ _ _ _ => trivial) ?_ ?_
    · intro i x σ H3 H4 hi hW hy
      obtain ⟨rfl, c, hc, rfl⟩ := hy
      obtain ⟨q, v, rfl, s3, nq, h3⟩ := hW
      have hc' : l[i]? = some c := by simpa using hc
      have hcm := hl c (List.mem_of_getElem? hc')
      have hP := rowM_isP hd.low hp (l.take i) fun x hx => hl x (List.mem_of_mem_take hx)
      have hG := mvL_isP hd.low hp hcm
      walk_at "rd"
      refine ⟨w, C, dx, fs, _, rfl, s3 _ _ ha.1, hC.cls, hC.n3, l3, ?_⟩
      walk_at "rd"
      have hget := DGet.k (k := kL c) (s3 _ _ hka.1)
      rw [val_in hcm] at hget
      refine ⟨km, _, rfl, hget, ?_⟩
      walk_at "rd"
      refine ⟨q, ad c, rowM n mv (l.take i), mvL mv c, rfl, .inl (.inl h3), .inl (s3.rd (hkv c hcm).1), by rw [hP.len]; omega, fun x hx => by rw [hG.len]; exact hP.mem.mp hx, fun q2 H5 nq2 s5 h5 => ?_⟩
      walk_at "rd"
      refine ⟨q2, _, rfl, s3.trans s5, s3.free nq2, ?_⟩
      rw [take_snoc hc', rowM_snoc]
      exact h5
    · intro σ H3 hW
      obtain ⟨q, v, rfl, s3, nq, h3⟩ := hW
      rw [show (tx l).cps.size = l.length by simp, List.take_length] at h3
      walk_at "rd"
      exact k q H3 nq s3 h3
/-- no row over the deeds -/
def BadRow (K : PySem.W.Frag) (H : Hp) (ds : List Nat) (x : V) : Prop := (∃ l, x = .str (tx l) ∧ ¬ ∀ c ∈ l, c ∈ lets ds) ∨ NoStr K H x
def BadSt (K : PySem.W.Frag) (H : Hp) (n : Nat) (x : V) : Prop := (∃ i : Int, x = .int i ∧ ¬ (0 ≤ i ∧ i < n)) ∨ NoInt K H x
def ledN (mv : Nat → List Nat) (s : Nat) (l : List Nat) : Nat := l.foldl (fun s x => app (mvL mv x) s) s
def spLed (K : PySem.W.Frag) (CS CR : Addr) : Sp := fun vs H Q E => ∃ (M : Addr → Prop) (w C : Addr) (ds : List Nat) (n : Nat) (mv : Nat → List Nat) (x r : V), vs = [.ref w, x, r] ∧ WCls K C ∧ WorldAt M H w C ds n mv ∧ Deeds ds ∧ IsMv ds n mv ∧
  ((∃ s : Nat, x = .int s ∧ s < n ∧ ((∃ l, r = .str (tx l) ∧ (∀ c ∈ l, c ∈ lets ds) ∧ Q (.int ((ledN mv s l : Nat) : Int)) H) ∨ (BadRow K H ds r ∧ E (.ref CR) none H))) ∨ (BadSt K H n x ∧ E (.ref CS) none H))
theorem ok_led (T : Txt K mg) : FnOk P w K mg base (L2.CX P w) 4 T.a_led T.d_led ["world", "standing", "row"] (spLed K T.C_NoStanding T.C_NoRow) := by
  refine T.F_led.okX sc_led (fun vs H Q E h => ?_) (fun cdv A outer s H vs Q E hr h => ?_)
  · obtain ⟨M, w, C, ds, n, mv, x, r, rfl, _⟩ := h
    rfl
  · obtain ⟨M, w, C, ds, n, mv, x, r, rfl, hC, hW, hd, hp, h⟩ := h
    obtain ⟨dx, km, kb, fs, ha, l1, l2, l3, l4, ⟨ad, hka, hkv⟩, hb⟩ := hW.ex
    refine ⟨_, (pss_cons (ps_expr (pe_call (ok_check_standing T) (hr.mono (by decide)) rfl T.g_check_standing T.F_check_standing.kp T.b_check_standing .nil (passes_call (takes_of rfl rfl rfl rfl) (fun _ _ _ _ h => h)) (pa_cons (pv 0) (pa_cons (pv 1) pa_nil))))
      (pss_cons (ps_expr (pe_call (ok_check_row T) (hr.mono (by decide)) rfl T.g_check_row T.F_check_row.kp T.b_check_row .nil (passes_call (takes_of rfl rfl rfl rfl) (fun _ _ _ _ h => h)) (pa_cons (pe_fld (pv 0) rfl) (pa_cons (pv 2) pa_nil))))
      (pss_cons (ps_for (passes_of rfl) rfl (pi_str (pv 2)) (pg_name (i := 3) sc_led.nd rfl (Or.inl rfl)) (pss_one (ps_set (i := 1) sc_led.nd rfl (Or.inl rfl) (pe_ix ix_tup (pe_dget (hu_of hr) (pe_fld (pv 0) rfl) (pv 3) (fun _ _ => rfl)) (pv 1) (fun _ _ => rfl)))))
      (pss_one (ps_ret (pv 1)))))), ?_⟩
    walk_at "rd0"
    walk_at "rd"
    rcases h with ⟨s0, rfl, hs, h⟩ | ⟨hb, k⟩
    · refine ⟨M, w, C, ds, n, mv, _, rfl, hC, hW, .inl ⟨s0, rfl, by omega, by omega, ?_⟩⟩
      walk_at "rd"
      refine ⟨w, C, dx, fs, _, rfl, ha.1, hC.cls, hC.n1, l1, ?_⟩
      walk_at "rd"
      rcases h with ⟨l, rfl, hl, k⟩ | ⟨hb, k⟩
      · refine ⟨ds, _, rfl, hd, .inl ⟨l, rfl, hl, ?_⟩⟩
        walk_at "rd"
        refine ⟨_, rfl, ?_⟩
        refine for_walk walk_str (fun i σ H' => ∃ (v : Option V), σ = [some (.ref w), some (.int ((ledN mv s0 (l.take i) : Nat) : Int)), some (.str (tx l)), v] ∧ H' = H ∧ ledN mv s0 (l.take i) < n)
          ⟨none, rfl, rfl, hs⟩ (fun _ _ _ _ _ => trivial) ?_ ?_
        · intro i x σ H3 H4 hi hW' hy
          obtain ⟨rfl, c, hc, rfl⟩ := hy
          obtain ⟨v, rfl, rfl, hlt⟩ := hW'
          have hc' : l[i]? = some c := by simpa using hc
          have hcm := hl c (List.mem_of_getElem? hc')
          have hG := mvL_isP hd.low hp hcm
          walk_at "rd"
          refine ⟨w, C, dx, fs, _, rfl, ha.1, hC.cls, hC.n3, l3, ?_⟩
          walk_at "rd"
          have hget := DGet.k (k := kL c) hka.1
          rw [val_in hcm] at hget
          refine ⟨km, _, rfl, hget, ?_⟩
          walk_at "rd"
          refine Rb.r_ixT (.inl (hkv c hcm).1) (atI_of (j := ledN mv s0 (l.take i)) rfl (nT_app (by rw [hG.len]; exact hlt))) ?_
          walk_at "rd"
          have e : ledN mv s0 (l.take (i + 1)) = app (mvL mv c) (ledN mv s0 (l.take i)) := by
            rw [take_snoc hc']
            unfold ledN
            rw [List.foldl_append]; rfl
          rw [e]
          exact ⟨_, rfl, rfl, hG.lt hlt⟩
        · intro σ H3 hW'
          obtain ⟨v, rfl, rfl, hlt⟩ := hW'
          rw [show (tx l).cps.size = l.length by simp, List.take_length]
          walk_at "rd"
          exact k
      · exact ⟨ds, r, rfl, hd, .inr ⟨hb, k⟩⟩
    · exact ⟨M, w, C, ds, n, mv, x, rfl, hC, hW, .inr ⟨hb, k⟩⟩
def spMoveOf (K : PySem.W.Frag) (CR : Addr) : Sp := fun vs H Q E => ∃ (M : Addr → Prop) (w C : Addr) (ds : List Nat) (n : Nat) (mv : Nat → List Nat) (r : V), vs = [.ref w, r] ∧ WCls K C ∧ WorldAt M H w C ds n mv ∧ Deeds ds ∧ IsMv ds n mv ∧ n ≤ 1000 ∧
  ((∃ l, r = .str (tx l) ∧ (∀ c ∈ l, c ∈ lets ds) ∧ ∀ p H', H p = none → Same H H' → H' p = some (.tup (nT (rowM n mv l))) → Q (.ref p) H') ∨ (BadRow K H ds r ∧ E (.ref CR) none H))
theorem ok_move_of (T : Txt K mg) : FnOk P w K mg base (L2.CX P w) 4 T.a_move_of T.d_move_of ["world", "row"] (spMoveOf K T.C_NoRow) := by
  refine T.F_move_of.okX sc_move_of (fun vs H Q E h => ?_) (fun cdv A outer s H vs Q E hr h => ?_)
  · obtain ⟨M, w, C, ds, n, mv, r, rfl, _⟩ := h
    rfl
  · obtain ⟨M, w, C, ds, n, mv, r, rfl, hC, hW, hd, hp, hn, h⟩ := h
    obtain ⟨dx, km, kb, fs, ha, l1, l2, l3, l4, _, _⟩ := hW.ex
    refine ⟨_, (pss_cons (ps_expr (pe_call (ok_check_row T) (hr.mono (by decide)) rfl T.g_check_row T.F_check_row.kp T.b_check_row .nil (passes_call (takes_of rfl rfl rfl rfl) (fun _ _ _ _ h => h)) (pa_cons (pe_fld (pv 0) rfl) (pa_cons (pv 1) pa_nil))))
      (pss_one (ps_ret (pe_call (ok_row_move T) (hr.mono (by decide)) rfl T.g_row_move T.F_row_move.kp T.b_row_move .nil pass0 (pa_cons (pv 0) (pa_cons (pv 1) pa_nil)))))), ?_⟩
    walk_at "rd0"
    walk_at "rd"
    refine ⟨w, C, dx, fs, _, rfl, ha.1, hC.cls, hC.n1, l1, ?_⟩
    walk_at "rd"
    rcases h with ⟨l, rfl, hl, k⟩ | ⟨hb, k⟩
    · refine ⟨ds, _, rfl, hd, .inl ⟨l, rfl, hl, ?_⟩⟩
      walk_at "rd"
      exact ⟨M, w, C, ds, n, mv, l, rfl, hC, hW, hd, hp, hn, hl, k⟩
    · exact ⟨ds, r, rfl, hd, .inr ⟨hb, k⟩⟩
def spOrder (K : PySem.W.Frag) (CR : Addr) : Sp := fun vs H Q E => ∃ (M : Addr → Prop) (w C : Addr) (ds : List Nat) (n : Nat) (mv : Nat → List Nat) (r : V), vs = [.ref w, r] ∧ WCls K C ∧ WorldAt M H w C ds n mv ∧ Deeds ds ∧ IsMv ds n mv ∧ n ≤ 1000 ∧
  ((∃ l, r = .str (tx l) ∧ (∀ c ∈ l, c ∈ lets ds) ∧ ∀ (m : Nat) H', Same H H' → Ord (rowM n mv l) (fun i => i < n) m → Q (.int m) H') ∨ (BadRow K H ds r ∧ E (.ref CR) none H))
theorem ok_order (T : Txt K mg) : FnOk P w K mg base (L2.CX P w) 4 T.a_order T.d_order ["world", "row"] (spOrder K T.C_NoRow) := by
  refine T.F_order.okX sc_order (fun vs H Q E h => ?_) (fun cdv A outer s H vs Q E hr h => ?_)
  · obtain ⟨M, w, C, ds, n, mv, r, rfl, _⟩ := h
    rfl
  · obtain ⟨M, w, C, ds, n, mv, r, rfl, hC, hW, hd, hp, hn, h⟩ := h
    obtain ⟨dx, km, kb, fs, ha, l1, l2, l3, l4, _, _⟩ := hW.ex
    refine ⟨_, (pss_cons (ps_expr (pe_call (ok_check_row T) (hr.mono (by decide)) rfl T.g_check_row T.F_check_row.kp T.b_check_row .nil (passes_call (takes_of rfl rfl rfl rfl) (fun _ _ _ _ h => h)) (pa_cons (pe_fld (pv 0) rfl) (pa_cons (pv 1) pa_nil))))
      (pss_one (ps_ret (pe_call (ok_order_of T) (hr.mono (by decide)) rfl T.g_order_of T.F_order_of.kp T.b_order_of .nil pass0 (pa_cons (pe_call (ok_row_move T) (hr.mono (by decide)) rfl T.g_row_move T.F_row_move.kp T.b_row_move .nil pass0 (pa_cons (pv 0) (pa_cons (pv 1) pa_nil))) pa_nil))))), ?_⟩
    walk_at "rd0"
    walk_at "rd"
    refine ⟨w, C, dx, fs, _, rfl, ha.1, hC.cls, hC.n1, l1, ?_⟩
    walk_at "rd"
    rcases h with ⟨l, rfl, hl, k⟩ | ⟨hb, k⟩
    · refine ⟨ds, _, rfl, hd, .inl ⟨l, rfl, hl, ?_⟩⟩
      walk_at "rd"
      refine ⟨M, w, C, ds, n, mv, l, rfl, hC, hW, hd, hp, hn, hl, fun p H2 np s2 h2 => ?_⟩
      walk_at "rd"
      exact ⟨p, rowM n mv l, n, rfl, .inl (.inl h2), rowM_isP hd.low hp l hl, by omega, fun m H3 ho s3 => k m H3 (s2.trans s3) ho⟩
    · exact ⟨ds, r, rfl, hd, .inr ⟨hb, k⟩⟩
end
end Rb
namespace Rb
open PySem L2
section
variable {P : Program} {w : World} {K : PySem.W.Frag} {mg : Str → Option Value} {base : Heap}
/-! ### the law's own words -/
def spOther : Sp := fun vs H Q _ => ∃ c, vs = [.str (tx [c])] ∧ isLet c ∧ Q (.str (tx [flip c])) H
theorem ok__law_other (T : Txt K mg) : FnOk P w K mg base CX0 1 T.a__law_other T.d__law_other ["_law_letter"] spOther := by
  refine T.F__law_other.ok sc__law_other (fun vs H Q E h => ?_) (fun cdv A outer s H vs Q E hr h => ?_)
  · obtain ⟨c, rfl, _⟩ := h
    rfl
  · obtain ⟨c, rfl, hc, k⟩ := h
    refine ⟨_, (pss_one (ps_ret (pe_ifExp (pt_val (pe_m0 PySem.F.slot_str_islower PySem.F.type_str_islower mt_islowerR (pv 0))) (pe_m0 PySem.F.slot_str_upper PySem.F.type_str_upper mt_upperR (pv 0)) (pe_m0 PySem.F.slot_str_lower PySem.F.type_str_lower mt_lowerR (pv 0))))), ?_⟩
    walk_at "rd0"
    walk_at "rd"
    rw [il_of hc]
    by_cases h : 97 ≤ c
    · rw [decide_eq_true h]
      walk_at "rd"
      refine Rb.r_upper (by show 1 ≤ 5592405; decide) ?_
      rw [up_of hc, show up c = flip c by unfold up flip; rw [if_pos h, if_pos h]]
      walk_at "rd"
      exact k
    · rw [decide_eq_false h]
      walk_at "rd"
      refine Rb.r_lower (by show 1 ≤ 5592405; decide) ?_
      rw [lo_of hc, show lo c = flip c by unfold lo flip; rw [if_neg h, if_neg h]]
      walk_at "rd"
      exact k
theorem sgs_len (l : List Nat) : (sgs l).length = l.length := by unfold sgs; rw [List.length_map]
theorem sgs_map (l : List Nat) : sgs l = (l.map fun c => tx [c]).map V.str := by
  unfold sgs
  rw [List.map_map]; rfl
def spBackRow : Sp := fun vs H Q _ => ∃ l, vs = [.str (tx l)] ∧ (∀ c ∈ l, isLet c) ∧ l.length ≤ 10000 ∧ ∀ H', Same H H' → Q (.str (tx (l.reverse.map flip))) H'
theorem ok__law_back_row (T : Txt K mg) : FnOk P w K mg base CX0 2 T.a__law_back_row T.d__law_back_row ["_law_row_here"] spBackRow := by
  refine T.F__law_back_row.ok sc__law_back_row (fun vs H Q E h => ?_) (fun cdv A outer s H vs Q E hr h => ?_)
  · obtain ⟨l, rfl, _⟩ := h
    rfl
  · obtain ⟨l, rfl, hl, hn, k⟩ := h
    refine ⟨_, (pss_one (ps_ret (pe_m1 PySem.F.slot_str_join PySem.F.type_str_join mt_joinR pe_str (pe_lc (own := [("_law_letter", 1)]) (g := gName 1) (tt := tYes)  rfl sc__law_back_row.nd (pi_str (pe_revS (pv 0))) (blkOk_by (own := [("_law_letter", 1)]) (N := ["_law_row_here", "_law_letter"]) (sc := defScope st__law_back_row) (by decide +kernel)) (fun _ _ _ _ _ => (pg_name (i := 1) sc__law_back_row.nd rfl (Or.inl rfl))) (fun _ _ _ _ _ => pts_nil) (fun _ _ _ _ _ => (pe_call (ok__law_other T) (hr.mono (by decide)) rfl T.g__law_other T.F__law_other.kp T.b__law_other .nil pass0 (pa_cons (pv 1) pa_nil))))))), ?_⟩
    walk_at "rd0"
    walk_at "rd"
    refine Rb.r_revS ?_
    walk_at "rd"
    refine ⟨l, rfl, sz_le (by omega), _, rfl, ?_⟩
    have esz : (tx l.reverse).cps.size = l.length := by simp
    have egd : ∀ i, (tx l.reverse).cps.getD i 0 = l.reverse.getD i 0 := fun i => by simp
    refine lc_det (M := M0) (J := fun _ => True) (walk_str (z := tx l.reverse)) _ ystr (fun _ => true) (fun i => .str (tx [flip (l.reverse.getD i 0)])) (fun _ _ _ => trivial) trivial (fun _ _ _ _ _ => trivial) (fun _ _ => id) (by omega) ?_ ?_ ?_
    · exact fun i H' hi f _ R r => r _ (FrM.refl _ _) trivial
    · intro i H' hi _ f' _ R r
      rw [esz] at hi
      have hm : isLet (l.reverse.getD i 0) := by
        have hi2 : i < l.reverse.length := by rw [List.length_reverse]; exact hi
        rw [List.getD_eq_getElem?_getD, List.getElem?_eq_getElem hi2]
        exact hl _ (List.mem_reverse.mp (List.getElem_mem hi2))
      walk_at "rd"
      rw [egd]
      exact ⟨_, rfl, hm, r _ (FrM.refl _ _) trivial⟩
    intro D H2 nD f2 _ h2
    have e : (((List.range (tx l.reverse).cps.size).filter fun _ => true).map fun i => V.str (tx [flip (l.reverse.getD i 0)])) = sgs (l.reverse.map flip) := by
      rw [List.filter_eq_self.mpr (fun _ _ => rfl), esz]
      refine List.ext_getElem? fun i => ?_
      unfold sgs
      rw [List.getElem?_map, List.getElem?_map, List.getElem?_map]
      by_cases hi : i < l.length
      · have hi2 : i < l.reverse.length := by rw [List.length_reverse]; exact hi
        rw [List.getElem?_range hi, List.getElem?_eq_getElem hi2]
        show some (V.str (tx [flip (l.reverse.getD i 0)])) = some (V.str (tx [flip l.reverse[i]]))
        rw [List.getD_eq_getElem?_getD, List.getElem?_eq_getElem hi2]; rfl
      · rw [List.getElem?_eq_none (by rw [List.length_range]; omega), List.getElem?_eq_none (by rw [List.length_reverse]; omega)]; rfl
    rw [e, sgs_map] at h2
    refine Rb.r_join (.inl (.inl h2)) ?_ ?_
    · have hs : ∀ l : List Nat, ((l.map fun c => tx [c]).map (·.length)).sum = l.length := fun l => by
        induction l with
        | nil => rfl
        | cons c l ih => rw [List.map_cons, List.map_cons, List.sum_cons, ih, List.length_cons, tx_len]; show 1 + _ = _; omega
      rw [hs, List.length_map, List.length_map, List.length_reverse]
      show _ + _ * 0 ≤ _
      omega
    · rw [empty_tx, join_ones]
      exact k _ f2.same
/-- one letter's step -/
def spStep : Sp := fun vs H Q _ => ∃ (M : Addr → Prop) (m : Addr) (ds : List Nat) (n : Nat) (mv : Nat → List Nat) (c s : Nat), vs = [.ref m, .str (tx [c]), .int s] ∧ MovesP M H m ds mv ∧ IsMv ds n mv ∧ (∀ c ∈ ds, isLow c) ∧ c ∈ lets ds ∧ s < n ∧ Q (.int ((app (mvL mv c) s : Nat) : Int)) H
theorem ok__law_step (T : Txt K mg) : FnOk P w K mg base CX0 1 T.a__law_step T.d__law_step ["_law_moves_here", "_law_letter", "_law_standing"] spStep := by
  refine T.F__law_step.ok sc__law_step (fun vs H Q E h => ?_) (fun cdv A outer s H vs Q E hr h => ?_)
  · obtain ⟨M, m, ds, n, mv, c, s, rfl, _⟩ := h
    rfl
  · obtain ⟨M, m, ds, n, mv, c, s0, rfl, ⟨ad, hm, ht⟩, hp, hlow, hc, hs, k⟩ := h
    refine ⟨_, (pss_cons (ps_if (pt_cmpR op_eq (pv 1) pe_str (nomark _)) (pss_one (ps_ret (pv 2))) pss_nil)
      (pss_cons (ps_if (pt_cmp (pc_din (hu_of hr) (pv 1) (pv 0))) (pss_one (ps_ret (pe_ix ix_tup (pe_dget (hu_of hr) (pv 0) (pv 1) (fun _ _ => rfl)) (pv 2) (fun _ _ => rfl)))) pss_nil)
      (pss_one (ps_ret (pe_bmT PySem.F.plainAttrs_tuple PySem.F.slot_tuple_index PySem.F.type_tuple_index mt_tup_indexI (pe_dget (hu_of hr) (pv 0) (pe_m0 PySem.F.slot_str_lower PySem.F.type_str_lower mt_lowerR (pv 1)) (fun _ _ => rfl)) (pa_cons (pv 2) pa_nil)))))), ?_⟩
    walk_at "rd0"
    walk_at "rd"
    rw [decide_eq_false (show ¬ (V.str (tx [c]) = V.str ("" : Str)) by rw [empty_tx]; intro z; have := tx_inj (V.str.inj z); cases this)]
    walk_at "rd"
    refine ⟨m, _, rfl, DGet.k (k := kL c) hm.1, ?_⟩
    obtain ⟨d, hd, rfl | rfl⟩ := lets_mem.mp hc
    · rw [val_in hd]
      walk_at "rd"
      refine iteT ?_
      walk_at "rd"
      have hget := DGet.k (k := kL c) hm.1
      rw [val_in hd] at hget
      refine ⟨m, _, rfl, hget, ?_⟩
      walk_at "rd"
      obtain ⟨ob, hob, hA⟩ := ht c hd
      refine Rb.r_ixT (.inl (.inr ⟨ob, hA.1⟩)) (atI_of (j := s0) rfl (nT_app (by rw [IsP.len (hp c hd)]; exact hs))) ?_
      walk_at "rd"
      rw [mvL_low (hlow c hd)] at k
      exact k
    · have hn : flip d ∉ ds := fun z => by
        have := (hlow _ z).1
        have := (flip_up (hlow d hd)).2
        omega
      rw [val_out hn]
      walk_at "rd"
      refine iteF ?_
      walk_at "rd"
      refine Rb.r_bmT ?_
      walk_at "rd"
      refine Rb.r_lower (by show 1 ≤ 5592405; decide) ?_
      rw [lo_of (.inr (flip_up (hlow d hd))), lo_flip (hlow d hd)]
      have hget := DGet.k (k := kL d) hm.1
      rw [val_in hd] at hget
      refine ⟨m, _, rfl, hget, ?_⟩
      obtain ⟨ob, hob, hA⟩ := ht d hd
      refine ⟨⟨_, ob, _, rfl, hA.1, hob⟩, ?_⟩
      walk_at "rd"
      have hP : IsP n (mv d) := hp d hd
      refine ⟨_, mv d, s0, rfl, rfl, .inl (.inr ⟨ob, hA.1⟩), hP.mem.mpr hs, ?_⟩
      rw [mvL_up (hlow d hd), app_inv (by rw [hP.len]; exact hs)] at k
      walk_at "rd"
      exact k
def spLedL : Sp := fun vs H Q _ => ∃ (M : Addr → Prop) (m : Addr) (ds : List Nat) (n : Nat) (mv : Nat → List Nat) (l : List Nat) (s : Nat), vs = [.ref m, .int s, .str (tx l)] ∧ MovesP M H m ds mv ∧ IsMv ds n mv ∧ (∀ c ∈ ds, isLow c) ∧ (∀ c ∈ l, c ∈ lets ds) ∧ s < n ∧ Q (.int ((ledN mv s l : Nat) : Int)) H
theorem ledN_snoc {mv : Nat → List Nat} {s : Nat} {l : List Nat} {c : Nat} : ledN mv s (l ++ [c]) = app (mvL mv c) (ledN mv s l) := by
  unfold ledN
  rw [List.foldl_append]; rfl
theorem ok__law_led (T : Txt K mg) : FnOk P w K mg base CX0 2 T.a__law_led T.d__law_led ["_law_moves_here", "_law_standing", "_law_row_here"] spLedL := by
  refine T.F__law_led.ok sc__law_led (fun vs H Q E h => ?_) (fun cdv A outer s H vs Q E hr h => ?_)
  · obtain ⟨M, m, ds, n, mv, l, s, rfl, _⟩ := h
    rfl
  · obtain ⟨M, m, ds, n, mv, l, s0, rfl, hm, hp, hlow, hl, hs, k⟩ := h
    refine ⟨_, (pss_cons (ps_for PassesOwn.never rfl (pi_str (pv 2)) (pg_name (i := 3) sc__law_led.nd rfl (Or.inl rfl)) (pss_one (ps_set (i := 1) sc__law_led.nd rfl (Or.inl rfl) (pe_call (ok__law_step T) (hr.mono (by decide)) rfl T.g__law_step T.F__law_step.kp T.b__law_step .nil pass0 (pa_cons (pv 0) (pa_cons (pv 3) (pa_cons (pv 1) pa_nil)))))))
      (pss_one (ps_ret (pv 1)))), ?_⟩
    walk_at "rd0"
    walk_at "rd"
    refine ⟨_, rfl, ?_⟩
    refine for_walk walk_str (fun i σ H' => ∃ (v : Option V), σ = [some (.ref m), some (.int ((ledN mv s0 (l.take i) : Nat) : Int)), some (.str (tx l)), v] ∧ H' = H ∧ ledN mv s0 (l.take i) < n)
      ⟨none, rfl, rfl, hs⟩ (fun _ _ _ _ _ => trivial) ?_ ?_
    · intro i x σ H3 H4 hi hW hy
      obtain ⟨rfl, c, hc, rfl⟩ := hy
      obtain ⟨v, rfl, rfl, hlt⟩ := hW
      have hc' : l[i]? = some c := by simpa using hc
      have hcm := hl c (List.mem_of_getElem? hc')
      walk_at "rd"
      refine ⟨M, m, ds, n, mv, c, _, rfl, hm, hp, hlow, hcm, hlt, ?_⟩
      have e : ledN mv s0 (l.take (i + 1)) = app (mvL mv c) (ledN mv s0 (l.take i)) := by
        rw [take_snoc hc', ledN_snoc]
      rw [e]
      exact ⟨_, rfl, rfl, (mvL_isP hlow hp hcm).lt hlt⟩
    · intro σ H3 hW
      obtain ⟨v, rfl, rfl, hlt⟩ := hW
      rw [show (tx l).cps.size = l.length by simp, List.take_length]
      walk_at "rd"
      exact k
/-- the letters that are left -/
def netStep (left : List Nat) (x : Nat) : List Nat := if left.getLast? = some (flip x) then left.dropLast else left ++ [x]
def netL (l : List Nat) : List Nat := l.foldl netStep []
theorem netL_snoc (l : List Nat) (x : Nat) : netL (l ++ [x]) = netStep (netL l) x := by
  unfold netL
  rw [List.foldl_append]; rfl
theorem netStep_mem {left : List Nat} {x y : Nat} (h : y ∈ netStep left x) : y ∈ left ∨ y = x := by
  unfold netStep at h
  split at h
  · exact .inl (List.dropLast_subset _ h)
  · rcases List.mem_append.mp h with z | z
    · exact .inl z
    · exact .inr (List.mem_singleton.mp z)
theorem netL_mem {l : List Nat} {y : Nat} (h : y ∈ netL l) : y ∈ l := by
  suffices ∀ (l left : List Nat), y ∈ l.foldl netStep left → y ∈ l ∨ y ∈ left from (this l [] h).elim id fun z => by cases z
  intro l
  induction l with
  | nil => exact fun left h => .inr h
  | cons x l ih =>
    intro left h
    rcases ih _ h with z | z
    · exact .inl (List.mem_cons_of_mem _ z)
    · rcases netStep_mem z with z | z
      · exact .inr z
      · exact .inl (by rw [z]; exact List.mem_cons_self)
theorem netStep_len (left : List Nat) (x : Nat) : (netStep left x).length ≤ left.length + 1 := by
  unfold netStep
  split
  · rw [List.length_dropLast]; omega
  · rw [List.length_append]; exact Nat.le_refl _
theorem netL_len (l : List Nat) : (netL l).length ≤ l.length := by
  suffices ∀ (l left : List Nat), (l.foldl netStep left).length ≤ l.length + left.length from this l []
  intro l
  induction l with
  | nil => intro left; simp
  | cons x l ih =>
    intro left
    have := ih (netStep left x)
    have := netStep_len left x
    rw [List.foldl_cons, List.length_cons]
    omega
def spNet : Sp := fun vs H Q _ => ∃ l, vs = [.str (tx l)] ∧ (∀ c ∈ l, isLet c) ∧ l.length ≤ 10000 ∧ ∀ H', Same H H' → Q (.str (tx (netL l))) H'
theorem ok__law_net (T : Txt K mg) : FnOk P w K mg base CX0 2 T.a__law_net T.d__law_net ["_law_row_here"] spNet := by
  refine T.F__law_net.ok sc__law_net (fun vs H Q E h => ?_) (fun cdv A outer s H vs Q E hr h => ?_)
  · obtain ⟨l, rfl, _⟩ := h
    rfl
  · obtain ⟨l, rfl, hl, hn, k⟩ := h
    refine ⟨_, (pss_cons (ps_set (i := 1) sc__law_net.nd rfl (Or.inl rfl) (pe_lst pa_nil))
      (pss_cons (ps_for PassesOwn.never rfl (pi_str (pv 0)) (pg_name (i := 2) sc__law_net.nd rfl (Or.inl rfl)) (pss_one (ps_if (PW.pt (pw_and (pt_cmpR op_gt (pe_callB call_lenR (by rfl) T.n_len (by decide +kernel) (pa_cons (pv 1) pa_nil)) pe_int (nomark _)) (pw_and1 (pt_cmpR op_eq (pe_ix ix_list (pv 1) (pe_un un_neg pe_int) (fun _ _ => rfl)) (pe_call (ok__law_other T) (hr.mono (by decide)) rfl T.g__law_other T.F__law_other.kp T.b__law_other .nil pass0 (pa_cons (pv 2) pa_nil)) (nomark _))))) (pss_one (ps_expr (pe_bm0 PySem.F.plainAttrs_list PySem.F.slot_list_pop PySem.F.type_list_pop mt_pop (pv 1)))) (pss_one (ps_expr (pe_bm PySem.F.plainAttrs_list PySem.F.slot_list_append PySem.F.type_list_append mt_append (pv 1) (pa_cons (pv 2) pa_nil)))))))
      (pss_one (ps_ret (pe_m1 PySem.F.slot_str_join PySem.F.type_str_join mt_joinR pe_str (pv 1)))))), ?_⟩
    walk_at "rd0"
    walk_at "rd"
    refine ⟨by decide, fun p np => ?_⟩
    walk_at "rd"
    refine ⟨_, rfl, ?_⟩
    refine for_walk walk_str (fun i σ H' => ∃ (v : Option V), σ = [some (.str (tx l)), some (.ref p), v] ∧ Same H H' ∧ H' p = some (.lst (sgs (netL (l.take i)))))
      ⟨none, rfl, (Same.refl H).new np, upd_same⟩ (fun _ _ _ _ _ => trivial) ?_ ?_
    · intro i x σ H3 H4 hi hW hy
      obtain ⟨rfl, c, hc, rfl⟩ := hy
      obtain ⟨v, rfl, s3, h3⟩ := hW
      have hc' : l[i]? = some c := by simpa using hc
      have hcl := hl c (List.mem_of_getElem? hc')
      have hlen := netL_len (l.take i)
      have hti : (l.take i).length ≤ 10000 := by rw [List.length_take]; omega
      have hmem : ∀ y ∈ netL (l.take i), isLet y := fun y hy => hl y (List.mem_of_mem_take (netL_mem hy))
      obtain ⟨left, eleft⟩ : ∃ left, left = netL (l.take i) := ⟨_, rfl⟩
      have enx : netL (l.take (i + 1)) = netStep left c := by rw [take_snoc hc', netL_snoc, eleft]
      rw [← eleft] at h3 hlen hmem
      clear eleft
      walk_at "rd"
      refine Rb.r_lenL (.inl (.inl h3)) ?_
      rw [sgs_len]
      walk_at "rd"
      have happ : netStep left c = left ++ [c] → rAppend (.ref p) [.str ⟨#[c]⟩] H4 fun _ H5 => (∃ v : Option V, [some (V.str (tx l)), some (V.ref p), some (V.str ⟨#[c]⟩)] = [some (V.str (tx l)), some (V.ref p), v] ∧ Same H H5 ∧ H5 p = some (.lst (sgs (netL (l.take (i + 1)))))) := fun e => by
        refine Rb.r_append h3 (by rw [sgs_len]; exact sz_lt (by omega)) ⟨_, rfl, s3.mut np, ?_⟩
        rw [upd_same, enx, e]
        unfold sgs
        rw [List.map_append]; rfl
      rcases List.eq_nil_or_concat left with rfl | ⟨l0, z, rfl⟩
      · rw [decide_eq_false (by simp)]
        walk_at "rd"
        refine ⟨Rb.tyV_list h3, ?_⟩
        walk_at "rd"
        exact happ rfl
      · rw [List.concat_eq_append] at *
        rw [decide_eq_true (show ((l0 ++ [z]).length : Int) > 0 by rw [List.length_append]; show (0 : Int) < ((l0.length + 1 : Nat) : Int); omega)]
        walk_at "rd"
        have hz : isLet z := hmem z (List.mem_append_right _ (List.mem_singleton.mpr rfl))
        refine Rb.r_ixL h3 (v := .str (tx [z])) ?_ ?_
        · have e : sgs (l0 ++ [z]) = sgs l0 ++ [V.str (tx [z])] := by unfold sgs; rw [List.map_append]; rfl
          rw [e]
          exact atI_last _ _
        walk_at "rd"
        refine ⟨c, rfl, hcl, ?_⟩
        walk_at "rd"
        rw [show decide (V.str (tx [z]) = V.str (tx [flip c])) = decide (z = flip c) from decide_eq_decide.mpr str_one]
        by_cases e : z = flip c
        · rw [decide_eq_true e]
          walk_at "rd"
          refine ⟨Rb.tyV_list h3, ?_⟩
          refine ⟨p, sgs (l0 ++ [z]), V.str (tx [z]), rfl, rfl, h3, ?_, ?_⟩
          · have e : sgs (l0 ++ [z]) = sgs l0 ++ [V.str (tx [z])] := by unfold sgs; rw [List.map_append]; rfl
            rw [e]; simp
          · refine ⟨_, rfl, s3.mut np, ?_⟩
            rw [upd_same, enx]
            unfold netStep
            rw [if_pos (by rw [List.getLast?_append]; simp [e]), List.dropLast_concat]
            unfold sgs
            rw [List.map_append]
            show some (HO.lst (List.map _ l0 ++ [_]).dropLast) = _
            rw [List.dropLast_concat]
        · rw [decide_eq_false e]
          walk_at "rd"
          refine ⟨Rb.tyV_list h3, ?_⟩
          walk_at "rd"
          refine happ ?_
          unfold netStep
          rw [if_neg]
          rw [List.getLast?_append]
          simpa using e
    · intro σ H3 hW
      obtain ⟨v, rfl, s3, h3⟩ := hW
      rw [show (tx l).cps.size = l.length by simp, List.take_length] at h3
      walk_at "rd"
      rw [sgs_map] at h3
      refine Rb.r_join (.inl (.inl h3)) ?_ ?_
      · have hs : ∀ l : List Nat, ((l.map fun c => tx [c]).map (·.length)).sum = l.length := fun l => by
          induction l with
          | nil => rfl
          | cons c l ih => rw [List.map_cons, List.map_cons, List.sum_cons, ih, List.length_cons, tx_len]; show 1 + _ = _; omega
        rw [hs, List.length_map]
        have := netL_len l
        show _ + _ * 0 ≤ _
        omega
      · rw [empty_tx, join_ones]
        walk_at "rd"
        exact k _ s3
end
end Rb
namespace Rb
open PySem L2
section
variable {P : Program} {w : World} {K : PySem.W.Frag} {mg : Str → Option Value} {base : Heap}
theorem returns {n : Nat} {f : List Nat} (hf : IsP n f) {s : Nat} (hs : s < n) : ∃ p, 0 < p ∧ p ≤ n ∧ it f p s = s := by
  refine Classical.byContradiction fun hno => ?_
  have hno' : ∀ p, 0 < p → p ≤ n → it f p s ≠ s := fun p h1 h2 h3 => hno ⟨p, h1, h2, h3⟩
  have nd : ((List.range (n + 1)).map fun k => it f k s).Nodup := by
    refine List.pairwise_map.mpr ?_
    refine List.Pairwise.imp_of_mem ?_ List.pairwise_lt_range
    intro a b ha hb hlt e
    rw [List.mem_range] at hb
    have e2 : b = a + (b - a) := by omega
    rw [e2, it_add] at e
    exact hno' (b - a) (by omega) (by omega) (it_inj hf hs (it_lt hf hs _) a e).symm
  have := nodup_le n _ nd (fun x hx => by obtain ⟨k, _, rfl⟩ := List.mem_map.mp hx; exact it_lt hf hs k)
  rw [List.length_map, List.length_range] at this
  omega
theorem lcm_first {m p k : Nat} (hm : 0 < m) (hk : 0 < k) (h : p ∣ m * k) (hmin : ∀ q, 0 < q → q < k → ¬ p ∣ m * q) (hp : 0 < p) : m * k = Nat.lcm m p := by
  have h1 : Nat.lcm m p ∣ m * k := Nat.lcm_dvd (Nat.dvd_mul_right m k) h
  obtain ⟨q0, e⟩ := Nat.dvd_lcm_left m p
  have hl := Nat.lcm_pos hm hp
  have hq : 0 < q0 := by
    rcases Nat.eq_zero_or_pos q0 with z | z
    · rw [z, Nat.mul_zero] at e; omega
    · exact z
  have hqk : k ≤ q0 := by
    rcases Nat.lt_or_ge q0 k with z | z
    · exact absurd (e ▸ Nat.dvd_lcm_right m p) (hmin q0 hq z)
    · exact z
  have h2 : m * k ≤ m * q0 := Nat.mul_le_mul_left m hqk
  rw [← e] at h2
  have h3 := Nat.le_of_dvd (Nat.mul_pos hm hk) h1
  omega
theorem int_ne {a b : Nat} : (!decide (V.int (a : Int) = V.int (b : Int))) = !decide (a = b) := by
  congr 1
  refine decide_eq_decide.mpr ⟨fun h => ?_, fun h => by rw [h]⟩
  have : (a : Int) = (b : Int) := V.int.inj h
  omega
theorem fmod_pos {a b : Nat} : decide ((a : Int).fmod (b : Int) > 0) = !decide (b ∣ a) := by
  have e : ((a : Int)).fmod (b : Int) = ((a % b : Nat) : Int) := by
    rw [Int.fmod_eq_emod_of_nonneg _ (by omega)]; rfl
  rw [e, ← decide_not]
  refine decide_eq_decide.mpr ⟨fun h z => ?_, fun h => ?_⟩
  · have := Nat.mod_eq_zero_of_dvd z
    omega
  · have : a % b ≠ 0 := fun z => h (Nat.dvd_of_mod_eq_zero z)
    omega
def spOrderL (K : PySem.W.Frag) : Sp := fun vs H Q _ => ∃ (a : Addr) (f : List Nat) (n : Nat), vs = [.ref a] ∧ SqT K H a (nT f) ∧ IsP n f ∧ n ≤ 10000 ∧ ∀ m : Nat, Ord f (fun i => i < n) m → Q (.int m) H
theorem ok__law_order (T : Txt K mg) : FnOk P w K mg base CX0 1 T.a__law_order T.d__law_order ["_law_move"] (spOrderL K) := by
  refine T.F__law_order.ok sc__law_order (fun vs H Q E h => ?_) (fun cdv A outer s H vs Q E hr h => ?_)
  · obtain ⟨a, f, n, rfl, _⟩ := h
    rfl
  · obtain ⟨a, f, n, rfl, ha, hf, hn, k⟩ := h
    have hl := hf.len
    refine ⟨_, (pss_cons (ps_set (i := 1) sc__law_order.nd rfl (Or.inl rfl) pe_int)
      (pss_cons (ps_for PassesOwn.never rfl (pi_range1 rfl T.n_range (pa_cons (pe_callB call_lenR (by rfl) T.n_len (by decide +kernel) (pa_cons (pv 0) pa_nil)) pa_nil)) (pg_name (i := 2) sc__law_order.nd rfl (Or.inl rfl)) (pss_cons (ps_set (i := 3) sc__law_order.nd rfl (Or.inl rfl) pe_int)
      (pss_cons (ps_set (i := 4) sc__law_order.nd rfl (Or.inl rfl) (pe_ix ix_tup (pv 0) (pv 2) (fun _ _ => rfl)))
      (pss_cons (ps_for PassesOwn.never rfl (pi_range1 rfl T.n_range (pa_cons (pe_callB call_lenR (by rfl) T.n_len (by decide +kernel) (pa_cons (pv 0) pa_nil)) pa_nil)) (pg_name (i := 5) sc__law_order.nd rfl (Or.inl rfl)) (pss_one (ps_if (pt_cmpR op_ne (pv 4) (pv 2) (nomark _)) (pss_cons (ps_set (i := 4) sc__law_order.nd rfl (Or.inl rfl) (pe_ix ix_tup (pv 0) (pv 4) (fun _ _ => rfl)))
      (pss_one (ps_set (i := 3) sc__law_order.nd rfl (Or.inl rfl) (pe_op op_add (pv 3) pe_int)))) pss_nil)))
      (pss_cons (ps_set (i := 6) sc__law_order.nd rfl (Or.inl rfl) (pv 1))
      (pss_cons (ps_for PassesOwn.never rfl (pi_range1 rfl T.n_range (pa_cons (pv 3) pa_nil)) (pg_name (i := 5) sc__law_order.nd rfl (Or.inl rfl)) (pss_one (ps_if (pt_cmpR op_gt (pe_op op_modN (pe_callTy call_int1R (by rfl) T.n_int (by decide +kernel) (pa_cons (pv 6) pa_nil)) (pv 3)) pe_int (nomark _)) (pss_one (ps_set (i := 6) sc__law_order.nd rfl (Or.inl rfl) (pe_op op_add (pv 6) (pv 1)))) pss_nil)))
      (pss_one (ps_set (i := 1) sc__law_order.nd rfl (Or.inl rfl) (pv 6)))))))))
      (pss_one (ps_ret (pv 1))))), ?_⟩
    walk_at "rd0"
    walk_at "rd"
    refine Rb.r_lenT ha ?_
    rw [nT_len, hl]
    walk_at "rd"
    refine ⟨_, rfl, by omega, by omega, ?_⟩
    refine for_walk walk_range0 (fun i σ H' => ∃ (m : Nat) (v2 v3 v4 v5 v6 : Option V), σ = [some (.ref a), some (.int m), v2, v3, v4, v5, v6] ∧ H' = H ∧ Ord f (fun x => x < i) m)
      ⟨1, none, none, none, none, none, rfl, rfl, (ord_none f).congr fun i => ⟨fun h => h.elim, fun h => by omega⟩⟩ (fun _ _ _ _ _ => trivial) ?_ ?_
    · intro i x σ H3 H4 hi hW hy
      obtain ⟨rfl, rfl⟩ := hy
      obtain ⟨m, v2, v3, v4, v5, v6, rfl, rfl, ho⟩ := hW
      have hi' : i < n := by omega
      have hm0 := ho.1
      walk_at "rd"
      refine Rb.r_ixT ha (atI_of (j := i) rfl (nT_app (by omega))) ?_
      walk_at "rd"
      refine Rb.r_lenT ha ?_
      rw [nT_len, hl]
      walk_at "rd"
      refine ⟨_, rfl, by omega, by omega, ?_⟩
      refine for_walk walk_range0 (fun j σ H' => ∃ (many : Nat) (v5 : Option V), σ = [some (.ref a), some (.int m), some (.int i), some (.int many), some (.int ((it f many i : Nat) : Int)), v5, v6] ∧ H' = H4 ∧ 0 < many ∧ many ≤ j + 1 ∧ (∀ q, 0 < q → q < many → it f q i ≠ i) ∧ (it f many i ≠ i → many = j + 1))
        ⟨1, v5, rfl, rfl, Nat.one_pos, Nat.le_refl _, fun q h1 h2 => by omega, fun _ => rfl⟩ (fun _ _ _ _ _ => trivial) ?_ ?_
      · intro j x σ H5 H6 hj hW hy
        obtain ⟨rfl, rfl⟩ := hy
        obtain ⟨many, v5, rfl, rfl, h1, h2, h3, h4⟩ := hW
        walk_at "rd"
        rw [int_ne]
        by_cases e : it f many i = i
        · rw [decide_eq_true e]
          walk_at "rd"
          exact ⟨many, _, rfl, rfl, h1, by omega, h3, fun z => absurd e z⟩
        · rw [decide_eq_false e]
          walk_at "rd"
          refine Rb.r_ixT ha (atI_of (j := it f many i) rfl (nT_app (by rw [hl]; exact it_lt hf hi' _))) ?_
          walk_at "rd"
          refine ⟨many + 1, _, rfl, rfl, by omega, by omega, fun q q1 q2 => ?_, fun _ => by have := h4 e; omega⟩
          rcases Nat.lt_or_ge q many with z | z
          · exact h3 q q1 z
          · rw [show q = many by omega]; exact e
      · intro σ H5 hW
        obtain ⟨many, v5, rfl, rfl, h1, h2, h3, h4⟩ := hW
        have hret : it f many i = i := by
          refine Classical.byContradiction fun z => ?_
          have := h4 z
          obtain ⟨p, p1, p2, p3⟩ := returns hf hi'
          exact h3 p p1 (by omega) p3
        have hper := period hf hi' h1 hret h3
        walk_at "rd"
        refine ⟨_, rfl, by omega, by omega, ?_⟩
        refine for_walk walk_range0 (fun j σ H' => ∃ (kk : Nat) (v5 : Option V), σ = [some (.ref a), some (.int m), some (.int i), some (.int many), some (.int ((it f many i : Nat) : Int)), v5, some (.int ((m * kk : Nat) : Int))] ∧ H' = H5 ∧ 0 < kk ∧ kk ≤ j + 1 ∧ (∀ q, 0 < q → q < kk → ¬ many ∣ m * q) ∧ (¬ many ∣ m * kk → kk = j + 1))
          ⟨1, v5, by rw [Nat.mul_one]; rfl, rfl, Nat.one_pos, Nat.le_refl _, fun q h1 h2 => by omega, fun _ => rfl⟩ (fun _ _ _ _ _ => trivial) ?_ ?_
        · intro j x σ H6 H7 hj hW hy
          obtain ⟨rfl, rfl⟩ := hy
          obtain ⟨kk, v5, rfl, rfl, g1, g2, g3, g4⟩ := hW
          walk_at "rd"
          refine Rb.r_i1 (by omega) ?_
          walk_at "rd"
          rw [fmod_pos]
          by_cases e : many ∣ m * kk
          · rw [decide_eq_true e]
            walk_at "rd"
            exact ⟨kk, _, rfl, rfl, g1, by omega, g3, fun z => absurd e z⟩
          · rw [decide_eq_false e]
            walk_at "rd"
            refine ⟨kk + 1, some (.int (j : Nat)), ?_, rfl, by omega, by omega, fun q q1 q2 => ?_, fun _ => by have := g4 e; omega⟩
            · rw [Nat.mul_add, Nat.mul_one, Int.natCast_add]; rfl
            rcases Nat.lt_or_ge q kk with z | z
            · exact g3 q q1 z
            · rw [show q = kk by omega]; exact e
        · intro σ H6 hW
          obtain ⟨kk, v5, rfl, rfl, g1, g2, g3, g4⟩ := hW
          have hdvd : many ∣ m * kk := by
            refine Classical.byContradiction fun z => ?_
            have := g4 z
            exact g3 many h1 (by omega) (Nat.dvd_mul_left many m)
          have el := lcm_first hm0 g1 hdvd g3 h1
          walk_at "rd"
          refine ⟨m * kk, _, _, _, _, _, rfl, rfl, ?_⟩
          rw [el]
          refine (ho.or hper).congr fun x => ?_
          show (x < i ∨ x = i) ↔ x < i + 1
          omega
    · intro σ H3 hW
      obtain ⟨m, v2, v3, v4, v5, v6, rfl, rfl, ho⟩ := hW
      walk_at "rd"
      exact k m (ho.congr fun i => by rw [show (n : Int).toNat = n by omega])
end
end Rb
namespace Rb
open PySem L2
section
variable {P : Program} {w : World} {K : PySem.W.Frag} {mg : Str → Option Value} {base : Heap}
theorem exm_sub {K : PySem.W.Frag} {S C : Addr} {b : Bool} (h1 : PySem.W.subIn K (.ref C) (.type "BaseException") = some true) (h2 : PySem.W.isClsIn K C = true) (h3 : PySem.W.typeIn K (.ref C) = some (.type "type")) (h4 : PySem.W.subIn K (.ref S) (.ref C) = some b) :
    PySem.W.exmOne K (.ref S) (.ref C) = some b := by
  have e1 : (PySem.W.subIn K (.ref C) (.type "BaseException") == some true) = true := by rw [h1] <;> rfl
  have e2 : ((PySem.W.clsIn K C).isSome && PySem.W.typeIn K (.ref C) == some (.type "type")) = true := by
    have h2' : (PySem.W.clsIn K C).isSome = true := h2
    rw [h2', h3] <;> rfl
  show (if (PySem.W.subIn K (.ref C) (.type "BaseException") == some true) = true then (if ((PySem.W.clsIn K C).isSome && PySem.W.typeIn K (.ref C) == some (.type "type")) = true then PySem.W.subIn K (.ref S) (.ref C) else none) else none) = some b
  rw [if_pos e1, if_pos e2]
  exact h4
/-- what the law hears -/
def AskOk (K : PySem.W.Frag) (H : Hp) (ds : List Nat) (n : Nat) (mv : Nat → List Nat) (which : Nat) (x r : V) (d : PyData) : Prop :=
  (which = 0 ∧ ∃ (s : Nat) (l : List Nat), x = .int s ∧ s < n ∧ r = .str (tx l) ∧ (∀ c ∈ l, c ∈ lets ds) ∧ d = pD "told" (.int ((ledN mv s l : Nat) : Int))) ∨
  (which = 1 ∧ ∃ l : List Nat, r = .str (tx l) ∧ (∀ c ∈ l, c ∈ lets ds) ∧ d = pD "told" (nD (rowM n mv l))) ∨
  (which = 0 ∧ BadSt K H n x ∧ d = pD "standing" .none) ∨
  (((which = 0 ∧ ∃ s : Nat, x = .int s ∧ s < n) ∨ which = 1 ∨ which = 2) ∧ BadRow K H ds r ∧ d = pD "row" .none)
def spAsked (K : PySem.W.Frag) : Sp := fun vs H Q _ => ∃ (M : Addr → Prop) (w C : Addr) (ds : List Nat) (n : Nat) (mv : Nat → List Nat) (which : Nat) (x r : V) (d : PyData), vs = [.int which, .ref w, x, r] ∧ WCls K C ∧ WorldAt M H w C ds n mv ∧ Deeds ds ∧ IsMv ds n mv ∧ n ≤ 1000 ∧
  AskOk K H ds n mv which x r d ∧ ∀ t H', Same H H' → Dp K H' (.ref t) d → Q (.ref t) H'
theorem ok__law_asked (T : Txt K mg) : FnOk P w K mg base CX0 5 T.a__law_asked T.d__law_asked ["_law_which", "_law_world", "_law_standing", "_law_row_here"] (spAsked K) := by
  have eSS := exm_sub (S := T.C_NoStanding) T.xb_NoStanding T.xi_NoStanding T.xt_NoStanding T.s_NoStanding_NoStanding
  have eRS := exm_sub (S := T.C_NoRow) T.xb_NoStanding T.xi_NoStanding T.xt_NoStanding T.s_NoRow_NoStanding
  have eRR := exm_sub (S := T.C_NoRow) T.xb_NoRow T.xi_NoRow T.xt_NoRow T.s_NoRow_NoRow
  refine T.F__law_asked.ok sc__law_asked (fun vs H Q E h => ?_) (fun cdv A outer s H vs Q E hr h => ?_)
  · obtain ⟨M, w, C, ds, n, mv, which, x, r, d, rfl, _⟩ := h
    rfl
  · obtain ⟨M, w, C, ds, n, mv, which, x, r, d, rfl, hC, hW, hd, hp, hn, hA, k⟩ := h
    refine ⟨_, (pss_cons (ps_set (i := 4) sc__law_asked.nd rfl (Or.inl rfl) pe_non)
      (pss_cons (ps_try_many rfl rfl takes0 (fun W pn xe tk _ => (pss_one (ps_if (pt_cmpR op_eq (pv 0) pe_int (nomark _)) (pss_one (ps_set (i := 4) sc__law_asked.nd rfl (Or.inl rfl) (pe_tup (pa_cons pe_str (pa_cons (pe_callS (ok_led T) (hr.mono (by decide)) rfl T.g_led T.F_led.kp T.b_led (fun σ => passAt tk σ) (pa_cons (pv 1) (pa_cons (pv 2) (pa_cons (pv 3) pa_nil)))) pa_nil))))) (pss_one (ps_if (pt_cmpR op_eq (pv 0) pe_int (nomark _)) (pss_one (ps_set (i := 4) sc__law_asked.nd rfl (Or.inl rfl) (pe_tup (pa_cons pe_str (pa_cons (pe_callS (ok_move_of T) (hr.mono (by decide)) rfl T.g_move_of T.F_move_of.kp T.b_move_of (fun σ => passAt tk σ) (pa_cons (pv 1) (pa_cons (pv 3) pa_nil))) pa_nil))))) (pss_one (ps_set (i := 4) sc__law_asked.nd rfl (Or.inl rfl) (pe_tup (pa_cons pe_str (pa_cons (pe_callS (ok_order T) (hr.mono (by decide)) rfl T.g_order T.F_order.kp T.b_order (fun σ => passAt tk σ) (pa_cons (pv 1) (pa_cons (pv 3) pa_nil))) pa_nil)))))))))) (HdsOk.cons ⟨rfl, by decide, .inl T.g_NoStanding⟩ (fun a oe cls d pn _ _ => (pss_one (ps_set (i := 4) sc__law_asked.nd rfl (Or.inl rfl) (pe_tup (pa_cons pe_str (pa_cons pe_non pa_nil)))))) (HdsOk.cons ⟨rfl, by decide, .inl T.g_NoRow⟩ (fun a oe cls d pn _ _ => (pss_one (ps_set (i := 4) sc__law_asked.nd rfl (Or.inl rfl) (pe_tup (pa_cons pe_str (pa_cons pe_non pa_nil)))))) HdsOk.nil)))
      (pss_one (ps_ret (pv 4))))), ?_⟩
    walk_at "rd0"
    walk_at "rd"
    have sz2 : (2 : Nat) ≤ sizeLine := by decide
    rcases hA with ⟨rfl, s0, l, rfl, hs, rfl, hl, rfl⟩ | ⟨rfl, l, rfl, hl, rfl⟩ | ⟨rfl, hb, rfl⟩ | ⟨hw, hb, rfl⟩
    · rw [decide_eq_true (show V.int ((0 : Nat) : Int) = V.int 0 from rfl)]
      walk_at "rd"
      refine ⟨M, w, C, ds, n, mv, _, _, rfl, hC, hW, hd, hp, .inl ⟨s0, rfl, hs, .inl ⟨l, rfl, hl, ?_⟩⟩⟩
      walk_at "rd"
      refine ⟨sz2, fun t nt => ?_⟩
      walk_at "rd"
      exact k t _ ((Same.refl H).new nt) (dp_pD (.inl (.inl upd_same)) (.int _))
    · rw [decide_eq_false (show ¬ (V.int ((1 : Nat) : Int) = V.int 0) by intro z; cases z)]
      walk_at "rd"
      rw [decide_eq_true (show V.int ((1 : Nat) : Int) = V.int 1 from rfl)]
      walk_at "rd"
      refine ⟨M, w, C, ds, n, mv, _, rfl, hC, hW, hd, hp, hn, .inl ⟨l, rfl, hl, fun p H2 np s2 h2 => ?_⟩⟩
      walk_at "rd"
      refine ⟨sz2, fun t nt => ?_⟩
      walk_at "rd"
      exact k t _ (s2.new nt) (dp_pD (.inl (.inl upd_same)) (dp_nT (.inl (.inl (((Same.refl H2).new nt) _ _ h2)))))
    · rw [decide_eq_true (show V.int ((0 : Nat) : Int) = V.int 0 from rfl)]
      walk_at "rd"
      refine ⟨M, w, C, ds, n, mv, x, r, rfl, hC, hW, hd, hp, .inr ⟨hb, ?_⟩⟩
      refine ⟨true, eSS, fun _ a na => ?_, (fun q => nomatch q)⟩
      walk_at "rd"
      refine ⟨sz2, fun t nt => ?_⟩
      walk_at "rd"
      exact k t _ ((Same.refl H).new nt) (dp_pD (.inl (.inl upd_same)) .non)
    · have hrow : ∀ q : Addr, H q = none → Q (.ref q) (upd H q (.tup [.str "row", .non])) := fun q nq => k q _ ((Same.refl H).new nq) (dp_pD (.inl (.inl upd_same)) .non)
      rcases hw with ⟨rfl, s0, rfl, hs⟩ | rfl | rfl
      · rw [decide_eq_true (show V.int ((0 : Nat) : Int) = V.int 0 from rfl)]
        walk_at "rd"
        refine ⟨M, w, C, ds, n, mv, _, r, rfl, hC, hW, hd, hp, .inl ⟨s0, rfl, hs, .inr ⟨hb, ?_⟩⟩⟩
        refine ⟨false, eRS, (fun q => nomatch q), fun _ => ⟨true, eRR, fun _ a na => ?_, (fun q => nomatch q)⟩⟩
        walk_at "rd"
        refine ⟨sz2, fun t nt => ?_⟩
        walk_at "rd"
        exact hrow t nt
      · rw [decide_eq_false (show ¬ (V.int ((1 : Nat) : Int) = V.int 0) by intro z; cases z)]
        walk_at "rd"
        rw [decide_eq_true (show V.int ((1 : Nat) : Int) = V.int 1 from rfl)]
        walk_at "rd"
        refine ⟨M, w, C, ds, n, mv, r, rfl, hC, hW, hd, hp, hn, .inr ⟨hb, ?_⟩⟩
        refine ⟨false, eRS, (fun q => nomatch q), fun _ => ⟨true, eRR, fun _ a na => ?_, (fun q => nomatch q)⟩⟩
        walk_at "rd"
        refine ⟨sz2, fun t nt => ?_⟩
        walk_at "rd"
        exact hrow t nt
      · rw [decide_eq_false (show ¬ (V.int ((2 : Nat) : Int) = V.int 0) by intro z; cases z)]
        walk_at "rd"
        rw [decide_eq_false (show ¬ (V.int ((2 : Nat) : Int) = V.int 1) by intro z; cases z)]
        walk_at "rd"
        refine ⟨M, w, C, ds, n, mv, r, rfl, hC, hW, hd, hp, hn, .inr ⟨hb, ?_⟩⟩
        refine ⟨false, eRS, (fun q => nomatch q), fun _ => ⟨true, eRR, fun _ a na => ?_, (fun q => nomatch q)⟩⟩
        walk_at "rd"
        refine ⟨sz2, fun t nt => ?_⟩
        walk_at "rd"
        exact hrow t nt
end
end Rb
namespace Rb
open PySem L2
section
/-! ### the plain laws of rows -/
theorem app_rowM {ds : List Nat} {n : Nat} {mv : Nat → List Nat} (hl : ∀ c ∈ ds, isLow c) (h : IsMv ds n mv) {s : Nat} (hs : s < n) (l : List Nat) (hx : ∀ x ∈ l, x ∈ lets ds) : app (rowM n mv l) s = ledN mv s l := by
  suffices ∀ (l : List Nat) (f : List Nat), IsP n f → (∀ x ∈ l, x ∈ lets ds) → app (l.foldl (fun f x => comp f (mvL mv x)) f) s = ledN mv (app f s) l by
    have := this l _ (isP_range n) hx
    rw [app_range hs] at this
    exact this
  intro l
  induction l with
  | nil => exact fun f hf _ => rfl
  | cons x l ih =>
    intro f hf hx
    have hg := mvL_isP hl h (hx x List.mem_cons_self)
    rw [List.foldl_cons, ih _ (hf.comp hg) fun y hy => hx y (List.mem_cons_of_mem _ hy), app_comp (by rw [hf.len]; exact hs)]
    rfl
theorem comp_back {n : Nat} {f g : List Nat} (hf : IsP n f) (hg : IsP n g) : comp (comp f (inv g)) g = f := by
  refine ext_app (n := n) (by unfold comp; rw [List.length_map, List.length_map, hf.len]) hf.len fun i hi => ?_
  have hi' : i < f.length := by rw [hf.len]; exact hi
  rw [app_comp (by unfold comp; rw [List.length_map]; exact hi'), app_comp hi', app_inv_app hg (hf.lt hi)]
theorem rowM_net {ds : List Nat} {n : Nat} {mv : Nat → List Nat} (hl : ∀ c ∈ ds, isLow c) (h : IsMv ds n mv) (l : List Nat) (hx : ∀ x ∈ l, x ∈ lets ds) : rowM n mv (netL l) = rowM n mv l := by
  suffices ∀ (r : List Nat), (∀ x ∈ r, x ∈ lets ds) → rowM n mv (netL r.reverse) = rowM n mv r.reverse by
    have := this l.reverse (fun x hx' => hx x (List.mem_reverse.mp hx'))
    rw [List.reverse_reverse] at this
    exact this
  intro r
  induction r with
  | nil => exact fun _ => rfl
  | cons x r ih =>
    intro hx
    have hx0 := hx x List.mem_cons_self
    have hr : ∀ y ∈ r, y ∈ lets ds := fun y hy => hx y (List.mem_cons_of_mem _ hy)
    rw [List.reverse_cons, netL_snoc, rowM_snoc, ← ih hr]
    have hmem : ∀ y ∈ netL r.reverse, y ∈ lets ds := fun y hy => hr y (List.mem_reverse.mp (netL_mem hy))
    generalize netL r.reverse = left at hmem
    unfold netStep
    split
    · rename_i e
      obtain ⟨l0, rfl⟩ : ∃ l0, left = l0 ++ [flip x] := by
        rcases List.eq_nil_or_concat left with rfl | ⟨l0, z, rfl⟩
        · simp at e
        · rw [List.concat_eq_append, List.getLast?_append] at e
          simp at e
          exact ⟨l0, by rw [List.concat_eq_append, e]⟩
      rw [List.dropLast_concat, rowM_snoc, mvL_flip hl h hx0]
      exact (comp_back (rowM_isP hl h l0 fun y hy => hmem y (List.mem_append_left _ hy)) (mvL_isP hl h hx0)).symm
    · rw [rowM_snoc]
theorem back_mem {ds l : List Nat} (hl : ∀ c ∈ ds, isLow c) (hx : ∀ x ∈ l, x ∈ lets ds) : ∀ x ∈ l.reverse.map flip, x ∈ lets ds := by
  intro x hx'
  obtain ⟨y, hy, rfl⟩ := List.mem_map.mp hx'
  exact lets_flip hl (hx y (List.mem_reverse.mp hy))
theorem led_lt {ds : List Nat} {n : Nat} {mv : Nat → List Nat} (hl : ∀ c ∈ ds, isLow c) (h : IsMv ds n mv) : ∀ (l : List Nat) {s : Nat}, s < n → (∀ x ∈ l, x ∈ lets ds) → ledN mv s l < n
  | [], s, hs, _ => hs
  | x :: l, s, hs, hx => led_lt hl h l ((mvL_isP hl h (hx x List.mem_cons_self)).lt hs) fun y hy => hx y (List.mem_cons_of_mem _ hy)
theorem led_back {ds : List Nat} {n : Nat} {mv : Nat → List Nat} (hl : ∀ c ∈ ds, isLow c) (h : IsMv ds n mv) : ∀ (l : List Nat) {s : Nat}, s < n → (∀ x ∈ l, x ∈ lets ds) → ledN mv (ledN mv s l) (l.reverse.map flip) = s
  | [], s, _, _ => rfl
  | x :: l, s, hs, hx => by
    have hx0 := hx x List.mem_cons_self
    have hP := mvL_isP hl h hx0
    have ih := led_back hl h l (hP.lt hs) fun y hy => hx y (List.mem_cons_of_mem _ hy)
    rw [List.reverse_cons, List.map_append]
    show ledN mv (ledN mv (app (mvL mv x) s) l) (l.reverse.map flip ++ [flip x]) = s
    rw [ledN_snoc, ih, mvL_flip hl h hx0, inv_app hP hs]
theorem rowM_back {ds : List Nat} {n : Nat} {mv : Nat → List Nat} (hl : ∀ c ∈ ds, isLow c) (h : IsMv ds n mv) (l : List Nat) (hx : ∀ x ∈ l, x ∈ lets ds) : rowM n mv (l.reverse.map flip) = inv (rowM n mv l) := by
  have hP := rowM_isP hl h l hx
  have hb := back_mem hl hx
  have hB := rowM_isP hl h _ hb
  refine ext_app (n := n) hB.len (by rw [inv_len, hP.len]) fun j hj => ?_
  obtain ⟨s, hs, rfl⟩ := hP.surj hj
  rw [inv_app hP hs, app_rowM hl h (hP.lt hs) _ hb, app_rowM hl h hs l hx, led_back hl h l hs hx]
theorem due_eq {ds : List Nat} {n : Nat} {mv : Nat → List Nat} (hl : ∀ c ∈ ds, isLow c) (h : IsMv ds n mv) (l : List Nat) (hx : ∀ x ∈ l, x ∈ lets ds) : ((List.range n).map fun s => V.int ((ledN mv s l : Nat) : Int)) = nT (rowM n mv l) := by
  have hP := rowM_isP hl h l hx
  refine List.ext_getElem? fun i => ?_
  by_cases hi : i < n
  · rw [nT_app (by rw [hP.len]; exact hi), List.getElem?_map, List.getElem?_range hi, app_rowM hl h hi l hx]; rfl
  · rw [List.getElem?_eq_none (by rw [List.length_map, List.length_range]; omega), List.getElem?_eq_none (by rw [nT_len, hP.len]; omega)]
theorem sub_len : ∀ (l ds : List Nat), l.Nodup → (∀ x ∈ l, x ∈ ds) → l.length ≤ ds.length
  | [], _, _, _ => Nat.zero_le _
  | x :: l, ds, hn, hs => by
    have hx := hs x List.mem_cons_self
    have h1 := List.nodup_cons.mp hn
    have := sub_len l (ds.erase x) h1.2 fun y hy => by
      refine (List.mem_erase_of_ne ?_).mpr (hs y (List.mem_cons_of_mem _ hy))
      rintro rfl
      exact h1.1 hy
    rw [List.length_erase_of_mem hx] at this
    have h2 := List.length_pos_of_mem hx
    rw [List.length_cons]
    omega
theorem spare_is {ds : List Nat} (h : ds.length ≤ 4) : ∃ i, i < 26 ∧ 97 + i ∉ ds := by
  refine Classical.byContradiction fun hno => ?_
  have := sub_len (List.range' 97 26) ds (by decide) fun x hx => by
    obtain ⟨i, hi, rfl⟩ := List.mem_range'.mp hx
    refine Classical.byContradiction fun z => hno ⟨i, hi, ?_⟩
    rw [Nat.one_mul] at z; exact z
  rw [List.length_range'] at this
  omega
/-! ### odd things -/
def NoStrM (M : Addr → Prop) (H : Hp) (v : V) : Prop := v = .non ∨ (∃ i, v = .int i) ∨ (∃ b, v = .bl b) ∨ ∃ a u, v = .ref a ∧ AtM M H a u ∧ ((∃ xs, u = .tup xs) ∨ (∃ xs, u = .lst xs) ∨ ∃ kvs, u = .dK kvs)
def BadRowM (M : Addr → Prop) (H : Hp) (ds : List Nat) (v : V) : Prop := (∃ l, v = .str (tx l) ∧ ¬ ∀ c ∈ l, c ∈ lets ds) ∨ NoStrM M H v
def BadStM (M : Addr → Prop) (H : Hp) (n : Nat) (v : V) : Prop := (∃ i : Int, v = .int i ∧ ¬ (0 ≤ i ∧ i < n)) ∨ v = .non ∨ (∃ b, v = .bl b) ∨ (∃ z, v = .str z) ∨ ∃ a u, v = .ref a ∧ AtM M H a u ∧ ((∃ xs, u = .tup xs) ∨ (∃ xs, u = .lst xs) ∨ ∃ kvs, u = .dK kvs)
theorem NoStrM.fr {M : Addr → Prop} {H H' : Hp} {v : V} (f : FrM M H H') (h : NoStrM M H v) : NoStrM M H' v := by
  rcases h with h | h | h | ⟨a, u, h, ha, hk⟩
  · exact .inl h
  · exact .inr (.inl h)
  · exact .inr (.inr (.inl h))
  · exact .inr (.inr (.inr ⟨a, u, h, f.at ha, hk⟩))
theorem BadRowM.fr {M : Addr → Prop} {H H' : Hp} {ds : List Nat} {v : V} (f : FrM M H H') (h : BadRowM M H ds v) : BadRowM M H' ds v := h.imp id fun h => h.fr f
theorem BadStM.fr {M : Addr → Prop} {H H' : Hp} {n : Nat} {v : V} (f : FrM M H H') (h : BadStM M H n v) : BadStM M H' n v := by
  rcases h with h | h | h | h | ⟨a, u, h, ha, hk⟩
  · exact .inl h
  · exact .inr (.inl h)
  · exact .inr (.inr (.inl h))
  · exact .inr (.inr (.inr (.inl h)))
  · exact .inr (.inr (.inr (.inr ⟨a, u, h, f.at ha, hk⟩)))
theorem NoStrM.no {K : PySem.W.Frag} {M : Addr → Prop} {H : Hp} {v : V} (h : NoStrM M H v) : NoStr K H v := by
  rcases h with rfl | ⟨i, rfl⟩ | ⟨b, rfl⟩ | ⟨a, u, rfl, ha, ⟨xs, rfl⟩ | ⟨xs, rfl⟩ | ⟨kvs, rfl⟩⟩
  · exact ⟨_, .base .non, by decide +kernel⟩
  · exact ⟨_, kd_int, by decide +kernel⟩
  · exact ⟨_, .base (.bl b), by decide +kernel⟩
  · exact ⟨_, .base (.tup ha.1), by decide +kernel⟩
  · exact ⟨_, .base (.lst ha.1), by decide +kernel⟩
  · exact ⟨_, .base (.dK ha.1), by decide +kernel⟩
theorem BadRowM.no {K : PySem.W.Frag} {M : Addr → Prop} {H : Hp} {ds : List Nat} {v : V} (h : BadRowM M H ds v) : BadRow K H ds v := h.imp id NoStrM.no
theorem BadStM.no {K : PySem.W.Frag} {M : Addr → Prop} {H : Hp} {n : Nat} {v : V} (h : BadStM M H n v) : BadSt K H n v := by
  rcases h with h | h | h | h | h
  · exact .inl h
  all_goals refine .inr ?_
  · subst h
    exact ⟨_, _, .base .non, (by decide +kernel : kitB "NoneType" "int" = some false), fun z => by cases z⟩
  · obtain ⟨b, rfl⟩ := h
    exact ⟨_, _, .base (.bl b), (by decide +kernel : kitB "bool" "int" = some true), fun _ => by decide +kernel⟩
  · obtain ⟨z, rfl⟩ := h
    exact ⟨_, _, kd_str, (by decide +kernel : kitB "str" "int" = some false), fun z => by cases z⟩
  · obtain ⟨a, u, rfl, ha, ⟨xs, rfl⟩ | ⟨xs, rfl⟩ | ⟨kvs, rfl⟩⟩ := h
    · exact ⟨_, _, .base (.tup ha.1), (by decide +kernel : kitB "tuple" "int" = some false), fun z => by cases z⟩
    · exact ⟨_, _, .base (.lst ha.1), (by decide +kernel : kitB "list" "int" = some false), fun z => by cases z⟩
    · exact ⟨_, _, .base (.dK ha.1), (by decide +kernel : kitB "dict" "int" = some false), fun z => by cases z⟩
theorem PotAt.frw {o : Pot} {H H' : Hp} {w : Addr} (h : PotAt o H) (f : FrM (fun a => a = w) H H') (h1 : w ≠ o.p) (h2 : w ≠ o.g) (h3 : w ≠ o.s) : PotAt o H' := by
  obtain ⟨⟨gs, ss, t, c, e1, e2, e3, e4⟩, a, b, d⟩ := h
  exact ⟨⟨gs, ss, t, c, f _ _ e1 h1.symm, f _ _ e2 h2.symm, f _ _ e3 h3.symm, e4⟩, a, b, d⟩
/-- what stands while the law runs -/
structure LawSt (o : Pot) (H : Hp) (m w C : Addr) (ds : List Nat) (n : Nat) (mv : Nat → List Nat) : Prop where
  pot : PotAt o H
  mo : MovesP (MP o) H m ds mv
  wo : WorldAt (MP o) H w C ds n mv
theorem LawSt.frm {o : Pot} {H H' : Hp} {m w C : Addr} {ds : List Nat} {n : Nat} {mv : Nat → List Nat} (h : LawSt o H m w C ds n mv) (f : FrM (MP o) H H') (p : PotAt o H') : LawSt o H' m w C ds n mv := ⟨p, f.movesP h.mo, f.world h.wo⟩
theorem LawSt.same {o : Pot} {H H' : Hp} {m w C : Addr} {ds : List Nat} {n : Nat} {mv : Nat → List Nat} (h : LawSt o H m w C ds n mv) (s : Same H H') : LawSt o H' m w C ds n mv := h.frm s.mM (h.pot.same s)
/-! ### data that stay, and are equal to themselves -/
mutual
theorem dp_same {K : PySem.W.Frag} {H H' : Hp} (s : Same H H') : ∀ (d : PyData) (v : V), Dp K H v d → Dp K H' v d
  | .none, _, h => by cases h; exact .non
  | .bool b, _, h => by cases h; exact .bl b
  | .int i, _, h => by cases h; exact .int i
  | .str x, _, h => by cases h; exact .str x
  | .list ds, _, h => by
    cases h with
    | lst hs ha => exact .lst (by
        rcases hs with (h | ⟨o, h⟩) | h
        · exact .inl (.inl (s _ _ h))
        · exact .inl (.inr ⟨o, s _ _ h⟩)
        · exact .inr h) (dpAll_same s ds _ ha)
  | .tuple ds, _, h => by
    cases h with
    | tup hs ha => exact .tup (tup_same s hs) (dpAll_same s ds _ ha)
  | .dict _, _, h => by cases h
theorem dpAll_same {K : PySem.W.Frag} {H H' : Hp} (s : Same H H') : ∀ (ds : List PyData) (vs : List V), DpAll K H vs ds → DpAll K H' vs ds
  | [], _, h => by cases h; exact .nil
  | d :: ds, _, h => by
    cases h with
    | cons h1 h2 => exact .cons (dp_same s d _ h1) (dpAll_same s ds _ h2)
end
mutual
theorem eqv_self : ∀ d : PyData, d.canLay0 = true → PyData.eqv d d = true
  | .none, _ => by simp only [PyData.eqv]
  | .bool b, _ => by simp [PyData.eqv]
  | .int i, _ => by simp [PyData.eqv]
  | .str x, _ => by simp [PyData.eqv]
  | .list ds, h => by
    rw [PyData.eqv]
    exact eqvAll_self ds (by rw [PyData.canLay0] at h; exact h)
  | .tuple ds, h => by
    rw [PyData.eqv]
    exact eqvAll_self ds (by rw [PyData.canLay0] at h; exact h)
  | .dict _, h => by simp [PyData.canLay0] at h
theorem eqvAll_self : ∀ ds : List PyData, PyData.canLayAll0 ds = true → PyData.eqvAll ds ds = true
  | [], _ => by simp only [PyData.eqvAll]
  | d :: ds, h => by
    rw [PyData.canLayAll0, Bool.and_eq_true] at h
    rw [PyData.eqvAll, eqv_self d h.1, eqvAll_self ds h.2]; rfl
end
theorem r_neSame {K : PySem.W.Frag} {x y : V} {d : PyData} {H : Hp} {Q : VK} (hx : Dp K H x d) (hy : Dp K H y d) (h1 : d.canLay0 = true) (h2 : d.depth ≤ 64) (q : Q (.bl false) H) : rNeD K x y H Q :=
  ⟨d, d, hx, hy, shaped_of h1 h2, shaped_of h1 h2, by rw [eqv_self d h1]; exact q⟩
theorem can_pD {s : Str} {d : PyData} (hs : PyData.strOk s = true) (h : d.canLay0 = true) : (pD s d).canLay0 = true := by
  unfold pD
  simp only [PyData.canLay0, PyData.canLayAll0, Bool.and_true, Bool.and_eq_true]
  exact ⟨hs, h⟩
theorem dep_pD {s : Str} {d : PyData} (h2 : d.depth ≤ 60) : (pD s d).depth ≤ 64 := by
  unfold pD
  rw [PyData.depth, PyData.depthAll, PyData.depthAll, PyData.depthAll, PyData.depth]
  omega
theorem can_int {i : Int} : (PyData.int i).canLay0 = true := by simp only [PyData.canLay0]
theorem dep_int {i : Int} : (PyData.int i).depth ≤ 60 := by simp [PyData.depth]
theorem can_none : PyData.none.canLay0 = true := by simp only [PyData.canLay0]
theorem dep_none : PyData.none.depth ≤ 60 := by simp [PyData.depth]
theorem PotAt.atNew {o : Pot} {H : Hp} {a : Addr} {u : HO} (h : PotAt o H) (n : H a = none) : AtM (MP o) (L2.upd H a u) a u := ⟨upd_same, h.nM a n⟩
theorem cut_is (L : List Nat) (lo hi : Option Int) : ∃ L' : List Nat, cutS (tx L) lo hi = tx L' ∧ (∀ c ∈ L', c ∈ L) ∧ L'.length ≤ L.length := by
  refine ⟨_, rfl, fun c hc => ?_, ?_⟩
  · have := List.mem_of_mem_drop (List.mem_of_mem_take hc)
    simpa using this
  · rw [List.length_take, List.length_drop]
    simp
    omega
theorem ins_ne_p {o : Pot} {H : Hp} {w C dx : Addr} {fs : List (Str × V)} (h : PotAt o H) (hw : H w = some (.ins C dx fs)) : w ≠ o.p ∧ w ≠ o.g ∧ w ≠ o.s := by
  obtain ⟨⟨gs, ss, t, c, e1, e2, e3, e4⟩, a, b, d⟩ := h
  refine ⟨?_, ?_, ?_⟩
  · rintro rfl; rw [e1] at hw; cases hw
  · rintro rfl; rw [e2] at hw; cases hw
  · rintro rfl; rw [e3] at hw; cases hw
theorem movesP_fr {M : Addr → Prop} {H H' : Hp} {m w C dx : Addr} {fs : List (Str × V)} {ds : List Nat} {mv : Nat → List Nat} (h : MovesP M H m ds mv) (hw : H w = some (.ins C dx fs)) (f : FrM (fun a => a = w) H H') : MovesP M H' m ds mv := by
  obtain ⟨ad, h1, h2⟩ := h
  refine ⟨ad, ⟨f _ _ h1.1 ?_, h1.2⟩, fun c hc => ?_⟩
  · rintro rfl
    have := h1.1
    rw [hw] at this; cases this
  · obtain ⟨ob, hob, ha⟩ := h2 c hc
    refine ⟨ob, hob, f _ _ ha.1 ?_, ha.2⟩
    intro z
    have := ha.1
    rw [z, hw] at this; cases this
theorem world_fr {M : Addr → Prop} {H H' : Hp} {w w' C C' dx' : Addr} {fs' : List (Str × V)} {ds : List Nat} {n : Nat} {mv : Nat → List Nat} (h : WorldAt M H w C ds n mv) (f : FrM (fun a => a = w') H H') (hne : w ≠ w') (hw : H w' = some (.ins C' dx' fs')) : WorldAt M H' w C ds n mv := by
  obtain ⟨dx, km, kb, fs, h1, h2, h3, h4, h5, h6, h7⟩ := h.ex
  have f' : FrM (fun a => M a ∨ a = w') H H' := f.wide fun x z => .inr z
  refine ⟨dx, km, kb, fs, ⟨f _ _ h1.1 hne, h1.2⟩, h2, h3, h4, h5, (f'.moves (moves_ne h6 hw)).wide fun a z => .inl z, (f'.moves (moves_ne h7 hw)).wide fun a z => .inl z⟩
/-- an if that changes one slot or none -/
theorem if_slot {D : Ends} {σ : L2.St} {H : Hp} {t : TS} {c : Bool} {i : Nat} (Pj : List Nat → Hp → Prop) (key : ∀ l H', Pj l H' → D.nx (σ.set i (some (.str (tx l)))) H')
    (h1 : (∀ l H', Pj l H' → D.nx (σ.set i (some (.str (tx l)))) H') → t D σ H) (h0 : ∃ l, Pj l H ∧ σ.set i (some (.str (tx l))) = σ) : if c = true then t D σ H else tNext D σ H := by
  refine ite2 (fun _ => h1 key) (fun _ => ?_)
  obtain ⟨l, h, e⟩ := h0
  have := key l H h
  rw [e] at this
  exact this
theorem r_make {C : Addr} {sp : Sp} {dvs : List V} {E : XK} {t : TA} {σ : L2.St} {H : Hp} {Q : VK} (h : t σ H fun vs H1 => ∀ x dx, H1 x = none → H1 dx = none → dx ≠ x →
  sp (.ref x :: (vs ++ dvs)) (upd (upd H1 dx (.own x)) x (.ins C dx [])) (fun v H2 => v = .non ∧ Q (.ref x) H2) E) : tMake C sp dvs E t σ H Q := h
end
end Rb
namespace Rb
open PySem L2
section
variable {P : Program} {w : World} {K : PySem.W.Frag} {mg : Str → Option Value} {base : Heap}
def spLaw (K : PySem.W.Frag) : Sp := fun vs H Q _ => ∃ (a : Addr) (ns : List Int), vs = [.ref a] ∧ SqL K H a (ns.map V.int) ∧ ns.length ≤ 63 ∧ ∀ H', Q (.bl true) H'
theorem sizes_at {b : Int} (h0 : 0 ≤ b) (h1 : b < 8) : ∃ n : Nat, atI [V.int 1, V.int 2, V.int 3, V.int 4, V.int 5, V.int 6, V.int 24, V.int 12] b = some (V.int (n : Int)) ∧ 1 ≤ n ∧ n ≤ 24 := by
  obtain ⟨k, rfl⟩ : ∃ k : Nat, b = k := ⟨b.toNat, by omega⟩
  have hk : k < 8 := by omega
  rcases k with _ | _ | _ | _ | _ | _ | _ | _ | k
  · exact ⟨1, atI_nat rfl, by decide, by decide⟩
  · exact ⟨2, atI_nat rfl, by decide, by decide⟩
  · exact ⟨3, atI_nat rfl, by decide, by decide⟩
  · exact ⟨4, atI_nat rfl, by decide, by decide⟩
  · exact ⟨5, atI_nat rfl, by decide, by decide⟩
  · exact ⟨6, atI_nat rfl, by decide, by decide⟩
  · exact ⟨24, atI_nat rfl, by decide, by decide⟩
  · exact ⟨12, atI_nat rfl, by decide, by decide⟩
  · omega
theorem ok_law (T : Txt K mg) : FnOk P w K mg base CX0 7 T.a_law T.d_law ["_law_script"] (spLaw K) := by
  have hC : WCls K T.C_World := ⟨T.cl_World, T.n_World_deeds, T.n_World_size, T.n_World_kept_moves, T.n_World_kept_backs⟩
  refine T.F_law.ok sc_law (fun vs H Q E h => ?_) (fun cdv A outer s H vs Q E hr h => ?_)
  · obtain ⟨a, ns, rfl, _⟩ := h
    rfl
  · obtain ⟨a, ns, rfl, ha, hns, k⟩ := h
    refine ⟨_, (pss_cons (ps_set (i := 1) sc_law.nd rfl (Or.inl rfl) (pe_call (ok__law_pot T) (hr.mono (by decide)) rfl T.g__law_pot T.F__law_pot.kp T.b__law_pot .nil pass0 (pa_cons (pv 0) pa_nil)))
      (pss_cons (ps_set (i := 2) sc_law.nd rfl (Or.inr rfl) (pe_call (ok__law_deeds T) (hr.mono (by decide)) rfl T.g__law_deeds T.F__law_deeds.kp T.b__law_deeds .nil pass0 (pa_cons (pv 1) (pa_cons pe_int pa_nil))))
      (pss_cons (ps_set (i := 3) sc_law.nd rfl (Or.inl rfl) (pe_ix ix_tup (pe_tup (pa_cons pe_int (pa_cons pe_int (pa_cons pe_int (pa_cons pe_int (pa_cons pe_int (pa_cons pe_int (pa_cons pe_int (pa_cons pe_int pa_nil))))))))) (pe_call (ok__law_draw T) (hr.mono (by decide)) rfl T.g__law_draw T.F__law_draw.kp T.b__law_draw .nil pass0 (pa_cons (pv 1) (pa_cons pe_int pa_nil))) (fun _ _ => rfl)))
      (pss_cons (ps_set (i := 4) sc_law.nd rfl (Or.inr rfl) (pe_call (ok__law_moves T) (hr.mono (by decide)) rfl T.g__law_moves T.F__law_moves.kp T.b__law_moves .nil pass0 (pa_cons (pv 1) (pa_cons (pv 2) (pa_cons (pv 3) pa_nil)))))
      (pss_cons (ps_set (i := 5) sc_law.nd rfl (Or.inl rfl) (pe_make T.mk_World (ok_World___init__ T) (hr.mono (by decide)) rfl T.g_World T.b_World___init__ .nil pass0 (pa_cons (pv 2) (pa_cons (pv 4) pa_nil))))
      (pss_cons (ps_set (i := 6) sc_law.nd rfl (Or.inr rfl) (pe_call (ok__law_row T) (hr.mono (by decide)) rfl T.g__law_row T.F__law_row.kp T.b__law_row .nil pass0 (pa_cons (pv 1) (pa_cons (pv 2) (pa_cons pe_int pa_nil)))))
      (pss_cons (ps_if (pt_cmpR op_eq (pe_call (ok__law_draw T) (hr.mono (by decide)) rfl T.g__law_draw T.F__law_draw.kp T.b__law_draw .nil pass0 (pa_cons (pv 1) (pa_cons pe_int pa_nil))) pe_int (nomark _)) (pss_one (ps_set (i := 6) sc_law.nd rfl (Or.inr rfl) (pe_slice sl_str (pe_op op_mul_str (pe_call (ok__law_row T) (hr.mono (by decide)) rfl T.g__law_row T.F__law_row.kp T.b__law_row .nil pass0 (pa_cons (pv 1) (pa_cons (pv 2) (pa_cons pe_int pa_nil)))) pe_int) po_none (po_some pe_int)))) pss_nil)
      (pss_cons (ps_set (i := 7) sc_law.nd rfl (Or.inl rfl) (pe_tupleOf (by rfl) T.n_tuple (pe_lc (own := [("_law_standing", 8)]) (g := gName 8) (tt := tYes)  rfl sc_law.nd (pi_range1 rfl T.n_range (pa_cons (pv 3) pa_nil)) (blkOk_by (own := [("_law_standing", 8)]) (N := ["_law_script", "_law_pot_here", "_law_deeds_here", "_law_size", "_law_moves_here", "_law_world", "_law_row_here", "_law_due", "_law_standing", "_law_back", "_law_spare", "_law_none", "_law_wrong", "_law_which", "_law_sign", "_law_here"]) (sc := defScope st_law) (by decide +kernel)) (fun _ _ _ _ _ => (pg_name (i := 8) sc_law.nd rfl (Or.inl rfl))) (fun _ _ _ _ _ => pts_nil) (fun _ _ _ _ _ => (pe_call (ok__law_led T) (hr.mono (by decide)) rfl T.g__law_led T.F__law_led.kp T.b__law_led .nil pass0 (pa_cons (pv 4) (pa_cons (pv 8) (pa_cons (pv 6) pa_nil))))))))
      (pss_cons (ps_set (i := 8) sc_law.nd rfl (Or.inl rfl) (pe_call (ok__law_draw T) (hr.mono (by decide)) rfl T.g__law_draw T.F__law_draw.kp T.b__law_draw .nil pass0 (pa_cons (pv 1) (pa_cons (pv 3) pa_nil))))
      (pss_cons (ps_if (PW.pt (pw_or (pt_cmpR (op_neX (room65 hr)) (pe_call (ok__law_asked T) (hr.mono (by decide)) rfl T.g__law_asked T.F__law_asked.kp T.b__law_asked .nil pass0 (pa_cons pe_int (pa_cons (pv 5) (pa_cons (pv 8) (pa_cons (pv 6) pa_nil))))) (pe_tup (pa_cons pe_str (pa_cons (pe_ix ix_tup (pv 7) (pv 8) (fun _ _ => rfl)) pa_nil))) (nomark _)) (pw_or1 (pt_cmpR (op_neX (room65 hr)) (pe_call (ok__law_asked T) (hr.mono (by decide)) rfl T.g__law_asked T.F__law_asked.kp T.b__law_asked .nil pass0 (pa_cons pe_int (pa_cons (pv 5) (pa_cons pe_non (pa_cons (pv 6) pa_nil))))) (pe_tup (pa_cons pe_str (pa_cons (pv 7) pa_nil))) (nomark _))))) (pss_one (ps_ret pe_bl)) pss_nil)
      (pss_cons (ps_if (PW.pt (pw_or (pt_cmpR op_ne (pe_call (ok_order T) (hr.mono (by decide)) rfl T.g_order T.F_order.kp T.b_order .nil passL (pa_cons (pv 5) (pa_cons (pv 6) pa_nil))) (pe_call (ok__law_order T) (hr.mono (by decide)) rfl T.g__law_order T.F__law_order.kp T.b__law_order .nil pass0 (pa_cons (pv 7) pa_nil)) (nomark _)) (pw_or1 (pt_cmpR (op_neX (room65 hr)) (pe_call (ok_move_of T) (hr.mono (by decide)) rfl T.g_move_of T.F_move_of.kp T.b_move_of .nil passL (pa_cons (pv 5) (pa_cons (pe_call (ok__law_net T) (hr.mono (by decide)) rfl T.g__law_net T.F__law_net.kp T.b__law_net .nil pass0 (pa_cons (pv 6) pa_nil)) pa_nil))) (pv 7) (nomark _))))) (pss_one (ps_ret pe_bl)) pss_nil)
      (pss_cons (ps_set (i := 9) sc_law.nd rfl (Or.inr rfl) (pe_call (ok__law_back_row T) (hr.mono (by decide)) rfl T.g__law_back_row T.F__law_back_row.kp T.b__law_back_row .nil pass0 (pa_cons (pv 6) pa_nil)))
      (pss_cons (ps_if (PW.pt (pw_or (pt_cmpR op_ne (pe_call (ok_led T) (hr.mono (by decide)) rfl T.g_led T.F_led.kp T.b_led .nil passL (pa_cons (pv 5) (pa_cons (pe_ix ix_tup (pv 7) (pv 8) (fun _ _ => rfl)) (pa_cons (pv 9) pa_nil)))) (pv 8) (nomark _)) (pw_or1 (pt_cmpR op_ne (pe_call (ok_order T) (hr.mono (by decide)) rfl T.g_order T.F_order.kp T.b_order .nil passL (pa_cons (pv 5) (pa_cons (pv 9) pa_nil))) (pe_call (ok__law_order T) (hr.mono (by decide)) rfl T.g__law_order T.F__law_order.kp T.b__law_order .nil pass0 (pa_cons (pv 7) pa_nil)) (nomark _))))) (pss_one (ps_ret pe_bl)) pss_nil)
      (pss_cons (ps_if (pt_cmpR (op_neX (room65 hr)) (pe_call (ok_move_of T) (hr.mono (by decide)) rfl T.g_move_of T.F_move_of.kp T.b_move_of .nil passL (pa_cons (pv 5) (pa_cons (pe_slice sl_str (pe_op op_add_strR (pv 6) (pv 9)) po_none (po_some pe_int)) pa_nil))) (pe_tupleOf (by rfl) T.n_tuple (pe_lc (own := [("_law_here", 15)]) (g := gName 15) (tt := tYes)  rfl sc_law.nd (pi_range1 rfl T.n_range (pa_cons (pv 3) pa_nil)) (blkOk_by (own := [("_law_here", 15)]) (N := ["_law_script", "_law_pot_here", "_law_deeds_here", "_law_size", "_law_moves_here", "_law_world", "_law_row_here", "_law_due", "_law_standing", "_law_back", "_law_spare", "_law_none", "_law_wrong", "_law_which", "_law_sign", "_law_here"]) (sc := defScope st_law) (by decide +kernel)) (fun _ _ _ _ _ => (pg_name (i := 15) sc_law.nd rfl (Or.inl rfl))) (fun _ _ _ _ _ => pts_nil) (fun _ _ _ _ _ => (pe_call (ok__law_led T) (hr.mono (by decide)) rfl T.g__law_led T.F__law_led.kp T.b__law_led .nil pass0 (pa_cons (pv 4) (pa_cons (pv 15) (pa_cons (pe_slice sl_str (pe_op op_add_strR (pv 6) (pv 9)) po_none (po_some pe_int)) pa_nil))))))) (nomark _)) (pss_one (ps_ret pe_bl)) pss_nil)
      (pss_cons (ps_set (i := 10) sc_law.nd rfl (Or.inl rfl) (pe_ix ix_list (pe_lc (own := [("_law_sign", 14)]) (g := gName 14)  rfl sc_law.nd (pi_str pe_str) (blkOk_by (own := [("_law_sign", 14)]) (N := ["_law_script", "_law_pot_here", "_law_deeds_here", "_law_size", "_law_moves_here", "_law_world", "_law_row_here", "_law_due", "_law_standing", "_law_back", "_law_spare", "_law_none", "_law_wrong", "_law_which", "_law_sign", "_law_here"]) (sc := defScope st_law) (by decide +kernel)) (fun _ _ _ _ _ => (pg_name (i := 14) sc_law.nd rfl (Or.inl rfl))) (fun _ _ _ _ _ => pts_one (pt_cmpR op_notInS (pv 14) (pv 2) rfl)) (fun _ _ _ _ _ => (pv 14))) pe_int (fun _ _ => rfl)))
      (pss_cons (ps_set (i := 11) sc_law.nd rfl (Or.inl rfl) (pe_call (ok__law_any T) (hr.mono (by decide)) rfl T.g__law_any T.F__law_any.kp T.b__law_any .nil pass0 (pa_cons (pv 1) (pa_cons (pe_tup (pa_cons pe_non (pa_cons pe_int (pa_cons pe_bl (pa_cons (pv 10) (pa_cons (pe_op op_add_strR (pv 6) (pe_m0 PySem.F.slot_str_upper PySem.F.type_str_upper mt_upperR (pv 10))) (pa_cons pe_str (pa_cons (pe_tup pa_nil) (pa_cons (pe_lst (pa_cons (pv 6) pa_nil)) (pa_cons (pe_tup (pa_cons pe_str pa_nil)) (pa_cons pe_str (pa_cons pe_str (pa_cons pe_dnewK (pa_cons (pe_op op_add_strR (pv 6) pe_str) pa_nil)))))))))))))) pa_nil))))
      (pss_cons (ps_set (i := 12) sc_law.nd rfl (Or.inl rfl) (pe_call (ok__law_any T) (hr.mono (by decide)) rfl T.g__law_any T.F__law_any.kp T.b__law_any .nil pass0 (pa_cons (pv 1) (pa_cons (pe_tup (pa_cons (pe_un un_neg pe_int) (pa_cons (pv 3) (pa_cons pe_non (pa_cons pe_bl (pa_cons pe_str (pa_cons (pe_tup (pa_cons pe_int pa_nil)) (pa_cons (pe_lst (pa_cons pe_int pa_nil)) (pa_cons (pe_op op_pow pe_int pe_int) (pa_cons pe_dnewK pa_nil)))))))))) pa_nil))))
      (pss_cons (ps_for PassesOwn.never rfl (pi_tup (pe_tup (pa_cons pe_int (pa_cons pe_int (pa_cons pe_int pa_nil))))) (pg_name (i := 13) sc_law.nd rfl (Or.inl rfl)) (pss_one (ps_if (pt_cmpR (op_neX (room65 hr)) (pe_call (ok__law_asked T) (hr.mono (by decide)) rfl T.g__law_asked T.F__law_asked.kp T.b__law_asked .nil pass0 (pa_cons (pv 13) (pa_cons (pv 5) (pa_cons (pv 8) (pa_cons (pv 11) pa_nil))))) (pe_tup (pa_cons pe_str (pa_cons pe_non pa_nil))) (nomark _)) (pss_one (ps_ret pe_bl)) pss_nil)))
      (pss_cons (ps_if (PW.pt (pw_or (pt_cmpR (op_neX (room65 hr)) (pe_call (ok__law_asked T) (hr.mono (by decide)) rfl T.g__law_asked T.F__law_asked.kp T.b__law_asked .nil pass0 (pa_cons pe_int (pa_cons (pv 5) (pa_cons (pv 12) (pa_cons (pv 11) pa_nil))))) (pe_tup (pa_cons pe_str (pa_cons pe_non pa_nil))) (nomark _)) (pw_or1 (pt_cmpR (op_neX (room65 hr)) (pe_call (ok__law_asked T) (hr.mono (by decide)) rfl T.g__law_asked T.F__law_asked.kp T.b__law_asked .nil pass0 (pa_cons pe_int (pa_cons (pv 5) (pa_cons (pv 12) (pa_cons (pv 6) pa_nil))))) (pe_tup (pa_cons pe_str (pa_cons pe_non pa_nil))) (nomark _))))) (pss_one (ps_ret pe_bl)) pss_nil)
      (pss_one (ps_ret (pe_cmpR (op_eqW (ok_World___eq__ T) (hr.mono (by decide)) T.m_World___eq__.at_ T.m_World___eq__.fn T.b_World___eq__ pass0) (pv 5) (pe_make T.mk_World (ok_World___init__ T) (hr.mono (by decide)) rfl T.g_World T.b_World___init__ .nil pass0 (pa_cons (pv 2) (pa_cons (pv 4) pa_nil))) (nomark _))))))))))))))))))))))), ?_⟩
    walk_at "rd0"
    walk_at "rd"
    refine ⟨a, ns, rfl, ha, hns, fun o H1 hP1 s1 _ _ => ?_⟩
    walk_at "rd"
    refine ⟨o, 4, rfl, hP1, by decide, by decide, fun ds H2 hd _ hP2 f2 => ?_⟩
    walk_at "rd"
    refine ⟨by decide, fun tp ntp => ?_⟩
    have hP3 := hP2.new (u := .tup [V.int 1, V.int 2, V.int 3, V.int 4, V.int 5, V.int 6, V.int 24, V.int 12]) ntp
    walk_at "rd"
    refine ⟨o, 8, rfl, by decide, by decide, hP3, fun b H4 b0 b1 hP4 f4 => ?_⟩
    obtain ⟨n, hn, hn1, hn24⟩ := sizes_at b0 b1
    have htp : H4 tp = some (.tup [V.int 1, V.int 2, V.int 3, V.int 4, V.int 5, V.int 6, V.int 24, V.int 12]) := f4.m _ _ upd_same (hP2.nM tp ntp)
    refine Rb.r_ixT (.inl (.inl htp)) hn ?_
    walk_at "rd"
    refine ⟨o, ds, n, rfl, hP4, hd, by omega, fun m mv H5 _ hP5 f5 hm hmv => ?_⟩
    walk_at "rd"
    refine r_make ?_
    walk_at "rd"
    intro w dx nw ndx hdw
    have nw' : (upd H5 dx (.own w)) w = none := by rw [upd_ne (fun z => hdw z.symm)]; exact nw
    have f6 : FrM (MP o) H5 (upd (upd H5 dx (.own w)) w (.ins T.C_World dx [])) := ((FrM.refl _ H5).new ndx).new nw'
    have hP6 : PotAt o (upd (upd H5 dx (.own w)) w (.ins T.C_World dx [])) := (hP5.new ndx).new nw'
    have hm6 := f6.movesP hm
    refine ⟨MP o, w, m, dx, [], ds, n, mv, rfl, upd_same, hP5.nM w nw, rfl, hC, hd, hm6.at, hmv, hn1, hn24, (fun a ha => hP6.nM a ha), fun H7 f7 hW => ⟨rfl, ?_⟩⟩
    have S7 : LawSt o H7 m w T.C_World ds n mv := ⟨hP6.frw f7 (hP5.np nw) (hP5.ng nw) (hP5.ns nw), movesP_fr hm6 upd_same f7, hW⟩
    clear hW f7 hm6 hP6 f6 nw' hm
    walk_at "rd"
    refine ⟨o, ds, 12, rfl, S7.pot, hd, by decide, by decide, fun l0 H8 hl0 hl0n hP8 f8 => ?_⟩
    have S8 := S7.frm f8 hP8
    walk_at "rd"
    refine ⟨o, 8, rfl, by decide, by decide, hP8, fun b8 H9 _ _ hP9 f9 => ?_⟩
    have S9 := S8.frm f9.m hP9
    walk_at "rd"
    refine if_slot (i := 6) (fun l H' => LawSt o H' m w T.C_World ds n mv ∧ (∀ c ∈ l, c ∈ lets ds) ∧ l.length ≤ 2400) (fun l H10 hl => ?main) (fun key => ?yes) ⟨l0, ⟨S9, hl0, by omega⟩, rfl⟩
    case yes =>
      walk_at "rd"
      refine ⟨o, ds, 12, rfl, hP9, hd, by decide, by decide, fun l1 H10 hl1 hl1n hP10 f10 => ?_⟩
      walk_at "rd"
      refine ⟨l1, 200, rfl, rfl, by decide, by decide, sz_le (by omega), ?_⟩
      walk_at "rd"
      refine ⟨_, rfl, ?_, ?_⟩
      · show (List.replicate 200 l1).flatten.toArray.size ≤ sizeLine
        rw [List.size_toArray, List.length_flatten, List.map_replicate, List.sum_replicate_nat]
        exact sz_le (by omega)
      obtain ⟨L, eL, hL, hLn⟩ := cut_is (List.replicate 200 l1).flatten none (some 200)
      rw [show cutS (⟨(List.replicate 200 l1).flatten.toArray⟩ : Str) none (some 200) = tx L from eL]
      refine key L H10 ⟨S9.frm f10 hP10, fun c hc => ?_, ?_⟩
      · obtain ⟨z, hz, hcz⟩ := List.mem_flatten.mp (hL c hc)
        rw [(List.mem_replicate.mp hz).2] at hcz
        exact hl1 c hcz
      · rw [List.length_flatten, List.map_replicate, List.sum_replicate_nat] at hLn
        omega
    obtain ⟨S10, hl, hln⟩ := hl
    clear S9 S8 S7 hl0
    have hP := rowM_isP hd.low hmv l hl
    walk_at "rds"
    walk_at "rd"
    clear hP9 f9 hP8 f8 hP5 f5 htp hn hP4 f4 hP3 ntp f2 hP2 s1 hP1 hns ha
    have sz2 : (2 : Nat) ≤ sizeLine := by decide
    refine ⟨n, rfl, by omega, by omega, ?_⟩
    refine lc_det (M := M0) (J := fun _ => True) walk_range0 (fun i => V.int ((i : Nat) : Int)) yfn (fun _ => true) (fun i => .int ((ledN mv i l : Nat) : Int)) (fun _ _ _ => trivial) trivial (fun _ _ _ _ _ => trivial) (fun _ _ => id) (by omega) ?_ ?_ ?_
    · exact fun i H' hi f _ R r => r _ (FrM.refl _ _) trivial
    · intro i H' hi _ f' _ R r
      have hi' : i < n := by omega
      walk_at "rds"
      walk_at "rd"
      exact ⟨MP o, m, ds, n, mv, l, i, rfl, f'.same.mM.movesP S10.mo, hmv, hd.low, hl, hi', r _ (FrM.refl _ _) trivial⟩
    intro D H11 nD f11 _ h11
    have s11 := f11.same
    rw [List.filter_eq_self.mpr (fun _ _ => rfl), Int.toNat_natCast, due_eq hd.low hmv l hl] at h11
    refine .inl ⟨D, _, rfl, .inl (.inl h11), fun t nt => ?_⟩
    have S12 := S10.same (s11.new (u := .tup (nT (rowM n mv l))) nt)
    have du12 : AtM (MP o) (upd H11 t (.tup (nT (rowM n mv l)))) t (.tup (nT (rowM n mv l))) := ⟨upd_same, (S10.pot.same s11).nM t nt⟩
    clear h11 s11 f11 nD
    walk_at "rd"
    refine ⟨o, n, rfl, by omega, by omega, S12.pot, fun b13 H13 c0 c1 hP13 f13 => ?_⟩
    obtain ⟨s0, rfl⟩ : ∃ s0 : Nat, b13 = s0 := ⟨b13.toNat, by omega⟩
    have hs : s0 < n := by omega
    have S13 := S12.frm f13.m hP13
    have du13 := f13.m.at du12
    clear S12 du12 f13 hP13 S10
    have hap : app (rowM n mv l) s0 = ledN mv s0 l := app_rowM hd.low hmv hs l hl
    walk_at "rds"
    walk_at "rd"
    -- asked 0
    refine ⟨MP o, w, T.C_World, ds, n, mv, 0, .int s0, .str (tx l), _, rfl, hC, S13.wo, hd, hmv, by omega, .inl ⟨rfl, s0, l, rfl, hs, rfl, hl, rfl⟩, fun t1 H14 s14 hd14 => ?_⟩
    walk_at "rd"
    refine Rb.r_ixT (.inl (.inl (s14 _ _ du13.1))) (atI_of (j := s0) rfl (nT_app (by rw [hP.len]; exact hs))) ?_
    walk_at "rd"
    refine ⟨sz2, fun t2 nt2 => ?_⟩
    refine r_neSame (dp_same ((Same.refl H14).new nt2) _ _ hd14) (dp_pD (.inl (.inl upd_same)) (by rw [hap]; exact .int _)) (can_pD (by decide +kernel) can_int) (dep_pD dep_int) ?_
    have s15 := s14.new (u := .tup [V.str "told", V.int ((app (rowM n mv l) s0 : Nat) : Int)]) nt2
    have S15 := S13.same s15
    have du15 := s15.mM.at du13
    clear S13 du13 s15 s14 hd14
    walk_at "rd"
    -- asked 1
    refine ⟨MP o, w, T.C_World, ds, n, mv, 1, .non, .str (tx l), _, rfl, hC, S15.wo, hd, hmv, by omega, .inr (.inl ⟨rfl, l, rfl, hl, rfl⟩), fun t3 H16 s16 hd16 => ?_⟩
    walk_at "rd"
    refine ⟨sz2, fun t4 nt4 => ?_⟩
    refine r_neSame (dp_same ((Same.refl H16).new nt4) _ _ hd16) (dp_pD (.inl (.inl upd_same)) (dp_nT (.inl (.inl (((Same.refl H16).new nt4) _ _ (s16 _ _ du15.1)))))) (can_pD (by decide +kernel) (can_nD _)) (dep_pD (by have := dep_nD (rowM n mv l); omega)) ?_
    have s17 := s16.new (u := .tup [V.str "told", V.ref t]) nt4
    have S17 := S15.same s17
    have du17 := s17.mM.at du15
    clear S15 du15 s17 s16 hd16
    walk_at "rd"
    -- order, _law_order
    refine ⟨MP o, w, T.C_World, ds, n, mv, _, rfl, hC, S17.wo, hd, hmv, by omega, .inl ⟨l, rfl, hl, fun k1 H18 s18 ho1 => ?_⟩⟩
    walk_at "rd"
    refine ⟨t, rowM n mv l, n, rfl, .inl (.inl (s18 _ _ du17.1)), hP, by omega, fun k2 ho2 => ?_⟩
    have S18 := S17.same s18
    have du18 := s18.mM.at du17
    clear S17 du17 s18
    walk_at "rd"
    rw [int_ne, decide_eq_true (ho1.uniq ho2)]
    walk_at "rd"
    -- move_of of the net
    refine ⟨l, rfl, fun c hc => lets_let hd.low (hl c hc), by omega, fun H19 s19 => ?_⟩
    have S19 := S18.same s19
    have du19 := s19.mM.at du18
    clear S18 du18 s19
    walk_at "rd"
    refine ⟨MP o, w, T.C_World, ds, n, mv, _, rfl, hC, S19.wo, hd, hmv, by omega, .inl ⟨netL l, rfl, fun c hc => hl c (netL_mem hc), fun p20 H20 _ s20 h20 => ?_⟩⟩
    have S20 := S19.same s20
    have du20 := s20.mM.at du19
    rw [rowM_net hd.low hmv l hl] at h20
    clear S19 du19 s20
    walk_at "rd"
    refine r_neSame (dp_nT (.inl (.inl h20))) (dp_nT (.inl (.inl du20.1))) (can_nD _) (by have := dep_nD (rowM n mv l); omega) ?_
    clear h20
    walk_at "rd"
    -- the way back
    refine ⟨l, rfl, fun c hc => lets_let hd.low (hl c hc), by omega, fun H21 s21 => ?_⟩
    have S21 := S20.same s21
    have du21 := s21.mM.at du20
    clear S20 du20 s21
    have hb := back_mem hd.low hl
    have hbn : (l.reverse.map flip).length ≤ 2400 := by rw [List.length_map, List.length_reverse]; exact hln
    have hbl := led_back hd.low hmv l hs hl
    have hbo := rowM_back hd.low hmv l hl
    have hlt := led_lt hd.low hmv l hs hl
    obtain ⟨back, eback⟩ : ∃ back, back = l.reverse.map flip := ⟨_, rfl⟩
    rw [← eback] at hb hbn hbl hbo
    rw [← eback]
    clear eback
    walk_at "rds"
    walk_at "rd"
    refine Rb.r_ixT (.inl (.inl du21.1)) (atI_of (j := s0) rfl (nT_app (by rw [hP.len]; exact hs))) ?_
    walk_at "rd"
    refine ⟨MP o, w, T.C_World, ds, n, mv, _, _, rfl, hC, S21.wo, hd, hmv, .inl ⟨ledN mv s0 l, by rw [hap], hlt, .inl ⟨back, rfl, hb, ?_⟩⟩⟩
    rw [hbl]
    walk_at "rd"
    rw [int_ne, decide_eq_true rfl]
    walk_at "rd"
    refine ⟨MP o, w, T.C_World, ds, n, mv, _, rfl, hC, S21.wo, hd, hmv, by omega, .inl ⟨back, rfl, hb, fun k3 H22 s22 ho3 => ?_⟩⟩
    walk_at "rd"
    refine ⟨t, rowM n mv l, n, rfl, .inl (.inl (s22 _ _ du21.1)), hP, by omega, fun k4 ho4 => ?_⟩
    have S22 := S21.same s22
    have du22 := s22.mM.at du21
    clear S21 du21 s22
    rw [hbo] at ho3
    walk_at "rd"
    rw [int_ne, decide_eq_true (ho3.uniq (Ord.inv hP ho4))]
    walk_at "rd"
    refine Rb.r_addStr (by rw [tx_len, tx_len]; exact sz_le (by omega)) ?_
    rw [tx_app]
    walk_at "rd"
    have hlen2 : (tx (l ++ back)).length ≤ sizeLine := by rw [tx_len, List.length_append]; exact sz_le (by omega)
    refine ⟨_, rfl, hlen2, ?_⟩
    obtain ⟨L, eL, hL, hLn⟩ := cut_is (l ++ back) none (some 200)
    rw [eL]
    have hL' : ∀ c ∈ L, c ∈ lets ds := fun c hc => (List.mem_append.mp (hL c hc)).elim (hl c) (hb c)
    walk_at "rd"
    refine ⟨MP o, w, T.C_World, ds, n, mv, _, rfl, hC, S22.wo, hd, hmv, by omega, .inl ⟨L, rfl, hL', fun p23 H23 np23 s23 h23 => ?_⟩⟩
    have S23 := S22.same s23
    clear S22 du22 s23
    walk_at "rds"
    walk_at "rd"
    refine ⟨n, rfl, by omega, by omega, ?_⟩
    refine lc_det (M := M0) (J := fun _ => True) walk_range0 (fun i => V.int ((i : Nat) : Int)) yfn (fun _ => true) (fun i => .int ((ledN mv i L : Nat) : Int)) (fun _ _ _ => trivial) trivial (fun _ _ _ _ _ => trivial) (fun _ _ => id) (by omega) ?_ ?_ ?_
    · exact fun i H' hi f _ R r => r _ (FrM.refl _ _) trivial
    · intro i H' hi _ f' _ R r
      have hi' : i < n := by omega
      walk_at "rds"
      walk_at "rd"
      refine Rb.r_addStr (by rw [tx_len, tx_len]; exact sz_le (by omega)) ?_
      rw [tx_app]
      walk_at "rd"
      refine ⟨_, rfl, hlen2, ?_⟩
      rw [eL]
      walk_at "rd"
      exact ⟨MP o, m, ds, n, mv, L, i, rfl, f'.same.mM.movesP S23.mo, hmv, hd.low, hL', hi', r _ (FrM.refl _ _) trivial⟩
    intro D2 H24 nD2 f24 _ h24
    have s24 := f24.same
    rw [List.filter_eq_self.mpr (fun _ _ => rfl), Int.toNat_natCast, due_eq hd.low hmv L hL'] at h24
    refine .inl ⟨D2, _, rfl, .inl (.inl h24), fun t25 nt25 => ?_⟩
    refine r_neSame (dp_nT (.inl (.inl ((s24.new nt25) _ _ h23)))) (dp_nT (.inl (.inl upd_same))) (can_nD _) (by have := dep_nD (rowM n mv L); omega) ?_
    have S25 := S23.same (s24.new (u := .tup (nT (rowM n mv L))) nt25)
    clear S23 s24 h24 h23 f24 nD2 hlen2 eL hL hLn hL'
    walk_at "rd"
    -- a spare letter
    have esz : ("abcdefghijklmnopqrstuvwxyz" : Str).cps.size = 26 := by decide +kernel
    have egd : ∀ i, i < 26 → ("abcdefghijklmnopqrstuvwxyz" : Str).cps.getD i 0 = 97 + i := by decide +kernel
    refine ⟨_, rfl, ?_⟩
    refine lc_det (M := M0) (J := fun _ => True) walk_str _ ystr (fun i => decide (97 + i ∉ ds)) (fun i => .str (tx [97 + i])) (fun _ _ _ => trivial) trivial (fun _ _ _ _ _ => trivial) (fun _ _ => id) (by rw [esz]; omega) ?_ ?_ ?_
    · intro i H' hi f' _ R r
      rw [esz] at hi
      rw [egd i hi]
      walk_at "rds"
      walk_at "rd"
      rw [tx_tl, ← decide_not]
      walk_at "rd"
      exact r _ (FrM.refl _ _) trivial
    · intro i H' hi _ f' _ R r
      rw [esz] at hi
      rw [egd i hi]
      walk_at "rds"
      walk_at "rd"
      exact r _ (FrM.refl _ _) trivial
    intro D3 H26 nD3 f26 _ h26
    rw [esz] at h26
    obtain ⟨i1, hi1, hn1'⟩ := spare_is hd.le
    obtain ⟨i0, rest, e0⟩ : ∃ i0 rest, (List.range 26).filter (fun i => decide (97 + i ∉ ds)) = i0 :: rest := by
      cases e : (List.range 26).filter (fun i => decide (97 + i ∉ ds)) with
      | nil =>
        have : i1 ∈ (List.range 26).filter (fun i => decide (97 + i ∉ ds)) := List.mem_filter.mpr ⟨List.mem_range.mpr hi1, decide_eq_true hn1'⟩
        rw [e] at this; cases this
      | cons x r => exact ⟨x, r, rfl⟩
    have hi0 : i0 ∈ (List.range 26).filter (fun i => decide (97 + i ∉ ds)) := by rw [e0]; exact List.mem_cons_self
    obtain ⟨hi0a, hi0b⟩ := List.mem_filter.mp hi0
    have hi0a := List.mem_range.mp hi0a
    have hi0b := of_decide_eq_true hi0b
    rw [e0] at h26
    have S26 := S25.same f26.same
    refine Rb.r_ixL (v := .str (tx [97 + i0])) h26 (atI_zero _ _) ?_
    obtain ⟨c, ec⟩ : ∃ c, c = 97 + i0 := ⟨_, rfl⟩
    rw [← ec] at hi0b ⊢
    have hcl : isLow c := ⟨by omega, by omega⟩
    clear S25 f26 h26 nD3 hi0 e0 hi1 hn1' ec esz egd
    walk_at "rds"
    walk_at "rd"
    refine Rb.r_upper (by show 1 ≤ 5592405; decide) ?_
    rw [up_of (.inl hcl), up_low hcl]
    refine Rb.r_addStr (by rw [tx_len, tx_len]; exact sz_le (by show _ + 1 ≤ _; omega)) ?_
    rw [tx_app]
    walk_at "rd"
    refine ⟨by decide, fun e1 ne1 => ?_⟩
    have P1 := S26.pot.new (u := .tup []) ne1
    have a1 := S26.pot.atNew (u := .tup []) ne1
    have g1 := (FrM.refl (MP o) H26).new (u := .tup []) ne1
    walk_at "rd"
    refine ⟨sz_le (by show 1 ≤ _; decide), fun e2 ne2 => ?_⟩
    have P2 := P1.new (u := .lst [.str (tx l)]) ne2
    have a2 := P1.atNew (u := .lst [.str (tx l)]) ne2
    have b1 := a1.newNe (v := .lst [.str (tx l)]) ne2
    have g2 := g1.new (u := .lst [.str (tx l)]) ne2
    walk_at "rd"
    refine ⟨sz_le (by show 1 ≤ _; decide), fun e3 ne3 => ?_⟩
    have P3 := P2.new (u := .tup [.str "a"]) ne3
    have a3 := P2.atNew (u := .tup [.str "a"]) ne3
    have b2 := a2.newNe (v := .tup [.str "a"]) ne3
    have b1 := b1.newNe (v := .tup [.str "a"]) ne3
    have g3 := g2.new (u := .tup [.str "a"]) ne3
    walk_at "rd"
    refine Rb.r_dnew fun e4 ne4 => ?_
    have P4 := P3.new (u := .dK []) ne4
    have a4 := P3.atNew (u := .dK []) ne4
    have b3 := a3.newNe (v := .dK []) ne4
    have b2 := b2.newNe (v := .dK []) ne4
    have b1 := b1.newNe (v := .dK []) ne4
    have g4 := g3.new (u := .dK []) ne4
    walk_at "rd"
    rw [show ("\n" : Str) = tx [10] by decide +kernel]
    refine Rb.r_addStr (by rw [tx_len, tx_len]; exact sz_le (by show _ + 1 ≤ _; omega)) ?_
    rw [tx_app]
    walk_at "rd"
    refine ⟨sz_le (by show 13 ≤ _; decide), fun e5 ne5 => ?_⟩
    walk_at "rd"
    refine ⟨o, _, rfl, P4.new ne5, .inr ⟨e5, _, rfl, .inr ⟨upd_same, P4.nM e5 ne5⟩, by show 0 < 13; decide, by show 13 ≤ 1000; decide, fun v H28 hv hP28 f28 => ?_⟩⟩
    have f26 : FrM (MP o) H26 H28 := (g4.new ne5).trans f28
    have S28 := S26.frm f26 hP28
    have bad : BadRowM (MP o) H28 ds v := by
      have c1 := f28.at (b1.newNe ne5)
      have c2 := f28.at (b2.newNe ne5)
      have c3 := f28.at (b3.newNe ne5)
      have c4 := f28.at (a4.newNe ne5)
      have hnl : ∀ {x : Nat}, ¬ isLet x → ∀ {L : List Nat}, x ∈ L → ¬ ∀ c ∈ L, c ∈ lets ds := fun hx L hm z => hx (lets_let hd.low (z _ hm))
      simp only [List.mem_cons, List.not_mem_nil, or_false] at hv
      rcases hv with rfl | rfl | rfl | rfl | rfl | rfl | rfl | rfl | rfl | rfl | rfl | rfl | rfl
      · exact .inr (.inl rfl)
      · exact .inr (.inr (.inl ⟨_, rfl⟩))
      · exact .inr (.inr (.inr (.inl ⟨_, rfl⟩)))
      · exact .inl ⟨[c], rfl, fun z => low_notin hd.low hcl hi0b (z c List.mem_cons_self)⟩
      · exact .inl ⟨_, rfl, fun z => up_notin hd.low hcl hi0b (List.mem_append_left _ (z (flip c) (List.mem_append_right _ (List.mem_singleton.mpr rfl))))⟩
      · exact .inl ⟨[97, 32, 98], by rw [show ("a b" : Str) = tx [97, 32, 98] by decide +kernel], hnl (x := 32) (by decide) (by decide)⟩
      · exact .inr (.inr (.inr (.inr ⟨_, _, rfl, c1, .inl ⟨_, rfl⟩⟩)))
      · exact .inr (.inr (.inr (.inr ⟨_, _, rfl, c2, .inr (.inl ⟨_, rfl⟩)⟩)))
      · exact .inr (.inr (.inr (.inr ⟨_, _, rfl, c3, .inl ⟨_, rfl⟩⟩)))
      · exact .inl ⟨[45], by rw [show ("-" : Str) = tx [45] by decide +kernel], hnl (x := 45) (by decide) (by decide)⟩
      · exact .inl ⟨[49], by rw [show ("1" : Str) = tx [49] by decide +kernel], hnl (x := 49) (by decide) (by decide)⟩
      · exact .inr (.inr (.inr (.inr ⟨_, _, rfl, c4, .inr (.inr ⟨_, rfl⟩)⟩)))
      · exact .inl ⟨_, rfl, hnl (x := 10) (by decide) (List.mem_append_right _ (List.mem_singleton.mpr rfl))⟩
    clear hv f28 f26 g4 g3 g2 g1 b1 b2 b3 a4 a3 a2 a1 P4 P3 P2 P1 S26 hP28
    walk_at "rds"
    walk_at "rd"
    refine ⟨sz_le (by show 1 ≤ _; decide), fun e1 ne1 => ?_⟩
    have P1 := S28.pot.new (u := .tup [.int 0]) ne1
    have a1 := S28.pot.atNew (u := .tup [.int 0]) ne1
    have g1 := (FrM.refl (MP o) H28).new (u := .tup [.int 0]) ne1
    walk_at "rds"
    walk_at "rd"
    refine ⟨sz_le (by show 1 ≤ _; decide), fun e2 ne2 => ?_⟩
    have P2 := P1.new (u := .lst [.int 0]) ne2
    have a2 := P1.atNew (u := .lst [.int 0]) ne2
    have b1 := a1.newNe (v := .lst [.int 0]) ne2
    have g2 := g1.new (u := .lst [.int 0]) ne2
    walk_at "rd"
    refine Rb.r_i1 ⟨by decide, by decide, by decide⟩ ?_
    walk_at "rd"
    refine Rb.r_dnew fun e4 ne4 => ?_
    have P4 := P2.new (u := .dK []) ne4
    have a4 := P2.atNew (u := .dK []) ne4
    have b2 := a2.newNe (v := .dK []) ne4
    have b1 := b1.newNe (v := .dK []) ne4
    have g4 := g2.new (u := .dK []) ne4
    walk_at "rd"
    refine ⟨sz_le (by show 9 ≤ _; decide), fun e5 ne5 => ?_⟩
    walk_at "rd"
    refine ⟨o, _, rfl, P4.new ne5, .inr ⟨e5, _, rfl, .inr ⟨upd_same, P4.nM e5 ne5⟩, by show 0 < 9; decide, by show 9 ≤ 1000; decide, fun v2 H29 hv hP29 f29 => ?_⟩⟩
    have f28 : FrM (MP o) H28 H29 := (g4.new ne5).trans f29
    have S29 := S28.frm f28 hP29
    have bad29 := bad.fr f28
    have badS : BadStM (MP o) H29 n v2 := by
      have c1 := f29.at (b1.newNe ne5)
      have c2 := f29.at (b2.newNe ne5)
      have c4 := f29.at (a4.newNe ne5)
      simp only [List.mem_cons, List.not_mem_nil, or_false] at hv
      rcases hv with rfl | rfl | rfl | rfl | rfl | rfl | rfl | rfl | rfl
      · exact .inl ⟨_, rfl, by omega⟩
      · exact .inl ⟨_, rfl, by omega⟩
      · exact .inr (.inl rfl)
      · exact .inr (.inr (.inl ⟨_, rfl⟩))
      · exact .inr (.inr (.inr (.inl ⟨_, rfl⟩)))
      · exact .inr (.inr (.inr (.inr ⟨_, _, rfl, c1, .inl ⟨_, rfl⟩⟩)))
      · exact .inr (.inr (.inr (.inr ⟨_, _, rfl, c2, .inr (.inl ⟨_, rfl⟩)⟩)))
      · refine .inl ⟨_, rfl, fun z => ?_⟩
        have h1 : (10 : Int) ^ (20 : Int).toNat = 100000000000000000000 := by decide
        have h2 := z.2
        rw [h1] at h2
        omega
      · exact .inr (.inr (.inr (.inr ⟨_, _, rfl, c4, .inr (.inr ⟨_, rfl⟩)⟩)))
    clear hv f29 f28 g4 g2 g1 b1 b2 a4 a2 a1 P4 P2 P1 S28 hP29 bad
    walk_at "rds"
    walk_at "rd"
    -- for which in (0, 1, 2)
    refine ⟨sz_le (by show 3 ≤ _; decide), fun p3 np3 => ?_⟩
    have S30 := S29.same ((Same.refl H29).new (u := .tup [.int 0, .int 1, .int 2]) np3)
    have bad30 := bad29.fr ((Same.refl H29).new (u := .tup [.int 0, .int 1, .int 2]) np3).mM
    have badS30 := badS.fr ((Same.refl H29).new (u := .tup [.int 0, .int 1, .int 2]) np3).mM
    have t30 : (upd H29 p3 (.tup [.int 0, .int 1, .int 2])) p3 = some (.tup [.int 0, .int 1, .int 2]) := upd_same
    generalize upd H29 p3 (.tup [.int 0, .int 1, .int 2]) = H30 at S30 bad30 badS30 t30 ⊢
    clear S29 bad29 badS np3
    refine ⟨p3, rfl, ⟨_, .inl (.inl t30)⟩, ?_⟩
    refine for_walk (walk_tup (xs := [V.int 0, V.int 1, V.int 2])) (fun i σ H' => ∃ v3 : Option V, σ = [some (V.ref a), some (V.ref o.p), some (V.str (tx ds)), some (V.int n), some (V.ref m), some (V.ref w), some (V.str (tx l)), some (V.ref t), some (V.int s0), some (V.str (tx back)), some (V.str (tx [c])), some v, some v2, v3, none, none] ∧ Same H30 H')
      ⟨none, rfl, Same.refl _⟩ (fun i σ H' _ h => by obtain ⟨_, _, h⟩ := h; exact .inl (.inl (h _ _ t30))) ?_ ?_
    · intro i x σ H31 H32 hi hW hy
      obtain ⟨rfl, hx⟩ := hy
      obtain ⟨v3, rfl, s31⟩ := hW
      obtain ⟨wh, rfl, hwh⟩ : ∃ wh : Nat, x = V.int (wh : Int) ∧ ((wh = 0 ∧ ∃ s : Nat, V.int (s0 : Int) = .int s ∧ s < n) ∨ wh = 1 ∨ wh = 2) := by
        rcases i with _ | _ | _ | i
        · exact ⟨0, (Option.some.inj hx).symm, .inl ⟨rfl, s0, rfl, hs⟩⟩
        · exact ⟨1, (Option.some.inj hx).symm, .inr (.inl rfl)⟩
        · exact ⟨2, (Option.some.inj hx).symm, .inr (.inr rfl)⟩
        · simp at hx
      have S31 := S30.same s31
      walk_at "rds"
      walk_at "rd"
      refine ⟨MP o, w, T.C_World, ds, n, mv, wh, .int s0, v, _, rfl, hC, S31.wo, hd, hmv, by omega, .inr (.inr (.inr ⟨hwh, (bad30.fr s31.mM).no, rfl⟩)), fun t1 H33 s33 hd33 => ?_⟩
      walk_at "rd"
      refine ⟨sz2, fun t2 nt2 => ?_⟩
      refine r_neSame (dp_same ((Same.refl H33).new nt2) _ _ hd33) (dp_pD (.inl (.inl upd_same)) .non) (can_pD (by decide +kernel) can_none) (dep_pD dep_none) ?_
      walk_at "rd"
      exact ⟨_, rfl, (s31.trans s33).new nt2⟩
    · intro σ H31 hW
      obtain ⟨v3, rfl, s31⟩ := hW
      have S31 := S30.same s31
      have bad31 := bad30.fr s31.mM
      have badS31 := badS30.fr s31.mM
      clear S30 bad30 badS30 t30 s31
      walk_at "rd"
      refine ⟨MP o, w, T.C_World, ds, n, mv, 0, v2, v, _, rfl, hC, S31.wo, hd, hmv, by omega, .inr (.inr (.inl ⟨rfl, badS31.no, rfl⟩)), fun t1 H33 s33 hd33 => ?_⟩
      walk_at "rd"
      refine ⟨sz2, fun t2 nt2 => ?_⟩
      refine r_neSame (dp_same ((Same.refl H33).new nt2) _ _ hd33) (dp_pD (.inl (.inl upd_same)) .non) (can_pD (by decide +kernel) can_none) (dep_pD dep_none) ?_
      have s34 := s33.new (u := .tup [.str "standing", .non]) nt2
      have S34 := S31.same s34
      have badS34 := badS31.fr s34.mM
      clear S31 bad31 badS31 s34 s33 hd33
      walk_at "rd"
      refine ⟨MP o, w, T.C_World, ds, n, mv, 0, v2, .str (tx l), _, rfl, hC, S34.wo, hd, hmv, by omega, .inr (.inr (.inl ⟨rfl, badS34.no, rfl⟩)), fun t3 H35 s35 hd35 => ?_⟩
      walk_at "rd"
      refine ⟨sz2, fun t4 nt4 => ?_⟩
      refine r_neSame (dp_same ((Same.refl H35).new nt4) _ _ hd35) (dp_pD (.inl (.inl upd_same)) .non) (can_pD (by decide +kernel) can_none) (dep_pD dep_none) ?_
      have s36 := s35.new (u := .tup [.str "standing", .non]) nt4
      have S36 := S34.same s36
      clear S34 badS34 s36 s35 hd35
      walk_at "rd"
      -- the same world once more
      refine r_make ?_
      walk_at "rd"
      intro w' dx' nw2 ndx2 hdw2
      generalize upd H35 t4 (.tup [.str "standing", .non]) = H36 at S36 nw2 ndx2 ⊢
      have nw' : (upd H36 dx' (.own w')) w' = none := by rw [upd_ne (fun z => hdw2 z.symm)]; exact nw2
      have f6 : FrM (MP o) H36 (upd (upd H36 dx' (.own w')) w' (.ins T.C_World dx' [])) := ((FrM.refl _ H36).new ndx2).new nw'
      have P36 := S36.pot
      have hP6 : PotAt o (upd (upd H36 dx' (.own w')) w' (.ins T.C_World dx' [])) := (P36.new ndx2).new nw'
      have S37 := S36.frm f6 hP6
      refine ⟨MP o, w', m, dx', [], ds, n, mv, rfl, upd_same, P36.nM w' nw2, rfl, hC, hd, S37.mo.at, hmv, hn1, hn24, (fun a ha => hP6.nM a ha), fun H7 f7 hW => ⟨rfl, ?_⟩⟩
      have hne : w ≠ w' := by
        obtain ⟨dx, km, kb, fs, h1, _⟩ := S36.wo.ex
        exact ne_of_none h1.1 nw2
      have hw2 := world_fr S37.wo f7 hne upd_same
      obtain ⟨dx1, _, _, fs1, q1, _⟩ := hw2.ex
      obtain ⟨dx2, _, _, fs2, q2, _⟩ := hW.ex
      refine ⟨w, w', dx1, dx2, fs1, fs2, rfl, rfl, q1.1, q2.1, ?_⟩
      refine ⟨MP o, w, w', ds, n, mv, ds, n, mv, rfl, hC, hw2, hW, hd, hd, hmv, hmv, ?_⟩
      rw [decide_eq_true ⟨rfl, fun _ _ => rfl⟩]
      exact k _
end
end Rb
namespace Rb
open PySem L2
/-! ### what the top has written, and the end -/
theorem all_mk {l : PySem.W.OpenLaw} {w : World} {K : PySem.W.Frag} {h : Heap} {mg : Str → Option Value} {fa : Addr} (X : K.In h) (G : h.Ns mainGlobals mg) (hfa : mg "law" = some (.ref fa))
    {C_NoRow C_NoStanding C_World a_is_integer a_is_string_of a_is_word a_is_deeds a_undoing_of a_letters_over a_is_row_over a_check_row a_standing_still a_composed a_turned_back a_circles_of a_greatest_divisor a_order_of a_is_standing a_is_move a_are_moves a_all_moves a_World___init__ a_World_keep a_World___eq__ a_check_standing a_row_move a_led a_move_of a_order a__law_pot a__law_draw a__law_any a__law_deeds a__law_other a__law_back_row a__law_letters a__law_row a__law_mixed a__law_moves a__law_step a__law_led a__law_net a__law_asked a__law_order a_law : Addr}
    {od_is_integer an_is_integer : Option Addr} {sl_is_integer : Array (Option Value)} {oc_is_integer kV_is_integer dc_is_integer pm_is_integer cd_is_integer ct_is_integer : Value}
    {od_is_string_of an_is_string_of : Option Addr} {sl_is_string_of : Array (Option Value)} {oc_is_string_of kV_is_string_of dc_is_string_of pm_is_string_of cd_is_string_of ct_is_string_of : Value}
    {od_is_word an_is_word : Option Addr} {sl_is_word : Array (Option Value)} {oc_is_word kV_is_word dc_is_word pm_is_word cd_is_word ct_is_word : Value}
    {od_is_deeds an_is_deeds : Option Addr} {sl_is_deeds : Array (Option Value)} {oc_is_deeds kV_is_deeds dc_is_deeds pm_is_deeds cd_is_deeds ct_is_deeds : Value}
    {od_undoing_of an_undoing_of : Option Addr} {sl_undoing_of : Array (Option Value)} {oc_undoing_of kV_undoing_of dc_undoing_of pm_undoing_of cd_undoing_of ct_undoing_of : Value}
    {od_letters_over an_letters_over : Option Addr} {sl_letters_over : Array (Option Value)} {oc_letters_over kV_letters_over dc_letters_over pm_letters_over cd_letters_over ct_letters_over : Value}
    {od_is_row_over an_is_row_over : Option Addr} {sl_is_row_over : Array (Option Value)} {oc_is_row_over kV_is_row_over dc_is_row_over pm_is_row_over cd_is_row_over ct_is_row_over : Value}
    {od_check_row an_check_row : Option Addr} {sl_check_row : Array (Option Value)} {oc_check_row kV_check_row dc_check_row pm_check_row cd_check_row ct_check_row : Value}
    {od_standing_still an_standing_still : Option Addr} {sl_standing_still : Array (Option Value)} {oc_standing_still kV_standing_still dc_standing_still pm_standing_still cd_standing_still ct_standing_still : Value}
    {od_composed an_composed : Option Addr} {sl_composed : Array (Option Value)} {oc_composed kV_composed dc_composed pm_composed cd_composed ct_composed : Value}
    {od_turned_back an_turned_back : Option Addr} {sl_turned_back : Array (Option Value)} {oc_turned_back kV_turned_back dc_turned_back pm_turned_back cd_turned_back ct_turned_back : Value}
    {od_circles_of an_circles_of : Option Addr} {sl_circles_of : Array (Option Value)} {oc_circles_of kV_circles_of dc_circles_of pm_circles_of cd_circles_of ct_circles_of : Value}
    {od_greatest_divisor an_greatest_divisor : Option Addr} {sl_greatest_divisor : Array (Option Value)} {oc_greatest_divisor kV_greatest_divisor dc_greatest_divisor pm_greatest_divisor cd_greatest_divisor ct_greatest_divisor : Value}
    {od_order_of an_order_of : Option Addr} {sl_order_of : Array (Option Value)} {oc_order_of kV_order_of dc_order_of pm_order_of cd_order_of ct_order_of : Value}
    {od_is_standing an_is_standing : Option Addr} {sl_is_standing : Array (Option Value)} {oc_is_standing kV_is_standing dc_is_standing pm_is_standing cd_is_standing ct_is_standing : Value}
    {od_is_move an_is_move : Option Addr} {sl_is_move : Array (Option Value)} {oc_is_move kV_is_move dc_is_move pm_is_move cd_is_move ct_is_move : Value}
    {od_are_moves an_are_moves : Option Addr} {sl_are_moves : Array (Option Value)} {oc_are_moves kV_are_moves dc_are_moves pm_are_moves cd_are_moves ct_are_moves : Value}
    {od_all_moves an_all_moves : Option Addr} {sl_all_moves : Array (Option Value)} {oc_all_moves kV_all_moves dc_all_moves pm_all_moves cd_all_moves ct_all_moves : Value}
    {od_World___init__ an_World___init__ : Option Addr} {sl_World___init__ : Array (Option Value)} {oc_World___init__ kV_World___init__ dc_World___init__ pm_World___init__ cd_World___init__ ct_World___init__ : Value}
    {od_World_keep an_World_keep : Option Addr} {sl_World_keep : Array (Option Value)} {oc_World_keep kV_World_keep dc_World_keep pm_World_keep cd_World_keep ct_World_keep : Value}
    {od_World___eq__ an_World___eq__ : Option Addr} {sl_World___eq__ : Array (Option Value)} {oc_World___eq__ kV_World___eq__ dc_World___eq__ pm_World___eq__ cd_World___eq__ ct_World___eq__ : Value}
    {od_check_standing an_check_standing : Option Addr} {sl_check_standing : Array (Option Value)} {oc_check_standing kV_check_standing dc_check_standing pm_check_standing cd_check_standing ct_check_standing : Value}
    {od_row_move an_row_move : Option Addr} {sl_row_move : Array (Option Value)} {oc_row_move kV_row_move dc_row_move pm_row_move cd_row_move ct_row_move : Value}
    {od_led an_led : Option Addr} {sl_led : Array (Option Value)} {oc_led kV_led dc_led pm_led cd_led ct_led : Value}
    {od_move_of an_move_of : Option Addr} {sl_move_of : Array (Option Value)} {oc_move_of kV_move_of dc_move_of pm_move_of cd_move_of ct_move_of : Value}
    {od_order an_order : Option Addr} {sl_order : Array (Option Value)} {oc_order kV_order dc_order pm_order cd_order ct_order : Value}
    {od__law_pot an__law_pot : Option Addr} {sl__law_pot : Array (Option Value)} {oc__law_pot kV__law_pot dc__law_pot pm__law_pot cd__law_pot ct__law_pot : Value}
    {od__law_draw an__law_draw : Option Addr} {sl__law_draw : Array (Option Value)} {oc__law_draw kV__law_draw dc__law_draw pm__law_draw cd__law_draw ct__law_draw : Value}
    {od__law_any an__law_any : Option Addr} {sl__law_any : Array (Option Value)} {oc__law_any kV__law_any dc__law_any pm__law_any cd__law_any ct__law_any : Value}
    {od__law_deeds an__law_deeds : Option Addr} {sl__law_deeds : Array (Option Value)} {oc__law_deeds kV__law_deeds dc__law_deeds pm__law_deeds cd__law_deeds ct__law_deeds : Value}
    {od__law_other an__law_other : Option Addr} {sl__law_other : Array (Option Value)} {oc__law_other kV__law_other dc__law_other pm__law_other cd__law_other ct__law_other : Value}
    {od__law_back_row an__law_back_row : Option Addr} {sl__law_back_row : Array (Option Value)} {oc__law_back_row kV__law_back_row dc__law_back_row pm__law_back_row cd__law_back_row ct__law_back_row : Value}
    {od__law_letters an__law_letters : Option Addr} {sl__law_letters : Array (Option Value)} {oc__law_letters kV__law_letters dc__law_letters pm__law_letters cd__law_letters ct__law_letters : Value}
    {od__law_row an__law_row : Option Addr} {sl__law_row : Array (Option Value)} {oc__law_row kV__law_row dc__law_row pm__law_row cd__law_row ct__law_row : Value}
    {od__law_mixed an__law_mixed : Option Addr} {sl__law_mixed : Array (Option Value)} {oc__law_mixed kV__law_mixed dc__law_mixed pm__law_mixed cd__law_mixed ct__law_mixed : Value}
    {od__law_moves an__law_moves : Option Addr} {sl__law_moves : Array (Option Value)} {oc__law_moves kV__law_moves dc__law_moves pm__law_moves cd__law_moves ct__law_moves : Value}
    {od__law_step an__law_step : Option Addr} {sl__law_step : Array (Option Value)} {oc__law_step kV__law_step dc__law_step pm__law_step cd__law_step ct__law_step : Value}
    {od__law_led an__law_led : Option Addr} {sl__law_led : Array (Option Value)} {oc__law_led kV__law_led dc__law_led pm__law_led cd__law_led ct__law_led : Value}
    {od__law_net an__law_net : Option Addr} {sl__law_net : Array (Option Value)} {oc__law_net kV__law_net dc__law_net pm__law_net cd__law_net ct__law_net : Value}
    {od__law_asked an__law_asked : Option Addr} {sl__law_asked : Array (Option Value)} {oc__law_asked kV__law_asked dc__law_asked pm__law_asked cd__law_asked ct__law_asked : Value}
    {od__law_order an__law_order : Option Addr} {sl__law_order : Array (Option Value)} {oc__law_order kV__law_order dc__law_order pm__law_order cd__law_order ct__law_order : Value}
    {od_law an_law : Option Addr} {sl_law : Array (Option Value)} {oc_law kV_law dc_law pm_law cd_law ct_law : Value}
    {t_SMALL : Tok}
    {t_MOST_STANDINGS : Tok}
    (nc_NoRow : PySem.W.nsIn K mainGlobals "NoRow" = some (some (.ref C_NoRow)))
    (k_NoRow : PySem.W.keepIn K (.ref C_NoRow) = true)
    (xb_NoRow : PySem.W.subIn K (.ref C_NoRow) (.type "BaseException") = some true)
    (xt_NoRow : PySem.W.typeIn K (.ref C_NoRow) = some (.type "type"))
    (xi_NoRow : PySem.W.isClsIn K C_NoRow = true)
    (x_NoRow : PySem.W.excIn K C_NoRow [.type "ValueError", .type "Exception", .type "BaseException", .type "object"] "ValueError.__new__" = true)
    (nc_NoStanding : PySem.W.nsIn K mainGlobals "NoStanding" = some (some (.ref C_NoStanding)))
    (k_NoStanding : PySem.W.keepIn K (.ref C_NoStanding) = true)
    (xb_NoStanding : PySem.W.subIn K (.ref C_NoStanding) (.type "BaseException") = some true)
    (xt_NoStanding : PySem.W.typeIn K (.ref C_NoStanding) = some (.type "type"))
    (xi_NoStanding : PySem.W.isClsIn K C_NoStanding = true)
    (x_NoStanding : PySem.W.excIn K C_NoStanding [.type "ValueError", .type "Exception", .type "BaseException", .type "object"] "ValueError.__new__" = true)
    (nc_World : PySem.W.nsIn K mainGlobals "World" = some (some (.ref C_World)))
    (pg_World : PySem.W.plainGet K C_World Str.empty = true)
    (hd_World : PySem.W.hasDictIn K C_World = true)
    (po_World : PySem.W.plainOver K C_World = true)
    (sa_World : PySem.W.findIn K (.ref C_World) "__setattr__" = some (some (.builtin "object.__setattr__")))
    (ta_World : PySem.W.findIn K (.ref C_World) "__class__" = some (some (.builtin "object.__class__")))
    (tn_World : PySem.W.specialIn K (.builtin "object.__class__") "__get__" = some (some (.builtin "getset_descriptor.__get__")))
    (tk_World : PySem.W.takesIn K (.builtin "object.__class__") = some true)
    (tm_World : PySem.W.mroIn K C_World (.type "object") = some true)
    (s_NoRow_NoStanding : PySem.W.subIn K (.ref C_NoRow) (.ref C_NoStanding) = some false)
    (s_NoRow_NoRow : PySem.W.subIn K (.ref C_NoRow) (.ref C_NoRow) = some true)
    (s_NoStanding_NoStanding : PySem.W.subIn K (.ref C_NoStanding) (.ref C_NoStanding) = some true)
    (ns_is_integer : PySem.W.nsIn K mainGlobals "is_integer" = some (some (.ref a_is_integer)))
    (lk_is_integer : K.lookup a_is_integer = some ⟨oc_is_integer, od_is_integer, .func (PySem.W.fnOf "is_integer" "is_integer" (defArgs st_is_integer) (defBody st_is_integer) (defScope st_is_integer) .none kV_is_integer dc_is_integer pm_is_integer an_is_integer cd_is_integer ct_is_integer), sl_is_integer⟩)
    (co_is_integer : PySem.W.codeIn K cd_is_integer "is_integer" = true)
    (kp_is_integer : PySem.W.keepIn K (.ref a_is_integer) = true)
    (ns_is_string_of : PySem.W.nsIn K mainGlobals "is_string_of" = some (some (.ref a_is_string_of)))
    (lk_is_string_of : K.lookup a_is_string_of = some ⟨oc_is_string_of, od_is_string_of, .func (PySem.W.fnOf "is_string_of" "is_string_of" (defArgs st_is_string_of) (defBody st_is_string_of) (defScope st_is_string_of) .none kV_is_string_of dc_is_string_of pm_is_string_of an_is_string_of cd_is_string_of ct_is_string_of), sl_is_string_of⟩)
    (co_is_string_of : PySem.W.codeIn K cd_is_string_of "is_string_of" = true)
    (kp_is_string_of : PySem.W.keepIn K (.ref a_is_string_of) = true)
    (ns_is_word : PySem.W.nsIn K mainGlobals "is_word" = some (some (.ref a_is_word)))
    (lk_is_word : K.lookup a_is_word = some ⟨oc_is_word, od_is_word, .func (PySem.W.fnOf "is_word" "is_word" (defArgs st_is_word) (defBody st_is_word) (defScope st_is_word) .none kV_is_word dc_is_word pm_is_word an_is_word cd_is_word ct_is_word), sl_is_word⟩)
    (co_is_word : PySem.W.codeIn K cd_is_word "is_word" = true)
    (kp_is_word : PySem.W.keepIn K (.ref a_is_word) = true)
    (ns_is_deeds : PySem.W.nsIn K mainGlobals "is_deeds" = some (some (.ref a_is_deeds)))
    (lk_is_deeds : K.lookup a_is_deeds = some ⟨oc_is_deeds, od_is_deeds, .func (PySem.W.fnOf "is_deeds" "is_deeds" (defArgs st_is_deeds) (defBody st_is_deeds) (defScope st_is_deeds) .none kV_is_deeds dc_is_deeds pm_is_deeds an_is_deeds cd_is_deeds ct_is_deeds), sl_is_deeds⟩)
    (co_is_deeds : PySem.W.codeIn K cd_is_deeds "is_deeds" = true)
    (kp_is_deeds : PySem.W.keepIn K (.ref a_is_deeds) = true)
    (ns_undoing_of : PySem.W.nsIn K mainGlobals "undoing_of" = some (some (.ref a_undoing_of)))
    (lk_undoing_of : K.lookup a_undoing_of = some ⟨oc_undoing_of, od_undoing_of, .func (PySem.W.fnOf "undoing_of" "undoing_of" (defArgs st_undoing_of) (defBody st_undoing_of) (defScope st_undoing_of) .none kV_undoing_of dc_undoing_of pm_undoing_of an_undoing_of cd_undoing_of ct_undoing_of), sl_undoing_of⟩)
    (co_undoing_of : PySem.W.codeIn K cd_undoing_of "undoing_of" = true)
    (kp_undoing_of : PySem.W.keepIn K (.ref a_undoing_of) = true)
    (ns_letters_over : PySem.W.nsIn K mainGlobals "letters_over" = some (some (.ref a_letters_over)))
    (lk_letters_over : K.lookup a_letters_over = some ⟨oc_letters_over, od_letters_over, .func (PySem.W.fnOf "letters_over" "letters_over" (defArgs st_letters_over) (defBody st_letters_over) (defScope st_letters_over) .none kV_letters_over dc_letters_over pm_letters_over an_letters_over cd_letters_over ct_letters_over), sl_letters_over⟩)
    (co_letters_over : PySem.W.codeIn K cd_letters_over "letters_over" = true)
    (kp_letters_over : PySem.W.keepIn K (.ref a_letters_over) = true)
    (ns_is_row_over : PySem.W.nsIn K mainGlobals "is_row_over" = some (some (.ref a_is_row_over)))
    (lk_is_row_over : K.lookup a_is_row_over = some ⟨oc_is_row_over, od_is_row_over, .func (PySem.W.fnOf "is_row_over" "is_row_over" (defArgs st_is_row_over) (defBody st_is_row_over) (defScope st_is_row_over) .none kV_is_row_over dc_is_row_over pm_is_row_over an_is_row_over cd_is_row_over ct_is_row_over), sl_is_row_over⟩)
    (co_is_row_over : PySem.W.codeIn K cd_is_row_over "is_row_over" = true)
    (kp_is_row_over : PySem.W.keepIn K (.ref a_is_row_over) = true)
    (ns_check_row : PySem.W.nsIn K mainGlobals "check_row" = some (some (.ref a_check_row)))
    (lk_check_row : K.lookup a_check_row = some ⟨oc_check_row, od_check_row, .func (PySem.W.fnOf "check_row" "check_row" (defArgs st_check_row) (defBody st_check_row) (defScope st_check_row) .none kV_check_row dc_check_row pm_check_row an_check_row cd_check_row ct_check_row), sl_check_row⟩)
    (co_check_row : PySem.W.codeIn K cd_check_row "check_row" = true)
    (kp_check_row : PySem.W.keepIn K (.ref a_check_row) = true)
    (ns_standing_still : PySem.W.nsIn K mainGlobals "standing_still" = some (some (.ref a_standing_still)))
    (lk_standing_still : K.lookup a_standing_still = some ⟨oc_standing_still, od_standing_still, .func (PySem.W.fnOf "standing_still" "standing_still" (defArgs st_standing_still) (defBody st_standing_still) (defScope st_standing_still) .none kV_standing_still dc_standing_still pm_standing_still an_standing_still cd_standing_still ct_standing_still), sl_standing_still⟩)
    (co_standing_still : PySem.W.codeIn K cd_standing_still "standing_still" = true)
    (kp_standing_still : PySem.W.keepIn K (.ref a_standing_still) = true)
    (ns_composed : PySem.W.nsIn K mainGlobals "composed" = some (some (.ref a_composed)))
    (lk_composed : K.lookup a_composed = some ⟨oc_composed, od_composed, .func (PySem.W.fnOf "composed" "composed" (defArgs st_composed) (defBody st_composed) (defScope st_composed) .none kV_composed dc_composed pm_composed an_composed cd_composed ct_composed), sl_composed⟩)
    (co_composed : PySem.W.codeIn K cd_composed "composed" = true)
    (kp_composed : PySem.W.keepIn K (.ref a_composed) = true)
    (ns_turned_back : PySem.W.nsIn K mainGlobals "turned_back" = some (some (.ref a_turned_back)))
    (lk_turned_back : K.lookup a_turned_back = some ⟨oc_turned_back, od_turned_back, .func (PySem.W.fnOf "turned_back" "turned_back" (defArgs st_turned_back) (defBody st_turned_back) (defScope st_turned_back) .none kV_turned_back dc_turned_back pm_turned_back an_turned_back cd_turned_back ct_turned_back), sl_turned_back⟩)
    (co_turned_back : PySem.W.codeIn K cd_turned_back "turned_back" = true)
    (kp_turned_back : PySem.W.keepIn K (.ref a_turned_back) = true)
    (ns_circles_of : PySem.W.nsIn K mainGlobals "circles_of" = some (some (.ref a_circles_of)))
    (lk_circles_of : K.lookup a_circles_of = some ⟨oc_circles_of, od_circles_of, .func (PySem.W.fnOf "circles_of" "circles_of" (defArgs st_circles_of) (defBody st_circles_of) (defScope st_circles_of) .none kV_circles_of dc_circles_of pm_circles_of an_circles_of cd_circles_of ct_circles_of), sl_circles_of⟩)
    (co_circles_of : PySem.W.codeIn K cd_circles_of "circles_of" = true)
    (kp_circles_of : PySem.W.keepIn K (.ref a_circles_of) = true)
    (ns_greatest_divisor : PySem.W.nsIn K mainGlobals "greatest_divisor" = some (some (.ref a_greatest_divisor)))
    (lk_greatest_divisor : K.lookup a_greatest_divisor = some ⟨oc_greatest_divisor, od_greatest_divisor, .func (PySem.W.fnOf "greatest_divisor" "greatest_divisor" (defArgs st_greatest_divisor) (defBody st_greatest_divisor) (defScope st_greatest_divisor) .none kV_greatest_divisor dc_greatest_divisor pm_greatest_divisor an_greatest_divisor cd_greatest_divisor ct_greatest_divisor), sl_greatest_divisor⟩)
    (co_greatest_divisor : PySem.W.codeIn K cd_greatest_divisor "greatest_divisor" = true)
    (kp_greatest_divisor : PySem.W.keepIn K (.ref a_greatest_divisor) = true)
    (ns_order_of : PySem.W.nsIn K mainGlobals "order_of" = some (some (.ref a_order_of)))
    (lk_order_of : K.lookup a_order_of = some ⟨oc_order_of, od_order_of, .func (PySem.W.fnOf "order_of" "order_of" (defArgs st_order_of) (defBody st_order_of) (defScope st_order_of) .none kV_order_of dc_order_of pm_order_of an_order_of cd_order_of ct_order_of), sl_order_of⟩)
    (co_order_of : PySem.W.codeIn K cd_order_of "order_of" = true)
    (kp_order_of : PySem.W.keepIn K (.ref a_order_of) = true)
    (ns_is_standing : PySem.W.nsIn K mainGlobals "is_standing" = some (some (.ref a_is_standing)))
    (lk_is_standing : K.lookup a_is_standing = some ⟨oc_is_standing, od_is_standing, .func (PySem.W.fnOf "is_standing" "is_standing" (defArgs st_is_standing) (defBody st_is_standing) (defScope st_is_standing) .none kV_is_standing dc_is_standing pm_is_standing an_is_standing cd_is_standing ct_is_standing), sl_is_standing⟩)
    (co_is_standing : PySem.W.codeIn K cd_is_standing "is_standing" = true)
    (kp_is_standing : PySem.W.keepIn K (.ref a_is_standing) = true)
    (ns_is_move : PySem.W.nsIn K mainGlobals "is_move" = some (some (.ref a_is_move)))
    (lk_is_move : K.lookup a_is_move = some ⟨oc_is_move, od_is_move, .func (PySem.W.fnOf "is_move" "is_move" (defArgs st_is_move) (defBody st_is_move) (defScope st_is_move) .none kV_is_move dc_is_move pm_is_move an_is_move cd_is_move ct_is_move), sl_is_move⟩)
    (co_is_move : PySem.W.codeIn K cd_is_move "is_move" = true)
    (kp_is_move : PySem.W.keepIn K (.ref a_is_move) = true)
    (ns_are_moves : PySem.W.nsIn K mainGlobals "are_moves" = some (some (.ref a_are_moves)))
    (lk_are_moves : K.lookup a_are_moves = some ⟨oc_are_moves, od_are_moves, .func (PySem.W.fnOf "are_moves" "are_moves" (defArgs st_are_moves) (defBody st_are_moves) (defScope st_are_moves) .none kV_are_moves dc_are_moves pm_are_moves an_are_moves cd_are_moves ct_are_moves), sl_are_moves⟩)
    (co_are_moves : PySem.W.codeIn K cd_are_moves "are_moves" = true)
    (kp_are_moves : PySem.W.keepIn K (.ref a_are_moves) = true)
    (ns_all_moves : PySem.W.nsIn K mainGlobals "all_moves" = some (some (.ref a_all_moves)))
    (lk_all_moves : K.lookup a_all_moves = some ⟨oc_all_moves, od_all_moves, .func (PySem.W.fnOf "all_moves" "all_moves" (defArgs st_all_moves) (defBody st_all_moves) (defScope st_all_moves) .none kV_all_moves dc_all_moves pm_all_moves an_all_moves cd_all_moves ct_all_moves), sl_all_moves⟩)
    (co_all_moves : PySem.W.codeIn K cd_all_moves "all_moves" = true)
    (kp_all_moves : PySem.W.keepIn K (.ref a_all_moves) = true)
    (at_World___init__ : PySem.W.findIn K (.ref C_World) "__init__" = some (some (.ref a_World___init__)))
    (fn_World___init__ : PySem.W.isFn K (.ref a_World___init__) = true)
    (lk_World___init__ : K.lookup a_World___init__ = some ⟨oc_World___init__, od_World___init__, .func (PySem.W.fnOf "__init__" "World.__init__" (defArgs st_World___init__) (defBody st_World___init__) (defScope st_World___init__) .none kV_World___init__ dc_World___init__ pm_World___init__ an_World___init__ cd_World___init__ ct_World___init__), sl_World___init__⟩)
    (co_World___init__ : PySem.W.codeIn K cd_World___init__ "World.__init__" = true)
    (kp_World___init__ : PySem.W.keepIn K (.ref a_World___init__) = true)
    (mi_World : PySem.W.makesIn K C_World = true)
    (ki_World : PySem.W.keepIn K (.ref C_World) = true)
    (at_World_keep : PySem.W.findIn K (.ref C_World) "keep" = some (some (.ref a_World_keep)))
    (fn_World_keep : PySem.W.isFn K (.ref a_World_keep) = true)
    (lk_World_keep : K.lookup a_World_keep = some ⟨oc_World_keep, od_World_keep, .func (PySem.W.fnOf "keep" "World.keep" (defArgs st_World_keep) (defBody st_World_keep) (defScope st_World_keep) .none kV_World_keep dc_World_keep pm_World_keep an_World_keep cd_World_keep ct_World_keep), sl_World_keep⟩)
    (co_World_keep : PySem.W.codeIn K cd_World_keep "World.keep" = true)
    (kp_World_keep : PySem.W.keepIn K (.ref a_World_keep) = true)
    (at_World___eq__ : PySem.W.findIn K (.ref C_World) "__eq__" = some (some (.ref a_World___eq__)))
    (fn_World___eq__ : PySem.W.isFn K (.ref a_World___eq__) = true)
    (lk_World___eq__ : K.lookup a_World___eq__ = some ⟨oc_World___eq__, od_World___eq__, .func (PySem.W.fnOf "__eq__" "World.__eq__" (defArgs st_World___eq__) (defBody st_World___eq__) (defScope st_World___eq__) .none kV_World___eq__ dc_World___eq__ pm_World___eq__ an_World___eq__ cd_World___eq__ ct_World___eq__), sl_World___eq__⟩)
    (co_World___eq__ : PySem.W.codeIn K cd_World___eq__ "World.__eq__" = true)
    (kp_World___eq__ : PySem.W.keepIn K (.ref a_World___eq__) = true)
    (ns_check_standing : PySem.W.nsIn K mainGlobals "check_standing" = some (some (.ref a_check_standing)))
    (lk_check_standing : K.lookup a_check_standing = some ⟨oc_check_standing, od_check_standing, .func (PySem.W.fnOf "check_standing" "check_standing" (defArgs st_check_standing) (defBody st_check_standing) (defScope st_check_standing) .none kV_check_standing dc_check_standing pm_check_standing an_check_standing cd_check_standing ct_check_standing), sl_check_standing⟩)
    (co_check_standing : PySem.W.codeIn K cd_check_standing "check_standing" = true)
    (kp_check_standing : PySem.W.keepIn K (.ref a_check_standing) = true)
    (ns_row_move : PySem.W.nsIn K mainGlobals "row_move" = some (some (.ref a_row_move)))
    (lk_row_move : K.lookup a_row_move = some ⟨oc_row_move, od_row_move, .func (PySem.W.fnOf "row_move" "row_move" (defArgs st_row_move) (defBody st_row_move) (defScope st_row_move) .none kV_row_move dc_row_move pm_row_move an_row_move cd_row_move ct_row_move), sl_row_move⟩)
    (co_row_move : PySem.W.codeIn K cd_row_move "row_move" = true)
    (kp_row_move : PySem.W.keepIn K (.ref a_row_move) = true)
    (ns_led : PySem.W.nsIn K mainGlobals "led" = some (some (.ref a_led)))
    (lk_led : K.lookup a_led = some ⟨oc_led, od_led, .func (PySem.W.fnOf "led" "led" (defArgs st_led) (defBody st_led) (defScope st_led) .none kV_led dc_led pm_led an_led cd_led ct_led), sl_led⟩)
    (co_led : PySem.W.codeIn K cd_led "led" = true)
    (kp_led : PySem.W.keepIn K (.ref a_led) = true)
    (ns_move_of : PySem.W.nsIn K mainGlobals "move_of" = some (some (.ref a_move_of)))
    (lk_move_of : K.lookup a_move_of = some ⟨oc_move_of, od_move_of, .func (PySem.W.fnOf "move_of" "move_of" (defArgs st_move_of) (defBody st_move_of) (defScope st_move_of) .none kV_move_of dc_move_of pm_move_of an_move_of cd_move_of ct_move_of), sl_move_of⟩)
    (co_move_of : PySem.W.codeIn K cd_move_of "move_of" = true)
    (kp_move_of : PySem.W.keepIn K (.ref a_move_of) = true)
    (ns_order : PySem.W.nsIn K mainGlobals "order" = some (some (.ref a_order)))
    (lk_order : K.lookup a_order = some ⟨oc_order, od_order, .func (PySem.W.fnOf "order" "order" (defArgs st_order) (defBody st_order) (defScope st_order) .none kV_order dc_order pm_order an_order cd_order ct_order), sl_order⟩)
    (co_order : PySem.W.codeIn K cd_order "order" = true)
    (kp_order : PySem.W.keepIn K (.ref a_order) = true)
    (ns__law_pot : PySem.W.nsIn K mainGlobals "_law_pot" = some (some (.ref a__law_pot)))
    (lk__law_pot : K.lookup a__law_pot = some ⟨oc__law_pot, od__law_pot, .func (PySem.W.fnOf "_law_pot" "_law_pot" (defArgs st__law_pot) (defBody st__law_pot) (defScope st__law_pot) .none kV__law_pot dc__law_pot pm__law_pot an__law_pot cd__law_pot ct__law_pot), sl__law_pot⟩)
    (co__law_pot : PySem.W.codeIn K cd__law_pot "_law_pot" = true)
    (kp__law_pot : PySem.W.keepIn K (.ref a__law_pot) = true)
    (ns__law_draw : PySem.W.nsIn K mainGlobals "_law_draw" = some (some (.ref a__law_draw)))
    (lk__law_draw : K.lookup a__law_draw = some ⟨oc__law_draw, od__law_draw, .func (PySem.W.fnOf "_law_draw" "_law_draw" (defArgs st__law_draw) (defBody st__law_draw) (defScope st__law_draw) .none kV__law_draw dc__law_draw pm__law_draw an__law_draw cd__law_draw ct__law_draw), sl__law_draw⟩)
    (co__law_draw : PySem.W.codeIn K cd__law_draw "_law_draw" = true)
    (kp__law_draw : PySem.W.keepIn K (.ref a__law_draw) = true)
    (ns__law_any : PySem.W.nsIn K mainGlobals "_law_any" = some (some (.ref a__law_any)))
    (lk__law_any : K.lookup a__law_any = some ⟨oc__law_any, od__law_any, .func (PySem.W.fnOf "_law_any" "_law_any" (defArgs st__law_any) (defBody st__law_any) (defScope st__law_any) .none kV__law_any dc__law_any pm__law_any an__law_any cd__law_any ct__law_any), sl__law_any⟩)
    (co__law_any : PySem.W.codeIn K cd__law_any "_law_any" = true)
    (kp__law_any : PySem.W.keepIn K (.ref a__law_any) = true)
    (ns__law_deeds : PySem.W.nsIn K mainGlobals "_law_deeds" = some (some (.ref a__law_deeds)))
    (lk__law_deeds : K.lookup a__law_deeds = some ⟨oc__law_deeds, od__law_deeds, .func (PySem.W.fnOf "_law_deeds" "_law_deeds" (defArgs st__law_deeds) (defBody st__law_deeds) (defScope st__law_deeds) .none kV__law_deeds dc__law_deeds pm__law_deeds an__law_deeds cd__law_deeds ct__law_deeds), sl__law_deeds⟩)
    (co__law_deeds : PySem.W.codeIn K cd__law_deeds "_law_deeds" = true)
    (kp__law_deeds : PySem.W.keepIn K (.ref a__law_deeds) = true)
    (ns__law_other : PySem.W.nsIn K mainGlobals "_law_other" = some (some (.ref a__law_other)))
    (lk__law_other : K.lookup a__law_other = some ⟨oc__law_other, od__law_other, .func (PySem.W.fnOf "_law_other" "_law_other" (defArgs st__law_other) (defBody st__law_other) (defScope st__law_other) .none kV__law_other dc__law_other pm__law_other an__law_other cd__law_other ct__law_other), sl__law_other⟩)
    (co__law_other : PySem.W.codeIn K cd__law_other "_law_other" = true)
    (kp__law_other : PySem.W.keepIn K (.ref a__law_other) = true)
    (ns__law_back_row : PySem.W.nsIn K mainGlobals "_law_back_row" = some (some (.ref a__law_back_row)))
    (lk__law_back_row : K.lookup a__law_back_row = some ⟨oc__law_back_row, od__law_back_row, .func (PySem.W.fnOf "_law_back_row" "_law_back_row" (defArgs st__law_back_row) (defBody st__law_back_row) (defScope st__law_back_row) .none kV__law_back_row dc__law_back_row pm__law_back_row an__law_back_row cd__law_back_row ct__law_back_row), sl__law_back_row⟩)
    (co__law_back_row : PySem.W.codeIn K cd__law_back_row "_law_back_row" = true)
    (kp__law_back_row : PySem.W.keepIn K (.ref a__law_back_row) = true)
    (ns__law_letters : PySem.W.nsIn K mainGlobals "_law_letters" = some (some (.ref a__law_letters)))
    (lk__law_letters : K.lookup a__law_letters = some ⟨oc__law_letters, od__law_letters, .func (PySem.W.fnOf "_law_letters" "_law_letters" (defArgs st__law_letters) (defBody st__law_letters) (defScope st__law_letters) .none kV__law_letters dc__law_letters pm__law_letters an__law_letters cd__law_letters ct__law_letters), sl__law_letters⟩)
    (co__law_letters : PySem.W.codeIn K cd__law_letters "_law_letters" = true)
    (kp__law_letters : PySem.W.keepIn K (.ref a__law_letters) = true)
    (ns__law_row : PySem.W.nsIn K mainGlobals "_law_row" = some (some (.ref a__law_row)))
    (lk__law_row : K.lookup a__law_row = some ⟨oc__law_row, od__law_row, .func (PySem.W.fnOf "_law_row" "_law_row" (defArgs st__law_row) (defBody st__law_row) (defScope st__law_row) .none kV__law_row dc__law_row pm__law_row an__law_row cd__law_row ct__law_row), sl__law_row⟩)
    (co__law_row : PySem.W.codeIn K cd__law_row "_law_row" = true)
    (kp__law_row : PySem.W.keepIn K (.ref a__law_row) = true)
    (ns__law_mixed : PySem.W.nsIn K mainGlobals "_law_mixed" = some (some (.ref a__law_mixed)))
    (lk__law_mixed : K.lookup a__law_mixed = some ⟨oc__law_mixed, od__law_mixed, .func (PySem.W.fnOf "_law_mixed" "_law_mixed" (defArgs st__law_mixed) (defBody st__law_mixed) (defScope st__law_mixed) .none kV__law_mixed dc__law_mixed pm__law_mixed an__law_mixed cd__law_mixed ct__law_mixed), sl__law_mixed⟩)
    (co__law_mixed : PySem.W.codeIn K cd__law_mixed "_law_mixed" = true)
    (kp__law_mixed : PySem.W.keepIn K (.ref a__law_mixed) = true)
    (ns__law_moves : PySem.W.nsIn K mainGlobals "_law_moves" = some (some (.ref a__law_moves)))
    (lk__law_moves : K.lookup a__law_moves = some ⟨oc__law_moves, od__law_moves, .func (PySem.W.fnOf "_law_moves" "_law_moves" (defArgs st__law_moves) (defBody st__law_moves) (defScope st__law_moves) .none kV__law_moves dc__law_moves pm__law_moves an__law_moves cd__law_moves ct__law_moves), sl__law_moves⟩)
    (co__law_moves : PySem.W.codeIn K cd__law_moves "_law_moves" = true)
    (kp__law_moves : PySem.W.keepIn K (.ref a__law_moves) = true)
    (ns__law_step : PySem.W.nsIn K mainGlobals "_law_step" = some (some (.ref a__law_step)))
    (lk__law_step : K.lookup a__law_step = some ⟨oc__law_step, od__law_step, .func (PySem.W.fnOf "_law_step" "_law_step" (defArgs st__law_step) (defBody st__law_step) (defScope st__law_step) .none kV__law_step dc__law_step pm__law_step an__law_step cd__law_step ct__law_step), sl__law_step⟩)
    (co__law_step : PySem.W.codeIn K cd__law_step "_law_step" = true)
    (kp__law_step : PySem.W.keepIn K (.ref a__law_step) = true)
    (ns__law_led : PySem.W.nsIn K mainGlobals "_law_led" = some (some (.ref a__law_led)))
    (lk__law_led : K.lookup a__law_led = some ⟨oc__law_led, od__law_led, .func (PySem.W.fnOf "_law_led" "_law_led" (defArgs st__law_led) (defBody st__law_led) (defScope st__law_led) .none kV__law_led dc__law_led pm__law_led an__law_led cd__law_led ct__law_led), sl__law_led⟩)
    (co__law_led : PySem.W.codeIn K cd__law_led "_law_led" = true)
    (kp__law_led : PySem.W.keepIn K (.ref a__law_led) = true)
    (ns__law_net : PySem.W.nsIn K mainGlobals "_law_net" = some (some (.ref a__law_net)))
    (lk__law_net : K.lookup a__law_net = some ⟨oc__law_net, od__law_net, .func (PySem.W.fnOf "_law_net" "_law_net" (defArgs st__law_net) (defBody st__law_net) (defScope st__law_net) .none kV__law_net dc__law_net pm__law_net an__law_net cd__law_net ct__law_net), sl__law_net⟩)
    (co__law_net : PySem.W.codeIn K cd__law_net "_law_net" = true)
    (kp__law_net : PySem.W.keepIn K (.ref a__law_net) = true)
    (ns__law_asked : PySem.W.nsIn K mainGlobals "_law_asked" = some (some (.ref a__law_asked)))
    (lk__law_asked : K.lookup a__law_asked = some ⟨oc__law_asked, od__law_asked, .func (PySem.W.fnOf "_law_asked" "_law_asked" (defArgs st__law_asked) (defBody st__law_asked) (defScope st__law_asked) .none kV__law_asked dc__law_asked pm__law_asked an__law_asked cd__law_asked ct__law_asked), sl__law_asked⟩)
    (co__law_asked : PySem.W.codeIn K cd__law_asked "_law_asked" = true)
    (kp__law_asked : PySem.W.keepIn K (.ref a__law_asked) = true)
    (ns__law_order : PySem.W.nsIn K mainGlobals "_law_order" = some (some (.ref a__law_order)))
    (lk__law_order : K.lookup a__law_order = some ⟨oc__law_order, od__law_order, .func (PySem.W.fnOf "_law_order" "_law_order" (defArgs st__law_order) (defBody st__law_order) (defScope st__law_order) .none kV__law_order dc__law_order pm__law_order an__law_order cd__law_order ct__law_order), sl__law_order⟩)
    (co__law_order : PySem.W.codeIn K cd__law_order "_law_order" = true)
    (kp__law_order : PySem.W.keepIn K (.ref a__law_order) = true)
    (ns_law : PySem.W.nsIn K mainGlobals "law" = some (some (.ref a_law)))
    (lk_law : K.lookup a_law = some ⟨oc_law, od_law, .func (PySem.W.fnOf "law" "law" (defArgs st_law) (defBody st_law) (defScope st_law) .none kV_law dc_law pm_law an_law cd_law ct_law), sl_law⟩)
    (co_law : PySem.W.codeIn K cd_law "law" = true)
    (kp_law : PySem.W.keepIn K (.ref a_law) = true)
    (na_World_deeds : PySem.W.findIn K (.ref C_World) "deeds" = some none)
    (na_World_size : PySem.W.findIn K (.ref C_World) "size" = some none)
    (na_World_kept_moves : PySem.W.findIn K (.ref C_World) "kept_moves" = some none)
    (na_World_kept_backs : PySem.W.findIn K (.ref C_World) "kept_backs" = some none)
    (nn_isinstance : PySem.W.nsIn K mainGlobals "isinstance" = some none)
    (nn_int : PySem.W.nsIn K mainGlobals "int" = some none)
    (nn_bool : PySem.W.nsIn K mainGlobals "bool" = some none)
    (nn_str : PySem.W.nsIn K mainGlobals "str" = some none)
    (nn_len : PySem.W.nsIn K mainGlobals "len" = some none)
    (nn_tuple : PySem.W.nsIn K mainGlobals "tuple" = some none)
    (nn_range : PySem.W.nsIn K mainGlobals "range" = some none)
    (nn_list : PySem.W.nsIn K mainGlobals "list" = some none)
    (nn_enumerate : PySem.W.nsIn K mainGlobals "enumerate" = some none)
    (nn_dict : PySem.W.nsIn K mainGlobals "dict" = some none)
    (nn_abs : PySem.W.nsIn K mainGlobals "abs" = some none)
    (nn_sum : PySem.W.nsIn K mainGlobals "sum" = some none)
    (cc_SMALL : PySem.W.nsIn K mainGlobals "SMALL" = some (some (.str "abcdefghijklmnopqrstuvwxyz" t_SMALL)))
    (cc_MOST_STANDINGS : PySem.W.nsIn K mainGlobals "MOST_STANDINGS" = some (some (.int 24 t_MOST_STANDINGS))) :
    ∃ fd : FuncData, (∀ (s : Shared) (v : Value), BindsTo s fd ⟨[v], []⟩ [("_law_script", v)]) ∧ ∀ base : Heap, K.In base → base.Ns mainGlobals mg → FnOk l.prog w K mg base CX0 7 fa fd ["_law_script"] (spLaw K) := by
  have ef : fa = a_law := Value.ref.inj (Option.some.inj (hfa.symm.trans (PySem.W.mg_of X G ns_law)))
  rw [ef]
  have F_is_integer := fun_mk (st := st_is_integer) lk_is_integer co_is_integer kp_is_integer
  have b_is_integer := F_is_integer.binds (ps := ["thing"]) fun _ _ _ _ _ _ us hl => match us, hl with | [_], _ => rfl
  have F_is_string_of := fun_mk (st := st_is_string_of) lk_is_string_of co_is_string_of kp_is_string_of
  have b_is_string_of := F_is_string_of.binds (ps := ["thing", "signs"]) fun _ _ _ _ _ _ us hl => match us, hl with | [_, _], _ => rfl
  have F_is_word := fun_mk (st := st_is_word) lk_is_word co_is_word kp_is_word
  have b_is_word := F_is_word.binds (ps := ["thing"]) fun _ _ _ _ _ _ us hl => match us, hl with | [_], _ => rfl
  have F_is_deeds := fun_mk (st := st_is_deeds) lk_is_deeds co_is_deeds kp_is_deeds
  have b_is_deeds := F_is_deeds.binds (ps := ["thing"]) fun _ _ _ _ _ _ us hl => match us, hl with | [_], _ => rfl
  have F_undoing_of := fun_mk (st := st_undoing_of) lk_undoing_of co_undoing_of kp_undoing_of
  have b_undoing_of := F_undoing_of.binds (ps := ["letter"]) fun _ _ _ _ _ _ us hl => match us, hl with | [_], _ => rfl
  have F_letters_over := fun_mk (st := st_letters_over) lk_letters_over co_letters_over kp_letters_over
  have b_letters_over := F_letters_over.binds (ps := ["deeds"]) fun _ _ _ _ _ _ us hl => match us, hl with | [_], _ => rfl
  have F_is_row_over := fun_mk (st := st_is_row_over) lk_is_row_over co_is_row_over kp_is_row_over
  have b_is_row_over := F_is_row_over.binds (ps := ["deeds", "thing"]) fun _ _ _ _ _ _ us hl => match us, hl with | [_, _], _ => rfl
  have F_check_row := fun_mk (st := st_check_row) lk_check_row co_check_row kp_check_row
  have b_check_row := F_check_row.binds (ps := ["deeds", "thing"]) fun _ _ _ _ _ _ us hl => match us, hl with | [_, _], _ => rfl
  have F_standing_still := fun_mk (st := st_standing_still) lk_standing_still co_standing_still kp_standing_still
  have b_standing_still := F_standing_still.binds (ps := ["size"]) fun _ _ _ _ _ _ us hl => match us, hl with | [_], _ => rfl
  have F_composed := fun_mk (st := st_composed) lk_composed co_composed kp_composed
  have b_composed := F_composed.binds (ps := ["first", "second"]) fun _ _ _ _ _ _ us hl => match us, hl with | [_, _], _ => rfl
  have F_turned_back := fun_mk (st := st_turned_back) lk_turned_back co_turned_back kp_turned_back
  have b_turned_back := F_turned_back.binds (ps := ["move"]) fun _ _ _ _ _ _ us hl => match us, hl with | [_], _ => rfl
  have F_circles_of := fun_mk (st := st_circles_of) lk_circles_of co_circles_of kp_circles_of
  have b_circles_of := F_circles_of.binds (ps := ["move"]) fun _ _ _ _ _ _ us hl => match us, hl with | [_], _ => rfl
  have F_greatest_divisor := fun_mk (st := st_greatest_divisor) lk_greatest_divisor co_greatest_divisor kp_greatest_divisor
  have b_greatest_divisor := F_greatest_divisor.binds (ps := ["one", "other"]) fun _ _ _ _ _ _ us hl => match us, hl with | [_, _], _ => rfl
  have F_order_of := fun_mk (st := st_order_of) lk_order_of co_order_of kp_order_of
  have b_order_of := F_order_of.binds (ps := ["move"]) fun _ _ _ _ _ _ us hl => match us, hl with | [_], _ => rfl
  have F_is_standing := fun_mk (st := st_is_standing) lk_is_standing co_is_standing kp_is_standing
  have b_is_standing := F_is_standing.binds (ps := ["size", "thing"]) fun _ _ _ _ _ _ us hl => match us, hl with | [_, _], _ => rfl
  have F_is_move := fun_mk (st := st_is_move) lk_is_move co_is_move kp_is_move
  have b_is_move := F_is_move.binds (ps := ["size", "thing"]) fun _ _ _ _ _ _ us hl => match us, hl with | [_, _], _ => rfl
  have F_are_moves := fun_mk (st := st_are_moves) lk_are_moves co_are_moves kp_are_moves
  have b_are_moves := F_are_moves.binds (ps := ["deeds", "thing"]) fun _ _ _ _ _ _ us hl => match us, hl with | [_, _], _ => rfl
  have F_all_moves := fun_mk (st := st_all_moves) lk_all_moves co_all_moves kp_all_moves
  have b_all_moves := F_all_moves.binds (ps := ["deeds", "moves"]) fun _ _ _ _ _ _ us hl => match us, hl with | [_, _], _ => rfl
  have F_World___init__ := fun_mk (st := st_World___init__) lk_World___init__ co_World___init__ kp_World___init__
  have b_World___init__ := F_World___init__.binds (ps := ["self", "deeds", "moves"]) fun _ _ _ _ _ _ us hl => match us, hl with | [_, _, _], _ => rfl
  have F_World_keep := fun_mk (st := st_World_keep) lk_World_keep co_World_keep kp_World_keep
  have b_World_keep := F_World_keep.binds (ps := ["self", "deeds", "moves"]) fun _ _ _ _ _ _ us hl => match us, hl with | [_, _, _], _ => rfl
  have F_World___eq__ := fun_mk (st := st_World___eq__) lk_World___eq__ co_World___eq__ kp_World___eq__
  have b_World___eq__ := F_World___eq__.binds (ps := ["self", "thing"]) fun _ _ _ _ _ _ us hl => match us, hl with | [_, _], _ => rfl
  have F_check_standing := fun_mk (st := st_check_standing) lk_check_standing co_check_standing kp_check_standing
  have b_check_standing := F_check_standing.binds (ps := ["world", "standing"]) fun _ _ _ _ _ _ us hl => match us, hl with | [_, _], _ => rfl
  have F_row_move := fun_mk (st := st_row_move) lk_row_move co_row_move kp_row_move
  have b_row_move := F_row_move.binds (ps := ["world", "row"]) fun _ _ _ _ _ _ us hl => match us, hl with | [_, _], _ => rfl
  have F_led := fun_mk (st := st_led) lk_led co_led kp_led
  have b_led := F_led.binds (ps := ["world", "standing", "row"]) fun _ _ _ _ _ _ us hl => match us, hl with | [_, _, _], _ => rfl
  have F_move_of := fun_mk (st := st_move_of) lk_move_of co_move_of kp_move_of
  have b_move_of := F_move_of.binds (ps := ["world", "row"]) fun _ _ _ _ _ _ us hl => match us, hl with | [_, _], _ => rfl
  have F_order := fun_mk (st := st_order) lk_order co_order kp_order
  have b_order := F_order.binds (ps := ["world", "row"]) fun _ _ _ _ _ _ us hl => match us, hl with | [_, _], _ => rfl
  have F__law_pot := fun_mk (st := st__law_pot) lk__law_pot co__law_pot kp__law_pot
  have b__law_pot := F__law_pot.binds (ps := ["_law_script"]) fun _ _ _ _ _ _ us hl => match us, hl with | [_], _ => rfl
  have F__law_draw := fun_mk (st := st__law_draw) lk__law_draw co__law_draw kp__law_draw
  have b__law_draw := F__law_draw.binds (ps := ["_law_pot_here", "_law_many"]) fun _ _ _ _ _ _ us hl => match us, hl with | [_, _], _ => rfl
  have F__law_any := fun_mk (st := st__law_any) lk__law_any co__law_any kp__law_any
  have b__law_any := F__law_any.binds (ps := ["_law_pot_here", "_law_items"]) fun _ _ _ _ _ _ us hl => match us, hl with | [_, _], _ => rfl
  have F__law_deeds := fun_mk (st := st__law_deeds) lk__law_deeds co__law_deeds kp__law_deeds
  have b__law_deeds := F__law_deeds.binds (ps := ["_law_pot_here", "_law_most"]) fun _ _ _ _ _ _ us hl => match us, hl with | [_, _], _ => rfl
  have F__law_other := fun_mk (st := st__law_other) lk__law_other co__law_other kp__law_other
  have b__law_other := F__law_other.binds (ps := ["_law_letter"]) fun _ _ _ _ _ _ us hl => match us, hl with | [_], _ => rfl
  have F__law_back_row := fun_mk (st := st__law_back_row) lk__law_back_row co__law_back_row kp__law_back_row
  have b__law_back_row := F__law_back_row.binds (ps := ["_law_row_here"]) fun _ _ _ _ _ _ us hl => match us, hl with | [_], _ => rfl
  have F__law_letters := fun_mk (st := st__law_letters) lk__law_letters co__law_letters kp__law_letters
  have b__law_letters := F__law_letters.binds (ps := ["_law_deeds_here"]) fun _ _ _ _ _ _ us hl => match us, hl with | [_], _ => rfl
  have F__law_row := fun_mk (st := st__law_row) lk__law_row co__law_row kp__law_row
  have b__law_row := F__law_row.binds (ps := ["_law_pot_here", "_law_deeds_here", "_law_most"]) fun _ _ _ _ _ _ us hl => match us, hl with | [_, _, _], _ => rfl
  have F__law_mixed := fun_mk (st := st__law_mixed) lk__law_mixed co__law_mixed kp__law_mixed
  have b__law_mixed := F__law_mixed.binds (ps := ["_law_pot_here", "_law_items"]) fun _ _ _ _ _ _ us hl => match us, hl with | [_, _], _ => rfl
  have F__law_moves := fun_mk (st := st__law_moves) lk__law_moves co__law_moves kp__law_moves
  have b__law_moves := F__law_moves.binds (ps := ["_law_pot_here", "_law_deeds_here", "_law_size"]) fun _ _ _ _ _ _ us hl => match us, hl with | [_, _, _], _ => rfl
  have F__law_step := fun_mk (st := st__law_step) lk__law_step co__law_step kp__law_step
  have b__law_step := F__law_step.binds (ps := ["_law_moves_here", "_law_letter", "_law_standing"]) fun _ _ _ _ _ _ us hl => match us, hl with | [_, _, _], _ => rfl
  have F__law_led := fun_mk (st := st__law_led) lk__law_led co__law_led kp__law_led
  have b__law_led := F__law_led.binds (ps := ["_law_moves_here", "_law_standing", "_law_row_here"]) fun _ _ _ _ _ _ us hl => match us, hl with | [_, _, _], _ => rfl
  have F__law_net := fun_mk (st := st__law_net) lk__law_net co__law_net kp__law_net
  have b__law_net := F__law_net.binds (ps := ["_law_row_here"]) fun _ _ _ _ _ _ us hl => match us, hl with | [_], _ => rfl
  have F__law_asked := fun_mk (st := st__law_asked) lk__law_asked co__law_asked kp__law_asked
  have b__law_asked := F__law_asked.binds (ps := ["_law_which", "_law_world", "_law_standing", "_law_row_here"]) fun _ _ _ _ _ _ us hl => match us, hl with | [_, _, _, _], _ => rfl
  have F__law_order := fun_mk (st := st__law_order) lk__law_order co__law_order kp__law_order
  have b__law_order := F__law_order.binds (ps := ["_law_move"]) fun _ _ _ _ _ _ us hl => match us, hl with | [_], _ => rfl
  have F_law := fun_mk (st := st_law) lk_law co_law kp_law
  have b_law := F_law.binds (ps := ["_law_script"]) fun _ _ _ _ _ _ us hl => match us, hl with | [_], _ => rfl
  have T : Σ' T : Txt K mg, T.a_law = a_law ∧ T.d_law = PySem.W.fnOf "law" "law" (defArgs st_law) (defBody st_law) (defScope st_law) .none kV_law dc_law pm_law an_law cd_law ct_law := ⟨{
      C_NoRow := C_NoRow
      g_NoRow := PySem.W.mg_of X G nc_NoRow
      k_NoRow := k_NoRow
      xb_NoRow := xb_NoRow
      xt_NoRow := xt_NoRow
      xi_NoRow := xi_NoRow
      x_NoRow := x_NoRow
      C_NoStanding := C_NoStanding
      g_NoStanding := PySem.W.mg_of X G nc_NoStanding
      k_NoStanding := k_NoStanding
      xb_NoStanding := xb_NoStanding
      xt_NoStanding := xt_NoStanding
      xi_NoStanding := xi_NoStanding
      x_NoStanding := x_NoStanding
      C_World := C_World
      g_World := PySem.W.mg_of X G nc_World
      cl_World := ⟨pg_World, hd_World, po_World, sa_World⟩
      ty_World := ⟨ta_World, tn_World, tk_World, tm_World⟩
      s_NoRow_NoStanding := s_NoRow_NoStanding
      s_NoRow_NoRow := s_NoRow_NoRow
      s_NoStanding_NoStanding := s_NoStanding_NoStanding
      a_is_integer := a_is_integer
      d_is_integer := _
      F_is_integer := F_is_integer
      b_is_integer := b_is_integer
      g_is_integer := PySem.W.mg_of X G ns_is_integer
      a_is_string_of := a_is_string_of
      d_is_string_of := _
      F_is_string_of := F_is_string_of
      b_is_string_of := b_is_string_of
      g_is_string_of := PySem.W.mg_of X G ns_is_string_of
      a_is_word := a_is_word
      d_is_word := _
      F_is_word := F_is_word
      b_is_word := b_is_word
      g_is_word := PySem.W.mg_of X G ns_is_word
      a_is_deeds := a_is_deeds
      d_is_deeds := _
      F_is_deeds := F_is_deeds
      b_is_deeds := b_is_deeds
      g_is_deeds := PySem.W.mg_of X G ns_is_deeds
      a_undoing_of := a_undoing_of
      d_undoing_of := _
      F_undoing_of := F_undoing_of
      b_undoing_of := b_undoing_of
      g_undoing_of := PySem.W.mg_of X G ns_undoing_of
      a_letters_over := a_letters_over
      d_letters_over := _
      F_letters_over := F_letters_over
      b_letters_over := b_letters_over
      g_letters_over := PySem.W.mg_of X G ns_letters_over
      a_is_row_over := a_is_row_over
      d_is_row_over := _
      F_is_row_over := F_is_row_over
      b_is_row_over := b_is_row_over
      g_is_row_over := PySem.W.mg_of X G ns_is_row_over
      a_check_row := a_check_row
      d_check_row := _
      F_check_row := F_check_row
      b_check_row := b_check_row
      g_check_row := PySem.W.mg_of X G ns_check_row
      a_standing_still := a_standing_still
      d_standing_still := _
      F_standing_still := F_standing_still
      b_standing_still := b_standing_still
      g_standing_still := PySem.W.mg_of X G ns_standing_still
      a_composed := a_composed
      d_composed := _
      F_composed := F_composed
      b_composed := b_composed
      g_composed := PySem.W.mg_of X G ns_composed
      a_turned_back := a_turned_back
      d_turned_back := _
      F_turned_back := F_turned_back
      b_turned_back := b_turned_back
      g_turned_back := PySem.W.mg_of X G ns_turned_back
      a_circles_of := a_circles_of
      d_circles_of := _
      F_circles_of := F_circles_of
      b_circles_of := b_circles_of
      g_circles_of := PySem.W.mg_of X G ns_circles_of
      a_greatest_divisor := a_greatest_divisor
      d_greatest_divisor := _
      F_greatest_divisor := F_greatest_divisor
      b_greatest_divisor := b_greatest_divisor
      g_greatest_divisor := PySem.W.mg_of X G ns_greatest_divisor
      a_order_of := a_order_of
      d_order_of := _
      F_order_of := F_order_of
      b_order_of := b_order_of
      g_order_of := PySem.W.mg_of X G ns_order_of
      a_is_standing := a_is_standing
      d_is_standing := _
      F_is_standing := F_is_standing
      b_is_standing := b_is_standing
      g_is_standing := PySem.W.mg_of X G ns_is_standing
      a_is_move := a_is_move
      d_is_move := _
      F_is_move := F_is_move
      b_is_move := b_is_move
      g_is_move := PySem.W.mg_of X G ns_is_move
      a_are_moves := a_are_moves
      d_are_moves := _
      F_are_moves := F_are_moves
      b_are_moves := b_are_moves
      g_are_moves := PySem.W.mg_of X G ns_are_moves
      a_all_moves := a_all_moves
      d_all_moves := _
      F_all_moves := F_all_moves
      b_all_moves := b_all_moves
      g_all_moves := PySem.W.mg_of X G ns_all_moves
      a_World___init__ := a_World___init__
      d_World___init__ := _
      F_World___init__ := F_World___init__
      b_World___init__ := b_World___init__
      mk_World := ⟨mi_World, at_World___init__, fn_World___init__, ki_World⟩
      a_World_keep := a_World_keep
      d_World_keep := _
      F_World_keep := F_World_keep
      b_World_keep := b_World_keep
      m_World_keep := ⟨at_World_keep, fn_World_keep, kp_World_keep⟩
      a_World___eq__ := a_World___eq__
      d_World___eq__ := _
      F_World___eq__ := F_World___eq__
      b_World___eq__ := b_World___eq__
      m_World___eq__ := ⟨at_World___eq__, fn_World___eq__, kp_World___eq__⟩
      a_check_standing := a_check_standing
      d_check_standing := _
      F_check_standing := F_check_standing
      b_check_standing := b_check_standing
      g_check_standing := PySem.W.mg_of X G ns_check_standing
      a_row_move := a_row_move
      d_row_move := _
      F_row_move := F_row_move
      b_row_move := b_row_move
      g_row_move := PySem.W.mg_of X G ns_row_move
      a_led := a_led
      d_led := _
      F_led := F_led
      b_led := b_led
      g_led := PySem.W.mg_of X G ns_led
      a_move_of := a_move_of
      d_move_of := _
      F_move_of := F_move_of
      b_move_of := b_move_of
      g_move_of := PySem.W.mg_of X G ns_move_of
      a_order := a_order
      d_order := _
      F_order := F_order
      b_order := b_order
      g_order := PySem.W.mg_of X G ns_order
      a__law_pot := a__law_pot
      d__law_pot := _
      F__law_pot := F__law_pot
      b__law_pot := b__law_pot
      g__law_pot := PySem.W.mg_of X G ns__law_pot
      a__law_draw := a__law_draw
      d__law_draw := _
      F__law_draw := F__law_draw
      b__law_draw := b__law_draw
      g__law_draw := PySem.W.mg_of X G ns__law_draw
      a__law_any := a__law_any
      d__law_any := _
      F__law_any := F__law_any
      b__law_any := b__law_any
      g__law_any := PySem.W.mg_of X G ns__law_any
      a__law_deeds := a__law_deeds
      d__law_deeds := _
      F__law_deeds := F__law_deeds
      b__law_deeds := b__law_deeds
      g__law_deeds := PySem.W.mg_of X G ns__law_deeds
      a__law_other := a__law_other
      d__law_other := _
      F__law_other := F__law_other
      b__law_other := b__law_other
      g__law_other := PySem.W.mg_of X G ns__law_other
      a__law_back_row := a__law_back_row
      d__law_back_row := _
      F__law_back_row := F__law_back_row
      b__law_back_row := b__law_back_row
      g__law_back_row := PySem.W.mg_of X G ns__law_back_row
      a__law_letters := a__law_letters
      d__law_letters := _
      F__law_letters := F__law_letters
      b__law_letters := b__law_letters
      g__law_letters := PySem.W.mg_of X G ns__law_letters
      a__law_row := a__law_row
      d__law_row := _
      F__law_row := F__law_row
      b__law_row := b__law_row
      g__law_row := PySem.W.mg_of X G ns__law_row
      a__law_mixed := a__law_mixed
      d__law_mixed := _
      F__law_mixed := F__law_mixed
      b__law_mixed := b__law_mixed
      g__law_mixed := PySem.W.mg_of X G ns__law_mixed
      a__law_moves := a__law_moves
      d__law_moves := _
      F__law_moves := F__law_moves
      b__law_moves := b__law_moves
      g__law_moves := PySem.W.mg_of X G ns__law_moves
      a__law_step := a__law_step
      d__law_step := _
      F__law_step := F__law_step
      b__law_step := b__law_step
      g__law_step := PySem.W.mg_of X G ns__law_step
      a__law_led := a__law_led
      d__law_led := _
      F__law_led := F__law_led
      b__law_led := b__law_led
      g__law_led := PySem.W.mg_of X G ns__law_led
      a__law_net := a__law_net
      d__law_net := _
      F__law_net := F__law_net
      b__law_net := b__law_net
      g__law_net := PySem.W.mg_of X G ns__law_net
      a__law_asked := a__law_asked
      d__law_asked := _
      F__law_asked := F__law_asked
      b__law_asked := b__law_asked
      g__law_asked := PySem.W.mg_of X G ns__law_asked
      a__law_order := a__law_order
      d__law_order := _
      F__law_order := F__law_order
      b__law_order := b__law_order
      g__law_order := PySem.W.mg_of X G ns__law_order
      a_law := a_law
      d_law := _
      F_law := F_law
      b_law := b_law
      g_law := PySem.W.mg_of X G ns_law
      n_World_deeds := na_World_deeds
      n_World_size := na_World_size
      n_World_kept_moves := na_World_kept_moves
      n_World_kept_backs := na_World_kept_backs
      n_isinstance := PySem.W.mg_none_of X G nn_isinstance
      n_int := PySem.W.mg_none_of X G nn_int
      n_bool := PySem.W.mg_none_of X G nn_bool
      n_str := PySem.W.mg_none_of X G nn_str
      n_len := PySem.W.mg_none_of X G nn_len
      n_tuple := PySem.W.mg_none_of X G nn_tuple
      n_range := PySem.W.mg_none_of X G nn_range
      n_list := PySem.W.mg_none_of X G nn_list
      n_enumerate := PySem.W.mg_none_of X G nn_enumerate
      n_dict := PySem.W.mg_none_of X G nn_dict
      n_abs := PySem.W.mg_none_of X G nn_abs
      n_sum := PySem.W.mg_none_of X G nn_sum
      c_SMALL_t := t_SMALL
      c_SMALL := PySem.W.mg_of X G cc_SMALL
      c_MOST_STANDINGS_t := t_MOST_STANDINGS
      c_MOST_STANDINGS := PySem.W.mg_of X G cc_MOST_STANDINGS
    }, rfl, rfl⟩
  obtain ⟨T, ea, ed⟩ := T
  refine ⟨PySem.W.fnOf "law" "law" (defArgs st_law) (defBody st_law) (defScope st_law) .none kV_law dc_law pm_law an_law cd_law ct_law, fun s v => .of_eq rfl, fun base _ _ => ?_⟩
  have := ok_law (P := l.prog) (w := w) (base := base) T
  rw [ea, ed] at this
  exact this
end Rb
open PySem PySem.W PyProof.Rows
set_option maxRecDepth 100000 in
set_option maxHeartbeats 0 in
theorem PySem.Challenge.cw_runsback_k40_letters_rows_and_orders_holds : PySem.Challenge.rw_runsback_k40_letters_rows_and_orders.Holds := by
  w_on; o_law; k_head; (case hw => w_witness2)
  k_fill
  refine L2.walk_of (l := PySem.Challenge.rw_runsback_k40_letters_rows_and_orders) (n := 63) (k := 7) (x := "_law_script") (CX := fun _ => L2.CX0) (sp := fun w => Rb.spLaw _) rfl (by decide) rfl ⟨rfl, by decide, by decide⟩ (fun w h Y => PySem.W.kIn_of Y) ?F
    (fun _ _ a ns hl _ hS => ⟨a, ns, rfl, hS, hl, fun _ => rfl⟩) (fun _ _ _ _ _ h => h)
  case F =>
    intro w mg fa h KX G hmg
    refine' Rb.all_mk KX G hmg ?nc_NoRow ?k_NoRow ?xb_NoRow ?xt_NoRow ?xi_NoRow ?x_NoRow ?nc_NoStanding ?k_NoStanding ?xb_NoStanding ?xt_NoStanding ?xi_NoStanding ?x_NoStanding ?nc_World ?pg_World ?hd_World ?po_World ?sa_World ?ta_World ?tn_World ?tk_World ?tm_World ?s_NoRow_NoStanding ?s_NoRow_NoRow ?s_NoStanding_NoStanding ?ns_is_integer ?lk_is_integer ?co_is_integer ?kp_is_integer ?ns_is_string_of ?lk_is_string_of ?co_is_string_of ?kp_is_string_of ?ns_is_word ?lk_is_word ?co_is_word ?kp_is_word ?ns_is_deeds ?lk_is_deeds ?co_is_deeds ?kp_is_deeds ?ns_undoing_of ?lk_undoing_of ?co_undoing_of ?kp_undoing_of ?ns_letters_over ?lk_letters_over ?co_letters_over ?kp_letters_over ?ns_is_row_over ?lk_is_row_over ?co_is_row_over ?kp_is_row_over ?ns_check_row ?lk_check_row ?co_check_row ?kp_check_row ?ns_standing_still ?lk_standing_still ?co_standing_still ?kp_standing_still ?ns_composed ?lk_composed ?co_composed ?kp_composed ?ns_turned_back ?lk_turned_back ?co_turned_back ?kp_turned_back ?ns_circles_of ?lk_circles_of ?co_circles_of ?kp_circles_of ?ns_greatest_divisor ?lk_greatest_divisor ?co_greatest_divisor ?kp_greatest_divisor ?ns_order_of ?lk_order_of ?co_order_of ?kp_order_of ?ns_is_standing ?lk_is_standing ?co_is_standing ?kp_is_standing ?ns_is_move ?lk_is_move ?co_is_move ?kp_is_move ?ns_are_moves ?lk_are_moves ?co_are_moves ?kp_are_moves ?ns_all_moves ?lk_all_moves ?co_all_moves ?kp_all_moves ?at_World___init__ ?fn_World___init__ ?lk_World___init__ ?co_World___init__ ?kp_World___init__ ?mi_World ?ki_World ?at_World_keep ?fn_World_keep ?lk_World_keep ?co_World_keep ?kp_World_keep ?at_World___eq__ ?fn_World___eq__ ?lk_World___eq__ ?co_World___eq__ ?kp_World___eq__ ?ns_check_standing ?lk_check_standing ?co_check_standing ?kp_check_standing ?ns_row_move ?lk_row_move ?co_row_move ?kp_row_move ?ns_led ?lk_led ?co_led ?kp_led ?ns_move_of ?lk_move_of ?co_move_of ?kp_move_of ?ns_order ?lk_order ?co_order ?kp_order ?ns__law_pot ?lk__law_pot ?co__law_pot ?kp__law_pot ?ns__law_draw ?lk__law_draw ?co__law_draw ?kp__law_draw ?ns__law_any ?lk__law_any ?co__law_any ?kp__law_any ?ns__law_deeds ?lk__law_deeds ?co__law_deeds ?kp__law_deeds ?ns__law_other ?lk__law_other ?co__law_other ?kp__law_other ?ns__law_back_row ?lk__law_back_row ?co__law_back_row ?kp__law_back_row ?ns__law_letters ?lk__law_letters ?co__law_letters ?kp__law_letters ?ns__law_row ?lk__law_row ?co__law_row ?kp__law_row ?ns__law_mixed ?lk__law_mixed ?co__law_mixed ?kp__law_mixed ?ns__law_moves ?lk__law_moves ?co__law_moves ?kp__law_moves ?ns__law_step ?lk__law_step ?co__law_step ?kp__law_step ?ns__law_led ?lk__law_led ?co__law_led ?kp__law_led ?ns__law_net ?lk__law_net ?co__law_net ?kp__law_net ?ns__law_asked ?lk__law_asked ?co__law_asked ?kp__law_asked ?ns__law_order ?lk__law_order ?co__law_order ?kp__law_order ?ns_law ?lk_law ?co_law ?kp_law ?na_World_deeds ?na_World_size ?na_World_kept_moves ?na_World_kept_backs ?nn_isinstance ?nn_int ?nn_bool ?nn_str ?nn_len ?nn_tuple ?nn_range ?nn_list ?nn_enumerate ?nn_dict ?nn_abs ?nn_sum ?cc_SMALL ?cc_MOST_STANDINGS
    (case nc_NoRow => k_is)
    (case k_NoRow => k_is)
    (case xb_NoRow => k_is)
    (case xt_NoRow => k_is)
    (case xi_NoRow => k_is)
    (case x_NoRow => k_exc)
    (case nc_NoStanding => k_is)
    (case k_NoStanding => k_is)
    (case xb_NoStanding => k_is)
    (case xt_NoStanding => k_is)
    (case xi_NoStanding => k_is)
    (case x_NoStanding => k_exc)
    (case nc_World => k_is)
    (case pg_World => k_is)
    (case hd_World => k_is)
    (case po_World => k_is)
    (case sa_World => k_is)
    (case ta_World => k_is)
    (case tn_World => k_is)
    (case tk_World => k_is)
    (case tm_World => k_is)
    (case s_NoRow_NoStanding => (first | rfl | k_is))
    (case s_NoRow_NoRow => (first | rfl | k_is))
    (case s_NoStanding_NoStanding => (first | rfl | k_is))
    (case ns_is_integer => k_is)
    (case lk_is_integer => k_is)
    (case co_is_integer => k_is)
    (case kp_is_integer => k_is)
    (case ns_is_string_of => k_is)
    (case lk_is_string_of => k_is)
    (case co_is_string_of => k_is)
    (case kp_is_string_of => k_is)
    (case ns_is_word => k_is)
    (case lk_is_word => k_is)
    (case co_is_word => k_is)
    (case kp_is_word => k_is)
    (case ns_is_deeds => k_is)
    (case lk_is_deeds => k_is)
    (case co_is_deeds => k_is)
    (case kp_is_deeds => k_is)
    (case ns_undoing_of => k_is)
    (case lk_undoing_of => k_is)
    (case co_undoing_of => k_is)
    (case kp_undoing_of => k_is)
    (case ns_letters_over => k_is)
    (case lk_letters_over => k_is)
    (case co_letters_over => k_is)
    (case kp_letters_over => k_is)
    (case ns_is_row_over => k_is)
    (case lk_is_row_over => k_is)
    (case co_is_row_over => k_is)
    (case kp_is_row_over => k_is)
    (case ns_check_row => k_is)
    (case lk_check_row => k_is)
    (case co_check_row => k_is)
    (case kp_check_row => k_is)
    (case ns_standing_still => k_is)
    (case lk_standing_still => k_is)
    (case co_standing_still => k_is)
    (case kp_standing_still => k_is)
    (case ns_composed => k_is)
    (case lk_composed => k_is)
    (case co_composed => k_is)
    (case kp_composed => k_is)
    (case ns_turned_back => k_is)
    (case lk_turned_back => k_is)
    (case co_turned_back => k_is)
    (case kp_turned_back => k_is)
    (case ns_circles_of => k_is)
    (case lk_circles_of => k_is)
    (case co_circles_of => k_is)
    (case kp_circles_of => k_is)
    (case ns_greatest_divisor => k_is)
    (case lk_greatest_divisor => k_is)
    (case co_greatest_divisor => k_is)
    (case kp_greatest_divisor => k_is)
    (case ns_order_of => k_is)
    (case lk_order_of => k_is)
    (case co_order_of => k_is)
    (case kp_order_of => k_is)
    (case ns_is_standing => k_is)
    (case lk_is_standing => k_is)
    (case co_is_standing => k_is)
    (case kp_is_standing => k_is)
    (case ns_is_move => k_is)
    (case lk_is_move => k_is)
    (case co_is_move => k_is)
    (case kp_is_move => k_is)
    (case ns_are_moves => k_is)
    (case lk_are_moves => k_is)
    (case co_are_moves => k_is)
    (case kp_are_moves => k_is)
    (case ns_all_moves => k_is)
    (case lk_all_moves => k_is)
    (case co_all_moves => k_is)
    (case kp_all_moves => k_is)
    (case at_World___init__ => k_is)
    (case fn_World___init__ => k_is)
    (case lk_World___init__ => k_is)
    (case co_World___init__ => k_is)
    (case kp_World___init__ => k_is)
    (case mi_World => k_is)
    (case ki_World => k_is)
    (case at_World_keep => k_is)
    (case fn_World_keep => k_is)
    (case lk_World_keep => k_is)
    (case co_World_keep => k_is)
    (case kp_World_keep => k_is)
    (case at_World___eq__ => k_is)
    (case fn_World___eq__ => k_is)
    (case lk_World___eq__ => k_is)
    (case co_World___eq__ => k_is)
    (case kp_World___eq__ => k_is)
    (case ns_check_standing => k_is)
    (case lk_check_standing => k_is)
    (case co_check_standing => k_is)
    (case kp_check_standing => k_is)
    (case ns_row_move => k_is)
    (case lk_row_move => k_is)
    (case co_row_move => k_is)
    (case kp_row_move => k_is)
    (case ns_led => k_is)
    (case lk_led => k_is)
    (case co_led => k_is)
    (case kp_led => k_is)
    (case ns_move_of => k_is)
    (case lk_move_of => k_is)
    (case co_move_of => k_is)
    (case kp_move_of => k_is)
    (case ns_order => k_is)
    (case lk_order => k_is)
    (case co_order => k_is)
    (case kp_order => k_is)
    (case ns__law_pot => k_is)
    (case lk__law_pot => k_is)
    (case co__law_pot => k_is)
    (case kp__law_pot => k_is)
    (case ns__law_draw => k_is)
    (case lk__law_draw => k_is)
    (case co__law_draw => k_is)
    (case kp__law_draw => k_is)
    (case ns__law_any => k_is)
    (case lk__law_any => k_is)
    (case co__law_any => k_is)
    (case kp__law_any => k_is)
    (case ns__law_deeds => k_is)
    (case lk__law_deeds => k_is)
    (case co__law_deeds => k_is)
    (case kp__law_deeds => k_is)
    (case ns__law_other => k_is)
    (case lk__law_other => k_is)
    (case co__law_other => k_is)
    (case kp__law_other => k_is)
    (case ns__law_back_row => k_is)
    (case lk__law_back_row => k_is)
    (case co__law_back_row => k_is)
    (case kp__law_back_row => k_is)
    (case ns__law_letters => k_is)
    (case lk__law_letters => k_is)
    (case co__law_letters => k_is)
    (case kp__law_letters => k_is)
    (case ns__law_row => k_is)
    (case lk__law_row => k_is)
    (case co__law_row => k_is)
    (case kp__law_row => k_is)
    (case ns__law_mixed => k_is)
    (case lk__law_mixed => k_is)
    (case co__law_mixed => k_is)
    (case kp__law_mixed => k_is)
    (case ns__law_moves => k_is)
    (case lk__law_moves => k_is)
    (case co__law_moves => k_is)
    (case kp__law_moves => k_is)
    (case ns__law_step => k_is)
    (case lk__law_step => k_is)
    (case co__law_step => k_is)
    (case kp__law_step => k_is)
    (case ns__law_led => k_is)
    (case lk__law_led => k_is)
    (case co__law_led => k_is)
    (case kp__law_led => k_is)
    (case ns__law_net => k_is)
    (case lk__law_net => k_is)
    (case co__law_net => k_is)
    (case kp__law_net => k_is)
    (case ns__law_asked => k_is)
    (case lk__law_asked => k_is)
    (case co__law_asked => k_is)
    (case kp__law_asked => k_is)
    (case ns__law_order => k_is)
    (case lk__law_order => k_is)
    (case co__law_order => k_is)
    (case kp__law_order => k_is)
    (case ns_law => k_is)
    (case lk_law => k_is)
    (case co_law => k_is)
    (case kp_law => k_is)
    (case na_World_deeds => k_is)
    (case na_World_size => k_is)
    (case na_World_kept_moves => k_is)
    (case na_World_kept_backs => k_is)
    (case nn_isinstance => k_is)
    (case nn_int => k_is)
    (case nn_bool => k_is)
    (case nn_str => k_is)
    (case nn_len => k_is)
    (case nn_tuple => k_is)
    (case nn_range => k_is)
    (case nn_list => k_is)
    (case nn_enumerate => k_is)
    (case nn_dict => k_is)
    (case nn_abs => k_is)
    (case nn_sum => k_is)
    (case cc_SMALL => k_is)
    (case cc_MOST_STANDINGS => k_is)
