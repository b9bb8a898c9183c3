import PyProof.Rows.All
import Wide.All
import OpenK.AllK
import Wide.FinOn
import PyProof.EqAt
import PyProof.EqKinds
import PyProof.TupleCall
import HandS.Base
import HandS.Call
import HandS.List
import HandS.Comp
import HandS.Ends
import HandS.Dict
import HandS.Iter
import HandS.Text
import HandS.Exc
import HandS.ExcOwn
import HandS.TryOnly
import HandS.IsInst
import HandS.Flow
import HandS.Defaults
import HandS.SortInts
import HandS.Evl
import HandS.Words
import HandS.WordsList
import HandS.WordsDict
import HandS.WordsExc
import HandS.Head0
import HandS.Head1
import HandS.Head2
import HandS.HeadEnd
import HandS.HeadHook1
import HandS.HeadHook2
import PySem.Challenge.RW_leadnames_k02_what_are_rights
set_option Elab.async false
set_option linter.all false
set_option maxRecDepth 100000
set_option maxHeartbeats 4000000
/-! the kit of these proofs: readings in steps -/
namespace LN
open PySem PySem.Spec PyProof.Rows L2 TL

/-! ### heaps -/
/-- all but the object at a is as it was -/
def But (a : Addr) (H H' : Hp) : Prop := ∀ b o, b ≠ a → H b = some o → H' b = some o
theorem But.of_same {a : Addr} {H H' : Hp} (s : Same H H') : But a H H' := fun b o _ h => s b o h
theorem But.trans {a : Addr} {H H1 H2 : Hp} (x : But a H H1) (y : But a H1 H2) : But a H H2 := fun b o n h => y b o n (x b o n h)
theorem same_new {H : Hp} {p : Addr} {o : HO} (h : H p = none) : Same H (upd H p o) := fun b u e => by rw [upd_ne (ne_of_none e h)]; exact e
theorem Same.newer {H H' : Hp} {p : Addr} {o : HO} (s : Same H H') (h : H' p = none) : Same H (upd H' p o) := s.trans (same_new h)
/-- a thing that H did not know may be written -/
theorem Same.wr {H H' : Hp} {p : Addr} {o : HO} (s : Same H H') (h : H p = none) : Same H (upd H' p o) := fun b u e => by rw [upd_ne (ne_of_none e h)]; exact s b u e
theorem But.wr {a : Addr} {H H' : Hp} {o : HO} (s : But a H H') : But a H (upd H' a o) := fun b u n e => by rw [upd_ne n]; exact s b u n e
theorem But.newer {a : Addr} {H H' : Hp} {p : Addr} {o : HO} (s : But a H H') (h : H' p = none) : But a H (upd H' p o) := fun b u n e => by rw [upd_ne (ne_of_none (s b u n e) h)]; exact s b u n e
theorem Same.butOf {a : Addr} {H H1 H2 : Hp} (s : Same H H1) (b : But a H1 H2) (n : H a = none) : Same H H2 := fun c o e => b c o (ne_of_none e n) (s c o e)
theorem lt_line {n : Nat} (h : n < 16000000) : n < sizeLine := by rw [sizeLine_eq]; omega
theorem le_line {n : Nat} (h : n < 16000000) : n ≤ sizeLine := by rw [sizeLine_eq]; omega

/-! ### steps: statements -/
section
variable {σ : L2.St} {H : Hp} {Q : VK} {n b c : L2.St → Hp → Prop} {r : VK}
theorem s_seq {t u : TS} (h : t (Ends.mk (u (Ends.mk n r b c)) r b c) σ H) : tSeq t u (Ends.mk n r b c) σ H := h
theorem s_cut {t u : TS} (M : L2.St → Hp → Prop) (h1 : t (Ends.mk M r b c) σ H) (h2 : ∀ σ' H', M σ' H' → u (Ends.mk n r b c) σ' H') : Evl.tCut t u (Ends.mk n r b c) σ H := ⟨M, h1, h2⟩
theorem s_next (h : n σ H) : tNext (Ends.mk n r b c) σ H := h
theorem s_brk (h : b σ H) : tBreak (Ends.mk n r b c) σ H := h
theorem s_cont (h : c σ H) : tCont (Ends.mk n r b c) σ H := h
theorem s_asg {te : TE} {g : TG} (h : te σ H fun x H1 => g x σ H1 n) : tAsg te g (Ends.mk n r b c) σ H := h
theorem s_name {i : Nat} {v : V} {q : L2.St → Hp → Prop} (h : q (σ.set i (some v)) H) : gName i v σ H q := h
theorem s_ret {te : TE} (h : te σ H r) : tRet te (Ends.mk n r b c) σ H := h
theorem s_retN (h : r .non H) : tRetN (Ends.mk n r b c) σ H := h
theorem s_drop {te : TE} (h : te σ H fun _ H1 => n σ H1) : tDrop te (Ends.mk n r b c) σ H := h
theorem s_if {t : TT} {x y : TS} (h : t σ H fun k H1 => if k = true then x (Ends.mk n r b c) σ H1 else y (Ends.mk n r b c) σ H1) : tIfS t x y (Ends.mk n r b c) σ H := h
theorem s_fldput {K : PySem.W.Frag} {ta tv : TE} {f : Str} (h : tv σ H fun y H1 => ta σ H1 fun x H2 => ∃ a C dx fs, x = .ref a ∧ H2 a = some (.ins C dx fs) ∧ Cls K C ∧ NoAttr K C f ∧ fs.length < 1000 ∧ n σ (upd H2 a (.ins C dx (putF f y fs)))) : sFld K ta tv f (Ends.mk n r b c) σ H := h
/-! ### steps: expressions -/
theorem s_var {i : Nat} {v : V} (e : σ[i]? = some (some v)) (h : Q v H) : tVar i σ H Q := ⟨v, e, h⟩
theorem s_c {v : V} (h : Q v H) : tC v σ H Q := h
theorem s_op {f : R2} {ta tb : TE} (h : ta σ H fun x H1 => tb σ H1 fun y H2 => f x y H2 Q) : tOp f ta tb σ H Q := h
theorem s_un {f : V → Hp → VK → Prop} {ta : TE} (h : ta σ H fun x H1 => f x H1 Q) : tUn f ta σ H Q := h
theorem s_cb {f : List V → Hp → VK → Prop} {t : TA} (h : t σ H fun vs H1 => f vs H1 Q) : tCB f t σ H Q := h
theorem s_call {sp : Sp} {dvs : List V} {E : XK} {t : TA} (h : t σ H fun vs H1 => sp (vs ++ dvs) H1 Q E) : tCall sp dvs E t σ H Q := h
theorem s_nil {q : List V → Hp → Prop} (h : q [] H) : tNil σ H q := h
theorem s_cons {ta : TE} {tr : TA} {q : List V → Hp → Prop} (h : ta σ H fun x H1 => tr σ H1 fun xs H2 => q (x :: xs) H2) : tCons ta tr σ H q := h
theorem s_tup {t : TA} (h : t σ H fun xs H1 => xs.length ≤ sizeLine ∧ ∀ p, H1 p = none → Q (.ref p) (upd H1 p (.tup xs))) : tTup t σ H Q := h
theorem s_lst {t : TA} (h : t σ H fun xs H1 => xs.length ≤ sizeLine ∧ ∀ p, H1 p = none → Q (.ref p) (upd H1 p (.lst xs))) : tLst t σ H Q := h
theorem s_test {te : TE} {q : Bool → Hp → Prop} (h : te σ H fun x H1 => ∃ k, x = .bl k ∧ q k H1) : tTest te σ H q := h
theorem s_tB {te : TE} {q : Bool → Hp → Prop} (h : te σ H fun x H1 => ∃ k, x = .bl k ∧ q k H1) : tB te σ H q := h
theorem s_bl {k : Bool} {q : Bool → Prop} (h : q k) : ∃ k', V.bl k = .bl k' ∧ q k' := ⟨k, rfl, h⟩
theorem s_and {t u : TT} {q : Bool → Hp → Prop} (h : t σ H fun k H1 => if k = true then u σ H1 q else q false H1) : tAnd t u σ H q := h
theorem s_or {t u : TT} {q : Bool → Hp → Prop} (h : t σ H fun k H1 => if k = true then q true H1 else u σ H1 q) : tOr t u σ H q := h
theorem s_not {t : TT} {q : Bool → Hp → Prop} (h : t σ H fun k H1 => q (!k) H1) : tNot t σ H q := h
theorem s_ifExp {t : TT} {ta tb : TE} (h : t σ H fun k H1 => if k = true then ta σ H1 Q else tb σ H1 Q) : tIf t ta tb σ H Q := h
theorem s_andV {ta tb : TE} (h : ta σ H fun x H1 => ∃ k, x = .bl k ∧ if k = true then tb σ H1 Q else Q (.bl false) H1) : tAndV ta tb σ H Q := h
theorem s_orV {ta tb : TE} (h : ta σ H fun x H1 => ∃ k, x = .bl k ∧ if k = true then Q (.bl true) H1 else tb σ H1 Q) : tOrV ta tb σ H Q := h
theorem s_notV {ta : TE} (h : ta σ H fun x H1 => ∃ k, x = .bl k ∧ Q (.bl (!k)) H1) : tNotV ta σ H Q := h
theorem s_sl {f : V → Option Int → Option Int → Hp → VK → Prop} {te : TE} {tl th : TO} (h : te σ H fun x H1 => tl σ H1 fun l H2 => th σ H2 fun u H3 => f x l u H3 Q) : tSl f te tl th σ H Q := h
theorem s_nopart {q : Option Int → Hp → Prop} (h : q none H) : tNoPart σ H q := h
theorem s_part {t : TE} {q : Option Int → Hp → Prop} (h : t σ H fun x H1 => ∃ i, x = .int i ∧ q (some i) H1) : tPart t σ H q := h
theorem s_int {i : Int} {q : Int → Prop} (h : q i) : ∃ j, V.int i = .int j ∧ q j := ⟨i, rfl, h⟩
theorem s_bm {K : PySem.W.Frag} {T : String} {f : V → List V → Hp → VK → Prop} {to : TE} {t : TA} (h : to σ H fun x H1 => tyV K T x H1 ∧ t σ H1 fun xs H2 => f x xs H2 Q) : tBM K T f to t σ H Q := h
theorem s_bm0 {K : PySem.W.Frag} {T : String} {f : V → List V → Hp → VK → Prop} {to : TE} (h : to σ H fun x H1 => tyV K T x H1 ∧ f x [] H1 Q) : tBM0 K T f to σ H Q := h
theorem s_m1 {f : V → List V → Hp → VK → Prop} {to te : TE} (h : to σ H fun x H1 => (∃ a, x = .str a) ∧ te σ H1 fun y H2 => f x [y] H2 Q) : tM1 f to te σ H Q := h
theorem s_m0 {f : V → List V → Hp → VK → Prop} {to : TE} (h : to σ H fun x H1 => (∃ a, x = .str a) ∧ f x [] H1 Q) : tM0 f to σ H Q := h
/-! ### tests that are known -/
theorem if_t {k : Bool} {A B : Prop} (e : k = true) (h : A) : if k = true then A else B := by rw [if_pos e]; exact h
theorem if_f {k : Bool} {A B : Prop} (e : k = false) (h : B) : if k = true then A else B := by rw [e, if_neg Bool.false_ne_true]; exact h
theorem if_2 {k : Bool} {A B : Prop} (h1 : k = true → A) (h2 : k = false → B) : if k = true then A else B := by
  cases k with
  | true => rw [if_pos rfl]; exact h1 rfl
  | false => rw [if_neg Bool.false_ne_true]; exact h2 rfl
end
/-! ### operators, whatever the values -/
section
variable {X : Cx} {K : PySem.W.Frag}
def rAddS0 : R2 := fun x y H Q => ∃ i j, x = .str i ∧ y = .str j ∧ i.length + j.length ≤ sizeLine ∧ Q (.str (i ++ j)) H
def uAdd (K : PySem.W.Frag) : R2 := fun x y H Q => rI0 (fun i j => .int (i + j)) x y H Q ∨ rAddS0 x y H Q ∨ rCat x y H Q ∨ rCatT K x y H Q
theorem op_addU (hK : X.K = K := by rfl) : OpR X (binaryOp .Add) (uAdd K) := hK ▸ op_add.or (OpR.or (r := rAddS0) op_add_str (op_cat.or op_catT))
theorem u_add_int {i j : Int} {H : Hp} {Q : VK} (h : Q (.int (i + j)) H) : uAdd K (.int i) (.int j) H Q := .inl ⟨i, j, rfl, rfl, h⟩
theorem u_add_str {i j : Str} {H : Hp} {Q : VK} (hl : i.length + j.length ≤ sizeLine) (h : Q (.str (i ++ j)) H) : uAdd K (.str i) (.str j) H Q := .inr (.inl ⟨i, j, rfl, rfl, hl, h⟩)
theorem u_add_lst {l m : Addr} {xs zs : List V} {H : Hp} {Q : VK} (h1 : H l = some (.lst xs)) (h2 : H m = some (.lst zs)) (hl : xs.length + zs.length ≤ sizeLine) (h : ∀ p, H p = none → Q (.ref p) (upd H p (.lst (xs ++ zs)))) :
    uAdd K (.ref l) (.ref m) H Q := .inr (.inr (.inl ⟨l, m, xs, zs, rfl, rfl, h1, h2, hl, h⟩))
/-- == and != -/
def uEq (K : PySem.W.Frag) : R2 := fun x y H Q => rEq x y H Q ∨ rEqD K x y H Q
def uNe (K : PySem.W.Frag) : R2 := fun x y H Q => rNe x y H Q ∨ rNeD K x y H Q
theorem op_eqU (hu : X.A.units + 64 < cLine) (hK : X.K = K := by rfl) : OpR X (compareOp .Eq) (uEq K) := hK ▸ op_eq.or (op_eqD hu)
theorem op_neU (hu : X.A.units + 64 < cLine) (hK : X.K = K := by rfl) : OpR X (compareOp .NotEq) (uNe K) := hK ▸ op_ne.or (op_neD hu)
theorem u_eq {x y : V} {H : Hp} {Q : VK} (hs : scal x y = true) (h : Q (.bl (decide (x = y))) H) : uEq K x y H Q := .inl ⟨hs, h⟩
theorem u_ne {x y : V} {H : Hp} {Q : VK} (hs : scal x y = true) (h : Q (.bl (!decide (x = y))) H) : uNe K x y H Q := .inl ⟨hs, h⟩
theorem u_eqI {i j : Int} {H : Hp} {Q : VK} (h : Q (.bl (decide (i = j))) H) : uEq K (.int i) (.int j) H Q := u_eq rfl (by
  have e : decide (V.int i = V.int j) = decide (i = j) := by by_cases q : i = j <;> simp [q]
  rw [e]; exact h)
theorem u_neI {i j : Int} {H : Hp} {Q : VK} (h : Q (.bl (!decide (i = j))) H) : uNe K (.int i) (.int j) H Q := u_ne rfl (by
  have e : decide (V.int i = V.int j) = decide (i = j) := by by_cases q : i = j <;> simp [q]
  rw [e]; exact h)
theorem u_eqS {i j : Str} {H : Hp} {Q : VK} (h : Q (.bl (decide (i = j))) H) : uEq K (.str i) (.str j) H Q := u_eq rfl (by
  have e : decide (V.str i = V.str j) = decide (i = j) := by by_cases q : i = j <;> simp [q]
  rw [e]; exact h)
theorem u_neS {i j : Str} {H : Hp} {Q : VK} (h : Q (.bl (!decide (i = j))) H) : uNe K (.str i) (.str j) H Q := u_ne rfl (by
  have e : decide (V.str i = V.str j) = decide (i = j) := by by_cases q : i = j <;> simp [q]
  rw [e]; exact h)
theorem u_eqB {i j : Bool} {H : Hp} {Q : VK} (h : Q (.bl (decide (i = j))) H) : uEq K (.bl i) (.bl j) H Q := u_eq rfl (by
  have e : decide (V.bl i = V.bl j) = decide (i = j) := by by_cases q : i = j <;> simp [q]
  rw [e]; exact h)
theorem u_neB {i j : Bool} {H : Hp} {Q : VK} (h : Q (.bl (!decide (i = j))) H) : uNe K (.bl i) (.bl j) H Q := u_ne rfl (by
  have e : decide (V.bl i = V.bl j) = decide (i = j) := by by_cases q : i = j <;> simp [q]
  rw [e]; exact h)
/-- a[i] of a list, a tuple, a text -/
theorem u_ixL {p : Addr} {xs : List V} {i : Int} {v : V} {H : Hp} {Q : VK} (h1 : H p = some (.lst xs)) (h2 : atI xs i = some v) (h : Q v H) : rIx K (.ref p) (.int i) H Q := .inl ⟨p, xs, i, v, rfl, rfl, SqL.of h1, h2, h⟩
theorem u_ixT {p : Addr} {xs : List V} {i : Int} {v : V} {H : Hp} {Q : VK} (h1 : H p = some (.tup xs)) (h2 : atI xs i = some v) (h : Q v H) : rIx K (.ref p) (.int i) H Q := .inr (.inl ⟨p, xs, i, v, rfl, rfl, SqT.of h1, h2, h⟩)
theorem u_ixS {z : Str} {i : Int} {c : Nat} {H : Hp} {Q : VK} (hl : z.length ≤ sizeLine) (h2 : atI z.cps.toList i = some c) (h : Q (.str ⟨#[c]⟩) H) : rIx K (.str z) (.int i) H Q := .inr (.inr ⟨z, i, c, rfl, rfl, hl, h2, h⟩)
/-- slices -/
def uSl (K : PySem.W.Frag) : V → Option Int → Option Int → Hp → VK → Prop := fun x lo hi H Q => rSlL K x lo hi H Q ∨ rSlS x lo hi H Q
theorem sl_U (hK : X.K = K := by rfl) : SlR X (uSl K) := hK ▸ sl_list.or sl_str
theorem u_slL {p : Addr} {xs : List V} {lo hi : Option Int} {H : Hp} {Q : VK} (h1 : SqL K H p xs) (h : ∀ q, H q = none → Q (.ref q) (upd H q (.lst (cutV xs lo hi)))) : uSl K (.ref p) lo hi H Q := .inl ⟨p, xs, rfl, h1, h⟩
theorem u_slS {z : Str} {lo hi : Option Int} {H : Hp} {Q : VK} (hl : z.length ≤ sizeLine) (h : Q (.str (cutS z lo hi)) H) : uSl K (.str z) lo hi H Q := .inr ⟨z, rfl, hl, h⟩
/-- len -/
def rLenU (K : PySem.W.Frag) : List V → Hp → VK → Prop := fun xs H Q => (∃ x n, xs = [x] ∧ LenV K x H n ∧ Q (.int n) H) ∨ ∃ a kvs, xs = [V.ref a] ∧ H a = some (.dK kvs) ∧ Q (.int kvs.length) H
theorem call_lenU (hK : X.K = K := by rfl) : CallR X (.builtin "len") (rLenU K) := hK ▸ call_len.or call_lenD
theorem u_lenS {z : Str} {H : Hp} {Q : VK} (hl : z.length ≤ sizeLine) (h : Q (.int z.length) H) : rLenU K [V.str z] H Q := .inl ⟨_, _, rfl, ⟨hl, rfl⟩, h⟩
theorem u_lenL {p : Addr} {xs : List V} {H : Hp} {Q : VK} (h1 : SqL K H p xs) (h : Q (.int xs.length) H) : rLenU K [V.ref p] H Q := .inl ⟨_, _, rfl, .inl ⟨xs, h1, rfl⟩, h⟩
theorem u_lenT {p : Addr} {xs : List V} {H : Hp} {Q : VK} (h1 : SqT K H p xs) (h : Q (.int xs.length) H) : rLenU K [V.ref p] H Q := .inl ⟨_, _, rfl, .inr ⟨xs, h1, rfl⟩, h⟩
theorem u_lenD {p : Addr} {kvs : List (Key × V)} {H : Hp} {Q : VK} (h1 : H p = some (.dK kvs)) (h : Q (.int kvs.length) H) : rLenU K [V.ref p] H Q := .inr ⟨p, kvs, rfl, h1, h⟩
/-- in, not in: a list or tuple, one sign in a text, a dict -/
def rInSg : R2 := fun x y H Q => ∃ (c : Nat) (z : Str), x = .str ⟨#[c]⟩ ∧ y = .str z ∧ Q (.bl (decide (c ∈ z.cps.toList))) H
def rNotInSg : R2 := fun x y H Q => ∃ (c : Nat) (z : Str), x = .str ⟨#[c]⟩ ∧ y = .str z ∧ Q (.bl (!decide (c ∈ z.cps.toList))) H
def rInD : R2 := fun x y H Q => ∃ a o, y = .ref a ∧ DGet H a x o ∧ Q (.bl o.isSome) H
def rNotInD : R2 := fun x y H Q => ∃ a o, y = .ref a ∧ DGet H a x o ∧ Q (.bl (!o.isSome)) H
theorem op_inD (hu : X.A.units + 1 < cLine) : OpR X (compareOp .In) rInD := by
  intro pins s σ H x y v u Q I rx ry h
  obtain ⟨a, o, rfl, g, q⟩ := h
  cases ry
  exact d_in hu I g rx fun s3 I3 => ⟨.bl o.isSome, H, I3, rfl, q⟩
theorem op_notInD (hu : X.A.units + 1 < cLine) : OpR X (compareOp .NotIn) rNotInD := by
  intro pins s σ H x y v u Q I rx ry h
  obtain ⟨a, o, rfl, g, q⟩ := h
  cases ry
  exact d_notIn hu I g rx fun s3 I3 => ⟨.bl (!o.isSome), H, I3, rfl, q⟩
def uIn (K : PySem.W.Frag) : R2 := fun x y H Q => rIn K false x y H Q ∨ rInSg x y H Q ∨ rInD x y H Q
def uNotIn (K : PySem.W.Frag) : R2 := fun x y H Q => rIn K true x y H Q ∨ rNotInSg x y H Q ∨ rNotInD x y H Q
theorem op_inU (hu : X.A.units + 1 < cLine) (hK : X.K = K := by rfl) : OpR X (compareOp .In) (uIn K) := hK ▸ op_in_seq.or (OpR.or (r := rInSg) op_in_sign (op_inD hu))
theorem op_notInU (hu : X.A.units + 1 < cLine) (hK : X.K = K := by rfl) : OpR X (compareOp .NotIn) (uNotIn K) := hK ▸ op_notIn_seq.or (OpR.or (r := rNotInSg) op_notIn_sign (op_notInD hu))
theorem u_inSg {c : Nat} {z : Str} {H : Hp} {Q : VK} (h : Q (.bl (decide (c ∈ z.cps.toList))) H) : uIn K (.str ⟨#[c]⟩) (.str z) H Q := .inr (.inl ⟨c, z, rfl, rfl, h⟩)
theorem u_notInSg {c : Nat} {z : Str} {H : Hp} {Q : VK} (h : Q (.bl (!decide (c ∈ z.cps.toList))) H) : uNotIn K (.str ⟨#[c]⟩) (.str z) H Q := .inr (.inl ⟨c, z, rfl, rfl, h⟩)
theorem u_inT {p : Addr} {xs : List V} {x : V} {H : Hp} {Q : VK} (h1 : SqT K H p xs) (hx : flatV x = true) (hs : xs.all flatV = true) (h : Q (.bl (inV x xs)) H) : uIn K x (.ref p) H Q := .inl ⟨p, xs, rfl, .inr h1, hx, hs, h⟩
theorem u_inL {p : Addr} {xs : List V} {x : V} {H : Hp} {Q : VK} (h1 : SqL K H p xs) (hx : flatV x = true) (hs : xs.all flatV = true) (h : Q (.bl (inV x xs)) H) : uIn K x (.ref p) H Q := .inl ⟨p, xs, rfl, .inl h1, hx, hs, h⟩
theorem u_notInT {p : Addr} {xs : List V} {x : V} {H : Hp} {Q : VK} (h1 : SqT K H p xs) (hx : flatV x = true) (hs : xs.all flatV = true) (h : Q (.bl (!inV x xs)) H) : uNotIn K x (.ref p) H Q := .inl ⟨p, xs, rfl, .inr h1, hx, hs, h⟩
theorem u_notInL {p : Addr} {xs : List V} {x : V} {H : Hp} {Q : VK} (h1 : SqL K H p xs) (hx : flatV x = true) (hs : xs.all flatV = true) (h : Q (.bl (!inV x xs)) H) : uNotIn K x (.ref p) H Q := .inl ⟨p, xs, rfl, .inl h1, hx, hs, h⟩
/-- is None -/
def rIsN : R2 := fun x y H Q => y = .non ∧ Q (.bl (decide (x = .non))) H
def rNotN : R2 := fun x y H Q => y = .non ∧ Q (.bl (!decide (x = .non))) H
theorem op_isNn : OpR X (compareOp .Is) rIsN := op_isN
theorem op_notNn : OpR X (compareOp .IsNot) rNotN := op_notN
theorem u_isN {x : V} {H : Hp} {Q : VK} (h : Q (.bl (decide (x = .non))) H) : rIsN x .non H Q := ⟨rfl, h⟩
theorem u_notN {x : V} {H : Hp} {Q : VK} (h : Q (.bl (!decide (x = .non))) H) : rNotN x .non H Q := ⟨rfl, h⟩
/-- methods of texts -/
def rStarts : V → List V → Hp → VK → Prop := fun x xs H Q => ∃ a b, x = .str a ∧ xs = [.str b] ∧ Q (.bl (Txt.startswith a b)) H
def rEnds : V → List V → Hp → VK → Prop := fun x xs H Q => ∃ a b, x = .str a ∧ xs = [.str b] ∧ Q (.bl (Txt.endswith a b)) H
def rUpper : V → List V → Hp → VK → Prop := fun x xs H Q => ∃ a, x = .str a ∧ xs = [] ∧ a.length ≤ 5592405 ∧ Q (.str (Txt.upper a)) H
def rSplit : V → List V → Hp → VK → Prop := fun x xs H Q => ∃ a b, x = .str a ∧ xs = [.str b] ∧ (b.length == 0) = false ∧ a.length + 2 ≤ sizeLine ∧ rNewStrs (Txt.split a b) H Q
def rJoin (K : PySem.W.Frag) : V → List V → Hp → VK → Prop := fun x xs H Q => ∃ a p, ∃ ys : List Str, x = .str a ∧ xs = [.ref p] ∧ (SqL K H p (ys.map V.str) ∨ SqT K H p (ys.map V.str)) ∧ (ys.map (·.length)).sum + ys.length * a.length ≤ 16777216 ∧ Q (.str (Txt.join a ys)) H
theorem mt_startsN : MtR X "str.startswith" rStarts := mt_startswith
theorem mt_endsN : MtR X "str.endswith" rEnds := mt_endswith
theorem mt_upperN : MtR X "str.upper" rUpper := mt_upper
theorem mt_splitN : MtR X "str.split" rSplit := mt_split
theorem mt_joinN (hK : X.K = K := by rfl) : MtR X "str.join" (rJoin K) := hK ▸ mt_join
theorem u_m1 {a : Str} {P : Prop} (h : P) : (∃ b, V.str a = V.str b) ∧ P := ⟨⟨a, rfl⟩, h⟩
theorem u_starts {a b : Str} {H : Hp} {Q : VK} (h : Q (.bl (Txt.startswith a b)) H) : rStarts (.str a) [.str b] H Q := ⟨a, b, rfl, rfl, h⟩
theorem u_ends {a b : Str} {H : Hp} {Q : VK} (h : Q (.bl (Txt.endswith a b)) H) : rEnds (.str a) [.str b] H Q := ⟨a, b, rfl, rfl, h⟩
theorem u_upper {a : Str} {H : Hp} {Q : VK} (hl : a.length ≤ 5592405) (h : Q (.str (Txt.upper a)) H) : rUpper (.str a) [] H Q := ⟨a, rfl, rfl, hl, h⟩
theorem u_split {a b : Str} {H : Hp} {Q : VK} (hb : (b.length == 0) = false) (hl : a.length + 2 ≤ sizeLine) (h : ∀ p, H p = none → Q (.ref p) (upd H p (.lst ((Txt.split a b).map V.str)))) : rSplit (.str a) [.str b] H Q := ⟨a, b, rfl, rfl, hb, hl, h⟩
theorem u_joinL {a : Str} {p : Addr} {ys : List Str} {H : Hp} {Q : VK} (h1 : SqL K H p (ys.map V.str)) (hl : (ys.map (·.length)).sum + ys.length * a.length ≤ 16777216) (h : Q (.str (Txt.join a ys)) H) : rJoin K (.str a) [.ref p] H Q := ⟨a, p, ys, rfl, rfl, .inl h1, hl, h⟩
/-- methods of lists -/
theorem u_tyL {p : Addr} {xs : List V} {H : Hp} {P : Prop} (h1 : SqL K H p xs) (h : P) : tyV K "list" (.ref p) H ∧ P := ⟨.inl ⟨rfl, xs, h1⟩, h⟩
theorem u_append {p : Addr} {xs : List V} {y : V} {H : Hp} {Q : VK} (h1 : H p = some (.lst xs)) (hl : xs.length < sizeLine) (h : Q .non (upd H p (.lst (xs ++ [y])))) : rAppend (.ref p) [y] H Q := ⟨p, xs, y, rfl, rfl, h1, hl, h⟩
theorem u_extend {p q : Addr} {xs zs : List V} {H : Hp} {Q : VK} (h1 : H p = some (.lst xs)) (h2 : H q = some (.lst zs)) (hl : xs.length + zs.length ≤ sizeLine) (h : Q .non (upd H p (.lst (xs ++ zs)))) : rExtend (.ref p) [.ref q] H Q := ⟨p, q, xs, zs, rfl, rfl, h1, h2, hl, h⟩
theorem u_setL {p : Addr} {xs : List V} {k : Int} {j : Nat} {v : V} {H : Hp} {q : Hp → Prop} (h1 : H p = some (.lst xs)) (h2 : ixN xs.length k = some j) (h : q (upd H p (.lst (xs.set j v)))) : rSetL (.ref p) (.int k) v H q := ⟨p, xs, k, j, rfl, rfl, h1, h2, h⟩
theorem ix_U (hK : X.K = K := by rfl) : IxR X (rIx K) := hK ▸ ix_seq
theorem call_isiU (hK : X.K = K := by rfl) : CallR X (.builtin "isinstance") (rIsi K) := hK ▸ call_isi
theorem call_isiTU (hK : X.K = K := by rfl) : CallR X (.builtin "isinstance") (rIsiT K) := hK ▸ call_isiT
theorem cr_allU (hK : X.K = K := by rfl) (hc : X.calm = true := by rfl) : CallR X (.builtin "all") (rAll K) := hK ▸ cr_all hc
theorem cr_anyU (hK : X.K = K := by rfl) (hc : X.calm = true := by rfl) : CallR X (.builtin "any") (rAny K) := hK ▸ cr_any hc
/-- all, any -/
theorem u_all {p : Addr} {bs : List Bool} {H : Hp} {Q : VK} (h1 : SqL K H p (bs.map V.bl)) (h : Q (.bl (bs.all id)) H) : rAll K [.ref p] H Q := ⟨p, bs, rfl, h1, h⟩
theorem u_any {p : Addr} {bs : List Bool} {H : Hp} {Q : VK} (h1 : SqL K H p (bs.map V.bl)) (h : Q (.bl (bs.any id)) H) : rAny K [.ref p] H Q := ⟨p, bs, rfl, h1, h⟩
/-- arithmetic of ints -/
theorem u_rI0 {g : Int → Int → V} {i j : Int} {H : Hp} {Q : VK} (h : Q (g i j) H) : rI0 g (.int i) (.int j) H Q := ⟨i, j, rfl, rfl, h⟩
theorem u_rI {C : Int → Int → Prop} {g : Int → Int → V} {i j : Int} {H : Hp} {Q : VK} (hc : C i j) (h : Q (g i j) H) : rI C g (.int i) (.int j) H Q := ⟨i, j, rfl, rfl, hc, h⟩
theorem u_mod {i j : Int} {H : Hp} {Q : VK} (hj : 0 < j) (h : Q (.int (i % j)) H) : rI (fun _ j => 0 < j) (fun i j => .int (i % j)) (.int i) (.int j) H Q := u_rI hj h
theorem u_fdiv {i j : Int} {H : Hp} {Q : VK} (hj : 0 < j ∧ j < 1073741824) (h : Q (.int (i / j)) H) : rI CDiv (fun i j => .int (i / j)) (.int i) (.int j) H Q := u_rI hj h
theorem u_mul {i j : Int} {H : Hp} {Q : VK} (hc : (-18446744073709551616 < i ∧ i < 18446744073709551616) ∨ (-18446744073709551616 < j ∧ j < 18446744073709551616)) (h : Q (.int (i * j)) H) : rI CMul (fun i j => .int (i * j)) (.int i) (.int j) H Q := u_rI hc h
theorem u_rU {g : Int → V} {i : Int} {H : Hp} {Q : VK} (h : Q (g i) H) : rU g (.int i) H Q := ⟨i, rfl, h⟩
end


/-! ### names of the module, calls -/
section
variable {X : Cx}
theorem pe_gi {x : Str} {i : Int} {pos : Pos} (hm : ∃ t, X.mg x = some (.int i t)) (hg : Gl X x := by rfl) (hd : (x == ("__debug__" : Str)) = false := by decide) : PE X (.Name x pos) (tC (.int i)) := by
  obtain ⟨t, h⟩ := hm
  exact pe_glob hg h ⟨_, rfl⟩ hd
theorem pe_gs {x z : Str} {pos : Pos} (hm : ∃ t, X.mg x = some (.str z t)) (hg : Gl X x := by rfl) (hd : (x == ("__debug__" : Str)) = false := by decide) : PE X (.Name x pos) (tC (.str z)) := by
  obtain ⟨t, h⟩ := hm
  exact pe_glob hg h ⟨_, rfl⟩ hd
end
/-- a def that is named x, with its promise -/
structure FnB (P : Program) (w : World) (K : PySem.W.Frag) (mg : Str → Option Value) (base : Heap) (CX : CXT) (k : Nat) (x : Str) (ps : List Str) (sp : Sp) : Prop where
  ex : ∃ (f : Addr) (fd : FuncData), FnOk P w K mg base CX k f fd ps sp ∧ mg x = some (.ref f) ∧ PySem.W.keepIn K (.ref f) = true ∧ Binds K fd ps []
section
variable {X : Cx} {CX : CXT} {k : Nat} {x : Str} {ps : List Str} {sp : Sp} {E : XK} {p pos : Pos} {e : Expr} {es : List Expr} {t : TA}
theorem pe_callF (B : FnB X.prog X.w X.K X.mg X.base CX k x ps sp) (hr : Room k X.A) (hx : Passes CX X E) (ha : PA X (e :: es) t) (hg : Gl X x := by rfl) (hdb : (x == ("__debug__" : Str)) = false := by decide)
    (he : starEach (e :: es) X.env = (false, eval e X.env) :: starEach es X.env := by rfl) (hpl : (backTo pos (starEach es X.env)).any (·.1) = false := by rfl) : PE X (.Call (.Name x p) (e :: es) [] pos) (tCall sp [] E t) := by
  obtain ⟨f, fd, F, g, kp, bd⟩ := B.ex
  exact pe_call F hr hg g kp bd .nil hx ha hdb he hpl
theorem pe_callF0 (B : FnB X.prog X.w X.K X.mg X.base CX k x ps sp) (hr : Room k X.A) (hx : Passes CX X E) (hg : Gl X x := by rfl) (hdb : (x == ("__debug__" : Str)) = false := by decide) : PE X (.Call (.Name x p) [] [] pos) (tCall sp [] E tNil) := by
  obtain ⟨f, fd, F, g, kp, bd⟩ := B.ex
  exact pe_call0 F hr hg g kp bd .nil hx hdb
end
/-- promises by the number of parameters -/
def sp0 (P : Hp → VK → XK → Prop) : Sp := fun vs H Q E => vs = [] ∧ P H Q E
def sp1 (P : V → Hp → VK → XK → Prop) : Sp := fun vs H Q E => ∃ a, vs = [a] ∧ P a H Q E
def sp2 (P : V → V → Hp → VK → XK → Prop) : Sp := fun vs H Q E => ∃ a b, vs = [a, b] ∧ P a b H Q E
def sp3 (P : V → V → V → Hp → VK → XK → Prop) : Sp := fun vs H Q E => ∃ a b c, vs = [a, b, c] ∧ P a b c H Q E
def sp4 (P : V → V → V → V → Hp → VK → XK → Prop) : Sp := fun vs H Q E => ∃ a b c d, vs = [a, b, c, d] ∧ P a b c d H Q E
theorem len0 {P : Hp → VK → XK → Prop} {vs : List V} {H : Hp} {Q : VK} {E : XK} (h : sp0 P vs H Q E) : vs.length = 0 := by obtain ⟨rfl, _⟩ := h; rfl
theorem len1 {P : V → Hp → VK → XK → Prop} {vs : List V} {H : Hp} {Q : VK} {E : XK} (h : sp1 P vs H Q E) : vs.length = 1 := by obtain ⟨_, rfl, _⟩ := h; rfl
theorem len2 {P : V → V → Hp → VK → XK → Prop} {vs : List V} {H : Hp} {Q : VK} {E : XK} (h : sp2 P vs H Q E) : vs.length = 2 := by obtain ⟨_, _, rfl, _⟩ := h; rfl
theorem len3 {P : V → V → V → Hp → VK → XK → Prop} {vs : List V} {H : Hp} {Q : VK} {E : XK} (h : sp3 P vs H Q E) : vs.length = 3 := by obtain ⟨_, _, _, rfl, _⟩ := h; rfl
theorem len4 {P : V → V → V → V → Hp → VK → XK → Prop} {vs : List V} {H : Hp} {Q : VK} {E : XK} (h : sp4 P vs H Q E) : vs.length = 4 := by obtain ⟨_, _, _, _, rfl, _⟩ := h; rfl
section
variable {H : Hp} {Q : VK} {E : XK} {a b c d : V}
theorem s_sp0 {P : Hp → VK → XK → Prop} (h : P H Q E) : sp0 P (([] : List V) ++ []) H Q E := ⟨rfl, h⟩
theorem s_sp1 {P : V → Hp → VK → XK → Prop} (h : P a H Q E) : sp1 P ([a] ++ []) H Q E := ⟨_, rfl, h⟩
theorem s_sp2 {P : V → V → Hp → VK → XK → Prop} (h : P a b H Q E) : sp2 P ([a, b] ++ []) H Q E := ⟨_, _, rfl, h⟩
theorem s_sp3 {P : V → V → V → Hp → VK → XK → Prop} (h : P a b c H Q E) : sp3 P ([a, b, c] ++ []) H Q E := ⟨_, _, _, rfl, h⟩
theorem s_sp4 {P : V → V → V → V → Hp → VK → XK → Prop} (h : P a b c d H Q E) : sp4 P ([a, b, c, d] ++ []) H Q E := ⟨_, _, _, _, rfl, h⟩
theorem s_chain {r r' : R2} {ta tb tc : TE} {σ : L2.St} (h : ta σ H fun x H1 => tb σ H1 fun y H2 => r x y H2 fun z H3 => ∃ k, z = .bl k ∧ (if k = true then tc σ H3 fun w' H4 => r' y w' H4 Q else Q (.bl false) H3)) : tChain r r' ta tb tc σ H Q := h
theorem s_disp {trs : List (TE × TE)} {σ : L2.St} (h : ∀ p, H p = none → tPairs trs σ (upd H p (.dK [])) fun ps H2 => H2 p = some (.dK []) ∧ ∃ kvs : List (Key × V), ps = kvs.map (fun kv => (kV kv.1, kv.2)) ∧ kvs.length ≤ 15 ∧ Q (.ref p) (upd H2 p (.dK (mergeK [] kvs)))) : tDisp trs σ H Q := h
theorem s_dnewK {σ : L2.St} (h : ∀ p, H p = none → Q (.ref p) (upd H p (.dK []))) : tDNewK σ H Q := h
theorem s_pairs0 {σ : L2.St} {q : List (V × V) → Hp → Prop} (h : q [] H) : tPairs [] σ H q := h
theorem s_pairs1 {tk tv : TE} {trs : List (TE × TE)} {σ : L2.St} {q : List (V × V) → Hp → Prop} (h : tk σ H fun x H1 => tv σ H1 fun y H2 => tPairs trs σ H2 fun ps H3 => q ((x, y) :: ps) H3) : tPairs ((tk, tv) :: trs) σ H q := h
theorem s_gsub {to ti : TE} {t : TSet} {v : V} {σ : L2.St} {q : L2.St → Hp → Prop} (h : to σ H fun o H1 => ti σ H1 fun i H2 => t o i v H2 fun H3 => q σ H3) : gSub to ti t v σ H q := h
theorem u_isi {K : PySem.W.Frag} {x v : V} {t u : Value} {k : Bool} (hk : ClsV v u) (ty : TyX K H x t) (e : PySem.W.kitOne K t u = some k) (h : Q (.bl k) H) : rIsi K [x, v] H Q := ⟨x, v, t, u, k, rfl, hk, ty, e, h⟩
end
/-! ### what is walked: items xs while S stands -/
structure Yl (J : It) (S : Hp → Prop) (xs : List V) : Prop where
  go : ∀ i H, S H → i < xs.length → J.go i H
  yld : ∀ i H x H', S H → i < xs.length → J.yld i H x H' → H' = H ∧ xs[i]? = some x
  stop : ∀ H, S H → J.stop xs.length H
theorem yl_list {K : PySem.W.Frag} {a : Addr} {xs : List V} : Yl (Itl K a) (fun H => SqL K H a xs) xs where
  go := fun i H h hi => ⟨xs, xs[i], h, by simp [hi]⟩
  yld := fun i H x H' h hi y => by obtain ⟨e, y⟩ := y; exact ⟨e, y xs h⟩
  stop := fun H h => ⟨xs, h, Nat.le_refl _⟩
theorem yl_tup {K : PySem.W.Frag} {a : Addr} {xs : List V} : Yl (Itt K a) (fun H => SqT K H a xs) xs where
  go := fun i H h hi => ⟨xs, xs[i], h, by simp [hi]⟩
  yld := fun i H x H' h hi y => by obtain ⟨e, y⟩ := y; exact ⟨e, y xs h⟩
  stop := fun H h => ⟨xs, h, Nat.le_refl _⟩
def signsV (z : Str) : List V := z.cps.toList.map fun c => .str ⟨#[c]⟩
theorem signsV_len (z : Str) : (signsV z).length = z.length := by simp [signsV, Str.length]
theorem yl_str {z : Str} : Yl (Its z) (fun _ => True) (signsV z) where
  go := fun i H _ hi => by rw [signsV_len] at hi; exact hi
  yld := fun i H x H' _ hi y => by
    obtain ⟨e, c, hc, rfl⟩ := y
    refine ⟨e, ?_⟩
    unfold signsV
    rw [List.getElem?_map, Array.getElem?_toList, hc]
    rfl
  stop := fun H _ => by rw [signsV_len]; exact Nat.le_refl _
def rangeV (lo : Int) (n : Nat) : List V := (List.range n).map fun i => .int (lo + (i : Nat))
theorem rangeV_len (lo : Int) (n : Nat) : (rangeV lo n).length = n := by simp [rangeV]
theorem rangeV_at {lo : Int} {n i : Nat} {x : V} (h : (rangeV lo n)[i]? = some x) : i < n ∧ x = .int (lo + i) := by
  have hi := (List.getElem?_eq_some_iff.mp h).1
  rw [rangeV_len] at hi
  refine ⟨hi, ?_⟩
  unfold rangeV at h
  rw [List.getElem?_map, List.getElem?_range hi] at h
  exact (Option.some.inj h).symm
theorem yl_range {lo : Int} {n : Nat} : Yl (Itr lo n) (fun _ => True) (rangeV lo n) where
  go := fun i H _ hi => by rw [rangeV_len] at hi; exact hi
  yld := fun i H x H' _ hi y => by
    obtain ⟨e, y⟩ := y
    rw [rangeV_len] at hi
    refine ⟨e, ?_⟩
    unfold rangeV
    rw [List.getElem?_map, List.getElem?_range hi, y]
    rfl
  stop := fun H _ => by rw [rangeV_len]; exact Nat.le_refl _
/-! ### for -/
def forGo (J : It) (g : TG) (tb : TS) (n : L2.St → Hp → Prop) (r : VK) (σ : L2.St) (H : Hp) : Prop := ∃ W : Nat → Nat → L2.St → Hp → Prop, (∃ m, W 0 m σ H) ∧ ∀ i m σ H, W i m σ H →
  (J.stop i H ∧ n σ H) ∨ (J.go i H ∧ ∃ N : L2.St → Hp → Prop, (∀ σ' H', N σ' H' → ∃ m', m' < m ∧ W (i + 1) m' σ' H') ∧ ∀ x H', J.yld i H x H' → g x σ H' fun σ2 H2 => tb (Ends.mk N r n N) σ2 H2)
section
variable {σ : L2.St} {H : Hp} {n b c : L2.St → Hp → Prop} {r : VK} {g : TG} {tb : TS} {K : PySem.W.Frag}
theorem s_for {wi : TI} (h : wi σ H fun J H1 => forGo J g tb n r σ H1) : tFor wi g tb (Ends.mk n r b c) σ H := h
theorem for_yl {J : It} {S : Hp → Prop} {xs : List V} (Y : Yl J S xs) (Pv : Nat → L2.St → Hp → Prop) (h0 : Pv 0 σ H) (hS : ∀ i σ H, i ≤ xs.length → Pv i σ H → S H)
    (hs : ∀ i x σ H, xs[i]? = some x → Pv i σ H → g x σ H fun σ2 H2 => tb (Ends.mk (Pv (i + 1)) r n (Pv (i + 1))) σ2 H2) (hd : ∀ σ H, Pv xs.length σ H → n σ H) : forGo J g tb n r σ H := by
  refine ⟨fun i m σ H => m = xs.length - i ∧ i ≤ xs.length ∧ Pv i σ H, ⟨xs.length, by simp, Nat.zero_le _, h0⟩, ?_⟩
  rintro i m σ H ⟨rfl, hi, p⟩
  have q := hS i σ H hi p
  by_cases hlt : i < xs.length
  · refine .inr ⟨Y.go i H q hlt, Pv (i + 1), fun σ' H' p' => ⟨xs.length - (i + 1), by omega, rfl, hlt, p'⟩, fun x H' y => ?_⟩
    obtain ⟨e, hx⟩ := Y.yld i H x H' q hlt y
    subst e
    exact hs i x σ _ hx p
  · have e : i = xs.length := by omega
    subst e
    exact .inl ⟨Y.stop H q, hd σ H p⟩
/-! the things that are walked -/
theorem s_iList {tl : TE} {R : It → Hp → Prop} (h : tl σ H fun x H1 => ∃ a, x = .ref a ∧ (∃ xs, SqL K H1 a xs) ∧ R (Itl K a) H1) : iList K tl σ H R := h
theorem u_itL {a : Addr} {xs : List V} {q : Addr → Prop} (h1 : SqL K H a xs) (h : q a) : ∃ a', V.ref a = .ref a' ∧ (∃ xs, SqL K H a' xs) ∧ q a' := ⟨a, rfl, ⟨xs, h1⟩, h⟩
theorem s_iTup {tl : TE} {R : It → Hp → Prop} (h : tl σ H fun x H1 => ∃ a, x = .ref a ∧ (∃ xs, SqT K H1 a xs) ∧ R (Itt K a) H1) : iTup K tl σ H R := h
theorem u_itT {a : Addr} {xs : List V} {q : Addr → Prop} (h1 : SqT K H a xs) (h : q a) : ∃ a', V.ref a = .ref a' ∧ (∃ xs, SqT K H a' xs) ∧ q a' := ⟨a, rfl, ⟨xs, h1⟩, h⟩
theorem s_iStr {te : TE} {R : It → Hp → Prop} (h : te σ H fun v H1 => ∃ x, v = .str x ∧ R (Its x) H1) : iStr te σ H R := h
theorem u_itS {z : Str} {q : Str → Prop} (h : q z) : ∃ x, V.str z = .str x ∧ q x := ⟨z, rfl, h⟩
theorem s_iR1 {ta : TA} {R : It → Hp → Prop} (h : ta σ H fun vs H1 => ∃ j : Int, vs = [.int j] ∧ -(2 ^ 62) ≤ j ∧ j < 2 ^ 62 ∧ R (Itr 0 j.toNat) H1) : iRng1 ta σ H R := h
theorem u_itR1 {j : Int} {q : Int → Prop} (h1 : -(2 ^ 62) ≤ j) (h2 : j < 2 ^ 62) (h : q j) : ∃ j' : Int, [V.int j] = [.int j'] ∧ -(2 ^ 62) ≤ j' ∧ j' < 2 ^ 62 ∧ q j' := ⟨j, rfl, h1, h2, h⟩
theorem s_iR2 {ta : TA} {R : It → Hp → Prop} (h : ta σ H fun vs H1 => ∃ i j : Int, vs = [.int i, .int j] ∧ (-(2 ^ 62) ≤ i ∧ i < 2 ^ 62 ∧ -(2 ^ 62) ≤ j ∧ j < 2 ^ 62) ∧ R (Itr i (j - i).toNat) H1) : iRng2 ta σ H R := h
theorem u_itR2 {i j : Int} {q : Int → Int → Prop} (h1 : -(2 ^ 62) ≤ i ∧ i < 2 ^ 62 ∧ -(2 ^ 62) ≤ j ∧ j < 2 ^ 62) (h : q i j) : ∃ i' j' : Int, [V.int i, V.int j] = [.int i', .int j'] ∧ (-(2 ^ 62) ≤ i' ∧ i' < 2 ^ 62 ∧ -(2 ^ 62) ≤ j' ∧ j' < 2 ^ 62) ∧ q i' j' := ⟨i, j, rfl, h1, h⟩
end
/-! ### a comprehension -/
def lcGo (J : It) (g : TG) (tt : TT) (te : TE) (vs : List Nat) (σ : L2.St) (H1 : Hp) (Q : VK) : Prop := ∀ D, H1 D = none → ∃ W : Nat → Nat → Hp → Prop, (∃ m, W 0 m (upd H1 D (.lst []))) ∧ ∀ i m H, W i m H →
  (J.stop i H ∧ Q (.ref D) H) ∨ (J.go i H ∧ ∃ Nx : Hp → Prop, (∀ H', Nx H' → ∃ m', m' < m ∧ W (i + 1) m' H') ∧ ∀ x H', J.yld i H x H' → g x (wipe σ vs) H' fun σ2 H2 => wipe σ2 vs = wipe σ vs ∧ tt σ2 H2 fun b H3 =>
    if b = true then te σ2 H3 fun y H4 => ∃ acc, H4 D = some (.lst acc) ∧ acc.length < sizeLine ∧ Nx (upd H4 D (.lst (acc ++ [y]))) else Nx H3)
section
variable {σ : L2.St} {H : Hp} {Q : VK} {g : TG} {tt : TT} {te : TE} {vs : List Nat}
theorem s_lc {wi : TI} (h : wi σ H fun J H1 => lcGo J g tt te vs σ H1 Q) : tLc wi g tt te vs σ H Q := h
/-- the items xs, p which of them are taken, f what is made of one; nothing that stood is changed -/
theorem lc_yl {J : It} {S : Hp → Prop} {xs : List V} {j : Nat} (Y : Yl J S xs) (hS0 : S H) (hS : ∀ H', Same H H' → S H') (p : V → Bool) (f : V → V) (hl : xs.length < 16000000) (hw : ∀ x, wipe ((wipe σ vs).set j (some x)) vs = wipe σ vs)
    (ht : ∀ x, x ∈ xs → ∀ H', Same H H' → ∀ q : Bool → Hp → Prop, (∀ H'', Same H' H'' → q (p x) H'') → tt ((wipe σ vs).set j (some x)) H' q)
    (he : ∀ x, x ∈ xs → p x = true → ∀ H', Same H H' → ∀ q : VK, (∀ H'', Same H' H'' → q (f x) H'') → te ((wipe σ vs).set j (some x)) H' q)
    (hq : ∀ D H', H D = none → Same H H' → H' D = some (.lst ((xs.filter p).map f)) → Q (.ref D) H') : lcGo J (gName j) tt te vs σ H Q := by
  intro D hD
  refine ⟨fun i m H' => m = xs.length - i ∧ i ≤ xs.length ∧ Same H H' ∧ H' D = some (.lst (((xs.take i).filter p).map f)), ⟨xs.length, by simp, Nat.zero_le _, same_new hD, upd_same⟩, ?_⟩
  rintro i m H' ⟨rfl, hi, s1, hd⟩
  have q := hS H' s1
  by_cases hlt : i < xs.length
  · refine .inr ⟨Y.go i H' q hlt, fun H'' => Same H H'' ∧ H'' D = some (.lst (((xs.take (i + 1)).filter p).map f)), fun H'' p' => ⟨xs.length - (i + 1), by omega, rfl, hlt, p'⟩, fun x H2 y => ?_⟩
    obtain ⟨e, hx⟩ := Y.yld i H' x H2 q hlt y
    subst e
    have hm : x ∈ xs := List.mem_of_getElem? hx
    have et : xs.take (i + 1) = xs.take i ++ [x] := by
      rw [List.take_succ, hx]; rfl
    refine ⟨hw x, ht x hm _ s1 _ fun H3 s3 => ?_⟩
    rw [et, List.filter_append, List.map_append]
    cases hp : p x with
    | false =>
      refine if_f rfl ⟨s1.trans s3, ?_⟩
      have e2 : [x].filter p = [] := by simp [List.filter, hp]
      rw [e2]
      have := s3 _ _ hd
      simpa using this
    | true =>
      refine if_t rfl (he x hm hp _ (s1.trans s3) _ fun H4 s4 => ?_)
      have e2 : [x].filter p = [x] := by simp [List.filter, hp]
      rw [e2]
      refine ⟨_, s4 _ _ (s3 _ _ hd), ?_, ?_, ?_⟩
      · refine lt_line ?_
        rw [List.length_map]
        have h1 := List.length_filter_le p (xs.take i)
        rw [List.length_take] at h1
        omega
      · exact Same.wr ((s1.trans s3).trans s4) hD
      · exact upd_same
  · have e : i = xs.length := by omega
    subst e
    rw [List.take_length] at hd
    exact .inl ⟨Y.stop H' q, hq D H' hD s1 hd⟩
theorem t_yes {x : L2.St} {H' : Hp} {q : Bool → Hp → Prop} (h : ∀ H'', Same H' H'' → q true H'') : tYes x H' q := h H' (Same.refl _)
end

local macro_rules | `(tactic| wtm_at "hp") => `(tactic| first
  | assumption
  | (with_reducible exact upd_same)
  | ((with_reducible refine (upd_ne ?n).trans ?m); (case n => wtm_at "ne"); (case m => wtm_at "hp")))
local macro_rules | `(tactic| wtm_at "ne") => `(tactic| first | assumption | (refine Ne.symm ?_; assumption))
local macro_rules | `(tactic| wtm_at "sz") => `(tactic| first | exact le_line (by simp) | exact lt_line (by simp) | exact le_line (by simp; omega) | exact lt_line (by simp; omega) | exact le_line (by omega) | exact lt_line (by omega))
local macro_rules | `(tactic| wtm_at "r") => `(tactic| repeat (wtm_at "s"))
local macro_rules | `(tactic| wtm_at "s") => `(tactic| first
  | (with_reducible refine s_seq ?_)
  | (with_reducible refine s_asg ?_)
  | (with_reducible refine s_name ?_)
  | ((with_reducible refine s_var (v := ?v) ?e ?_); (case e => exact rfl))
  | (with_reducible refine s_c ?_)
  | (with_reducible refine s_op ?_)
  | (with_reducible refine s_if ?_)
  | (with_reducible refine s_test ?_)
  | (with_reducible refine s_bl ?_)
  | (with_reducible refine u_add_int ?_)
  | (with_reducible refine u_eqI ?_) | (with_reducible refine u_neI ?_)
  | (with_reducible refine u_eqS ?_) | (with_reducible refine u_neS ?_)
  | (with_reducible refine u_eqB ?_) | (with_reducible refine u_neB ?_)
  | (with_reducible refine u_rI0 ?_)
  | (with_reducible refine u_rU ?_)
  | (with_reducible refine s_ret ?_)
  | (with_reducible refine s_retN ?_)
  | (with_reducible refine s_call ?_)
  | (with_reducible refine s_cons ?_)
  | (with_reducible refine s_nil ?_)
  | (with_reducible refine s_cb ?_)
  | (with_reducible refine s_drop ?_)
  | (with_reducible refine s_next ?_)
  | (with_reducible refine s_brk ?_)
  | (with_reducible refine s_cont ?_)
  | (with_reducible refine s_tB ?_)
  | (with_reducible refine s_and ?_)
  | (with_reducible refine s_or ?_)
  | (with_reducible refine s_not ?_)
  | (with_reducible refine s_un ?_)
  | (with_reducible refine s_tup ?_)
  | (with_reducible refine s_lst ?_)
  | (with_reducible refine s_ifExp ?_)
  | (with_reducible refine s_sl ?_)
  | (with_reducible refine s_nopart ?_)
  | (with_reducible refine s_part ?_)
  | (with_reducible refine s_int ?_)
  | (with_reducible refine s_bm ?_)
  | (with_reducible refine s_bm0 ?_)
  | (with_reducible refine s_m1 ?_)
  | (with_reducible refine s_m0 ?_)
  | (with_reducible refine s_andV ?_)
  | (with_reducible refine s_orV ?_)
  | (with_reducible refine s_notV ?_)
  | (with_reducible refine s_fldput ?_)
  | ((with_reducible refine u_mod ?hc ?_); (case hc => omega))
  | ((with_reducible refine u_fdiv ?hc ?_); (case hc => omega))
  | ((with_reducible refine u_mul ?hc ?_); (case hc => omega))
  | ((with_reducible refine u_ixL (xs := ?xs) (v := ?v) ?h1 ?h2 ?_); (case h1 => wtm_at "hp"); (case h2 => rfl))
  | (with_reducible refine s_chain ?_)
  | (with_reducible refine s_for ?_) | (with_reducible refine s_lc ?_) | (with_reducible refine s_iList ?_) | (with_reducible refine s_iTup ?_) | (with_reducible refine s_iStr ?_) | (with_reducible refine s_iR1 ?_) | (with_reducible refine s_iR2 ?_)
  | (with_reducible refine u_itS ?_)
  | (with_reducible refine s_gsub ?_)
  | (with_reducible refine s_pairs1 ?_) | (with_reducible refine s_pairs0 ?_)
  | (with_reducible refine u_isN ?_) | (with_reducible refine u_notN ?_)
  | (with_reducible refine u_m1 ?_) | (with_reducible refine u_starts ?_) | (with_reducible refine u_ends ?_)
  | (with_reducible refine u_inSg ?_) | (with_reducible refine u_notInSg ?_)
  | (with_reducible refine s_sp1 ?_) | (with_reducible refine s_sp2 ?_) | (with_reducible refine s_sp3 ?_) | (with_reducible refine s_sp4 ?_) | (with_reducible refine s_sp0 ?_))

def top (i : Nat) : Stmt := PySem.Challenge.pw_leadnames_k02_what_are_rights.main.body.getD i (.Pass ⟨0, 0, 0, 0⟩)
abbrev st_is_rights : Stmt := top 1
abbrev st__law_cell_at : Stmt := top 3
abbrev st__law_digit : Stmt := top 4
abbrev st__law_is : Stmt := top 5
abbrev st_law : Stmt := top 6
structure Txt (K : PySem.W.Frag) (mg : Str → Option Value) : Prop where
  z_bool : mg "bool" = none
  z_isinstance : mg "isinstance" = none
  z_len : mg "len" = none
  z_range : mg "range" = none
  z_str : mg "str" = none
section
variable {P : Program} {w : World} {K : PySem.W.Frag} {mg : Str → Option Value} {base : Heap}

/-! ### names -/
abbrev letters : Str := "abcdefghijklmnopqrstuvwxyz"
/-- one to eight small letters -/
def isNm (z : Str) : Bool := decide (1 ≤ z.length) && (decide (z.length ≤ 8) && z.cps.toList.all fun c => decide (c ∈ letters.cps.toList))
def nameV : V → Bool
  | .str z => isNm z
  | _ => false
/-- a text of a bearable length, or a thing of another kind -/
def Thing (K : PySem.W.Frag) (H : Hp) (x : V) : Prop := match x with
  | .str z => z.length ≤ sizeLine
  | y => ∃ n, TyX K H y (.type n) ∧ kitB n "str" = some false
def pIsName (K : PySem.W.Frag) (x : V) (H : Hp) (Q : VK) (_ : XK) : Prop := Thing K H x ∧ ∀ H', Same H H' → Q (.bl (nameV x)) H'
abbrev spIsName (K : PySem.W.Frag) : Sp := sp1 (pIsName K)
theorem u_isTy {K : PySem.W.Frag} {H : Hp} {Q : VK} {x : V} {n m : String} {r : Bool} (ty : TyX K H x (.type n)) (e : kitB n m = some r) (h : Q (.bl r) H) : rIsi K [x, .ty m] H Q := u_isi (.ty _) ty (kit_ty e) h
theorem u_isStr {K : PySem.W.Frag} {H : Hp} {Q : VK} {z : Str} (h : Q (.bl true) H) : rIsi K [.str z, .ty "str"] H Q := u_isTy (.base (.str z)) (by decide +kernel) h
theorem Thing.not {K : PySem.W.Frag} {H : Hp} {x : V} (t : Thing K H x) (h : ¬ ∃ z, x = .str z) : nameV x = false ∧ ∃ n, TyX K H x (.type n) ∧ kitB n "str" = some false := by
  cases x with
  | str z => exact absurd ⟨z, rfl⟩ h
  | _ => exact ⟨rfl, t⟩
theorem all_map {α : Type} (f : α → Bool) (l : List α) : (l.map f).all id = l.all f := by
  rw [List.all_map]; rfl
theorem isNm_short {z : Str} (h : ¬ (1 ≤ z.length)) : isNm z = false := by simp [isNm, h]
theorem isNm_long {z : Str} (h : ¬ (z.length ≤ 8)) : isNm z = false := by simp [isNm, h]
theorem isNm_mid {z : Str} (h1 : 1 ≤ z.length) (h2 : z.length ≤ 8) : isNm z = z.cps.toList.all fun c => decide (c ∈ letters.cps.toList) := by simp [isNm, h1, h2]
/-! ### rights -/
abbrev goods : List V := [.str "", .str "l", .str "g", .str "w", .str "lg", .str "lw", .str "gw", .str "lgw"]
def rightsV : V → Bool
  | .str z => inV (.str z) goods
  | _ => false
def pIsRights (K : PySem.W.Frag) (x : V) (H : Hp) (Q : VK) (_ : XK) : Prop := Thing K H x ∧ ∀ H', Same H H' → Q (.bl (rightsV x)) H'
theorem Thing.notR {K : PySem.W.Frag} {H : Hp} {x : V} (t : Thing K H x) (h : ¬ ∃ z, x = .str z) : rightsV x = false ∧ ∃ n, TyX K H x (.type n) ∧ kitB n "str" = some false := by
  cases x with
  | str z => exact absurd ⟨z, rfl⟩ h
  | _ => exact ⟨rfl, t⟩
theorem sc_is_rights : FnScope ["text"] ["text"] (defScope st_is_rights) := ⟨rfl, rfl, rfl, by decide +kernel, rfl, by decide +kernel, by decide +kernel⟩
theorem ok_is_rights (T : Txt K mg)  {f : Addr} {fd : FuncData} (F : FunD K "is_rights" "is_rights" (defArgs st_is_rights) (defBody st_is_rights) (defScope st_is_rights) [] [] f fd) : FnOk P w K mg base CX0 1 f fd ["text"] (sp1 (pIsRights K)) := by
  refine F.ok sc_is_rights (fun vs H Q E h => ?_) (fun cdv A outer s H vs Q E hr h => ?_)
  · exact len1 h
  · obtain ⟨a, rfl, h⟩ := h
    have hu := hu_of hr
    have hu65 := hr.units
    refine ⟨_, PSs.nox ((pss_one (ps_ret (pe_and (pe_callB (call_isiU (K := K)) (by rfl) T.z_isinstance (by decide +kernel) (pa_cons (pv 0) (pa_cons (pe_bltn (v := .ty "str") (by rfl) T.z_str (by decide +kernel) rfl) pa_nil))) (pe_one (pe_cmpR (op_inU (K := K) hu) (pv 0) (pe_tup (pa_cons pe_str (pa_cons pe_str (pa_cons pe_str (pa_cons pe_str (pa_cons pe_str (pa_cons pe_str (pa_cons pe_str (pa_cons pe_str pa_nil))))))))) (by rfl))))))), ?_⟩
    try dsimp only [cxOf]
    rw [show L2.start ["text"] [a] = [some a] from rfl]
    obtain ⟨ht, k⟩ := h
    by_cases hs : ∃ z, a = .str z
    · obtain ⟨z, rfl⟩ := hs
      have k : ∀ H', Same H H' → Q (.bl (inV (.str z) goods)) H' := k
      wtm_at "r"
      refine u_isStr ?_
      wtm_at "r"
      refine if_t rfl ?_
      wtm_at "r"
      refine ⟨by wtm_at "sz", fun p hp => ?_⟩
      refine u_inT (SqT.of upd_same) rfl rfl ?_
      exact k _ (same_new hp)
    · obtain ⟨e, n, ty, ek⟩ := Thing.notR ht hs
      wtm_at "r"
      refine u_isTy ty ek ?_
      wtm_at "r"
      refine if_f rfl ?_
      rw [← e]
      exact k H (Same.refl H)
/-! ### the law's draws -/
/-- a state of draws: one number, or three -/
def StOk (xs : List V) : Prop := (∃ n : Int, xs = [.int n]) ∨ ∃ n s c : Int, xs = [.int n, .int s, .int c]
def pDigit (s b : V) (H : Hp) (Q : VK) (_ : XK) : Prop := ∃ (a : Addr) (xs : List V) (n : Int), s = .ref a ∧ b = .int n ∧ H a = some (.lst xs) ∧ StOk xs ∧ 0 < n ∧ n < 1073741824 ∧
  ∀ (r : Int) (xs' : List V) (H' : Hp), 0 ≤ r → r < n → StOk xs' → But a H H' → H' a = some (.lst xs') → Q (.int r) H'
abbrev spDigit : Sp := sp2 pDigit
theorem mod_lt {x : Int} {m : Int} (h : 0 < m) : 0 ≤ x % m ∧ x % m < m := ⟨Int.emod_nonneg _ (by omega), Int.emod_lt_of_pos _ h⟩
theorem sc__law_digit : FnScope ["_law_state", "_law_base", "_law_found", "_law_number"] ["_law_state", "_law_base"] (defScope st__law_digit) := ⟨rfl, rfl, rfl, by decide +kernel, rfl, by decide +kernel, by decide +kernel⟩
theorem ok__law_digit (T : Txt K mg)  {f : Addr} {fd : FuncData} (F : FunD K "_law_digit" "_law_digit" (defArgs st__law_digit) (defBody st__law_digit) (defScope st__law_digit) [] [] f fd) : FnOk P w K mg base CX0 1 f fd ["_law_state", "_law_base"] spDigit := by
  refine F.ok sc__law_digit (fun vs H Q E h => ?_) (fun cdv A outer s H vs Q E hr h => ?_)
  · exact len2 h
  · obtain ⟨a, b, rfl, h⟩ := h
    have hu := hu_of hr
    have hu65 := hr.units
    refine ⟨_, PSs.nox ((Evl.pss_cut (ps_if (pt_cmpR (op_eqU (K := K) hu65) (pe_callB (call_lenU (K := K)) (by rfl) T.z_len PySem.boot_len (pa_cons (pv 0) pa_nil)) pe_int (nomark _)) (pss_one (ps_expr (pe_bm PySem.F.plainAttrs_list PySem.F.slot_list_extend PySem.F.type_list_extend mt_extend (pv 0) (pa_cons (pe_lst (pa_cons (pe_op op_mod (pe_ix (ix_U (K := K)) (pv 0) pe_int (fun _ _ => rfl)) pe_int) (pa_cons pe_int pa_nil))) pa_nil)))) pss_nil)
    (pss_cons (ps_if (pt_cmpR op_gt (pe_ix (ix_U (K := K)) (pv 0) pe_int (fun _ _ => rfl)) pe_int (nomark _)) (pss_cons (ps_set (i := 2) sc__law_digit.nd rfl (by first | exact Or.inl rfl | exact Or.inr rfl) (pe_op op_mod (pe_ix (ix_U (K := K)) (pv 0) pe_int (fun _ _ => rfl)) (pv 1)))
    (pss_cons (ps_asg (pe_op op_fdiv (pe_ix (ix_U (K := K)) (pv 0) pe_int (fun _ _ => rfl)) (pv 1)) (pg_sub (pv 0) pe_int set_list))
    (pss_one (ps_ret (pv 2))))) pss_nil)
    (pss_cons (ps_asg (pe_op (op_addU (K := K)) (pe_ix (ix_U (K := K)) (pv 0) pe_int (fun _ _ => rfl)) pe_int) (pg_sub (pv 0) pe_int set_list))
    (pss_cons (ps_set (i := 3) sc__law_digit.nd rfl (by first | exact Or.inl rfl | exact Or.inr rfl) (pe_op op_mod (pe_op op_mul (pe_op (op_addU (K := K)) (pe_op (op_addU (K := K)) (pe_ix (ix_U (K := K)) (pv 0) pe_int (fun _ _ => rfl)) (pe_op op_mul pe_int (pe_ix (ix_U (K := K)) (pv 0) pe_int (fun _ _ => rfl)))) pe_int) pe_int) pe_int))
    (pss_cons (ps_set (i := 3) sc__law_digit.nd rfl (by first | exact Or.inl rfl | exact Or.inr rfl) (pe_op op_mod (pe_op op_mul (pv 3) (pe_op (op_addU (K := K)) (pe_op op_fdiv (pv 3) pe_int) pe_int)) pe_int))
    (pss_one (ps_ret (pe_op op_mod (pe_op op_mod (pe_op op_mul (pv 3) (pe_op (op_addU (K := K)) (pe_op op_fdiv (pv 3) pe_int) pe_int)) pe_int) (pv 1)))))))))), ?_⟩
    try dsimp only [cxOf]
    rw [show L2.start ["_law_state", "_law_base", "_law_found", "_law_number"] [a, b] = [some a, some b, none, none] from rfl]
    obtain ⟨p, xs, m, rfl, rfl, hp, so, m0, m1, k⟩ := h
    refine s_cut (fun σ' H1 => ∃ n s c : Int, σ' = [some (.ref p), some (.int m), none, none] ∧ But p H H1 ∧ H1 p = some (.lst [.int n, .int s, .int c])) ?_ ?_
    · wtm_at "r"
      refine u_lenL (SqL.of hp) ?_
      wtm_at "r"
      rcases so with ⟨n, rfl⟩ | ⟨n, s, c, rfl⟩
      · refine if_t rfl ?_
        wtm_at "r"
        refine u_tyL (SqL.of hp) ?_
        wtm_at "r"
        refine ⟨by wtm_at "sz", fun q hq => ?_⟩
        wtm_at "r"
        have npq : p ≠ q := ne_of_none hp hq
        refine u_extend ((upd_ne npq).trans hp) upd_same (by wtm_at "sz") ?_
        wtm_at "r"
        exact ⟨n, _, _, rfl, But.wr (But.of_same (same_new hq)), upd_same⟩
      · refine if_f rfl ?_
        wtm_at "r"
        exact ⟨n, s, c, rfl, But.of_same (Same.refl H), hp⟩
    · rintro σ' H1 ⟨n, s, c, rfl, b1, h1⟩
      wtm_at "r"
      refine if_2 (fun hn => ?_) (fun hn => ?_)
      · wtm_at "r"
        refine u_setL h1 rfl ?_
        wtm_at "r"
        exact k _ _ _ (mod_lt m0).1 (mod_lt m0).2 (.inr ⟨_, s, c, rfl⟩) (But.wr b1) upd_same
      · wtm_at "r"
        refine u_setL h1 rfl ?_
        wtm_at "r"
        exact k _ _ _ (mod_lt m0).1 (mod_lt m0).2 (.inr ⟨n, s, _, rfl⟩) (But.wr b1) upd_same
theorem u_digit {a : Addr} {xs : List V} {n : Int} {H : Hp} {Q : VK} {E : XK} (h1 : H a = some (.lst xs)) (so : StOk xs) (m0 : 0 < n ∧ n < 1073741824)
    (k : ∀ (r : Int) (xs' : List V) (H' : Hp), 0 ≤ r → r < n → StOk xs' → But a H H' → H' a = some (.lst xs') → Q (.int r) H') : pDigit (.ref a) (.int n) H Q E := ⟨a, xs, n, rfl, rfl, h1, so, m0.1, m0.2, k⟩
theorem atI_ex {α : Type} {xs : List α} {r : Int} (h0 : 0 ≤ r) (h1 : r < xs.length) : ∃ v, atI xs r = some v ∧ v ∈ xs := by
  obtain ⟨j, rfl⟩ : ∃ j : Nat, r = (j : Int) := ⟨r.toNat, by omega⟩
  have hj : j < xs.length := by omega
  exact ⟨xs[j], atI_nat (by simp [hj]), List.getElem_mem hj⟩
/-- small letters alone -/
def Low (z : Str) : Prop := ∀ c ∈ tl z, c ∈ letters.cps.toList
theorem isNm_iff {z : Str} : isNm z = true ↔ (1 ≤ z.length ∧ z.length ≤ 8 ∧ Low z) := by
  simp only [isNm, Bool.and_eq_true, decide_eq_true_eq, List.all_eq_true]
  exact Iff.rfl
theorem isNm_not {z : Str} {c : Nat} (h : c ∈ tl z) (n : ¬ c ∈ letters.cps.toList) : isNm z = false := by
  cases e : isNm z with
  | false => rfl
  | true => exact absurd ((isNm_iff.mp e).2.2 c h) n
theorem len_app (x y : Str) : (x ++ y).length = x.length + y.length := by rw [len_tl, len_tl, len_tl, tl_append, List.length_append]
theorem len_one (c : Nat) : (⟨#[c]⟩ : Str).length = 1 := rfl
theorem low_app {x y : Str} (h1 : Low x) (h2 : Low y) : Low (x ++ y) := fun c hc => by
  rw [tl_append, List.mem_append] at hc
  exact hc.elim (h1 c) (h2 c)
theorem low_one {c : Nat} (h : c ∈ letters.cps.toList) : Low ⟨#[c]⟩ := fun d hd => by
  have e : d = c := by simpa [tl] using hd
  rw [e]; exact h
theorem low_nil {z : Str} (h : tl z = []) : Low z := fun c hc => by rw [h] at hc; cases hc
theorem letters_len : letters.cps.toList.length = 26 := by decide +kernel
def pLName (s : V) (H : Hp) (Q : VK) (_ : XK) : Prop := ∃ (a : Addr) (xs : List V), s = .ref a ∧ H a = some (.lst xs) ∧ StOk xs ∧
  ∀ (z : Str) (xs' : List V) (H' : Hp), isNm z = true → StOk xs' → But a H H' → H' a = some (.lst xs') → Q (.str z) H'
abbrev spLName : Sp := sp1 pLName
theorem u_lname {a : Addr} {xs : List V} {H : Hp} {Q : VK} {E : XK} (h1 : H a = some (.lst xs)) (so : StOk xs)
    (k : ∀ (z : Str) (xs' : List V) (H' : Hp), isNm z = true → StOk xs' → But a H H' → H' a = some (.lst xs') → Q (.str z) H') : pLName (.ref a) H Q E := ⟨a, xs, rfl, h1, so, k⟩
theorem tl_cut (z : Str) (lo hi : Option Int) : tl (cutS z lo hi) = ((tl z).drop (HT.sIx z.length 0 lo)).take (HT.sIx z.length z.length hi - HT.sIx z.length 0 lo) := rfl
theorem cut_to (z : Str) (k : Nat) : tl (cutS z none (some (k : Int))) = (tl z).take k := by
  rw [tl_cut, HT.sIx_nat]
  show ((tl z).drop 0).take (min k z.length - 0) = _
  rw [List.drop_zero, Nat.sub_zero, len_tl, ← List.take_eq_take_min]
theorem cut_from (z : Str) (k : Nat) : tl (cutS z (some (k : Int)) none) = (tl z).drop k := by
  rw [tl_cut, HT.sIx_nat]
  show ((tl z).drop (min k z.length)).take (z.length - min k z.length) = _
  rw [List.take_of_length_le (by rw [List.length_drop, ← len_tl]; exact Nat.le_refl _)]
  by_cases h : k ≤ z.length
  · rw [Nat.min_eq_left h]
  · rw [Nat.min_eq_right (by omega), List.drop_of_length_le (by rw [← len_tl]; exact Nat.le_refl _), List.drop_of_length_le (by rw [← len_tl]; omega)]

theorem TyX.same {K : PySem.W.Frag} {H H' : Hp} {x : V} {t : Value} (h : TyX K H x t) (s : Same H H') : TyX K H' x t := by
  cases h with
  | base b =>
    cases b with
    | non => exact .base .non
    | bl y => exact .base (.bl y)
    | int i => exact .base (.int i)
    | str y => exact .base (.str y)
    | flt y => exact .base (.flt y)
    | lst e => exact .base (.lst (s _ _ e))
    | frz e => exact .base (.frz (s _ _ e))
    | tup e => exact .base (.tup (s _ _ e))
    | dK e => exact .base (.dK (s _ _ e))
    | dT e => exact .base (.dT (s _ _ e))
    | ins e cl ha hn htk hm => exact .base (.ins (s _ _ e) cl ha hn htk hm)
  | byt b => exact .byt b
  | set e => exact .set (s _ _ e)
  | kList e c => exact .kList e c
  | kTuple e c => exact .kTuple e c
  | kDict e c => exact .kDict e c
  | fTuple e => exact .fTuple (s _ _ e)
  | fDict e => exact .fDict (s _ _ e)
theorem Thing.same {K : PySem.W.Frag} {H H' : Hp} {x : V} (h : Thing K H x) (s : Same H H') : Thing K H' x := by
  cases x with
  | str z => exact h
  | _ => obtain ⟨n, ty, e⟩ := h; exact ⟨n, TyX.same ty s, e⟩
def pIs (K : PySem.W.Frag) (x d : V) (H : Hp) (Q : VK) (_ : XK) : Prop := Thing K H x ∧ d = .bl (rightsV x) ∧ ∀ H', Same H H' → Q (.bl true) H'
theorem sc__law_is : FnScope ["_law_thing", "_law_due", "_law_k", "_law_found"] ["_law_thing", "_law_due"] (defScope st__law_is) := ⟨rfl, rfl, rfl, by decide +kernel, rfl, by decide +kernel, by decide +kernel⟩
theorem ok__law_is (T : Txt K mg) (B_is_rights : FnB P w K mg base CX0 1 "is_rights" ["text"] (sp1 (pIsRights K))) {f : Addr} {fd : FuncData} (F : FunD K "_law_is" "_law_is" (defArgs st__law_is) (defBody st__law_is) (defScope st__law_is) [] [] f fd) : FnOk P w K mg base CX0 2 f fd ["_law_thing", "_law_due"] (sp2 (pIs K)) := by
  refine F.ok sc__law_is (fun vs H Q E h => ?_) (fun cdv A outer s H vs Q E hr h => ?_)
  · exact len2 h
  · obtain ⟨a, b, rfl, h⟩ := h
    have hu := hu_of hr
    have hu65 := hr.units
    refine ⟨_, PSs.nox ((pss_cons (ps_for PassesOwn.never rfl (pi_range1 rfl T.z_range (pa_cons pe_int pa_nil)) (pg_name (i := 2) sc__law_is.nd rfl (by first | exact Or.inl rfl | exact Or.inr rfl)) (pss_cons (ps_set (i := 3) sc__law_is.nd rfl (by first | exact Or.inl rfl | exact Or.inr rfl) (pe_callF B_is_rights (hr.mono (by decide)) pass0 (pa_cons (pv 0) pa_nil)))
    (pss_one (ps_if (PW.pt (pw_or (pt_not (pt_val (pe_callB (call_isiU (K := K)) (by rfl) T.z_isinstance (by decide +kernel) (pa_cons (pv 3) (pa_cons (pe_bltn (v := .ty "bool") (by rfl) T.z_bool (by decide +kernel) rfl) pa_nil))))) (pw_or1 (pt_cmpR (op_neU (K := K) hu65) (pv 3) (pv 1) (nomark _))))) (pss_one (ps_ret pe_bl)) pss_nil))))
    (pss_one (ps_ret pe_bl)))), ?_⟩
    try dsimp only [cxOf]
    rw [show L2.start ["_law_thing", "_law_due", "_law_k", "_law_found"] [a, b] = [some a, some b, none, none] from rfl]
    obtain ⟨ht, rfl, k⟩ := h
    wtm_at "r"
    refine u_itR1 (by decide) (by decide) ?_
    refine for_yl yl_range (fun i σ' H' => ∃ v u, σ' = [some a, some (.bl (rightsV a)), v, u] ∧ Same H H') ⟨_, _, rfl, Same.refl H⟩ (fun _ _ _ _ _ => trivial) ?_ ?_
    · rintro i x σ' H1 hx ⟨v, u, rfl, s1⟩
      obtain ⟨hi, rfl⟩ := rangeV_at hx
      wtm_at "r"
      refine ⟨Thing.same ht s1, fun H2 s2 => ?_⟩
      wtm_at "r"
      refine u_isTy (n := "bool") (r := true) (.base (.bl _)) (by decide +kernel) ?_
      wtm_at "r"
      refine if_f rfl ?_
      wtm_at "r"
      refine if_f (by simp) ?_
      wtm_at "r"
      exact ⟨_, _, rfl, s1.trans s2⟩
    · rintro σ' H1 ⟨v, u, rfl, s1⟩
      wtm_at "r"
      exact k H1 s1
theorem u_is {K : PySem.W.Frag} {x : V} {b : Bool} {H : Hp} {Q : VK} {E : XK} (ht : Thing K H x) (e : rightsV x = b) (k : ∀ H', Same H H' → Q (.bl true) H') : pIs K x (.bl b) H Q E := ⟨ht, by rw [e], k⟩
/-- all these are no names -/
def Bad (K : PySem.W.Frag) (H : Hp) (xs : List V) : Prop := ∀ x ∈ xs, Thing K H x ∧ rightsV x = false
theorem Bad.nil {K : PySem.W.Frag} {H : Hp} : Bad K H [] := fun _ h => by cases h
theorem Bad.cons {K : PySem.W.Frag} {H : Hp} {x : V} {xs : List V} (h1 : Thing K H x ∧ rightsV x = false) (h2 : Bad K H xs) : Bad K H (x :: xs) := fun y hy => by
  rcases List.mem_cons.mp hy with rfl | h
  · exact h1
  · exact h2 y h
theorem Bad.same {K : PySem.W.Frag} {H H' : Hp} {xs : List V} (h : Bad K H xs) (s : Same H H') : Bad K H' xs := fun x hx => ⟨Thing.same (h x hx).1 s, (h x hx).2⟩
theorem bad_lst {K : PySem.W.Frag} {H : Hp} {p : Addr} {xs : List V} (h : H p = some (.lst xs)) : Thing K H (.ref p) ∧ rightsV (.ref p) = false := ⟨⟨"list", .base (.lst h), by decide +kernel⟩, rfl⟩
theorem bad_tup {K : PySem.W.Frag} {H : Hp} {p : Addr} {xs : List V} (h : H p = some (.tup xs)) : Thing K H (.ref p) ∧ rightsV (.ref p) = false := ⟨⟨"tuple", .base (.tup h), by decide +kernel⟩, rfl⟩
theorem bad_dK {K : PySem.W.Frag} {H : Hp} {p : Addr} {xs : List (Key × V)} (h : H p = some (.dK xs)) : Thing K H (.ref p) ∧ rightsV (.ref p) = false := ⟨⟨"dict", .base (.dK h), by decide +kernel⟩, rfl⟩
theorem bad_non {K : PySem.W.Frag} {H : Hp} : Thing K H .non ∧ rightsV .non = false := ⟨⟨"NoneType", .base .non, by decide +kernel⟩, rfl⟩
theorem bad_int {K : PySem.W.Frag} {H : Hp} {i : Int} : Thing K H (.int i) ∧ rightsV (.int i) = false := ⟨⟨"int", .base (.int i), by decide +kernel⟩, rfl⟩
theorem bad_bl {K : PySem.W.Frag} {H : Hp} {i : Bool} : Thing K H (.bl i) ∧ rightsV (.bl i) = false := ⟨⟨"bool", .base (.bl i), by decide +kernel⟩, rfl⟩

theorem bad_str {K : PySem.W.Frag} {H : Hp} {z : Str} (hl : z.length ≤ sizeLine) (h : rightsV (.str z) = false) : Thing K H (.str z) ∧ rightsV (.str z) = false := ⟨hl, h⟩
def goodV : V → Bool
  | .str t => decide (t.length ≤ 8) && (rightsV (.str t) && ((rightsV (.str (t ++ "l")) == decide (t = "")) && (!rightsV (.str (t ++ " ")) && (!rightsV (.str (" " ++ t)) && (decide (t = "") || !rightsV (.str (Txt.upper t)))))))
  | _ => false
theorem goods_ok : goods.all goodV = true := by decide +kernel
theorem good_at {v : V} (h : v ∈ goods) : ∃ t, v = .str t ∧ t.length ≤ 8 ∧ rightsV (.str t) = true ∧ rightsV (.str (t ++ "l")) = decide (t = "") ∧ rightsV (.str (t ++ " ")) = false ∧ rightsV (.str (" " ++ t)) = false ∧ (t ≠ "" → rightsV (.str (Txt.upper t)) = false) := by
  have e := List.all_eq_true.mp goods_ok v h
  cases v with
  | str t =>
    have e : (decide (t.length ≤ 8) && (rightsV (.str t) && ((rightsV (.str (t ++ "l")) == decide (t = "")) && (!rightsV (.str (t ++ " ")) && (!rightsV (.str (" " ++ t)) && (decide (t = "") || !rightsV (.str (Txt.upper t)))))))) = true := e
    simp only [Bool.and_eq_true, decide_eq_true_eq, beq_iff_eq, Bool.not_eq_true', Bool.or_eq_true] at e
    obtain ⟨e1, e2, e3, e4, e5, e6⟩ := e
    exact ⟨t, rfl, e1, e2, e3, e4, e5, fun n => e6.resolve_left n⟩
  | _ => cases e
theorem some_at : (([.str "l", .str "g", .str "w", .str "r", .str "L", .str " "] : List V).all fun _ => true) = true := rfl
def spLaw (K : PySem.W.Frag) : V → Hp → VK → XK → Prop := fun x H Q _ => ∃ (a : Addr) (ns : List Int), x = .ref a ∧ SqL K H a (ns.map V.int) ∧ ns.length ≤ 63 ∧ ∀ H', Q (.bl true) H'
theorem sc_law : FnScope ["_law_script", "_law_good", "_law_text", "_law_cell", "_law_state", "_law_k", "_law_thing"] ["_law_script"] (defScope st_law) := ⟨rfl, rfl, rfl, by decide +kernel, rfl, by decide +kernel, by decide +kernel⟩
theorem ok_law (T : Txt K mg) (B__law_is : FnB P w K mg base CX0 2 "_law_is" ["_law_thing", "_law_due"] (sp2 (pIs K))) (B__law_digit : FnB P w K mg base CX0 1 "_law_digit" ["_law_state", "_law_base"] spDigit) {f : Addr} {fd : FuncData} (F : FunD K "law" "law" (defArgs st_law) (defBody st_law) (defScope st_law) [] [] f fd) : FnOk P w K mg base CX0 3 f fd ["_law_script"] (sp1 (spLaw K)) := by
  refine F.ok sc_law (fun vs H Q E h => ?_) (fun cdv A outer s H vs Q E hr h => ?_)
  · exact len1 h
  · obtain ⟨a, rfl, h⟩ := h
    have hu := hu_of hr
    have hu65 := hr.units
    refine ⟨_, PSs.nox ((pss_cons (ps_set (i := 1) sc_law.nd rfl (by first | exact Or.inl rfl | exact Or.inr rfl) (pe_lst (pa_cons pe_str (pa_cons pe_str (pa_cons pe_str (pa_cons pe_str (pa_cons pe_str (pa_cons pe_str (pa_cons pe_str (pa_cons pe_str pa_nil))))))))))
    (pss_cons (ps_for PassesOwn.never rfl (pi_list (pv 1)) (pg_name (i := 2) sc_law.nd rfl (by first | exact Or.inl rfl | exact Or.inr rfl)) (pss_cons (ps_if (PW.pt (pw_or (pt_not (pt_val (pe_callF B__law_is (hr.mono (by decide)) pass0 (pa_cons (pv 2) (pa_cons pe_bl pa_nil))))) (pw_or (pt_not (pt_val (pe_callF B__law_is (hr.mono (by decide)) pass0 (pa_cons (pe_op (op_addU (K := K)) (pv 2) pe_str) (pa_cons (pe_cmpR (op_eqU (K := K) hu65) (pv 2) pe_str (nomark _)) pa_nil))))) (pw_or1 (pt_not (pt_val (pe_callF B__law_is (hr.mono (by decide)) pass0 (pa_cons (pe_op (op_addU (K := K)) (pv 2) pe_str) (pa_cons pe_bl pa_nil))))))))) (pss_one (ps_ret pe_bl)) pss_nil)
    (pss_cons (ps_if (PW.pt (pw_or (pt_not (pt_val (pe_callF B__law_is (hr.mono (by decide)) pass0 (pa_cons (pe_lst (pa_cons (pv 2) pa_nil)) (pa_cons pe_bl pa_nil))))) (pw_or (pt_not (pt_val (pe_callF B__law_is (hr.mono (by decide)) pass0 (pa_cons (pe_tup (pa_cons (pv 2) pa_nil)) (pa_cons pe_bl pa_nil))))) (pw_or1 (pt_not (pt_val (pe_callF B__law_is (hr.mono (by decide)) pass0 (pa_cons (pe_op (op_addU (K := K)) pe_str (pv 2)) (pa_cons pe_bl pa_nil))))))))) (pss_one (ps_ret pe_bl)) pss_nil)
    (pss_one (ps_if (PW.pt (pw_and (pt_cmpR (op_neU (K := K) hu65) (pv 2) pe_str (nomark _)) (pw_and1 (pt_not (pt_val (pe_callF B__law_is (hr.mono (by decide)) pass0 (pa_cons (pe_m0 PySem.F.slot_str_upper PySem.F.type_str_upper mt_upperN (pv 2)) (pa_cons pe_bl pa_nil)))))))) (pss_one (ps_ret pe_bl)) pss_nil)))))
    (pss_cons (ps_for PassesOwn.never rfl (pi_list (pe_slice (sl_U (K := K)) (pv 0) po_none (po_some pe_int))) (pg_name (i := 3) sc_law.nd rfl (by first | exact Or.inl rfl | exact Or.inr rfl)) (pss_cons (ps_set (i := 4) sc_law.nd rfl (by first | exact Or.inl rfl | exact Or.inr rfl) (pe_lst (pa_cons (pv 3) pa_nil)))
    (pss_cons (ps_set (i := 2) sc_law.nd rfl (by first | exact Or.inl rfl | exact Or.inr rfl) pe_str)
    (pss_cons (ps_for PassesOwn.never rfl (pi_range1 rfl T.z_range (pa_cons (pe_callF B__law_digit (hr.mono (by decide)) pass0 (pa_cons (pv 4) (pa_cons pe_int pa_nil))) pa_nil)) (pg_name (i := 5) sc_law.nd rfl (by first | exact Or.inl rfl | exact Or.inr rfl)) (pss_one (ps_set (i := 2) sc_law.nd rfl (by first | exact Or.inl rfl | exact Or.inr rfl) (pe_op (op_addU (K := K)) (pv 2) (pe_ix (ix_U (K := K)) pe_str (pe_callF B__law_digit (hr.mono (by decide)) pass0 (pa_cons (pv 4) (pa_cons pe_int pa_nil))) (fun _ _ => rfl))))))
    (pss_one (ps_if (pt_not (pt_val (pe_callF B__law_is (hr.mono (by decide)) pass0 (pa_cons (pv 2) (pa_cons (pe_cmpR (op_inU (K := K) hu) (pv 2) (pv 1) (by rfl)) pa_nil))))) (pss_one (ps_ret pe_bl)) pss_nil))))))
    (pss_cons (ps_for PassesOwn.never rfl (pi_list (pe_lst (pa_cons pe_non (pa_cons pe_int (pa_cons pe_int (pa_cons pe_bl (pa_cons pe_bl (pa_cons (pe_lst pa_nil) (pa_cons (pe_tup pa_nil) (pa_cons pe_dnewK (pa_cons (pe_lst (pa_cons pe_str (pa_cons pe_str pa_nil))) (pa_cons pe_str (pa_cons pe_str (pa_cons pe_str (pa_cons pe_str (pa_cons pe_str (pa_cons pe_str pa_nil))))))))))))))))) (pg_name (i := 6) sc_law.nd rfl (by first | exact Or.inl rfl | exact Or.inr rfl)) (pss_one (ps_if (pt_not (pt_val (pe_callF B__law_is (hr.mono (by decide)) pass0 (pa_cons (pv 6) (pa_cons pe_bl pa_nil))))) (pss_one (ps_ret pe_bl)) pss_nil)))
    (pss_one (ps_ret pe_bl))))))), ?_⟩
    try dsimp only [cxOf]
    rw [show L2.start ["_law_script", "_law_good", "_law_text", "_law_cell", "_law_state", "_law_k", "_law_thing"] [a] = [some a, none, none, none, none, none, none] from rfl]
    obtain ⟨p, ns, rfl, hS, hlen, k⟩ := h
    wtm_at "r"
    refine ⟨by wtm_at "sz", fun g hg => ?_⟩
    wtm_at "r"
    refine u_itL (SqL.of upd_same) ?_
    have hg0 : upd H g (.lst goods) g = some (.lst goods) := upd_same
    have hS0 := (same_new (o := .lst goods) hg).seq hS
    generalize upd H g (.lst goods) = H0 at hg0 hS0 ⊢
    refine for_yl yl_list (fun i σ' H' => ∃ v2, σ' = [some (.ref p), some (.ref g), v2, none, none, none, none] ∧ Same H0 H') ⟨_, rfl, Same.refl _⟩ (fun i σ' H' _ ⟨_, _, s⟩ => SqL.of (s _ _ hg0)) ?_ ?_
    · rintro i x σ' H1 hx ⟨v2, rfl, s1⟩
      obtain ⟨t, rfl, t8, t1, t2, t3, t4, t5⟩ := good_at (List.mem_of_getElem? hx)
      have ll : ("l" : Str).length = 1 := by decide +kernel
      have lb : (" " : Str).length = 1 := by decide +kernel
      have lt : t.length ≤ sizeLine := by wtm_at "sz"
      wtm_at "r"
      refine u_is lt t1 fun H2 s2 => ?_
      wtm_at "r"
      refine if_f rfl ?_
      wtm_at "r"
      refine u_add_str (by rw [ll]; wtm_at "sz") ?_
      wtm_at "r"
      refine u_is (by show _ ≤ sizeLine; rw [len_app, ll]; wtm_at "sz") t2 fun H3 s3 => ?_
      wtm_at "r"
      refine if_f rfl ?_
      wtm_at "r"
      refine u_add_str (by rw [lb]; wtm_at "sz") ?_
      wtm_at "r"
      refine u_is (by show _ ≤ sizeLine; rw [len_app, lb]; wtm_at "sz") t3 fun H4 s4 => ?_
      wtm_at "r"
      refine if_f rfl ?_
      wtm_at "r"
      refine ⟨by wtm_at "sz", fun a1 n1 => ?_⟩
      wtm_at "r"
      obtain ⟨b1, b2⟩ := bad_lst (K := K) (H := upd H4 a1 (.lst [.str t])) upd_same
      refine u_is b1 b2 fun H5 s5 => ?_
      wtm_at "r"
      refine if_f rfl ?_
      wtm_at "r"
      refine ⟨by wtm_at "sz", fun a2 n2 => ?_⟩
      wtm_at "r"
      obtain ⟨b1, b2⟩ := bad_tup (K := K) (H := upd H5 a2 (.tup [.str t])) upd_same
      refine u_is b1 b2 fun H6 s6 => ?_
      wtm_at "r"
      refine if_f rfl ?_
      wtm_at "r"
      refine u_add_str (by rw [lb]; wtm_at "sz") ?_
      wtm_at "r"
      refine u_is (by show _ ≤ sizeLine; rw [len_app, lb]; wtm_at "sz") t4 fun H7 s7 => ?_
      have s8 : Same H0 H7 := (((((s1.trans s2).trans s3).trans s4).trans (Same.trans (same_new n1) s5)).trans (Same.trans (same_new n2) s6)).trans s7
      wtm_at "r"
      refine if_f rfl ?_
      wtm_at "r"
      refine if_2 (fun hn => ?_) (fun hn => ?_)
      · have hn : t ≠ "" := by simpa using hn
        wtm_at "r"
        refine u_upper (by omega) ?_
        wtm_at "r"
        refine u_is (le_line (by have := PyProof.Rows.len_upper t; omega)) (t5 hn) fun H8 s9 => ?_
        wtm_at "r"
        refine if_f rfl ?_
        wtm_at "r"
        exact ⟨_, rfl, s8.trans s9⟩
      · refine if_f rfl ?_
        wtm_at "r"
        exact ⟨_, rfl, s8⟩
    · rintro σ' H1 ⟨v2, rfl, s1⟩
      wtm_at "r"
      refine u_slL (s1.seq hS0) (fun m hm => ?_)
      refine u_itL (SqL.of upd_same) ?_
      have hit : ∀ x ∈ cutV (ns.map V.int) none (some 30), ∃ c : Int, x = .int c := fun x h => by
        obtain ⟨c, _, e⟩ := List.mem_map.mp (List.mem_of_mem_drop (List.mem_of_mem_take h))
        exact ⟨c, e.symm⟩
      have hm0 : upd H1 m (.lst (cutV (ns.map V.int) none (some 30))) m = some (.lst (cutV (ns.map V.int) none (some 30))) := upd_same
      have hg1 := same_new (o := .lst (cutV (ns.map V.int) none (some 30))) hm _ _ (s1 _ _ hg0)
      generalize upd H1 m (.lst (cutV (ns.map V.int) none (some 30))) = H2 at hm0 hg1 ⊢
      refine for_yl yl_list (fun i σ' H' => ∃ v2 v3 v4 v5, σ' = [some (.ref p), some (.ref g), v2, v3, v4, v5, none] ∧ Same H2 H') ⟨_, _, _, _, rfl, Same.refl _⟩ (fun i σ' H' _ ⟨_, _, _, _, _, s⟩ => SqL.of (s _ _ hm0)) ?_ ?_
      · rintro i x σ' H3 hx ⟨v2, v3, v4, v5, rfl, s3⟩
        obtain ⟨c, rfl⟩ := hit x (List.mem_of_getElem? hx)
        wtm_at "r"
        refine ⟨by wtm_at "sz", fun st hst => ?_⟩
        have n2 : H2 st = none := s3.free hst
        have s4 : Same H2 (upd H3 st (.lst [.int c])) := Same.newer s3 hst
        wtm_at "r"
        refine u_digit upd_same (.inl ⟨c, rfl⟩) (by decide) fun r xs1 H4 r0 r1 so1 b1 h1 => ?_
        have s5 : Same H2 H4 := Same.butOf s4 b1 n2
        wtm_at "r"
        refine u_itR1 (by omega) (by omega) ?_
        refine for_yl yl_range (fun i σ' H' => ∃ (t : Str) (xs' : List V) (v5 : Option V), σ' = [some (.ref p), some (.ref g), some (.str t), some (.int c), some (.ref st), v5, none] ∧ t.length = i ∧ StOk xs' ∧ H' st = some (.lst xs') ∧ Same H2 H') ⟨"", xs1, _, rfl, rfl, so1, h1, s5⟩ (fun _ _ _ _ _ => trivial) ?_ ?_
        · rintro j x σ' H5 hx ⟨t, xs2, v5, rfl, ht, so2, h2, s6⟩
          obtain ⟨hi, rfl⟩ := rangeV_at hx
          wtm_at "r"
          refine u_digit h2 so2 (by decide) fun q xs3 H6 q0 q1 so3 b3 h3 => ?_
          wtm_at "r"
          obtain ⟨d, hd, hm⟩ := atI_ex (xs := ("lgwrL " : Str).cps.toList) q0 (by rw [show ("lgwrL " : Str).cps.toList.length = 6 by decide +kernel]; exact q1)
          refine u_ixS (by decide +kernel) hd ?_
          refine u_add_str (by rw [len_one]; wtm_at "sz") ?_
          wtm_at "r"
          exact ⟨_, xs3, _, rfl, by rw [len_app, len_one, ht], so3, h3, Same.butOf s6 b3 n2⟩
        · rintro σ' H5 ⟨t, xs2, v5, rfl, ht, so2, h2, s6⟩
          rw [rangeV_len] at ht
          wtm_at "r"
          refine u_inL (SqL.of (s6 _ _ hg1)) rfl rfl ?_
          wtm_at "r"
          refine u_is (by show t.length ≤ sizeLine; wtm_at "sz") rfl fun H6 s7 => ?_
          wtm_at "r"
          refine if_f rfl ?_
          wtm_at "r"
          exact ⟨_, _, _, _, rfl, s6.trans s7⟩
      · rintro σ' H3 ⟨v2, v3, v4, v5, rfl, s3⟩
        wtm_at "r"
        refine ⟨by wtm_at "sz", fun a1 n1 => ?_⟩
        wtm_at "r"
        refine ⟨by wtm_at "sz", fun a2 n2 => ?_⟩
        wtm_at "r"
        refine s_dnewK fun a3 n3 => ?_
        wtm_at "r"
        refine ⟨by wtm_at "sz", fun a4 n4 => ?_⟩
        wtm_at "r"
        refine ⟨by wtm_at "sz", fun a5 n5 => ?_⟩
        wtm_at "r"
        refine u_itL (SqL.of upd_same) ?_
        have sB := same_new (o := .tup []) n2
        have sC := same_new (o := .dK []) n3
        have sD := same_new (o := .lst [.str "l", .str "g"]) n4
        have sE := same_new (o := .lst [.non, .int 0, .int 3, .bl true, .bl false, .ref a1, .ref a2, .ref a3, .ref a4, .str "gl", .str "wl", .str "ll", .str "lgwl", .str "rwx", .str "-"]) n5
        have bad := Bad.cons bad_non (.cons (bad_int (i := 0)) (.cons (bad_int (i := 3)) (.cons (bad_bl (i := true)) (.cons (bad_bl (i := false)) (.cons (bad_lst (K := K) (sE _ _ (sD _ _ (sC _ _ (sB _ _ upd_same))))) (.cons (bad_tup (sE _ _ (sD _ _ (sC _ _ upd_same)))) (.cons (bad_dK (sE _ _ (sD _ _ upd_same))) (.cons (bad_lst (sE _ _ upd_same))
          (.cons (bad_str (z := "gl") (by decide +kernel) (by decide +kernel)) (.cons (bad_str (z := "wl") (by decide +kernel) (by decide +kernel)) (.cons (bad_str (z := "ll") (by decide +kernel) (by decide +kernel)) (.cons (bad_str (z := "lgwl") (by decide +kernel) (by decide +kernel)) (.cons (bad_str (z := "rwx") (by decide +kernel) (by decide +kernel)) (.cons (bad_str (z := "-") (by decide +kernel) (by decide +kernel)) Bad.nil))))))))))))))
        have h8 := upd_same (H := upd (upd (upd (upd H3 a1 (.lst [])) a2 (.tup [])) a3 (.dK [])) a4 (.lst [.str "l", .str "g"])) (a := a5) (o := .lst [.non, .int 0, .int 3, .bl true, .bl false, .ref a1, .ref a2, .ref a3, .ref a4, .str "gl", .str "wl", .str "ll", .str "lgwl", .str "rwx", .str "-"])
        generalize upd (upd (upd (upd (upd H3 a1 (.lst [])) a2 (.tup [])) a3 (.dK [])) a4 (.lst [.str "l", .str "g"])) a5 (.lst [.non, .int 0, .int 3, .bl true, .bl false, .ref a1, .ref a2, .ref a3, .ref a4, .str "gl", .str "wl", .str "ll", .str "lgwl", .str "rwx", .str "-"]) = H8 at bad h8 ⊢
        refine for_yl yl_list (fun i σ' H' => ∃ v6, σ' = [some (.ref p), some (.ref g), v2, v3, v4, v5, v6] ∧ Same H8 H') ⟨_, rfl, Same.refl _⟩ (fun i σ' H' _ ⟨_, _, s⟩ => SqL.of (s _ _ h8)) ?_ ?_
        · rintro i x σ' H9 hx ⟨v6, rfl, s9⟩
          have hb := bad.same s9 x (List.mem_of_getElem? hx)
          wtm_at "r"
          refine u_is hb.1 hb.2 fun H10 s10 => ?_
          wtm_at "r"
          refine if_f rfl ?_
          wtm_at "r"
          exact ⟨_, rfl, s9.trans s10⟩
        · rintro σ' H9 ⟨v6, rfl, s9⟩
          wtm_at "r"
          exact k _
end
def d_is_rights : He.DefD := ⟨("is_rights", none), "is_rights", "is_rights", defArgs st_is_rights, defBody st_is_rights, defScope st_is_rights, [], []⟩
def d__law_digit : He.DefD := ⟨("_law_digit", none), "_law_digit", "_law_digit", defArgs st__law_digit, defBody st__law_digit, defScope st__law_digit, [], []⟩
def d__law_is : He.DefD := ⟨("_law_is", none), "_law_is", "_law_is", defArgs st__law_is, defBody st__law_is, defScope st__law_is, [], []⟩
def d_law : He.DefD := ⟨("law", none), "law", "law", defArgs st_law, defBody st_law, defScope st_law, [], []⟩
def dfs : List He.DefD := [d_is_rights, d__law_digit, d__law_is, d_law]
def fas : List He.Fa := [.free "bool", .free "isinstance", .free "len", .free "range", .free "str", .glo "is_rights", .glo "_law_digit", .glo "_law_is", .glo "law"]
abbrev R : PySem.W.OpenRow := PySem.W.OpenLaw.row PySem.Challenge.rw_leadnames_k02_what_are_rights
abbrev hk : PySem.W.Hook := He.hookD 4 fas dfs
def ob (s : PySem.W.SharedT) : He.AlD := He.obsDG 4 fas dfs (HandSHeadRun.getT s)
theorem ob_eq (s : PySem.W.SharedT) : ob s = hk.obs s.abs := He.obsDG_eq (HandSHeadRun.getT_eq s)
set_option maxHeartbeats 0 in
theorem run (w : World) : HandSHeadRun.RunEq R (PySem.W.view R.prog [6]) hk ob 680 ["is_rights", "_law_cell_at", "_law_digit", "_law_is"] w := by
  intro os
  kernel_rfl
theorem facts {P : Program} {w : World} {K : PySem.W.Frag} {h : Heap} {mg : Str → Option Value} {f : Addr} (X : K.In h) (G : h.Ns mainGlobals mg) (hfa : mg ("law" : Str) = some (.ref f)) (c : He.SaysD fas dfs K) :
    ∃ fd : FuncData, (∀ (s : Shared) (v : Value), BindsTo s fd ⟨[v], []⟩ [("_law_script", v)]) ∧ ∀ base : Heap, K.In base → base.Ns mainGlobals mg → FnOk P w K mg base CX0 3 f fd ["_law_script"] (sp1 (spLaw K)) := by
  have T : Txt K mg := { z_bool := He.free_ok X G (c.fact 0 (f := .free "bool") rfl), z_isinstance := He.free_ok X G (c.fact 1 (f := .free "isinstance") rfl), z_len := He.free_ok X G (c.fact 2 (f := .free "len") rfl), z_range := He.free_ok X G (c.fact 3 (f := .free "range") rfl), z_str := He.free_ok X G (c.fact 4 (f := .free "str") rfl) }
  obtain ⟨fd_is_rights, F_is_rights⟩ := c.def_ 0 (d := d_is_rights) rfl
  obtain ⟨fd__law_digit, F__law_digit⟩ := c.def_ 1 (d := d__law_digit) rfl
  obtain ⟨fd__law_is, F__law_is⟩ := c.def_ 2 (d := d__law_is) rfl
  obtain ⟨fd_law, F_law⟩ := c.def_ 3 (d := d_law) rfl
  have g_is_rights := He.glo_ok X G (c.fact 5 (f := .glo "is_rights") rfl)
  have g__law_digit := He.glo_ok X G (c.fact 6 (f := .glo "_law_digit") rfl)
  have g__law_is := He.glo_ok X G (c.fact 7 (f := .glo "_law_is") rfl)
  have g_law := He.glo_ok X G (c.fact 8 (f := .glo "law") rfl)
  have e := hfa.symm.trans g_law
  cases e
  have B_is_rights : ∀ base, FnB P w K mg base CX0 1 "is_rights" ["text"] (sp1 (pIsRights K)) := fun base => ⟨_, _, ok_is_rights T  F_is_rights, g_is_rights, F_is_rights.kp, FunD.bindsN F_is_rights fun _ _ _ _ _ _ us hl => match us, hl with | [_], _ => rfl⟩
  have B__law_digit : ∀ base, FnB P w K mg base CX0 1 "_law_digit" ["_law_state", "_law_base"] spDigit := fun base => ⟨_, _, ok__law_digit T  F__law_digit, g__law_digit, F__law_digit.kp, FunD.bindsN F__law_digit fun _ _ _ _ _ _ us hl => match us, hl with | [_, _], _ => rfl⟩
  have B__law_is : ∀ base, FnB P w K mg base CX0 2 "_law_is" ["_law_thing", "_law_due"] (sp2 (pIs K)) := fun base => ⟨_, _, ok__law_is T (B_is_rights base) F__law_is, g__law_is, F__law_is.kp, FunD.bindsN F__law_is fun _ _ _ _ _ _ us hl => match us, hl with | [_, _], _ => rfl⟩
  have b := FunD.bindsA (ps := ["_law_script"]) F_law fun _ _ _ _ _ _ us hl => match us, hl with | [_], _ => rfl
  exact ⟨fd_law, fun s v => b s [v] rfl, fun base _ _ => ok_law T (B__law_is base) (B__law_digit base) F_law⟩
end LN
open PySem PySem.W PySem.Calls PyProof.Rows
set_option maxHeartbeats 0 in
theorem PySem.Challenge.cw_leadnames_k02_what_are_rights_holds : PySem.Challenge.rw_leadnames_k02_what_are_rights.Holds := by
  w_on; o_law
  refine HandSHeadRun.head_any (r := OpenLaw.row PySem.Challenge.rw_leadnames_k02_what_are_rights) (q := view (OpenLaw.row PySem.Challenge.rw_leadnames_k02_what_are_rights).prog [6]) (H := LN.hk) (ob := LN.ob) (M := 680) (loose := ["is_rights", "_law_cell_at", "_law_digit", "_law_is"]) (d := HandSHeadRun.topDef (OpenLaw.row PySem.Challenge.rw_leadnames_k02_what_are_rights).prog 6) (kwd := []) LN.ob_eq
    (by kernel_rfl) (fun s => by kernel_rfl) LN.run (by kernel_rfl) (by kernel_rfl) (by kernel_rfl) (by rfl) (by first | assumption | decide +kernel) (by decide +kernel) ⟨rfl, rfl, rfl, rfl, rfl, by decide +kernel⟩ ?hw ?hc
  case hw => w_witness2
  case hc =>
    refine L2.walk_ofE (l := PySem.Challenge.rw_leadnames_k02_what_are_rights) (n := 63) (k := 3) (x := "_law_script") (CX := L2.CX0) rfl (by decide) (by kernel_rfl) ⟨rfl, by decide, by decide⟩ ?F (fun _ _ _ _ z => z)
    intro w mg fa h Y G hmg0
    obtain ⟨K, KX, c⟩ := Y
    have hmg : mg ("law" : PySem.Str) = some (.ref fa) := by
      have e : (HandSHeadRun.topDef (OpenLaw.row PySem.Challenge.rw_leadnames_k02_what_are_rights).prog 6).name = ("law" : PySem.Str) := by kernel_rfl
      rw [← e]
      exact hmg0
    obtain ⟨fd, hb, hF⟩ := LN.facts (P := (PySem.Challenge.rw_leadnames_k02_what_are_rights).prog) (w := w) KX G hmg c
    exact ⟨K, fd, LN.sp1 (LN.spLaw K), KX, hb, fun H a ns hl _ hS => ⟨_, rfl, a, ns, rfl, hS, hl, fun _ => rfl⟩, hF⟩
#print axioms PySem.Challenge.cw_leadnames_k02_what_are_rights_holds
