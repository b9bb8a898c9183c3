import PyProof.Rows.All
import Wide.All
import OpenK.AllK
import Wide.FinOn
import PyProof.EqAt
import PyProof.EqKinds
import PyProof.TupleCall
import HandS.Base
import HandS.Call
import HandS.List
import HandS.Comp
import HandS.Ends
import HandS.Dict
import HandS.Iter
import HandS.Text
import HandS.Exc
import HandS.ExcOwn
import HandS.TryOnly
import HandS.IsInst
import HandS.Flow
import HandS.Defaults
import HandS.SortInts
import HandS.Evl
import HandS.Words
import HandS.WordsList
import HandS.WordsDict
import HandS.WordsExc
import HandS.Head0
import HandS.Head1
import HandS.Head2
import HandS.HeadEnd
import HandS.HeadHook1
import HandS.HeadHook2
import PySem.Challenge.RW_leadnames_k03_parts_of_paths
set_option Elab.async false
set_option linter.all false
set_option maxRecDepth 100000
set_option maxHeartbeats 4000000
/-! the kit of these proofs: readings in steps -/
namespace LN
open PySem PySem.Spec PyProof.Rows L2 TL

/-! ### heaps -/
/-- all but the object at a is as it was -/
def But (a : Addr) (H H' : Hp) : Prop := ∀ b o, b ≠ a → H b = some o → H' b = some o
theorem But.of_same {a : Addr} {H H' : Hp} (s : Same H H') : But a H H' := fun b o _ h => s b o h
theorem But.trans {a : Addr} {H H1 H2 : Hp} (x : But a H H1) (y : But a H1 H2) : But a H H2 := fun b o n h => y b o n (x b o n h)
theorem same_new {H : Hp} {p : Addr} {o : HO} (h : H p = none) : Same H (upd H p o) := fun b u e => by rw [upd_ne (ne_of_none e h)]; exact e
theorem Same.newer {H H' : Hp} {p : Addr} {o : HO} (s : Same H H') (h : H' p = none) : Same H (upd H' p o) := s.trans (same_new h)
/-- a thing that H did not know may be written -/
theorem Same.wr {H H' : Hp} {p : Addr} {o : HO} (s : Same H H') (h : H p = none) : Same H (upd H' p o) := fun b u e => by rw [upd_ne (ne_of_none e h)]; exact s b u e
theorem But.wr {a : Addr} {H H' : Hp} {o : HO} (s : But a H H') : But a H (upd H' a o) := fun b u n e => by rw [upd_ne n]; exact s b u n e
theorem But.newer {a : Addr} {H H' : Hp} {p : Addr} {o : HO} (s : But a H H') (h : H' p = none) : But a H (upd H' p o) := fun b u n e => by rw [upd_ne (ne_of_none (s b u n e) h)]; exact s b u n e
theorem Same.butOf {a : Addr} {H H1 H2 : Hp} (s : Same H H1) (b : But a H1 H2) (n : H a = none) : Same H H2 := fun c o e => b c o (ne_of_none e n) (s c o e)
theorem lt_line {n : Nat} (h : n < 16000000) : n < sizeLine := by rw [sizeLine_eq]; omega
theorem le_line {n : Nat} (h : n < 16000000) : n ≤ sizeLine := by rw [sizeLine_eq]; omega

/-! ### steps: statements -/
section
variable {σ : L2.St} {H : Hp} {Q : VK} {n b c : L2.St → Hp → Prop} {r : VK}
theorem s_seq {t u : TS} (h : t (Ends.mk (u (Ends.mk n r b c)) r b c) σ H) : tSeq t u (Ends.mk n r b c) σ H := h
theorem s_cut {t u : TS} (M : L2.St → Hp → Prop) (h1 : t (Ends.mk M r b c) σ H) (h2 : ∀ σ' H', M σ' H' → u (Ends.mk n r b c) σ' H') : Evl.tCut t u (Ends.mk n r b c) σ H := ⟨M, h1, h2⟩
theorem s_next (h : n σ H) : tNext (Ends.mk n r b c) σ H := h
theorem s_brk (h : b σ H) : tBreak (Ends.mk n r b c) σ H := h
theorem s_cont (h : c σ H) : tCont (Ends.mk n r b c) σ H := h
theorem s_asg {te : TE} {g : TG} (h : te σ H fun x H1 => g x σ H1 n) : tAsg te g (Ends.mk n r b c) σ H := h
theorem s_name {i : Nat} {v : V} {q : L2.St → Hp → Prop} (h : q (σ.set i (some v)) H) : gName i v σ H q := h
theorem s_ret {te : TE} (h : te σ H r) : tRet te (Ends.mk n r b c) σ H := h
theorem s_retN (h : r .non H) : tRetN (Ends.mk n r b c) σ H := h
theorem s_drop {te : TE} (h : te σ H fun _ H1 => n σ H1) : tDrop te (Ends.mk n r b c) σ H := h
theorem s_if {t : TT} {x y : TS} (h : t σ H fun k H1 => if k = true then x (Ends.mk n r b c) σ H1 else y (Ends.mk n r b c) σ H1) : tIfS t x y (Ends.mk n r b c) σ H := h
theorem s_fldput {K : PySem.W.Frag} {ta tv : TE} {f : Str} (h : tv σ H fun y H1 => ta σ H1 fun x H2 => ∃ a C dx fs, x = .ref a ∧ H2 a = some (.ins C dx fs) ∧ Cls K C ∧ NoAttr K C f ∧ fs.length < 1000 ∧ n σ (upd H2 a (.ins C dx (putF f y fs)))) : sFld K ta tv f (Ends.mk n r b c) σ H := h
/-! ### steps: expressions -/
theorem s_var {i : Nat} {v : V} (e : σ[i]? = some (some v)) (h : Q v H) : tVar i σ H Q := ⟨v, e, h⟩
theorem s_c {v : V} (h : Q v H) : tC v σ H Q := h
theorem s_op {f : R2} {ta tb : TE} (h : ta σ H fun x H1 => tb σ H1 fun y H2 => f x y H2 Q) : tOp f ta tb σ H Q := h
theorem s_un {f : V → Hp → VK → Prop} {ta : TE} (h : ta σ H fun x H1 => f x H1 Q) : tUn f ta σ H Q := h
theorem s_cb {f : List V → Hp → VK → Prop} {t : TA} (h : t σ H fun vs H1 => f vs H1 Q) : tCB f t σ H Q := h
theorem s_call {sp : Sp} {dvs : List V} {E : XK} {t : TA} (h : t σ H fun vs H1 => sp (vs ++ dvs) H1 Q E) : tCall sp dvs E t σ H Q := h
theorem s_nil {q : List V → Hp → Prop} (h : q [] H) : tNil σ H q := h
theorem s_cons {ta : TE} {tr : TA} {q : List V → Hp → Prop} (h : ta σ H fun x H1 => tr σ H1 fun xs H2 => q (x :: xs) H2) : tCons ta tr σ H q := h
theorem s_tup {t : TA} (h : t σ H fun xs H1 => xs.length ≤ sizeLine ∧ ∀ p, H1 p = none → Q (.ref p) (upd H1 p (.tup xs))) : tTup t σ H Q := h
theorem s_lst {t : TA} (h : t σ H fun xs H1 => xs.length ≤ sizeLine ∧ ∀ p, H1 p = none → Q (.ref p) (upd H1 p (.lst xs))) : tLst t σ H Q := h
theorem s_test {te : TE} {q : Bool → Hp → Prop} (h : te σ H fun x H1 => ∃ k, x = .bl k ∧ q k H1) : tTest te σ H q := h
theorem s_tB {te : TE} {q : Bool → Hp → Prop} (h : te σ H fun x H1 => ∃ k, x = .bl k ∧ q k H1) : tB te σ H q := h
theorem s_bl {k : Bool} {q : Bool → Prop} (h : q k) : ∃ k', V.bl k = .bl k' ∧ q k' := ⟨k, rfl, h⟩
theorem s_and {t u : TT} {q : Bool → Hp → Prop} (h : t σ H fun k H1 => if k = true then u σ H1 q else q false H1) : tAnd t u σ H q := h
theorem s_or {t u : TT} {q : Bool → Hp → Prop} (h : t σ H fun k H1 => if k = true then q true H1 else u σ H1 q) : tOr t u σ H q := h
theorem s_not {t : TT} {q : Bool → Hp → Prop} (h : t σ H fun k H1 => q (!k) H1) : tNot t σ H q := h
theorem s_ifExp {t : TT} {ta tb : TE} (h : t σ H fun k H1 => if k = true then ta σ H1 Q else tb σ H1 Q) : tIf t ta tb σ H Q := h
theorem s_andV {ta tb : TE} (h : ta σ H fun x H1 => ∃ k, x = .bl k ∧ if k = true then tb σ H1 Q else Q (.bl false) H1) : tAndV ta tb σ H Q := h
theorem s_orV {ta tb : TE} (h : ta σ H fun x H1 => ∃ k, x = .bl k ∧ if k = true then Q (.bl true) H1 else tb σ H1 Q) : tOrV ta tb σ H Q := h
theorem s_notV {ta : TE} (h : ta σ H fun x H1 => ∃ k, x = .bl k ∧ Q (.bl (!k)) H1) : tNotV ta σ H Q := h
theorem s_sl {f : V → Option Int → Option Int → Hp → VK → Prop} {te : TE} {tl th : TO} (h : te σ H fun x H1 => tl σ H1 fun l H2 => th σ H2 fun u H3 => f x l u H3 Q) : tSl f te tl th σ H Q := h
theorem s_nopart {q : Option Int → Hp → Prop} (h : q none H) : tNoPart σ H q := h
theorem s_part {t : TE} {q : Option Int → Hp → Prop} (h : t σ H fun x H1 => ∃ i, x = .int i ∧ q (some i) H1) : tPart t σ H q := h
theorem s_int {i : Int} {q : Int → Prop} (h : q i) : ∃ j, V.int i = .int j ∧ q j := ⟨i, rfl, h⟩
theorem s_bm {K : PySem.W.Frag} {T : String} {f : V → List V → Hp → VK → Prop} {to : TE} {t : TA} (h : to σ H fun x H1 => tyV K T x H1 ∧ t σ H1 fun xs H2 => f x xs H2 Q) : tBM K T f to t σ H Q := h
theorem s_bm0 {K : PySem.W.Frag} {T : String} {f : V → List V → Hp → VK → Prop} {to : TE} (h : to σ H fun x H1 => tyV K T x H1 ∧ f x [] H1 Q) : tBM0 K T f to σ H Q := h
theorem s_m1 {f : V → List V → Hp → VK → Prop} {to te : TE} (h : to σ H fun x H1 => (∃ a, x = .str a) ∧ te σ H1 fun y H2 => f x [y] H2 Q) : tM1 f to te σ H Q := h
theorem s_m0 {f : V → List V → Hp → VK → Prop} {to : TE} (h : to σ H fun x H1 => (∃ a, x = .str a) ∧ f x [] H1 Q) : tM0 f to σ H Q := h
/-! ### tests that are known -/
theorem if_t {k : Bool} {A B : Prop} (e : k = true) (h : A) : if k = true then A else B := by rw [if_pos e]; exact h
theorem if_f {k : Bool} {A B : Prop} (e : k = false) (h : B) : if k = true then A else B := by rw [e, if_neg Bool.false_ne_true]; exact h
theorem if_2 {k : Bool} {A B : Prop} (h1 : k = true → A) (h2 : k = false → B) : if k = true then A else B := by
  cases k with
  | true => rw [if_pos rfl]; exact h1 rfl
  | false => rw [if_neg Bool.false_ne_true]; exact h2 rfl
end
/-! ### operators, whatever the values -/
section
variable {X : Cx} {K : PySem.W.Frag}
def rAddS0 : R2 := fun x y H Q => ∃ i j, x = .str i ∧ y = .str j ∧ i.length + j.length ≤ sizeLine ∧ Q (.str (i ++ j)) H
def uAdd (K : PySem.W.Frag) : R2 := fun x y H Q => rI0 (fun i j => .int (i + j)) x y H Q ∨ rAddS0 x y H Q ∨ rCat x y H Q ∨ rCatT K x y H Q
theorem op_addU (hK : X.K = K := by rfl) : OpR X (binaryOp .Add) (uAdd K) := hK ▸ op_add.or (OpR.or (r := rAddS0) op_add_str (op_cat.or op_catT))
theorem u_add_int {i j : Int} {H : Hp} {Q : VK} (h : Q (.int (i + j)) H) : uAdd K (.int i) (.int j) H Q := .inl ⟨i, j, rfl, rfl, h⟩
theorem u_add_str {i j : Str} {H : Hp} {Q : VK} (hl : i.length + j.length ≤ sizeLine) (h : Q (.str (i ++ j)) H) : uAdd K (.str i) (.str j) H Q := .inr (.inl ⟨i, j, rfl, rfl, hl, h⟩)
theorem u_add_lst {l m : Addr} {xs zs : List V} {H : Hp} {Q : VK} (h1 : H l = some (.lst xs)) (h2 : H m = some (.lst zs)) (hl : xs.length + zs.length ≤ sizeLine) (h : ∀ p, H p = none → Q (.ref p) (upd H p (.lst (xs ++ zs)))) :
    uAdd K (.ref l) (.ref m) H Q := .inr (.inr (.inl ⟨l, m, xs, zs, rfl, rfl, h1, h2, hl, h⟩))
/-- == and != -/
def uEq (K : PySem.W.Frag) : R2 := fun x y H Q => rEq x y H Q ∨ rEqD K x y H Q
def uNe (K : PySem.W.Frag) : R2 := fun x y H Q => rNe x y H Q ∨ rNeD K x y H Q
theorem op_eqU (hu : X.A.units + 64 < cLine) (hK : X.K = K := by rfl) : OpR X (compareOp .Eq) (uEq K) := hK ▸ op_eq.or (op_eqD hu)
theorem op_neU (hu : X.A.units + 64 < cLine) (hK : X.K = K := by rfl) : OpR X (compareOp .NotEq) (uNe K) := hK ▸ op_ne.or (op_neD hu)
theorem u_eq {x y : V} {H : Hp} {Q : VK} (hs : scal x y = true) (h : Q (.bl (decide (x = y))) H) : uEq K x y H Q := .inl ⟨hs, h⟩
theorem u_ne {x y : V} {H : Hp} {Q : VK} (hs : scal x y = true) (h : Q (.bl (!decide (x = y))) H) : uNe K x y H Q := .inl ⟨hs, h⟩
theorem u_eqI {i j : Int} {H : Hp} {Q : VK} (h : Q (.bl (decide (i = j))) H) : uEq K (.int i) (.int j) H Q := u_eq rfl (by
  have e : decide (V.int i = V.int j) = decide (i = j) := by by_cases q : i = j <;> simp [q]
  rw [e]; exact h)
theorem u_neI {i j : Int} {H : Hp} {Q : VK} (h : Q (.bl (!decide (i = j))) H) : uNe K (.int i) (.int j) H Q := u_ne rfl (by
  have e : decide (V.int i = V.int j) = decide (i = j) := by by_cases q : i = j <;> simp [q]
  rw [e]; exact h)
theorem u_eqS {i j : Str} {H : Hp} {Q : VK} (h : Q (.bl (decide (i = j))) H) : uEq K (.str i) (.str j) H Q := u_eq rfl (by
  have e : decide (V.str i = V.str j) = decide (i = j) := by by_cases q : i = j <;> simp [q]
  rw [e]; exact h)
theorem u_neS {i j : Str} {H : Hp} {Q : VK} (h : Q (.bl (!decide (i = j))) H) : uNe K (.str i) (.str j) H Q := u_ne rfl (by
  have e : decide (V.str i = V.str j) = decide (i = j) := by by_cases q : i = j <;> simp [q]
  rw [e]; exact h)
theorem u_eqB {i j : Bool} {H : Hp} {Q : VK} (h : Q (.bl (decide (i = j))) H) : uEq K (.bl i) (.bl j) H Q := u_eq rfl (by
  have e : decide (V.bl i = V.bl j) = decide (i = j) := by by_cases q : i = j <;> simp [q]
  rw [e]; exact h)
theorem u_neB {i j : Bool} {H : Hp} {Q : VK} (h : Q (.bl (!decide (i = j))) H) : uNe K (.bl i) (.bl j) H Q := u_ne rfl (by
  have e : decide (V.bl i = V.bl j) = decide (i = j) := by by_cases q : i = j <;> simp [q]
  rw [e]; exact h)
/-- a[i] of a list, a tuple, a text -/
theorem u_ixL {p : Addr} {xs : List V} {i : Int} {v : V} {H : Hp} {Q : VK} (h1 : H p = some (.lst xs)) (h2 : atI xs i = some v) (h : Q v H) : rIx K (.ref p) (.int i) H Q := .inl ⟨p, xs, i, v, rfl, rfl, SqL.of h1, h2, h⟩
theorem u_ixT {p : Addr} {xs : List V} {i : Int} {v : V} {H : Hp} {Q : VK} (h1 : H p = some (.tup xs)) (h2 : atI xs i = some v) (h : Q v H) : rIx K (.ref p) (.int i) H Q := .inr (.inl ⟨p, xs, i, v, rfl, rfl, SqT.of h1, h2, h⟩)
theorem u_ixS {z : Str} {i : Int} {c : Nat} {H : Hp} {Q : VK} (hl : z.length ≤ sizeLine) (h2 : atI z.cps.toList i = some c) (h : Q (.str ⟨#[c]⟩) H) : rIx K (.str z) (.int i) H Q := .inr (.inr ⟨z, i, c, rfl, rfl, hl, h2, h⟩)
/-- slices -/
def uSl (K : PySem.W.Frag) : V → Option Int → Option Int → Hp → VK → Prop := fun x lo hi H Q => rSlL K x lo hi H Q ∨ rSlS x lo hi H Q
theorem sl_U (hK : X.K = K := by rfl) : SlR X (uSl K) := hK ▸ sl_list.or sl_str
theorem u_slL {p : Addr} {xs : List V} {lo hi : Option Int} {H : Hp} {Q : VK} (h1 : SqL K H p xs) (h : ∀ q, H q = none → Q (.ref q) (upd H q (.lst (cutV xs lo hi)))) : uSl K (.ref p) lo hi H Q := .inl ⟨p, xs, rfl, h1, h⟩
theorem u_slS {z : Str} {lo hi : Option Int} {H : Hp} {Q : VK} (hl : z.length ≤ sizeLine) (h : Q (.str (cutS z lo hi)) H) : uSl K (.str z) lo hi H Q := .inr ⟨z, rfl, hl, h⟩
/-- len -/
def rLenU (K : PySem.W.Frag) : List V → Hp → VK → Prop := fun xs H Q => (∃ x n, xs = [x] ∧ LenV K x H n ∧ Q (.int n) H) ∨ ∃ a kvs, xs = [V.ref a] ∧ H a = some (.dK kvs) ∧ Q (.int kvs.length) H
theorem call_lenU (hK : X.K = K := by rfl) : CallR X (.builtin "len") (rLenU K) := hK ▸ call_len.or call_lenD
theorem u_lenS {z : Str} {H : Hp} {Q : VK} (hl : z.length ≤ sizeLine) (h : Q (.int z.length) H) : rLenU K [V.str z] H Q := .inl ⟨_, _, rfl, ⟨hl, rfl⟩, h⟩
theorem u_lenL {p : Addr} {xs : List V} {H : Hp} {Q : VK} (h1 : SqL K H p xs) (h : Q (.int xs.length) H) : rLenU K [V.ref p] H Q := .inl ⟨_, _, rfl, .inl ⟨xs, h1, rfl⟩, h⟩
theorem u_lenT {p : Addr} {xs : List V} {H : Hp} {Q : VK} (h1 : SqT K H p xs) (h : Q (.int xs.length) H) : rLenU K [V.ref p] H Q := .inl ⟨_, _, rfl, .inr ⟨xs, h1, rfl⟩, h⟩
theorem u_lenD {p : Addr} {kvs : List (Key × V)} {H : Hp} {Q : VK} (h1 : H p = some (.dK kvs)) (h : Q (.int kvs.length) H) : rLenU K [V.ref p] H Q := .inr ⟨p, kvs, rfl, h1, h⟩
/-- in, not in: a list or tuple, one sign in a text, a dict -/
def rInSg : R2 := fun x y H Q => ∃ (c : Nat) (z : Str), x = .str ⟨#[c]⟩ ∧ y = .str z ∧ Q (.bl (decide (c ∈ z.cps.toList))) H
def rNotInSg : R2 := fun x y H Q => ∃ (c : Nat) (z : Str), x = .str ⟨#[c]⟩ ∧ y = .str z ∧ Q (.bl (!decide (c ∈ z.cps.toList))) H
def rInD : R2 := fun x y H Q => ∃ a o, y = .ref a ∧ DGet H a x o ∧ Q (.bl o.isSome) H
def rNotInD : R2 := fun x y H Q => ∃ a o, y = .ref a ∧ DGet H a x o ∧ Q (.bl (!o.isSome)) H
theorem op_inD (hu : X.A.units + 1 < cLine) : OpR X (compareOp .In) rInD := by
  intro pins s σ H x y v u Q I rx ry h
  obtain ⟨a, o, rfl, g, q⟩ := h
  cases ry
  exact d_in hu I g rx fun s3 I3 => ⟨.bl o.isSome, H, I3, rfl, q⟩
theorem op_notInD (hu : X.A.units + 1 < cLine) : OpR X (compareOp .NotIn) rNotInD := by
  intro pins s σ H x y v u Q I rx ry h
  obtain ⟨a, o, rfl, g, q⟩ := h
  cases ry
  exact d_notIn hu I g rx fun s3 I3 => ⟨.bl (!o.isSome), H, I3, rfl, q⟩
def uIn (K : PySem.W.Frag) : R2 := fun x y H Q => rIn K false x y H Q ∨ rInSg x y H Q ∨ rInD x y H Q
def uNotIn (K : PySem.W.Frag) : R2 := fun x y H Q => rIn K true x y H Q ∨ rNotInSg x y H Q ∨ rNotInD x y H Q
theorem op_inU (hu : X.A.units + 1 < cLine) (hK : X.K = K := by rfl) : OpR X (compareOp .In) (uIn K) := hK ▸ op_in_seq.or (OpR.or (r := rInSg) op_in_sign (op_inD hu))
theorem op_notInU (hu : X.A.units + 1 < cLine) (hK : X.K = K := by rfl) : OpR X (compareOp .NotIn) (uNotIn K) := hK ▸ op_notIn_seq.or (OpR.or (r := rNotInSg) op_notIn_sign (op_notInD hu))
theorem u_inSg {c : Nat} {z : Str} {H : Hp} {Q : VK} (h : Q (.bl (decide (c ∈ z.cps.toList))) H) : uIn K (.str ⟨#[c]⟩) (.str z) H Q := .inr (.inl ⟨c, z, rfl, rfl, h⟩)
theorem u_notInSg {c : Nat} {z : Str} {H : Hp} {Q : VK} (h : Q (.bl (!decide (c ∈ z.cps.toList))) H) : uNotIn K (.str ⟨#[c]⟩) (.str z) H Q := .inr (.inl ⟨c, z, rfl, rfl, h⟩)
theorem u_inT {p : Addr} {xs : List V} {x : V} {H : Hp} {Q : VK} (h1 : SqT K H p xs) (hx : flatV x = true) (hs : xs.all flatV = true) (h : Q (.bl (inV x xs)) H) : uIn K x (.ref p) H Q := .inl ⟨p, xs, rfl, .inr h1, hx, hs, h⟩
theorem u_inL {p : Addr} {xs : List V} {x : V} {H : Hp} {Q : VK} (h1 : SqL K H p xs) (hx : flatV x = true) (hs : xs.all flatV = true) (h : Q (.bl (inV x xs)) H) : uIn K x (.ref p) H Q := .inl ⟨p, xs, rfl, .inl h1, hx, hs, h⟩
theorem u_notInT {p : Addr} {xs : List V} {x : V} {H : Hp} {Q : VK} (h1 : SqT K H p xs) (hx : flatV x = true) (hs : xs.all flatV = true) (h : Q (.bl (!inV x xs)) H) : uNotIn K x (.ref p) H Q := .inl ⟨p, xs, rfl, .inr h1, hx, hs, h⟩
theorem u_notInL {p : Addr} {xs : List V} {x : V} {H : Hp} {Q : VK} (h1 : SqL K H p xs) (hx : flatV x = true) (hs : xs.all flatV = true) (h : Q (.bl (!inV x xs)) H) : uNotIn K x (.ref p) H Q := .inl ⟨p, xs, rfl, .inl h1, hx, hs, h⟩
/-- is None -/
def rIsN : R2 := fun x y H Q => y = .non ∧ Q (.bl (decide (x = .non))) H
def rNotN : R2 := fun x y H Q => y = .non ∧ Q (.bl (!decide (x = .non))) H
theorem op_isNn : OpR X (compareOp .Is) rIsN := op_isN
theorem op_notNn : OpR X (compareOp .IsNot) rNotN := op_notN
theorem u_isN {x : V} {H : Hp} {Q : VK} (h : Q (.bl (decide (x = .non))) H) : rIsN x .non H Q := ⟨rfl, h⟩
theorem u_notN {x : V} {H : Hp} {Q : VK} (h : Q (.bl (!decide (x = .non))) H) : rNotN x .non H Q := ⟨rfl, h⟩
/-- methods of texts -/
def rStarts : V → List V → Hp → VK → Prop := fun x xs H Q => ∃ a b, x = .str a ∧ xs = [.str b] ∧ Q (.bl (Txt.startswith a b)) H
def rEnds : V → List V → Hp → VK → Prop := fun x xs H Q => ∃ a b, x = .str a ∧ xs = [.str b] ∧ Q (.bl (Txt.endswith a b)) H
def rUpper : V → List V → Hp → VK → Prop := fun x xs H Q => ∃ a, x = .str a ∧ xs = [] ∧ a.length ≤ 5592405 ∧ Q (.str (Txt.upper a)) H
def rSplit : V → List V → Hp → VK → Prop := fun x xs H Q => ∃ a b, x = .str a ∧ xs = [.str b] ∧ (b.length == 0) = false ∧ a.length + 2 ≤ sizeLine ∧ rNewStrs (Txt.split a b) H Q
def rJoin (K : PySem.W.Frag) : V → List V → Hp → VK → Prop := fun x xs H Q => ∃ a p, ∃ ys : List Str, x = .str a ∧ xs = [.ref p] ∧ (SqL K H p (ys.map V.str) ∨ SqT K H p (ys.map V.str)) ∧ (ys.map (·.length)).sum + ys.length * a.length ≤ 16777216 ∧ Q (.str (Txt.join a ys)) H
theorem mt_startsN : MtR X "str.startswith" rStarts := mt_startswith
theorem mt_endsN : MtR X "str.endswith" rEnds := mt_endswith
theorem mt_upperN : MtR X "str.upper" rUpper := mt_upper
theorem mt_splitN : MtR X "str.split" rSplit := mt_split
theorem mt_joinN (hK : X.K = K := by rfl) : MtR X "str.join" (rJoin K) := hK ▸ mt_join
theorem u_m1 {a : Str} {P : Prop} (h : P) : (∃ b, V.str a = V.str b) ∧ P := ⟨⟨a, rfl⟩, h⟩
theorem u_starts {a b : Str} {H : Hp} {Q : VK} (h : Q (.bl (Txt.startswith a b)) H) : rStarts (.str a) [.str b] H Q := ⟨a, b, rfl, rfl, h⟩
theorem u_ends {a b : Str} {H : Hp} {Q : VK} (h : Q (.bl (Txt.endswith a b)) H) : rEnds (.str a) [.str b] H Q := ⟨a, b, rfl, rfl, h⟩
theorem u_upper {a : Str} {H : Hp} {Q : VK} (hl : a.length ≤ 5592405) (h : Q (.str (Txt.upper a)) H) : rUpper (.str a) [] H Q := ⟨a, rfl, rfl, hl, h⟩
theorem u_split {a b : Str} {H : Hp} {Q : VK} (hb : (b.length == 0) = false) (hl : a.length + 2 ≤ sizeLine) (h : ∀ p, H p = none → Q (.ref p) (upd H p (.lst ((Txt.split a b).map V.str)))) : rSplit (.str a) [.str b] H Q := ⟨a, b, rfl, rfl, hb, hl, h⟩
theorem u_joinL {a : Str} {p : Addr} {ys : List Str} {H : Hp} {Q : VK} (h1 : SqL K H p (ys.map V.str)) (hl : (ys.map (·.length)).sum + ys.length * a.length ≤ 16777216) (h : Q (.str (Txt.join a ys)) H) : rJoin K (.str a) [.ref p] H Q := ⟨a, p, ys, rfl, rfl, .inl h1, hl, h⟩
/-- methods of lists -/
theorem u_tyL {p : Addr} {xs : List V} {H : Hp} {P : Prop} (h1 : SqL K H p xs) (h : P) : tyV K "list" (.ref p) H ∧ P := ⟨.inl ⟨rfl, xs, h1⟩, h⟩
theorem u_append {p : Addr} {xs : List V} {y : V} {H : Hp} {Q : VK} (h1 : H p = some (.lst xs)) (hl : xs.length < sizeLine) (h : Q .non (upd H p (.lst (xs ++ [y])))) : rAppend (.ref p) [y] H Q := ⟨p, xs, y, rfl, rfl, h1, hl, h⟩
theorem u_extend {p q : Addr} {xs zs : List V} {H : Hp} {Q : VK} (h1 : H p = some (.lst xs)) (h2 : H q = some (.lst zs)) (hl : xs.length + zs.length ≤ sizeLine) (h : Q .non (upd H p (.lst (xs ++ zs)))) : rExtend (.ref p) [.ref q] H Q := ⟨p, q, xs, zs, rfl, rfl, h1, h2, hl, h⟩
theorem u_setL {p : Addr} {xs : List V} {k : Int} {j : Nat} {v : V} {H : Hp} {q : Hp → Prop} (h1 : H p = some (.lst xs)) (h2 : ixN xs.length k = some j) (h : q (upd H p (.lst (xs.set j v)))) : rSetL (.ref p) (.int k) v H q := ⟨p, xs, k, j, rfl, rfl, h1, h2, h⟩
theorem ix_U (hK : X.K = K := by rfl) : IxR X (rIx K) := hK ▸ ix_seq
theorem call_isiU (hK : X.K = K := by rfl) : CallR X (.builtin "isinstance") (rIsi K) := hK ▸ call_isi
theorem call_isiTU (hK : X.K = K := by rfl) : CallR X (.builtin "isinstance") (rIsiT K) := hK ▸ call_isiT
theorem cr_allU (hK : X.K = K := by rfl) (hc : X.calm = true := by rfl) : CallR X (.builtin "all") (rAll K) := hK ▸ cr_all hc
theorem cr_anyU (hK : X.K = K := by rfl) (hc : X.calm = true := by rfl) : CallR X (.builtin "any") (rAny K) := hK ▸ cr_any hc
/-- all, any -/
theorem u_all {p : Addr} {bs : List Bool} {H : Hp} {Q : VK} (h1 : SqL K H p (bs.map V.bl)) (h : Q (.bl (bs.all id)) H) : rAll K [.ref p] H Q := ⟨p, bs, rfl, h1, h⟩
theorem u_any {p : Addr} {bs : List Bool} {H : Hp} {Q : VK} (h1 : SqL K H p (bs.map V.bl)) (h : Q (.bl (bs.any id)) H) : rAny K [.ref p] H Q := ⟨p, bs, rfl, h1, h⟩
/-- arithmetic of ints -/
theorem u_rI0 {g : Int → Int → V} {i j : Int} {H : Hp} {Q : VK} (h : Q (g i j) H) : rI0 g (.int i) (.int j) H Q := ⟨i, j, rfl, rfl, h⟩
theorem u_rI {C : Int → Int → Prop} {g : Int → Int → V} {i j : Int} {H : Hp} {Q : VK} (hc : C i j) (h : Q (g i j) H) : rI C g (.int i) (.int j) H Q := ⟨i, j, rfl, rfl, hc, h⟩
theorem u_mod {i j : Int} {H : Hp} {Q : VK} (hj : 0 < j) (h : Q (.int (i % j)) H) : rI (fun _ j => 0 < j) (fun i j => .int (i % j)) (.int i) (.int j) H Q := u_rI hj h
theorem u_fdiv {i j : Int} {H : Hp} {Q : VK} (hj : 0 < j ∧ j < 1073741824) (h : Q (.int (i / j)) H) : rI CDiv (fun i j => .int (i / j)) (.int i) (.int j) H Q := u_rI hj h
theorem u_mul {i j : Int} {H : Hp} {Q : VK} (hc : (-18446744073709551616 < i ∧ i < 18446744073709551616) ∨ (-18446744073709551616 < j ∧ j < 18446744073709551616)) (h : Q (.int (i * j)) H) : rI CMul (fun i j => .int (i * j)) (.int i) (.int j) H Q := u_rI hc h
theorem u_rU {g : Int → V} {i : Int} {H : Hp} {Q : VK} (h : Q (g i) H) : rU g (.int i) H Q := ⟨i, rfl, h⟩
end


/-! ### names of the module, calls -/
section
variable {X : Cx}
theorem pe_gi {x : Str} {i : Int} {pos : Pos} (hm : ∃ t, X.mg x = some (.int i t)) (hg : Gl X x := by rfl) (hd : (x == ("__debug__" : Str)) = false := by decide) : PE X (.Name x pos) (tC (.int i)) := by
  obtain ⟨t, h⟩ := hm
  exact pe_glob hg h ⟨_, rfl⟩ hd
theorem pe_gs {x z : Str} {pos : Pos} (hm : ∃ t, X.mg x = some (.str z t)) (hg : Gl X x := by rfl) (hd : (x == ("__debug__" : Str)) = false := by decide) : PE X (.Name x pos) (tC (.str z)) := by
  obtain ⟨t, h⟩ := hm
  exact pe_glob hg h ⟨_, rfl⟩ hd
end
/-- a def that is named x, with its promise -/
structure FnB (P : Program) (w : World) (K : PySem.W.Frag) (mg : Str → Option Value) (base : Heap) (CX : CXT) (k : Nat) (x : Str) (ps : List Str) (sp : Sp) : Prop where
  ex : ∃ (f : Addr) (fd : FuncData), FnOk P w K mg base CX k f fd ps sp ∧ mg x = some (.ref f) ∧ PySem.W.keepIn K (.ref f) = true ∧ Binds K fd ps []
section
variable {X : Cx} {CX : CXT} {k : Nat} {x : Str} {ps : List Str} {sp : Sp} {E : XK} {p pos : Pos} {e : Expr} {es : List Expr} {t : TA}
theorem pe_callF (B : FnB X.prog X.w X.K X.mg X.base CX k x ps sp) (hr : Room k X.A) (hx : Passes CX X E) (ha : PA X (e :: es) t) (hg : Gl X x := by rfl) (hdb : (x == ("__debug__" : Str)) = false := by decide)
    (he : starEach (e :: es) X.env = (false, eval e X.env) :: starEach es X.env := by rfl) (hpl : (backTo pos (starEach es X.env)).any (·.1) = false := by rfl) : PE X (.Call (.Name x p) (e :: es) [] pos) (tCall sp [] E t) := by
  obtain ⟨f, fd, F, g, kp, bd⟩ := B.ex
  exact pe_call F hr hg g kp bd .nil hx ha hdb he hpl
theorem pe_callF0 (B : FnB X.prog X.w X.K X.mg X.base CX k x ps sp) (hr : Room k X.A) (hx : Passes CX X E) (hg : Gl X x := by rfl) (hdb : (x == ("__debug__" : Str)) = false := by decide) : PE X (.Call (.Name x p) [] [] pos) (tCall sp [] E tNil) := by
  obtain ⟨f, fd, F, g, kp, bd⟩ := B.ex
  exact pe_call0 F hr hg g kp bd .nil hx hdb
end
/-- promises by the number of parameters -/
def sp0 (P : Hp → VK → XK → Prop) : Sp := fun vs H Q E => vs = [] ∧ P H Q E
def sp1 (P : V → Hp → VK → XK → Prop) : Sp := fun vs H Q E => ∃ a, vs = [a] ∧ P a H Q E
def sp2 (P : V → V → Hp → VK → XK → Prop) : Sp := fun vs H Q E => ∃ a b, vs = [a, b] ∧ P a b H Q E
def sp3 (P : V → V → V → Hp → VK → XK → Prop) : Sp := fun vs H Q E => ∃ a b c, vs = [a, b, c] ∧ P a b c H Q E
def sp4 (P : V → V → V → V → Hp → VK → XK → Prop) : Sp := fun vs H Q E => ∃ a b c d, vs = [a, b, c, d] ∧ P a b c d H Q E
theorem len0 {P : Hp → VK → XK → Prop} {vs : List V} {H : Hp} {Q : VK} {E : XK} (h : sp0 P vs H Q E) : vs.length = 0 := by obtain ⟨rfl, _⟩ := h; rfl
theorem len1 {P : V → Hp → VK → XK → Prop} {vs : List V} {H : Hp} {Q : VK} {E : XK} (h : sp1 P vs H Q E) : vs.length = 1 := by obtain ⟨_, rfl, _⟩ := h; rfl
theorem len2 {P : V → V → Hp → VK → XK → Prop} {vs : List V} {H : Hp} {Q : VK} {E : XK} (h : sp2 P vs H Q E) : vs.length = 2 := by obtain ⟨_, _, rfl, _⟩ := h; rfl
theorem len3 {P : V → V → V → Hp → VK → XK → Prop} {vs : List V} {H : Hp} {Q : VK} {E : XK} (h : sp3 P vs H Q E) : vs.length = 3 := by obtain ⟨_, _, _, rfl, _⟩ := h; rfl
theorem len4 {P : V → V → V → V → Hp → VK → XK → Prop} {vs : List V} {H : Hp} {Q : VK} {E : XK} (h : sp4 P vs H Q E) : vs.length = 4 := by obtain ⟨_, _, _, _, rfl, _⟩ := h; rfl
section
variable {H : Hp} {Q : VK} {E : XK} {a b c d : V}
theorem s_sp0 {P : Hp → VK → XK → Prop} (h : P H Q E) : sp0 P (([] : List V) ++ []) H Q E := ⟨rfl, h⟩
theorem s_sp1 {P : V → Hp → VK → XK → Prop} (h : P a H Q E) : sp1 P ([a] ++ []) H Q E := ⟨_, rfl, h⟩
theorem s_sp2 {P : V → V → Hp → VK → XK → Prop} (h : P a b H Q E) : sp2 P ([a, b] ++ []) H Q E := ⟨_, _, rfl, h⟩
theorem s_sp3 {P : V → V → V → Hp → VK → XK → Prop} (h : P a b c H Q E) : sp3 P ([a, b, c] ++ []) H Q E := ⟨_, _, _, rfl, h⟩
theorem s_sp4 {P : V → V → V → V → Hp → VK → XK → Prop} (h : P a b c d H Q E) : sp4 P ([a, b, c, d] ++ []) H Q E := ⟨_, _, _, _, rfl, h⟩
theorem s_chain {r r' : R2} {ta tb tc : TE} {σ : L2.St} (h : ta σ H fun x H1 => tb σ H1 fun y H2 => r x y H2 fun z H3 => ∃ k, z = .bl k ∧ (if k = true then tc σ H3 fun w' H4 => r' y w' H4 Q else Q (.bl false) H3)) : tChain r r' ta tb tc σ H Q := h
theorem s_disp {trs : List (TE × TE)} {σ : L2.St} (h : ∀ p, H p = none → tPairs trs σ (upd H p (.dK [])) fun ps H2 => H2 p = some (.dK []) ∧ ∃ kvs : List (Key × V), ps = kvs.map (fun kv => (kV kv.1, kv.2)) ∧ kvs.length ≤ 15 ∧ Q (.ref p) (upd H2 p (.dK (mergeK [] kvs)))) : tDisp trs σ H Q := h
theorem s_dnewK {σ : L2.St} (h : ∀ p, H p = none → Q (.ref p) (upd H p (.dK []))) : tDNewK σ H Q := h
theorem s_pairs0 {σ : L2.St} {q : List (V × V) → Hp → Prop} (h : q [] H) : tPairs [] σ H q := h
theorem s_pairs1 {tk tv : TE} {trs : List (TE × TE)} {σ : L2.St} {q : List (V × V) → Hp → Prop} (h : tk σ H fun x H1 => tv σ H1 fun y H2 => tPairs trs σ H2 fun ps H3 => q ((x, y) :: ps) H3) : tPairs ((tk, tv) :: trs) σ H q := h
theorem s_gsub {to ti : TE} {t : TSet} {v : V} {σ : L2.St} {q : L2.St → Hp → Prop} (h : to σ H fun o H1 => ti σ H1 fun i H2 => t o i v H2 fun H3 => q σ H3) : gSub to ti t v σ H q := h
theorem u_isi {K : PySem.W.Frag} {x v : V} {t u : Value} {k : Bool} (hk : ClsV v u) (ty : TyX K H x t) (e : PySem.W.kitOne K t u = some k) (h : Q (.bl k) H) : rIsi K [x, v] H Q := ⟨x, v, t, u, k, rfl, hk, ty, e, h⟩
end
/-! ### what is walked: items xs while S stands -/
structure Yl (J : It) (S : Hp → Prop) (xs : List V) : Prop where
  go : ∀ i H, S H → i < xs.length → J.go i H
  yld : ∀ i H x H', S H → i < xs.length → J.yld i H x H' → H' = H ∧ xs[i]? = some x
  stop : ∀ H, S H → J.stop xs.length H
theorem yl_list {K : PySem.W.Frag} {a : Addr} {xs : List V} : Yl (Itl K a) (fun H => SqL K H a xs) xs where
  go := fun i H h hi => ⟨xs, xs[i], h, by simp [hi]⟩
  yld := fun i H x H' h hi y => by obtain ⟨e, y⟩ := y; exact ⟨e, y xs h⟩
  stop := fun H h => ⟨xs, h, Nat.le_refl _⟩
theorem yl_tup {K : PySem.W.Frag} {a : Addr} {xs : List V} : Yl (Itt K a) (fun H => SqT K H a xs) xs where
  go := fun i H h hi => ⟨xs, xs[i], h, by simp [hi]⟩
  yld := fun i H x H' h hi y => by obtain ⟨e, y⟩ := y; exact ⟨e, y xs h⟩
  stop := fun H h => ⟨xs, h, Nat.le_refl _⟩
def signsV (z : Str) : List V := z.cps.toList.map fun c => .str ⟨#[c]⟩
theorem signsV_len (z : Str) : (signsV z).length = z.length := by simp [signsV, Str.length]
theorem yl_str {z : Str} : Yl (Its z) (fun _ => True) (signsV z) where
  go := fun i H _ hi => by rw [signsV_len] at hi; exact hi
  yld := fun i H x H' _ hi y => by
    obtain ⟨e, c, hc, rfl⟩ := y
    refine ⟨e, ?_⟩
    unfold signsV
    rw [List.getElem?_map, Array.getElem?_toList, hc]
    rfl
  stop := fun H _ => by rw [signsV_len]; exact Nat.le_refl _
def rangeV (lo : Int) (n : Nat) : List V := (List.range n).map fun i => .int (lo + (i : Nat))
theorem rangeV_len (lo : Int) (n : Nat) : (rangeV lo n).length = n := by simp [rangeV]
theorem rangeV_at {lo : Int} {n i : Nat} {x : V} (h : (rangeV lo n)[i]? = some x) : i < n ∧ x = .int (lo + i) := by
  have hi := (List.getElem?_eq_some_iff.mp h).1
  rw [rangeV_len] at hi
  refine ⟨hi, ?_⟩
  unfold rangeV at h
  rw [List.getElem?_map, List.getElem?_range hi] at h
  exact (Option.some.inj h).symm
theorem yl_range {lo : Int} {n : Nat} : Yl (Itr lo n) (fun _ => True) (rangeV lo n) where
  go := fun i H _ hi => by rw [rangeV_len] at hi; exact hi
  yld := fun i H x H' _ hi y => by
    obtain ⟨e, y⟩ := y
    rw [rangeV_len] at hi
    refine ⟨e, ?_⟩
    unfold rangeV
    rw [List.getElem?_map, List.getElem?_range hi, y]
    rfl
  stop := fun H _ => by rw [rangeV_len]; exact Nat.le_refl _
/-! ### for -/
def forGo (J : It) (g : TG) (tb : TS) (n : L2.St → Hp → Prop) (r : VK) (σ : L2.St) (H : Hp) : Prop := ∃ W : Nat → Nat → L2.St → Hp → Prop, (∃ m, W 0 m σ H) ∧ ∀ i m σ H, W i m σ H →
  (J.stop i H ∧ n σ H) ∨ (J.go i H ∧ ∃ N : L2.St → Hp → Prop, (∀ σ' H', N σ' H' → ∃ m', m' < m ∧ W (i + 1) m' σ' H') ∧ ∀ x H', J.yld i H x H' → g x σ H' fun σ2 H2 => tb (Ends.mk N r n N) σ2 H2)
section
variable {σ : L2.St} {H : Hp} {n b c : L2.St → Hp → Prop} {r : VK} {g : TG} {tb : TS} {K : PySem.W.Frag}
theorem s_for {wi : TI} (h : wi σ H fun J H1 => forGo J g tb n r σ H1) : tFor wi g tb (Ends.mk n r b c) σ H := h
theorem for_yl {J : It} {S : Hp → Prop} {xs : List V} (Y : Yl J S xs) (Pv : Nat → L2.St → Hp → Prop) (h0 : Pv 0 σ H) (hS : ∀ i σ H, i ≤ xs.length → Pv i σ H → S H)
    (hs : ∀ i x σ H, xs[i]? = some x → Pv i σ H → g x σ H fun σ2 H2 => tb (Ends.mk (Pv (i + 1)) r n (Pv (i + 1))) σ2 H2) (hd : ∀ σ H, Pv xs.length σ H → n σ H) : forGo J g tb n r σ H := by
  refine ⟨fun i m σ H => m = xs.length - i ∧ i ≤ xs.length ∧ Pv i σ H, ⟨xs.length, by simp, Nat.zero_le _, h0⟩, ?_⟩
  rintro i m σ H ⟨rfl, hi, p⟩
  have q := hS i σ H hi p
  by_cases hlt : i < xs.length
  · refine .inr ⟨Y.go i H q hlt, Pv (i + 1), fun σ' H' p' => ⟨xs.length - (i + 1), by omega, rfl, hlt, p'⟩, fun x H' y => ?_⟩
    obtain ⟨e, hx⟩ := Y.yld i H x H' q hlt y
    subst e
    exact hs i x σ _ hx p
  · have e : i = xs.length := by omega
    subst e
    exact .inl ⟨Y.stop H q, hd σ H p⟩
/-! the things that are walked -/
theorem s_iList {tl : TE} {R : It → Hp → Prop} (h : tl σ H fun x H1 => ∃ a, x = .ref a ∧ (∃ xs, SqL K H1 a xs) ∧ R (Itl K a) H1) : iList K tl σ H R := h
theorem u_itL {a : Addr} {xs : List V} {q : Addr → Prop} (h1 : SqL K H a xs) (h : q a) : ∃ a', V.ref a = .ref a' ∧ (∃ xs, SqL K H a' xs) ∧ q a' := ⟨a, rfl, ⟨xs, h1⟩, h⟩
theorem s_iTup {tl : TE} {R : It → Hp → Prop} (h : tl σ H fun x H1 => ∃ a, x = .ref a ∧ (∃ xs, SqT K H1 a xs) ∧ R (Itt K a) H1) : iTup K tl σ H R := h
theorem u_itT {a : Addr} {xs : List V} {q : Addr → Prop} (h1 : SqT K H a xs) (h : q a) : ∃ a', V.ref a = .ref a' ∧ (∃ xs, SqT K H a' xs) ∧ q a' := ⟨a, rfl, ⟨xs, h1⟩, h⟩
theorem s_iStr {te : TE} {R : It → Hp → Prop} (h : te σ H fun v H1 => ∃ x, v = .str x ∧ R (Its x) H1) : iStr te σ H R := h
theorem u_itS {z : Str} {q : Str → Prop} (h : q z) : ∃ x, V.str z = .str x ∧ q x := ⟨z, rfl, h⟩
theorem s_iR1 {ta : TA} {R : It → Hp → Prop} (h : ta σ H fun vs H1 => ∃ j : Int, vs = [.int j] ∧ -(2 ^ 62) ≤ j ∧ j < 2 ^ 62 ∧ R (Itr 0 j.toNat) H1) : iRng1 ta σ H R := h
theorem u_itR1 {j : Int} {q : Int → Prop} (h1 : -(2 ^ 62) ≤ j) (h2 : j < 2 ^ 62) (h : q j) : ∃ j' : Int, [V.int j] = [.int j'] ∧ -(2 ^ 62) ≤ j' ∧ j' < 2 ^ 62 ∧ q j' := ⟨j, rfl, h1, h2, h⟩
theorem s_iR2 {ta : TA} {R : It → Hp → Prop} (h : ta σ H fun vs H1 => ∃ i j : Int, vs = [.int i, .int j] ∧ (-(2 ^ 62) ≤ i ∧ i < 2 ^ 62 ∧ -(2 ^ 62) ≤ j ∧ j < 2 ^ 62) ∧ R (Itr i (j - i).toNat) H1) : iRng2 ta σ H R := h
theorem u_itR2 {i j : Int} {q : Int → Int → Prop} (h1 : -(2 ^ 62) ≤ i ∧ i < 2 ^ 62 ∧ -(2 ^ 62) ≤ j ∧ j < 2 ^ 62) (h : q i j) : ∃ i' j' : Int, [V.int i, V.int j] = [.int i', .int j'] ∧ (-(2 ^ 62) ≤ i' ∧ i' < 2 ^ 62 ∧ -(2 ^ 62) ≤ j' ∧ j' < 2 ^ 62) ∧ q i' j' := ⟨i, j, rfl, h1, h⟩
end
/-! ### a comprehension -/
def lcGo (J : It) (g : TG) (tt : TT) (te : TE) (vs : List Nat) (σ : L2.St) (H1 : Hp) (Q : VK) : Prop := ∀ D, H1 D = none → ∃ W : Nat → Nat → Hp → Prop, (∃ m, W 0 m (upd H1 D (.lst []))) ∧ ∀ i m H, W i m H →
  (J.stop i H ∧ Q (.ref D) H) ∨ (J.go i H ∧ ∃ Nx : Hp → Prop, (∀ H', Nx H' → ∃ m', m' < m ∧ W (i + 1) m' H') ∧ ∀ x H', J.yld i H x H' → g x (wipe σ vs) H' fun σ2 H2 => wipe σ2 vs = wipe σ vs ∧ tt σ2 H2 fun b H3 =>
    if b = true then te σ2 H3 fun y H4 => ∃ acc, H4 D = some (.lst acc) ∧ acc.length < sizeLine ∧ Nx (upd H4 D (.lst (acc ++ [y]))) else Nx H3)
section
variable {σ : L2.St} {H : Hp} {Q : VK} {g : TG} {tt : TT} {te : TE} {vs : List Nat}
theorem s_lc {wi : TI} (h : wi σ H fun J H1 => lcGo J g tt te vs σ H1 Q) : tLc wi g tt te vs σ H Q := h
/-- the items xs, p which of them are taken, f what is made of one; nothing that stood is changed -/
theorem lc_yl {J : It} {S : Hp → Prop} {xs : List V} {j : Nat} (Y : Yl J S xs) (hS0 : S H) (hS : ∀ H', Same H H' → S H') (p : V → Bool) (f : V → V) (hl : xs.length < 16000000) (hw : ∀ x, wipe ((wipe σ vs).set j (some x)) vs = wipe σ vs)
    (ht : ∀ x, x ∈ xs → ∀ H', Same H H' → ∀ q : Bool → Hp → Prop, (∀ H'', Same H' H'' → q (p x) H'') → tt ((wipe σ vs).set j (some x)) H' q)
    (he : ∀ x, x ∈ xs → p x = true → ∀ H', Same H H' → ∀ q : VK, (∀ H'', Same H' H'' → q (f x) H'') → te ((wipe σ vs).set j (some x)) H' q)
    (hq : ∀ D H', H D = none → Same H H' → H' D = some (.lst ((xs.filter p).map f)) → Q (.ref D) H') : lcGo J (gName j) tt te vs σ H Q := by
  intro D hD
  refine ⟨fun i m H' => m = xs.length - i ∧ i ≤ xs.length ∧ Same H H' ∧ H' D = some (.lst (((xs.take i).filter p).map f)), ⟨xs.length, by simp, Nat.zero_le _, same_new hD, upd_same⟩, ?_⟩
  rintro i m H' ⟨rfl, hi, s1, hd⟩
  have q := hS H' s1
  by_cases hlt : i < xs.length
  · refine .inr ⟨Y.go i H' q hlt, fun H'' => Same H H'' ∧ H'' D = some (.lst (((xs.take (i + 1)).filter p).map f)), fun H'' p' => ⟨xs.length - (i + 1), by omega, rfl, hlt, p'⟩, fun x H2 y => ?_⟩
    obtain ⟨e, hx⟩ := Y.yld i H' x H2 q hlt y
    subst e
    have hm : x ∈ xs := List.mem_of_getElem? hx
    have et : xs.take (i + 1) = xs.take i ++ [x] := by
      rw [List.take_succ, hx]; rfl
    refine ⟨hw x, ht x hm _ s1 _ fun H3 s3 => ?_⟩
    rw [et, List.filter_append, List.map_append]
    cases hp : p x with
    | false =>
      refine if_f rfl ⟨s1.trans s3, ?_⟩
      have e2 : [x].filter p = [] := by simp [List.filter, hp]
      rw [e2]
      have := s3 _ _ hd
      simpa using this
    | true =>
      refine if_t rfl (he x hm hp _ (s1.trans s3) _ fun H4 s4 => ?_)
      have e2 : [x].filter p = [x] := by simp [List.filter, hp]
      rw [e2]
      refine ⟨_, s4 _ _ (s3 _ _ hd), ?_, ?_, ?_⟩
      · refine lt_line ?_
        rw [List.length_map]
        have h1 := List.length_filter_le p (xs.take i)
        rw [List.length_take] at h1
        omega
      · exact Same.wr ((s1.trans s3).trans s4) hD
      · exact upd_same
  · have e : i = xs.length := by omega
    subst e
    rw [List.take_length] at hd
    exact .inl ⟨Y.stop H' q, hq D H' hD s1 hd⟩
theorem t_yes {x : L2.St} {H' : Hp} {q : Bool → Hp → Prop} (h : ∀ H'', Same H' H'' → q true H'') : tYes x H' q := h H' (Same.refl _)
end

/-! ### texts repeated, lists repeated -/
def rMulS : R2 := fun x y H Q => ∃ (z : Str) (n : Int), x = .str z ∧ y = .int n ∧ n < 10000 ∧ z.length ≤ 1000 ∧ -10000 < n ∧ Q (.str (Txt.mul z n)) H
theorem mulOk_small {z : Str} {n : Int} (h1 : n < 10000) (h2 : z.length ≤ 1000) (h3 : -10000 < n) : MulOk z n := by
  refine ⟨?_, fun h _ => ?_, fun h _ => ?_⟩
  · have a : ¬ n < -(2 ^ 63 : Int) := by omega
    have b : ¬ n ≥ 2 ^ 63 := by omega
    simp only [decide_eq_false a, decide_eq_false b, Bool.or_false]
  · have hn : 0 < n := by omega
    have q : (2 ^ 63 - 1) / (10000 : Int) ≤ (2 ^ 63 - 1) / n := by
      refine (Int.le_ediv_iff_mul_le hn).mpr ?_
      have e : (2 ^ 63 - 1 : Int) / 10000 = 922337203685477 := by decide
      rw [e]
      have h5 : (922337203685477 : Int) * n ≤ 922337203685477 * 10000 := Int.mul_le_mul_of_nonneg_left (by omega) (by decide)
      exact Int.le_trans h5 (by decide)
    have e : (2 ^ 63 - 1 : Int) / 10000 = 922337203685477 := by decide
    rw [e] at q
    omega
  · show decide (z.length * n.toNat > sizeLine) = false
    refine decide_eq_false ?_
    rw [sizeLine_eq]
    have : z.length * n.toNat ≤ 1000 * 10000 := Nat.mul_le_mul h2 (by omega)
    omega
theorem tl_mul (z : Str) (n : Int) : tl (Txt.mul z n) = (List.replicate n.toNat (tl z)).flatten := by
  unfold Txt.mul
  have fold : ∀ (k : Nat) (acc : Array Nat), ((List.replicate k z.cps).foldl (· ++ ·) acc).toList = acc.toList ++ (List.replicate k (tl z)).flatten := by
    intro k
    induction k with
    | zero => intro acc; simp
    | succ k ih =>
      intro acc
      rw [List.replicate_succ, List.foldl_cons, ih, List.replicate_succ, List.flatten_cons]
      simp [tl]
  by_cases h1 : n < 1
  · rw [if_pos h1]
    have : n.toNat = 0 := by omega
    rw [this]
    rfl
  · rw [if_neg h1]
    by_cases h2 : (n == 1 || z.length == 0) = true
    · rw [if_pos h2]
      rw [Bool.or_eq_true, beq_iff_eq, beq_iff_eq] at h2
      rcases h2 with h2 | h2
      · rw [h2]
        simp
      · have e : tl z = [] := by
          have := len_tl z
          rw [h2] at this
          exact List.length_eq_zero_iff.mp this.symm
        rw [e]
        simp
    · rw [if_neg h2]
      show ((List.replicate n.toNat z.cps).foldl (· ++ ·) #[]).toList = _
      rw [fold]
      simp
section
variable {X : Cx} {K : PySem.W.Frag} {H : Hp} {Q : VK}
theorem op_mulS : OpR X (binaryOp .Mult) rMulS := by
  intro pins s σ H x y v u Q I rx ry h
  obtain ⟨z, n, rfl, rfl, h1, h2, h3, q⟩ := h
  obtain ⟨t, rfl⟩ := rx
  obtain ⟨t', rfl⟩ := ry
  exact PySem.SB.mul (mulOk_small h1 h2 h3) fun t2 k => ⟨.str _, H, I.tok k, ⟨t2, rfl⟩, q⟩
def uMul : R2 := fun x y H Q => rI CMul (fun i j => .int (i * j)) x y H Q ∨ rMulS x y H Q ∨ rRep x y H Q
theorem op_mulU : OpR X (binaryOp .Mult) uMul := op_mul.or (op_mulS.or op_rep)
theorem u_mulI {i j : Int} (hc : (-18446744073709551616 < i ∧ i < 18446744073709551616) ∨ (-18446744073709551616 < j ∧ j < 18446744073709551616)) (h : Q (.int (i * j)) H) : uMul (.int i) (.int j) H Q := .inl (u_rI hc h)
theorem u_mulS {z : Str} {n : Int} (h1 : n < 10000 ∧ -10000 < n) (h2 : z.length ≤ 1000) (h : Q (.str (Txt.mul z n)) H) : uMul (.str z) (.int n) H Q := .inr (.inl ⟨z, n, rfl, rfl, h1.1, h2, h1.2, h⟩)
theorem u_mulL {l : Addr} {xs : List V} {k : Int} (h1 : H l = some (.lst xs)) (h2 : -1000000 < k ∧ k < 1000000) (h3 : xs.length * k.toNat ≤ sizeLine) (h : ∀ p, H p = none → Q (.ref p) (upd H p (.lst (List.replicate k.toNat xs).flatten))) : uMul (.ref l) (.int k) H Q :=
  .inr (.inr ⟨l, k, xs, rfl, rfl, h1, by omega, by omega, h3, h⟩)
/-! ### == of lists of texts -/
theorem dp_all : ∀ ss : List Str, DpAll K H (ss.map V.str) (ss.map PyData.str)
  | [] => .nil
  | s :: r => .cons (.str s) (dp_all r)
theorem dp_strs {p : Addr} {ss : List Str} (h : SqL K H p (ss.map V.str)) : Dp K H (.ref p) (.list (ss.map PyData.str)) := .lst h (dp_all ss)
theorem eqvAll_strs : ∀ ss ts : List Str, PyData.eqvAll (ss.map PyData.str) (ts.map PyData.str) = decide (ss = ts)
  | [], [] => by simp [PyData.eqvAll]
  | [], t :: ts => by simp [PyData.eqvAll]
  | s :: ss, [] => by simp [PyData.eqvAll]
  | s :: ss, t :: ts => by
    have ih := eqvAll_strs ss ts
    simp only [List.map_cons, PyData.eqvAll, PyData.eqv, ih]
    by_cases h : s = t <;> by_cases h2 : ss = ts <;> simp [h, h2]
theorem shaped_strs {ss : List Str} (h : ∀ s ∈ ss, PyData.strOk s = true) : SeqAt.shaped (.list (ss.map PyData.str)) = true := by
  unfold SeqAt.shaped
  rw [Bool.and_eq_true]
  constructor
  · show PyData.canLayAll0 (ss.map PyData.str) = true
    induction ss with
    | nil => simp [PyData.canLayAll0]
    | cons s r ih =>
      rw [List.map_cons, PyData.canLayAll0, Bool.and_eq_true]
      exact ⟨h s List.mem_cons_self, ih fun x hx => h x (List.mem_cons_of_mem _ hx)⟩
  · refine decide_eq_true ?_
    have e : ∀ l : List Str, PyData.depthAll (l.map PyData.str) ≤ 1 := by
      intro l
      induction l with
      | nil => simp [PyData.depthAll]
      | cons s r ih => simp only [List.map_cons, PyData.depthAll, PyData.depth]; omega
    have := e ss
    simp only [PyData.depth]
    omega
theorem u_neStrs {p q : Addr} {ss ts : List Str} (h1 : SqL K H p (ss.map V.str)) (h2 : SqL K H q (ts.map V.str)) (o1 : ∀ s ∈ ss, PyData.strOk s = true) (o2 : ∀ s ∈ ts, PyData.strOk s = true) (h : Q (.bl (!decide (ss = ts))) H) : uNe K (.ref p) (.ref q) H Q :=
  .inr ⟨_, _, dp_strs h1, dp_strs h2, shaped_strs o1, shaped_strs o2, by show Q (.bl (!PyData.eqvAll _ _)) H; rw [eqvAll_strs]; exact h⟩
theorem u_eqStrs {p q : Addr} {ss ts : List Str} (h1 : SqL K H p (ss.map V.str)) (h2 : SqL K H q (ts.map V.str)) (o1 : ∀ s ∈ ss, PyData.strOk s = true) (o2 : ∀ s ∈ ts, PyData.strOk s = true) (h : Q (.bl (decide (ss = ts))) H) : uEq K (.ref p) (.ref q) H Q :=
  .inr ⟨_, _, dp_strs h1, dp_strs h2, shaped_strs o1, shaped_strs o2, by show Q (.bl (PyData.eqvAll _ _)) H; rw [eqvAll_strs]; exact h⟩
end
/-! ### raising -/
/-- what is known of an own exception class x without an __init__ -/
structure EF (K : PySem.W.Frag) (mg : Str → Option Value) (x : Str) : Prop where
  g : mg x = some (.ref (He.ga K x))
  ex : PySem.W.excIn K (He.ga K x) He.veBase "ValueError.__new__" = true
  kp : PySem.W.keepIn K (.ref (He.ga K x)) = true
  sb : PySem.W.subIn K (.ref (He.ga K x)) (.type "BaseException") = some true
  ty : PySem.W.typeIn K (.ref (He.ga K x)) = some (.type "type")
def tRz (C : Addr) (W : WX) : TS := fun _ σ H => W (.ref C) none σ H
section
variable {X : Cx}
theorem ps_raiseE {K : PySem.W.Frag} {W : WX} {x m : Str} {j : Nat} {p p2 pos pos' : Pos} (hc : X.calm = true) (tk : Takes X W) (e : EF K X.mg x) (hK : X.K = K := by rfl) (hg : Gl X x := by rfl) (hdb : (x == ("__debug__" : Str)) = false := by decide) :
    PS X (.Raise (some (.Call (.Name x p) [.Constant (.str m) j p2] [] pos)) none pos') (tRz (He.ga K x) W) := by
  subst hK
  exact ps_raise hc tk (pmk_own PySem.F.excBase_ValueError e.ex e.g e.kp (raises_own e.sb e.ty) hg hdb)
end
theorem s_rz {C : Addr} {E : XK} {D : Ends} {σ : L2.St} {H : Hp} (h : E (.ref C) none H) : tRz C (fun cls d _ H => E cls d H) D σ H := h

def rListOf (K : PySem.W.Frag) : List V → Hp → VK → Prop := fun xs H Q => ∃ p ys, xs = [V.ref p] ∧ (SqL K H p ys ∨ SqT K H p ys) ∧ ∀ l, H l = none → Q (.ref l) (upd H l (.lst ys))
theorem call_listU {X : Cx} {K : PySem.W.Frag} (hK : X.K = K := by rfl) : CallR X (.type "list") (rListOf K) := by subst hK; exact call_list_of
theorem u_listL {K : PySem.W.Frag} {p : Addr} {ys : List V} {H : Hp} {Q : VK} (h1 : SqL K H p ys) (h : ∀ l, H l = none → Q (.ref l) (upd H l (.lst ys))) : rListOf K [.ref p] H Q := ⟨p, ys, rfl, .inl h1, h⟩
theorem u_ixLK {K : PySem.W.Frag} {p : Addr} {xs : List V} {i : Int} {v : V} {H : Hp} {Q : VK} (h1 : SqL K H p xs) (h2 : atI xs i = some v) (h : Q v H) : rIx K (.ref p) (.int i) H Q := .inl ⟨p, xs, i, v, rfl, rfl, h1, h2, h⟩
theorem neg_set {i : Int} {H : Hp} {Q : VK} (h : Q (.int (-i)) H) : rU (fun i => .int (-i)) (.int i) H Q := u_rU h
theorem atI_neg1 {α : Type} (xs : List α) (v : α) (h : xs.getLast? = some v) : atI xs (-1) = some v := by
  obtain ⟨ys, rfl⟩ : ∃ ys, xs = ys ++ [v] := List.getLast?_eq_some_iff.mp h
  exact atI_last ys v
theorem atI_zero {α : Type} (x : α) (r : List α) : atI (x :: r) 0 = some x := atI_nat (j := 0) rfl
/-- two things at two places -/
theorem mem_some {α : Type} {xs : List α} {i : Nat} {x : α} (h : xs[i]? = some x) : x ∈ xs := List.mem_of_getElem? h

local macro_rules | `(tactic| wtm_at "hp") => `(tactic| first
  | assumption
  | (with_reducible exact upd_same)
  | ((with_reducible refine (upd_ne ?n).trans ?m); (case n => wtm_at "ne"); (case m => wtm_at "hp")))
local macro_rules | `(tactic| wtm_at "ne") => `(tactic| first | assumption | (refine Ne.symm ?_; assumption))
local macro_rules | `(tactic| wtm_at "sz") => `(tactic| first | (refine le_line ?_; omega) | (refine lt_line ?_; omega) | (refine le_line ?_; (simp; done)) | (refine lt_line ?_; (simp; done)) | (refine le_line ?_; (simp; omega)) | (refine lt_line ?_; (simp; omega)))
local macro_rules | `(tactic| wtm_at "r") => `(tactic| repeat (wtm_at "s"))
local macro_rules | `(tactic| wtm_at "s") => `(tactic| first
  | (with_reducible refine s_seq ?_)
  | (with_reducible refine s_asg ?_)
  | (with_reducible refine s_name ?_)
  | ((with_reducible refine s_var (v := ?v) ?e ?_); (case e => exact rfl))
  | (with_reducible refine s_c ?_)
  | (with_reducible refine s_op ?_)
  | (with_reducible refine s_if ?_)
  | (with_reducible refine s_test ?_)
  | (with_reducible refine s_bl ?_)
  | (with_reducible refine u_add_int ?_)
  | (with_reducible refine u_eqI ?_) | (with_reducible refine u_neI ?_)
  | (with_reducible refine u_eqS ?_) | (with_reducible refine u_neS ?_)
  | (with_reducible refine u_eqB ?_) | (with_reducible refine u_neB ?_)
  | (with_reducible refine u_rI0 ?_)
  | (with_reducible refine u_rU ?_)
  | (with_reducible refine s_ret ?_)
  | (with_reducible refine s_retN ?_)
  | (with_reducible refine s_call ?_)
  | (with_reducible refine s_cons ?_)
  | (with_reducible refine s_nil ?_)
  | (with_reducible refine s_cb ?_)
  | (with_reducible refine s_drop ?_)
  | (with_reducible refine s_next ?_)
  | (with_reducible refine s_brk ?_)
  | (with_reducible refine s_cont ?_)
  | (with_reducible refine s_tB ?_)
  | (with_reducible refine s_and ?_)
  | (with_reducible refine s_or ?_)
  | (with_reducible refine s_not ?_)
  | (with_reducible refine s_un ?_)
  | (with_reducible refine s_tup ?_)
  | (with_reducible refine s_lst ?_)
  | (with_reducible refine s_ifExp ?_)
  | (with_reducible refine s_sl ?_)
  | (with_reducible refine s_nopart ?_)
  | (with_reducible refine s_part ?_)
  | (with_reducible refine s_int ?_)
  | (with_reducible refine s_bm ?_)
  | (with_reducible refine s_bm0 ?_)
  | (with_reducible refine s_m1 ?_)
  | (with_reducible refine s_m0 ?_)
  | (with_reducible refine s_andV ?_)
  | (with_reducible refine s_orV ?_)
  | (with_reducible refine s_notV ?_)
  | (with_reducible refine s_fldput ?_)
  | ((with_reducible refine u_mod ?hc ?_); (case hc => omega))
  | ((with_reducible refine u_fdiv ?hc ?_); (case hc => omega))
  | ((with_reducible refine u_mul ?hc ?_); (case hc => omega))
  | ((with_reducible refine u_ixL (xs := ?xs) (v := ?v) ?h1 ?h2 ?_); (case h1 => wtm_at "hp"); (case h2 => rfl))
  | ((with_reducible refine u_mulI ?hc ?_); (case hc => omega))
  | (with_reducible refine s_rz ?_)
  | (with_reducible refine s_chain ?_)
  | (with_reducible refine s_for ?_) | (with_reducible refine s_lc ?_) | (with_reducible refine s_iList ?_) | (with_reducible refine s_iTup ?_) | (with_reducible refine s_iStr ?_) | (with_reducible refine s_iR1 ?_) | (with_reducible refine s_iR2 ?_)
  | (with_reducible refine u_itS ?_)
  | (with_reducible refine s_gsub ?_)
  | (with_reducible refine s_pairs1 ?_) | (with_reducible refine s_pairs0 ?_)
  | (with_reducible refine u_isN ?_) | (with_reducible refine u_notN ?_)
  | (with_reducible refine u_m1 ?_) | (with_reducible refine u_starts ?_) | (with_reducible refine u_ends ?_)
  | (with_reducible refine u_inSg ?_) | (with_reducible refine u_notInSg ?_)
  | (with_reducible refine s_sp1 ?_) | (with_reducible refine s_sp2 ?_) | (with_reducible refine s_sp3 ?_) | (with_reducible refine s_sp4 ?_) | (with_reducible refine s_sp0 ?_))

def top (i : Nat) : Stmt := PySem.Challenge.pw_leadnames_k03_parts_of_paths.main.body.getD i (.Pass ⟨0, 0, 0, 0⟩)
abbrev st_is_name : Stmt := top 7
abbrev st_is_part : Stmt := top 8
abbrev st_parts_of : Stmt := top 9
abbrev st__law_cell_at : Stmt := top 11
abbrev st__law_digit : Stmt := top 12
abbrev st__law_name : Stmt := top 13
abbrev st__law_parts : Stmt := top 14
abbrev st__law_slashes : Stmt := top 15
abbrev st__law_path : Stmt := top 16
abbrev st__law_right : Stmt := top 17
abbrev st_law : Stmt := top 18
structure Txt (K : PySem.W.Frag) (mg : Str → Option Value) : Prop where
  c_LETTERS : ∃ t, mg "LETTERS" = some (.str "abcdefghijklmnopqrstuvwxyz" t)
  c_MOST_LETTERS : ∃ t, mg "MOST_LETTERS" = some (.int 8 t)
  c_MOST_SIGNS : ∃ t, mg "MOST_SIGNS" = some (.int 2000 t)
  e_NoPath : EF K mg "NoPath"
  z_all : mg "all" = none
  z_bool : mg "bool" = none
  z_isinstance : mg "isinstance" = none
  z_len : mg "len" = none
  z_list : mg "list" = none
  z_range : mg "range" = none
  z_str : mg "str" = none
  z_tuple : mg "tuple" = none
section
variable {P : Program} {w : World} {K : PySem.W.Frag} {mg : Str → Option Value} {base : Heap}

/-! ### names -/
abbrev letters : Str := "abcdefghijklmnopqrstuvwxyz"
/-- one to eight small letters -/
def isNm (z : Str) : Bool := decide (1 ≤ z.length) && (decide (z.length ≤ 8) && z.cps.toList.all fun c => decide (c ∈ letters.cps.toList))
def nameV : V → Bool
  | .str z => isNm z
  | _ => false
/-- a text of a bearable length, or a thing of another kind -/
def Thing (K : PySem.W.Frag) (H : Hp) (x : V) : Prop := match x with
  | .str z => z.length ≤ sizeLine
  | y => ∃ n, TyX K H y (.type n) ∧ kitB n "str" = some false
def pIsName (K : PySem.W.Frag) (x : V) (H : Hp) (Q : VK) (_ : XK) : Prop := Thing K H x ∧ ∀ H', Same H H' → Q (.bl (nameV x)) H'
abbrev spIsName (K : PySem.W.Frag) : Sp := sp1 (pIsName K)
theorem u_isTy {K : PySem.W.Frag} {H : Hp} {Q : VK} {x : V} {n m : String} {r : Bool} (ty : TyX K H x (.type n)) (e : kitB n m = some r) (h : Q (.bl r) H) : rIsi K [x, .ty m] H Q := u_isi (.ty _) ty (kit_ty e) h
theorem u_isStr {K : PySem.W.Frag} {H : Hp} {Q : VK} {z : Str} (h : Q (.bl true) H) : rIsi K [.str z, .ty "str"] H Q := u_isTy (.base (.str z)) (by decide +kernel) h
theorem Thing.not {K : PySem.W.Frag} {H : Hp} {x : V} (t : Thing K H x) (h : ¬ ∃ z, x = .str z) : nameV x = false ∧ ∃ n, TyX K H x (.type n) ∧ kitB n "str" = some false := by
  cases x with
  | str z => exact absurd ⟨z, rfl⟩ h
  | _ => exact ⟨rfl, t⟩
theorem all_map {α : Type} (f : α → Bool) (l : List α) : (l.map f).all id = l.all f := by
  rw [List.all_map]; rfl
/-- small letters alone -/
def Low (z : Str) : Prop := ∀ c ∈ tl z, c ∈ letters.cps.toList
theorem isNm_iff {z : Str} : isNm z = true ↔ (1 ≤ z.length ∧ z.length ≤ 8 ∧ Low z) := by
  simp only [isNm, Bool.and_eq_true, decide_eq_true_eq, List.all_eq_true]
  exact Iff.rfl
theorem isNm_not {z : Str} {c : Nat} (h : c ∈ tl z) (n : ¬ c ∈ letters.cps.toList) : isNm z = false := by
  cases e : isNm z with
  | false => rfl
  | true => exact absurd ((isNm_iff.mp e).2.2 c h) n
theorem len_app (x y : Str) : (x ++ y).length = x.length + y.length := by rw [len_tl, len_tl, len_tl, tl_append, List.length_append]
theorem len_one (c : Nat) : (⟨#[c]⟩ : Str).length = 1 := rfl
theorem low_app {x y : Str} (h1 : Low x) (h2 : Low y) : Low (x ++ y) := fun c hc => by
  rw [tl_append, List.mem_append] at hc
  exact hc.elim (h1 c) (h2 c)
theorem low_one {c : Nat} (h : c ∈ letters.cps.toList) : Low ⟨#[c]⟩ := fun d hd => by
  have e : d = c := by simpa [tl] using hd
  rw [e]; exact h
theorem low_nil {z : Str} (h : tl z = []) : Low z := fun c hc => by rw [h] at hc; cases hc
theorem letters_range {c : Nat} (h : c ∈ letters.cps.toList) : 97 ≤ c ∧ c ≤ 122 := by
  have e := List.all_eq_true.mp (show letters.cps.toList.all (fun c => decide (97 ≤ c ∧ c ≤ 122)) = true by decide +kernel) c h
  exact of_decide_eq_true e
theorem isNm_short {z : Str} (h : ¬ (1 ≤ z.length)) : isNm z = false := by simp [isNm, h]
theorem isNm_long {z : Str} (h : ¬ (z.length ≤ 8)) : isNm z = false := by simp [isNm, h]
theorem isNm_mid {z : Str} (h1 : 1 ≤ z.length) (h2 : z.length ≤ 8) : isNm z = z.cps.toList.all fun c => decide (c ∈ letters.cps.toList) := by simp [isNm, h1, h2]
theorem sc_is_name : FnScope ["text", "sign"] ["text"] (defScope st_is_name) := ⟨rfl, rfl, rfl, by decide +kernel, rfl, by decide +kernel, by decide +kernel⟩
theorem ok_is_name (T : Txt K mg)  {f : Addr} {fd : FuncData} (F : FunD K "is_name" "is_name" (defArgs st_is_name) (defBody st_is_name) (defScope st_is_name) [] [] f fd) : FnOk P w K mg base CX0 1 f fd ["text"] (spIsName K) := by
  refine F.ok sc_is_name (fun vs H Q E h => ?_) (fun cdv A outer s H vs Q E hr h => ?_)
  · exact len1 h
  · obtain ⟨a, rfl, h⟩ := h
    have hu := hu_of hr
    have hu65 := hr.units
    refine ⟨_, PSs.nox ((pss_cons (ps_if (PW.pt (pw_or (pt_not (pt_val (pe_callB (call_isiU (K := K)) (by rfl) T.z_isinstance (by decide +kernel) (pa_cons (pv 0) (pa_cons (pe_bltn (v := .ty "str") (by rfl) T.z_str (by decide +kernel) rfl) pa_nil))))) (pw_or1 (pt_not (pt_chain op_le op_le pe_int (pe_callB (call_lenU (K := K)) (by rfl) T.z_len PySem.boot_len (pa_cons (pv 0) pa_nil)) (pe_gi T.c_MOST_LETTERS)))))) (pss_one (ps_ret pe_bl)) pss_nil)
    (pss_one (ps_ret (pe_callB (cr_allU (K := K)) (by rfl) T.z_all (by decide +kernel) (pa_cons (pe_lc (own := [("sign", 1)]) (g := gName 1) (tt := tYes) rfl sc_is_name.nd (pi_str (pv 0)) (blkOk_by (own := [("sign", 1)]) (N := ["text", "sign"]) (sc := defScope st_is_name) (by decide +kernel)) (fun _ _ _ _ _ => (pg_name (i := 1) sc_is_name.nd rfl (Or.inl rfl))) (fun _ _ _ _ _ => pts_nil) (fun _ _ _ _ _ => (pe_cmpR (op_inU (K := K) hu) (pv 1) (pe_gs T.c_LETTERS) (by rfl)))) pa_nil)))))), ?_⟩
    try dsimp only [cxOf]
    rw [show L2.start ["text", "sign"] [a] = [some a, none] from rfl]
    obtain ⟨ht, k⟩ := h
    by_cases hs : ∃ z, a = .str z
    · obtain ⟨z, rfl⟩ := hs
      have hz : z.length ≤ sizeLine := ht
      have k : ∀ H', Same H H' → Q (.bl (isNm z)) H' := k
      repeat (wtm_at "s")
      refine u_isStr ?_
      repeat (wtm_at "s")
      refine if_f rfl ?_
      repeat (wtm_at "s")
      refine u_lenS hz ?_
      repeat (wtm_at "s")
      refine if_2 (fun h1 => ?_) (fun h1 => ?_)
      · repeat (wtm_at "s")
        have h1 : 1 ≤ z.length := by simp at h1; omega
        refine if_2 (fun h2 => ?_) (fun h2 => ?_)
        · have h2 : ¬ z.length ≤ 8 := by simp at h2; omega
          repeat (wtm_at "s")
          rw [← isNm_long h2]
          exact k H (Same.refl H)
        · have h2 : z.length ≤ 8 := by simp at h2; omega
          repeat (wtm_at "s")
          refine lc_yl yl_str trivial (fun _ _ => trivial) (fun _ => true) (fun x => match x with | .str y => .bl (y.cps.toList.all fun c => decide (c ∈ letters.cps.toList)) | _ => .non) (by rw [signsV_len]; omega) (fun x => rfl) (fun x hx H' s1 q h => t_yes h) (fun x hx _ H' s1 q h => ?_) (fun D H' hD s1 hd => ?_)
          · obtain ⟨c, hc, rfl⟩ := List.mem_map.mp hx
            repeat (wtm_at "s")
            have := h H' (Same.refl _)
            simpa using this
          · have e : (signsV z).filter (fun _ => true) = signsV z := List.filter_eq_self.mpr fun _ _ => rfl
            rw [e] at hd
            repeat (wtm_at "s")
            refine u_all (bs := z.cps.toList.map fun c => decide (c ∈ letters.cps.toList)) (SqL.of (hd.trans ?_)) ?_
            · simp [signsV]
            · rw [all_map, ← isNm_mid h1 h2]
              exact k H' s1
      · have h1 : ¬ 1 ≤ z.length := by simp at h1; omega
        repeat (wtm_at "s")
        refine if_t rfl ?_
        repeat (wtm_at "s")
        rw [← isNm_short h1]
        exact k H (Same.refl H)
    · obtain ⟨e, n, ty, ek⟩ := Thing.not ht hs
      repeat (wtm_at "s")
      refine u_isTy ty ek ?_
      repeat (wtm_at "s")
      refine if_t rfl ?_
      refine if_t rfl ?_
      repeat (wtm_at "s")
      rw [← e]
      exact k H (Same.refl H)
/-! ### rights -/
abbrev goods : List V := [.str "", .str "l", .str "g", .str "w", .str "lg", .str "lw", .str "gw", .str "lgw"]
def rightsV : V → Bool
  | .str z => inV (.str z) goods
  | _ => false
def pIsRights (K : PySem.W.Frag) (x : V) (H : Hp) (Q : VK) (_ : XK) : Prop := Thing K H x ∧ ∀ H', Same H H' → Q (.bl (rightsV x)) H'
theorem Thing.notR {K : PySem.W.Frag} {H : Hp} {x : V} (t : Thing K H x) (h : ¬ ∃ z, x = .str z) : rightsV x = false ∧ ∃ n, TyX K H x (.type n) ∧ kitB n "str" = some false := by
  cases x with
  | str z => exact absurd ⟨z, rfl⟩ h
  | _ => exact ⟨rfl, t⟩
/-! ### the law's draws -/
/-- a state of draws: one number, or three -/
def StOk (xs : List V) : Prop := (∃ n : Int, xs = [.int n]) ∨ ∃ n s c : Int, xs = [.int n, .int s, .int c]
def pDigit (s b : V) (H : Hp) (Q : VK) (_ : XK) : Prop := ∃ (a : Addr) (xs : List V) (n : Int), s = .ref a ∧ b = .int n ∧ H a = some (.lst xs) ∧ StOk xs ∧ 0 < n ∧ n < 1073741824 ∧
  ∀ (r : Int) (xs' : List V) (H' : Hp), 0 ≤ r → r < n → StOk xs' → But a H H' → H' a = some (.lst xs') → Q (.int r) H'
abbrev spDigit : Sp := sp2 pDigit
theorem mod_lt {x : Int} {m : Int} (h : 0 < m) : 0 ≤ x % m ∧ x % m < m := ⟨Int.emod_nonneg _ (by omega), Int.emod_lt_of_pos _ h⟩
theorem sc__law_digit : FnScope ["_law_state", "_law_base", "_law_found", "_law_number"] ["_law_state", "_law_base"] (defScope st__law_digit) := ⟨rfl, rfl, rfl, by decide +kernel, rfl, by decide +kernel, by decide +kernel⟩
theorem ok__law_digit (T : Txt K mg)  {f : Addr} {fd : FuncData} (F : FunD K "_law_digit" "_law_digit" (defArgs st__law_digit) (defBody st__law_digit) (defScope st__law_digit) [] [] f fd) : FnOk P w K mg base CX0 1 f fd ["_law_state", "_law_base"] spDigit := by
  refine F.ok sc__law_digit (fun vs H Q E h => ?_) (fun cdv A outer s H vs Q E hr h => ?_)
  · exact len2 h
  · obtain ⟨a, b, rfl, h⟩ := h
    have hu := hu_of hr
    have hu65 := hr.units
    refine ⟨_, PSs.nox ((Evl.pss_cut (ps_if (pt_cmpR (op_eqU (K := K) hu65) (pe_callB (call_lenU (K := K)) (by rfl) T.z_len PySem.boot_len (pa_cons (pv 0) pa_nil)) pe_int (nomark _)) (pss_one (ps_expr (pe_bm PySem.F.plainAttrs_list PySem.F.slot_list_extend PySem.F.type_list_extend mt_extend (pv 0) (pa_cons (pe_lst (pa_cons (pe_op op_mod (pe_ix (ix_U (K := K)) (pv 0) pe_int (fun _ _ => rfl)) pe_int) (pa_cons pe_int pa_nil))) pa_nil)))) pss_nil)
    (pss_cons (ps_if (pt_cmpR op_gt (pe_ix (ix_U (K := K)) (pv 0) pe_int (fun _ _ => rfl)) pe_int (nomark _)) (pss_cons (ps_set (i := 2) sc__law_digit.nd rfl (by first | exact Or.inl rfl | exact Or.inr rfl) (pe_op op_mod (pe_ix (ix_U (K := K)) (pv 0) pe_int (fun _ _ => rfl)) (pv 1)))
    (pss_cons (ps_asg (pe_op op_fdiv (pe_ix (ix_U (K := K)) (pv 0) pe_int (fun _ _ => rfl)) (pv 1)) (pg_sub (pv 0) pe_int set_list))
    (pss_one (ps_ret (pv 2))))) pss_nil)
    (pss_cons (ps_asg (pe_op (op_addU (K := K)) (pe_ix (ix_U (K := K)) (pv 0) pe_int (fun _ _ => rfl)) pe_int) (pg_sub (pv 0) pe_int set_list))
    (pss_cons (ps_set (i := 3) sc__law_digit.nd rfl (by first | exact Or.inl rfl | exact Or.inr rfl) (pe_op op_mod (pe_op op_mulU (pe_op (op_addU (K := K)) (pe_op (op_addU (K := K)) (pe_ix (ix_U (K := K)) (pv 0) pe_int (fun _ _ => rfl)) (pe_op op_mulU pe_int (pe_ix (ix_U (K := K)) (pv 0) pe_int (fun _ _ => rfl)))) pe_int) pe_int) pe_int))
    (pss_cons (ps_set (i := 3) sc__law_digit.nd rfl (by first | exact Or.inl rfl | exact Or.inr rfl) (pe_op op_mod (pe_op op_mulU (pv 3) (pe_op (op_addU (K := K)) (pe_op op_fdiv (pv 3) pe_int) pe_int)) pe_int))
    (pss_one (ps_ret (pe_op op_mod (pe_op op_mod (pe_op op_mulU (pv 3) (pe_op (op_addU (K := K)) (pe_op op_fdiv (pv 3) pe_int) pe_int)) pe_int) (pv 1)))))))))), ?_⟩
    try dsimp only [cxOf]
    rw [show L2.start ["_law_state", "_law_base", "_law_found", "_law_number"] [a, b] = [some a, some b, none, none] from rfl]
    obtain ⟨p, xs, m, rfl, rfl, hp, so, m0, m1, k⟩ := h
    refine s_cut (fun σ' H1 => ∃ n s c : Int, σ' = [some (.ref p), some (.int m), none, none] ∧ But p H H1 ∧ H1 p = some (.lst [.int n, .int s, .int c])) ?_ ?_
    · wtm_at "r"
      refine u_lenL (SqL.of hp) ?_
      wtm_at "r"
      rcases so with ⟨n, rfl⟩ | ⟨n, s, c, rfl⟩
      · refine if_t rfl ?_
        wtm_at "r"
        refine u_tyL (SqL.of hp) ?_
        wtm_at "r"
        refine ⟨by wtm_at "sz", fun q hq => ?_⟩
        wtm_at "r"
        have npq : p ≠ q := ne_of_none hp hq
        refine u_extend ((upd_ne npq).trans hp) upd_same (by wtm_at "sz") ?_
        wtm_at "r"
        exact ⟨n, _, _, rfl, But.wr (But.of_same (same_new hq)), upd_same⟩
      · refine if_f rfl ?_
        wtm_at "r"
        exact ⟨n, s, c, rfl, But.of_same (Same.refl H), hp⟩
    · rintro σ' H1 ⟨n, s, c, rfl, b1, h1⟩
      wtm_at "r"
      refine if_2 (fun hn => ?_) (fun hn => ?_)
      · wtm_at "r"
        refine u_setL h1 rfl ?_
        wtm_at "r"
        exact k _ _ _ (mod_lt m0).1 (mod_lt m0).2 (.inr ⟨_, s, c, rfl⟩) (But.wr b1) upd_same
      · wtm_at "r"
        refine u_setL h1 rfl ?_
        wtm_at "r"
        exact k _ _ _ (mod_lt m0).1 (mod_lt m0).2 (.inr ⟨n, s, _, rfl⟩) (But.wr b1) upd_same
theorem u_digit {a : Addr} {xs : List V} {n : Int} {H : Hp} {Q : VK} {E : XK} (h1 : H a = some (.lst xs)) (so : StOk xs) (m0 : 0 < n ∧ n < 1073741824)
    (k : ∀ (r : Int) (xs' : List V) (H' : Hp), 0 ≤ r → r < n → StOk xs' → But a H H' → H' a = some (.lst xs') → Q (.int r) H') : pDigit (.ref a) (.int n) H Q E := ⟨a, xs, n, rfl, rfl, h1, so, m0.1, m0.2, k⟩
theorem atI_ex {α : Type} {xs : List α} {r : Int} (h0 : 0 ≤ r) (h1 : r < xs.length) : ∃ v, atI xs r = some v ∧ v ∈ xs := by
  obtain ⟨j, rfl⟩ : ∃ j : Nat, r = (j : Int) := ⟨r.toNat, by omega⟩
  have hj : j < xs.length := by omega
  exact ⟨xs[j], atI_nat (by simp [hj]), List.getElem_mem hj⟩
theorem letters_len : letters.cps.toList.length = 26 := by decide +kernel
def pLName (s : V) (H : Hp) (Q : VK) (_ : XK) : Prop := ∃ (a : Addr) (xs : List V), s = .ref a ∧ H a = some (.lst xs) ∧ StOk xs ∧
  ∀ (z : Str) (xs' : List V) (H' : Hp), isNm z = true → StOk xs' → But a H H' → H' a = some (.lst xs') → Q (.str z) H'
abbrev spLName : Sp := sp1 pLName
theorem u_lname {a : Addr} {xs : List V} {H : Hp} {Q : VK} {E : XK} (h1 : H a = some (.lst xs)) (so : StOk xs)
    (k : ∀ (z : Str) (xs' : List V) (H' : Hp), isNm z = true → StOk xs' → But a H H' → H' a = some (.lst xs') → Q (.str z) H') : pLName (.ref a) H Q E := ⟨a, xs, rfl, h1, so, k⟩
theorem sc__law_name : FnScope ["_law_state", "_law_found", "_law_k"] ["_law_state"] (defScope st__law_name) := ⟨rfl, rfl, rfl, by decide +kernel, rfl, by decide +kernel, by decide +kernel⟩
theorem ok__law_name (T : Txt K mg) (B__law_digit : FnB P w K mg base CX0 1 "_law_digit" ["_law_state", "_law_base"] spDigit) {f : Addr} {fd : FuncData} (F : FunD K "_law_name" "_law_name" (defArgs st__law_name) (defBody st__law_name) (defScope st__law_name) [] [] f fd) : FnOk P w K mg base CX0 2 f fd ["_law_state"] spLName := by
  refine F.ok sc__law_name (fun vs H Q E h => ?_) (fun cdv A outer s H vs Q E hr h => ?_)
  · exact len1 h
  · obtain ⟨a, rfl, h⟩ := h
    have hu := hu_of hr
    have hu65 := hr.units
    refine ⟨_, PSs.nox ((pss_cons (ps_set (i := 1) sc__law_name.nd rfl (by first | exact Or.inl rfl | exact Or.inr rfl) pe_str)
    (pss_cons (ps_for PassesOwn.never rfl (pi_range1 rfl T.z_range (pa_cons (pe_op (op_addU (K := K)) pe_int (pe_callF B__law_digit (hr.mono (by decide)) pass0 (pa_cons (pv 0) (pa_cons pe_int pa_nil)))) pa_nil)) (pg_name (i := 2) sc__law_name.nd rfl (by first | exact Or.inl rfl | exact Or.inr rfl)) (pss_one (ps_set (i := 1) sc__law_name.nd rfl (by first | exact Or.inl rfl | exact Or.inr rfl) (pe_op (op_addU (K := K)) (pv 1) (pe_ix (ix_U (K := K)) pe_str (pe_callF B__law_digit (hr.mono (by decide)) pass0 (pa_cons (pv 0) (pa_cons pe_int pa_nil))) (fun _ _ => rfl))))))
    (pss_one (ps_ret (pv 1)))))), ?_⟩
    try dsimp only [cxOf]
    rw [show L2.start ["_law_state", "_law_found", "_law_k"] [a] = [some a, none, none] from rfl]
    obtain ⟨p, xs, rfl, hp, so, k⟩ := h
    wtm_at "r"
    refine u_digit hp so (by decide) fun r xs1 H1 r0 r1 so1 b1 h1 => ?_
    wtm_at "r"
    refine u_itR1 (by omega) (by omega) ?_
    refine for_yl yl_range (fun i σ' H' => ∃ z xs' v, σ' = [some (.ref p), some (.str z), v] ∧ z.length = i ∧ Low z ∧ StOk xs' ∧ But p H H' ∧ H' p = some (.lst xs')) ⟨_, xs1, none, rfl, rfl, low_nil rfl, so1, b1, h1⟩ (fun _ _ _ _ _ => trivial) ?_ ?_
    · rintro i x σ' H2 hx ⟨z, xs2, v, rfl, hz, lz, so2, b2, h2⟩
      obtain ⟨hi, rfl⟩ := rangeV_at hx
      wtm_at "r"
      refine u_digit h2 so2 (by decide) fun q xs3 H3 q0 q1 so3 b3 h3 => ?_
      wtm_at "r"
      obtain ⟨c, hc, hm⟩ := atI_ex (xs := letters.cps.toList) q0 (by rw [letters_len]; exact q1)
      refine u_ixS (by decide +kernel) hc ?_
      refine u_add_str ?_ ?_
      · rw [len_one]; wtm_at "sz"
      wtm_at "r"
      exact ⟨_, xs3, _, rfl, by rw [len_app, len_one, hz], low_app lz (low_one hm), so3, b2.trans b3, h3⟩
    · rintro σ' H2 ⟨z, xs2, v, rfl, hz, lz, so2, b2, h2⟩
      rw [rangeV_len] at hz
      wtm_at "r"
      exact k z xs2 H2 (isNm_iff.mpr ⟨by omega, by omega, lz⟩) so2 b2 h2
theorem tl_cut (z : Str) (lo hi : Option Int) : tl (cutS z lo hi) = ((tl z).drop (HT.sIx z.length 0 lo)).take (HT.sIx z.length z.length hi - HT.sIx z.length 0 lo) := rfl
theorem cut_to (z : Str) (k : Nat) : tl (cutS z none (some (k : Int))) = (tl z).take k := by
  rw [tl_cut, HT.sIx_nat]
  show ((tl z).drop 0).take (min k z.length - 0) = _
  rw [List.drop_zero, Nat.sub_zero, len_tl, ← List.take_eq_take_min]
theorem cut_from (z : Str) (k : Nat) : tl (cutS z (some (k : Int)) none) = (tl z).drop k := by
  rw [tl_cut, HT.sIx_nat]
  show ((tl z).drop (min k z.length)).take (z.length - min k z.length) = _
  rw [List.take_of_length_le (by rw [List.length_drop, ← len_tl]; exact Nat.le_refl _)]
  by_cases h : k ≤ z.length
  · rw [Nat.min_eq_left h]
  · rw [Nat.min_eq_right (by omega), List.drop_of_length_le (by rw [← len_tl]; exact Nat.le_refl _), List.drop_of_length_le (by rw [← len_tl]; omega)]

/-! ### paths -/
abbrev slash : Str := "/"
/-- one sign of a path's text goes in: the parts that are done, the part that is begun -/
def pst (s : List (List Nat) × List Nat) (c : Nat) : List (List Nat) × List Nat := if c = 47 then (if s.2 = [] then s.1 else s.1 ++ [s.2], []) else (s.1, s.2 ++ [c])
def pfin (s : List (List Nat) × List Nat) : List (List Nat) := if s.2 = [] then s.1 else s.1 ++ [s.2]
def scan (l : List Nat) : List (List Nat) × List Nat := l.foldl pst ([], [])
/-- the parts of a text, those without signs left out -/
def bits (z : Str) : List (List Nat) := pfin (scan (tl z))
theorem spl_scan : ∀ (l acc : List Nat) (done : List (List Nat)), done ++ (spl [47] 0 acc l).filter (fun p => !p.isEmpty) = pfin (l.foldl pst (done, acc))
  | [], acc, done => by
    rw [spl_nil]
    cases acc with
    | nil => simp [pfin]
    | cons a r => simp [pfin]
  | c :: r, acc, done => by
    rw [List.foldl_cons]
    by_cases h : c = 47
    · subst h
      rw [spl_hit (show pre [47] (47 :: r) = true by simp [pre]), List.filter_cons]
      show done ++ (if (!acc.isEmpty) = true then acc :: (spl [47] 0 [] r).filter (fun p => !p.isEmpty) else (spl [47] 0 [] r).filter (fun p => !p.isEmpty)) = pfin (r.foldl pst (pst (done, acc) 47))
      cases acc with
      | nil =>
        rw [if_neg (by simp)]
        exact spl_scan r [] done
      | cons a b =>
        rw [if_pos (by simp)]
        have e := spl_scan r [] (done ++ [a :: b])
        rw [List.append_assoc] at e
        exact e
    · rw [spl_miss (pre_of_head [] r h)]
      have e : pst (done, acc) c = (done, acc ++ [c]) := if_neg h
      rw [e]
      exact spl_scan r (acc ++ [c]) done
theorem split_bits (z : Str) : ((Txt.split z slash).map tl).filter (fun p => !p.isEmpty) = bits z := by
  rw [split_spl z slash (by decide +kernel) (kind_ok (by decide +kernel)), show tl slash = [47] by decide +kernel]
  exact spl_scan (tl z) [] []
/-- the texts of the parts -/
def strsOf (l : List (List Nat)) : List Str := l.map fun p => ⟨p.toArray⟩
theorem strsOf_tl (l : List Str) : strsOf (l.map tl) = l := by
  unfold strsOf
  rw [List.map_map]
  have : ((fun p : List Nat => (⟨p.toArray⟩ : Str)) ∘ tl) = id := funext fun z => mk_tl z
  rw [this, List.map_id]
theorem tl_strsOf (l : List (List Nat)) : (strsOf l).map tl = l := by
  unfold strsOf
  rw [List.map_map]
  have : (tl ∘ fun p : List Nat => (⟨p.toArray⟩ : Str)) = id := funext fun z => rfl
  rw [this, List.map_id]
def pieces (z : Str) : List Str := strsOf (bits z)
theorem str_empty {z : Str} : z = "" ↔ tl z = [] := ⟨fun e => by rw [e]; decide +kernel, fun e => ext_tl (by rw [e]; decide +kernel)⟩
theorem split_pieces (z : Str) : (Txt.split z slash).filter (fun y => !decide (y = ("" : Str))) = pieces z := by
  unfold pieces
  rw [← split_bits, ← strsOf_tl ((Txt.split z slash).filter _)]
  congr 1
  rw [List.filter_map]
  congr 1
  refine List.filter_congr fun y _ => ?_
  show (!decide (y = ("" : Str))) = !(tl y).isEmpty
  by_cases h : y = ("" : Str)
  · rw [decide_eq_true h, str_empty.mp h]; rfl
  · rw [decide_eq_false h]
    have : tl y ≠ [] := fun e => h (str_empty.mpr e)
    cases q : tl y with
    | nil => exact absurd q this
    | cons a b => rfl
def isPart (z : Str) : Bool := inV (.str z) [.str ".", .str ".."] || isNm z
def goodPath (z : Str) : Bool := decide (1 ≤ z.length) && (decide (z.length ≤ 2000) && (pieces z).all isPart)
def partsOf (z : Str) : List Str := if pieces z ≠ [] ∧ Txt.endswith z slash = true then pieces z ++ [("." : Str)] else pieces z
/-- whether it is from the root, its parts; none: no path -/
def pathS (z : Str) : Option (Bool × List Str) := if goodPath z = true then some (Txt.startswith z slash, partsOf z) else none
def pathV : V → Option (Bool × List Str)
  | .str z => pathS z
  | _ => none
theorem split_len (z : Str) : (Txt.split z slash).length ≤ z.length + 1 := by
  have e := split_spl z slash (by decide +kernel) (kind_ok (by decide +kernel))
  have h : ∀ (l acc : List Nat), (spl [47] 0 acc l).length ≤ l.length + 1 := by
    intro l
    induction l with
    | nil => intro acc; simp [spl_nil]
    | cons c r ih =>
      intro acc
      by_cases hc : c = 47
      · subst hc
        rw [spl_hit (show pre [47] (47 :: r) = true by simp [pre])]
        have := ih []
        simp only [List.length_cons]
        exact Nat.succ_le_succ this
      · rw [spl_miss (pre_of_head [] r hc)]
        exact Nat.le_trans (ih _) (by simp only [List.length_cons]; omega)
  have l1 : (Txt.split z slash).length = (spl (tl slash) 0 [] (tl z)).length := by rw [← e, List.length_map]
  rw [l1, show tl slash = [47] by decide +kernel, len_tl]
  exact h _ _
theorem scan_len : ∀ (l acc : List Nat) (done : List (List Nat)) (n : Nat), acc.length + l.length ≤ n → (∀ p ∈ done, p.length ≤ n) → ∀ p ∈ pfin (l.foldl pst (done, acc)), p.length ≤ n := by
  intro l
  induction l with
  | nil =>
    intro acc done n ha hd p hp
    unfold pfin at hp
    by_cases h : acc = []
    · simp only [List.foldl_nil, h, if_true] at hp
      exact hd p hp
    · simp only [List.foldl_nil, h, if_false, List.mem_append, List.mem_singleton] at hp
      rcases hp with hp | hp
      · exact hd p hp
      · subst hp; simp only [List.length_nil] at ha; omega
  | cons c r ih =>
    intro acc done n ha hd p hp
    rw [List.foldl_cons] at hp
    simp only [List.length_cons] at ha
    by_cases hc : c = 47
    · have e : pst (done, acc) c = (if acc = [] then done else done ++ [acc], []) := if_pos hc
      rw [e] at hp
      refine ih [] _ n (by simp only [List.length_nil]; omega) (fun q hq => ?_) p hp
      by_cases h : acc = []
      · rw [if_pos h] at hq; exact hd q hq
      · rw [if_neg h, List.mem_append, List.mem_singleton] at hq
        rcases hq with hq | hq
        · exact hd q hq
        · subst hq; omega
    · have e : pst (done, acc) c = (done, acc ++ [c]) := if_neg hc
      rw [e] at hp
      exact ih _ _ n (by rw [List.length_append, List.length_singleton]; omega) hd p hp
theorem pieces_len (z y : Str) (hy : y ∈ pieces z) : y.length ≤ z.length := by
  have hm : tl y ∈ bits z := by
    rw [← tl_strsOf (bits z)]
    exact List.mem_map.mpr ⟨y, hy, rfl⟩
  rw [len_tl, len_tl]
  exact scan_len (tl z) [] [] _ (by simp only [List.length_nil]; omega) (fun _ h => by cases h) _ hm
theorem low_ok {z : Str} (h : ∀ c ∈ tl z, c < 128) : PyData.strOk z = true := by
  unfold PyData.strOk
  rw [Array.all_eq_true_iff_forall_mem]
  intro c hc
  have := h c (by rw [← Array.mem_toList_iff] at hc; exact hc)
  simp; omega
theorem isPart_iff {z : Str} : isPart z = true ↔ z = "." ∨ z = ".." ∨ isNm z = true := by
  unfold isPart
  rw [Bool.or_eq_true]
  have : inV (.str z) [.str ".", .str ".."] = true ↔ z = "." ∨ z = ".." := by
    simp only [inV, List.any_cons, List.any_nil, Bool.or_false, Bool.or_eq_true, eqV, beq_iff_eq]
    exact ⟨fun h => h.elim (fun e => .inl e.symm) (fun e => .inr e.symm), fun h => h.elim (fun e => .inl e.symm) (fun e => .inr e.symm)⟩
  rw [this, or_assoc]
/-- a part's signs: letters or dots -/
theorem part_signs {z : Str} (h : isPart z = true) : z.length ≤ 8 ∧ tl z ≠ [] ∧ ∀ c ∈ tl z, c = 46 ∨ (97 ≤ c ∧ c ≤ 122) := by
  rcases isPart_iff.mp h with rfl | rfl | h
  · exact ⟨by decide +kernel, by decide +kernel, fun c hc => .inl (by rw [show tl "." = [46] by decide +kernel] at hc; simpa using hc)⟩
  · exact ⟨by decide +kernel, by decide +kernel, fun c hc => .inl (by rw [show tl ".." = [46, 46] by decide +kernel] at hc; simpa using hc)⟩
  · obtain ⟨h1, h2, h3⟩ := isNm_iff.mp h
    refine ⟨h2, fun e => ?_, fun c hc => .inr (letters_range (h3 c hc))⟩
    rw [len_tl, e] at h1
    simp at h1
theorem part_ok {z : Str} (h : isPart z = true) : PyData.strOk z = true := low_ok fun c hc => by
  have := (part_signs h).2.2 c hc
  omega
theorem Thing.notP {K : PySem.W.Frag} {H : Hp} {x : V} (t : Thing K H x) (h : ¬ ∃ z, x = .str z) : pathV x = none ∧ ∃ n, TyX K H x (.type n) ∧ kitB n "str" = some false := by
  cases x with
  | str z => exact absurd ⟨z, rfl⟩ h
  | _ => exact ⟨rfl, t⟩
def pIsPart (K : PySem.W.Frag) (x : V) (H : Hp) (Q : VK) (_ : XK) : Prop := ∃ z, x = .str z ∧ z.length ≤ sizeLine ∧ ∀ H', Same H H' → Q (.bl (isPart z)) H'
theorem sc_is_part : FnScope ["text"] ["text"] (defScope st_is_part) := ⟨rfl, rfl, rfl, by decide +kernel, rfl, by decide +kernel, by decide +kernel⟩
theorem ok_is_part (T : Txt K mg) (B_is_name : FnB P w K mg base CX0 1 "is_name" ["text"] (spIsName K)) {f : Addr} {fd : FuncData} (F : FunD K "is_part" "is_part" (defArgs st_is_part) (defBody st_is_part) (defScope st_is_part) [] [] f fd) : FnOk P w K mg base CX0 2 f fd ["text"] (sp1 (pIsPart K)) := by
  refine F.ok sc_is_part (fun vs H Q E h => ?_) (fun cdv A outer s H vs Q E hr h => ?_)
  · exact len1 h
  · obtain ⟨a, rfl, h⟩ := h
    have hu := hu_of hr
    have hu65 := hr.units
    refine ⟨_, PSs.nox ((pss_one (ps_ret (pe_or (pe_cmpR (op_inU (K := K) hu) (pv 0) (pe_tup (pa_cons pe_str (pa_cons pe_str pa_nil))) (by rfl)) (pe_one (pe_callF B_is_name (hr.mono (by decide)) pass0 (pa_cons (pv 0) pa_nil))))))), ?_⟩
    try dsimp only [cxOf]
    rw [show L2.start ["text"] [a] = [some a] from rfl]
    obtain ⟨z, rfl, hz, k⟩ := h
    wtm_at "r"
    refine ⟨by wtm_at "sz", fun p hp => ?_⟩
    refine u_inT (SqT.of upd_same) rfl rfl ?_
    wtm_at "r"
    refine if_2 (fun h1 => ?_) (fun h1 => ?_)
    · have e : isPart z = true := by unfold isPart; rw [h1]; rfl
      rw [← e]
      exact k _ (same_new hp)
    · wtm_at "r"
      refine ⟨hz, fun H' s => ?_⟩
      have e : nameV (.str z) = isPart z := by unfold isPart; rw [h1]; rfl
      rw [e]
      exact k H' ((same_new hp).trans s)
def pPartsOf (K : PySem.W.Frag) (x : V) (H : Hp) (Q : VK) (E : XK) : Prop := Thing K H x ∧ (pathV x = none → ∀ H', Same H H' → E (.ref (He.ga K "NoPath")) none H') ∧
  ∀ r ps, pathV x = some (r, ps) → ∀ (t l : Addr) (H' : Hp), Same H H' → H t = none → H l = none → H' t = some (.tup [.bl r, .ref l]) → H' l = some (.lst (ps.map V.str)) → Q (.ref t) H'
theorem sc_parts_of : FnScope ["path", "parts", "part"] ["path"] (defScope st_parts_of) := ⟨rfl, rfl, rfl, by decide +kernel, rfl, by decide +kernel, by decide +kernel⟩
theorem ok_parts_of (T : Txt K mg) (B_is_part : FnB P w K mg base CX0 2 "is_part" ["text"] (sp1 (pIsPart K))) {f : Addr} {fd : FuncData} (F : FunD K "parts_of" "parts_of" (defArgs st_parts_of) (defBody st_parts_of) (defScope st_parts_of) [] [] f fd) : FnOk P w K mg base (L2.CX P w) 3 f fd ["path"] (sp1 (pPartsOf K)) := by
  refine F.ok sc_parts_of (fun vs H Q E h => ?_) (fun cdv A outer s H vs Q E hr h => ?_)
  · exact len1 h
  · obtain ⟨a, rfl, h⟩ := h
    have hu := hu_of hr
    have hu65 := hr.units
    refine ⟨_, ((pss_cons (ps_if (PW.pt (pw_or (pt_not (pt_val (pe_callB (call_isiU (K := K)) (by rfl) T.z_isinstance (by decide +kernel) (pa_cons (pv 0) (pa_cons (pe_bltn (v := .ty "str") (by rfl) T.z_str (by decide +kernel) rfl) pa_nil))))) (pw_or1 (pt_not (pt_chain op_le op_le pe_int (pe_callB (call_lenU (K := K)) (by rfl) T.z_len PySem.boot_len (pa_cons (pv 0) pa_nil)) (pe_gi T.c_MOST_SIGNS)))))) (pss_one (ps_raiseE rfl (takes_of rfl rfl rfl rfl) T.e_NoPath)) pss_nil)
    (pss_cons (ps_setLc (i := 1) (own := [("part", 2)]) (g := gName 2) rfl sc_parts_of.nd rfl rfl (sw_true rfl rfl rfl (by decide +kernel)) (pi_list (pe_m1 PySem.F.slot_str_split PySem.F.type_str_split (mt_splitN) (pv 0) pe_str)) (blkOk_by (own := [("part", 2)]) (N := ["path", "parts", "part"]) (sc := defScope st_parts_of) (by decide +kernel)) (fun _ _ _ _ _ => (pg_name (i := 2) sc_parts_of.nd rfl (Or.inl rfl))) (fun _ _ _ _ _ => pts_one (pt_cmpR (op_neU (K := K) hu65) (pv 2) pe_str (nomark _))) (fun _ _ _ _ _ => (pv 2)))
    (pss_cons (ps_if (pt_not (pt_val (pe_callB (cr_allU (K := K)) (by rfl) T.z_all (by decide +kernel) (pa_cons (pe_lc (own := [("part", 2)]) (g := gName 2) (tt := tYes) rfl sc_parts_of.nd (pi_list (pv 1)) (blkOk_by (own := [("part", 2)]) (N := ["path", "parts", "part"]) (sc := defScope st_parts_of) (by decide +kernel)) (fun _ _ _ _ _ => (pg_name (i := 2) sc_parts_of.nd rfl (Or.inl rfl))) (fun _ _ _ _ _ => pts_nil) (fun _ _ _ _ _ => (pe_callF B_is_part (hr.mono (by decide)) pass0 (pa_cons (pv 2) pa_nil)))) pa_nil)))) (pss_one (ps_raiseE rfl (takes_of rfl rfl rfl rfl) T.e_NoPath)) pss_nil)
    (pss_cons (ps_if (PW.pt (pw_and (pt_cmpR (op_neU (K := K) hu65) (pv 1) (pe_lst pa_nil) (nomark _)) (pw_and1 (pt_val (pe_m1 PySem.F.slot_str_endswith PySem.F.type_str_endswith (mt_endsN) (pv 0) pe_str))))) (pss_one (ps_expr (pe_bm PySem.F.plainAttrs_list PySem.F.slot_list_append PySem.F.type_list_append mt_append (pv 1) (pa_cons pe_str pa_nil)))) pss_nil)
    (pss_one (ps_ret (pe_tup (pa_cons (pe_m1 PySem.F.slot_str_startswith PySem.F.type_str_startswith (mt_startsN) (pv 0) pe_str) (pa_cons (pv 1) pa_nil)))))))))), ?_⟩
    try dsimp only [cxOf]
    rw [show L2.start ["path", "parts", "part"] [a] = [some a, none, none] from rfl]
    obtain ⟨ht, kE, kQ⟩ := h
    by_cases hs : ∃ z, a = .str z
    · obtain ⟨z, rfl⟩ := hs
      have hz : z.length ≤ sizeLine := ht
      have kE : pathS z = none → ∀ H', Same H H' → E (.ref (He.ga K "NoPath")) none H' := kE
      wtm_at "r"
      refine u_isStr ?_
      wtm_at "r"
      refine if_f rfl ?_
      wtm_at "r"
      refine u_lenS hz ?_
      wtm_at "r"
      refine if_2 (fun h1 => ?_) (fun h1 => ?_)
      · wtm_at "r"
        have h1 : 1 ≤ z.length := by simp at h1; omega
        refine if_2 (fun h2 => ?_) (fun h2 => ?_)
        · have h2 : ¬ z.length ≤ 2000 := by simp at h2; omega
          wtm_at "r"
          refine kE ?_ H (Same.refl H)
          simp [pathS, goodPath, h2]
        · have h2 : z.length ≤ 2000 := by simp at h2; omega
          wtm_at "r"
          refine u_split (by decide +kernel) (by wtm_at "sz") fun L hL => ?_
          refine u_itL (SqL.of upd_same) ?_
          have sL := same_new (o := .lst ((Txt.split z slash).map V.str)) hL
          have hlen := split_len z
          refine lc_yl yl_list (SqL.of upd_same) (fun H' s' => SqL.of (s' _ _ upd_same)) (fun x => match x with | .str y => !decide (y = ("" : Str)) | _ => true) (fun x => x) (by rw [List.length_map]; show (Txt.split z slash).length < _; omega) (fun x => rfl) (fun x hx H' s1 q h => ?_) (fun x hx _ H' s1 q h => ?_) (fun D H1 hD s1 hd => ?_)
          · obtain ⟨y, hy, rfl⟩ := List.mem_map.mp hx
            wtm_at "r"
            exact h H' (Same.refl _)
          · wtm_at "r"
            exact h H' (Same.refl _)
          have ed : ((((Txt.split z slash).map V.str).filter (fun x => match x with | .str y => !decide (y = ("" : Str)) | _ => true)).map fun x => x) = (pieces z).map V.str := by
            rw [List.map_id', List.filter_map, ← split_pieces]
            rfl
          rw [ed] at hd
          have s1' : Same H H1 := sL.trans s1
          have hDH : H D = none := sL.free hD
          have plen : (pieces z).length ≤ 2001 := by
            rw [← split_pieces]
            exact Nat.le_trans (List.length_filter_le _ _) (by omega)
          wtm_at "r"
          refine u_itL (SqL.of hd) ?_
          refine lc_yl yl_list (SqL.of hd) (fun H' s' => SqL.of (s' _ _ hd)) (fun _ => true) (fun x => match x with | .str y => .bl (isPart y) | _ => .non) (by rw [List.length_map]; omega) (fun x => rfl) (fun x hx H' s2 q h => t_yes h) (fun x hx _ H' s2 q h => ?_) (fun D2 H2 hD2 s2 hd2 => ?_)
          · obtain ⟨y, hy, rfl⟩ := List.mem_map.mp hx
            wtm_at "r"
            refine ⟨y, rfl, ?_, fun H'' s3 => h H'' s3⟩
            exact le_line (by have := pieces_len z y hy; omega)
          have ed2 : (((((pieces z).map V.str).filter fun _ => true)).map (fun x => match x with | .str y => V.bl (isPart y) | _ => .non)) = ((pieces z).map isPart).map V.bl := by
            rw [List.filter_eq_self.mpr (fun _ _ => rfl), List.map_map, List.map_map]
            rfl
          rw [ed2] at hd2
          wtm_at "r"
          refine u_all (SqL.of hd2) ?_
          wtm_at "r"
          rw [all_map]
          cases hall : (pieces z).all isPart with
          | false =>
            refine if_t rfl ?_
            wtm_at "r"
            refine kE ?_ H2 (s1'.trans s2)
            simp [pathS, goodPath, hall]
          | true =>
            have hgood : goodPath z = true := by simp [goodPath, h1, h2, hall]
            have hS : pathV (.str z) = some (Txt.startswith z slash, partsOf z) := by
              show pathS z = _
              unfold pathS
              rw [if_pos hgood]
            refine if_f rfl ?_
            wtm_at "r"
            refine ⟨by wtm_at "sz", fun N hN => ?_⟩
            have hd3 := same_new (o := .lst []) hN _ _ (s2 _ _ hd)
            have s3 : Same H _ := (s1'.trans s2).trans (same_new (o := .lst []) hN)
            refine u_neStrs (ss := pieces z) (ts := []) (SqL.of hd3) (SqL.of upd_same) (fun y hy => part_ok (List.all_eq_true.mp hall y hy)) (fun _ h => by cases h) ?_
            wtm_at "r"
            by_cases hp : pieces z = []
            · refine if_f (by rw [hp]; rfl) ?_
              refine if_f rfl ?_
              wtm_at "r"
              have e : partsOf z = pieces z := by unfold partsOf; rw [if_neg (fun h => h.1 hp)]
              refine ⟨by wtm_at "sz", fun t ht => ?_⟩
              refine kQ _ _ hS t D _ (s3.trans (same_new ht)) (s3.free ht) hDH upd_same ?_
              rw [e]
              exact same_new ht _ _ hd3
            · refine if_t (by rw [decide_eq_false hp]; rfl) ?_
              wtm_at "r"
              cases he : Txt.endswith z slash with
              | false =>
                refine if_f rfl ?_
                wtm_at "r"
                have e : partsOf z = pieces z := by unfold partsOf; rw [if_neg (fun h => by rw [he] at h; cases h.2)]
                refine ⟨by wtm_at "sz", fun t ht => ?_⟩
                refine kQ _ _ hS t D _ (s3.trans (same_new ht)) (s3.free ht) hDH upd_same ?_
                rw [e]
                exact same_new ht _ _ hd3
              | true =>
                refine if_t rfl ?_
                wtm_at "r"
                refine u_tyL (SqL.of hd3) ?_
                wtm_at "r"
                refine u_append hd3 (lt_line (by rw [List.length_map]; omega)) ?_
                wtm_at "r"
                have e : partsOf z = pieces z ++ [(".":Str)] := by unfold partsOf; rw [if_pos ⟨hp, he⟩]
                refine ⟨by wtm_at "sz", fun t ht => ?_⟩
                refine kQ _ _ hS t D _ ((Same.wr s3 hDH).trans (same_new ht)) ((Same.wr s3 hDH).free ht) hDH upd_same ?_
                rw [e, List.map_append]
                exact same_new ht _ _ upd_same
      · have h1 : ¬ 1 ≤ z.length := by simp at h1; omega
        wtm_at "r"
        refine if_t rfl ?_
        wtm_at "r"
        refine kE ?_ H (Same.refl H)
        simp [pathS, goodPath, h1]
    · obtain ⟨e, n, ty, ek⟩ := Thing.notP ht hs
      wtm_at "r"
      refine u_isTy ty ek ?_
      wtm_at "r"
      refine if_t rfl ?_
      refine if_t rfl ?_
      wtm_at "r"
      exact kE e H (Same.refl H)
theorem scan_part {p : List Nat} (h : ¬ 47 ∈ p) : ∀ (d : List (List Nat)) (a : List Nat), p.foldl pst (d, a) = (d, a ++ p) := by
  induction p with
  | nil => intro d a; simp
  | cons c r ih =>
    intro d a
    have hc : ¬ c = 47 := fun e => h (by rw [e]; exact List.mem_cons_self)
    have e : pst (d, a) c = (d, a ++ [c]) := if_neg hc
    rw [List.foldl_cons, e, ih (fun q => h (List.mem_cons_of_mem _ q)), List.append_assoc]
    rfl
theorem scan_sl0 : ∀ (n : Nat) (d : List (List Nat)), (List.replicate n 47).foldl pst (d, []) = (d, [])
  | 0, d => rfl
  | n + 1, d => by
    rw [List.replicate_succ, List.foldl_cons]
    have e : pst (d, []) 47 = (d, []) := by simp [pst]
    rw [e, scan_sl0 n d]
theorem scan_sl {n : Nat} (hn : 1 ≤ n) (s : List (List Nat) × List Nat) : (List.replicate n 47).foldl pst s = (pfin s, []) := by
  obtain ⟨m, rfl⟩ : ∃ m, n = m + 1 := ⟨n - 1, by omega⟩
  obtain ⟨d, a⟩ := s
  rw [List.replicate_succ, List.foldl_cons]
  have e : pst (d, a) 47 = (pfin (d, a), []) := by simp [pst, pfin]
  rw [e, scan_sl0 m]
theorem scan_app (l m : List Nat) : scan (l ++ m) = m.foldl pst (scan l) := by unfold scan; rw [List.foldl_append]
/-- a part of a path that is built: not empty, no slash in it -/
def Pc (z : Str) : Prop := tl z ≠ [] ∧ ¬ 47 ∈ tl z ∧ z.length ≤ 20
theorem part_pc {z : Str} (h : isPart z = true) : Pc z := by
  obtain ⟨h1, h2, h3⟩ := part_signs h
  refine ⟨h2, fun hm => ?_, by omega⟩
  have := h3 47 hm
  omega
/-- some slashes -/
def Sl (z : Str) : Prop := ∃ n : Nat, 1 ≤ n ∧ n ≤ 3 ∧ tl z = List.replicate n 47
theorem Sl.len {z : Str} (h : Sl z) : 1 ≤ z.length ∧ z.length ≤ 3 := by
  obtain ⟨n, h1, h2, e⟩ := h
  rw [len_tl, e, List.length_replicate]
  exact ⟨h1, h2⟩
/-- the text z has the parts ps behind one another, the last one at its end -/
def Has (z : Str) (ps : List Str) : Prop := ps ≠ [] ∧ scan (tl z) = (ps.dropLast.map tl, (ps.getLast?.map tl).getD [])
theorem Has.pieces {z : Str} {ps : List Str} (h : Has z ps) (hp : ∀ y ∈ ps, Pc y) : pieces z = ps ∧ ∀ s, Sl s → pieces (z ++ s) = ps := by
  obtain ⟨h1, h2⟩ := h
  obtain ⟨qs, q, rfl⟩ : ∃ qs q, ps = qs ++ [q] := ⟨ps.dropLast, ps.getLast h1, (List.dropLast_concat_getLast h1).symm⟩
  simp only [List.dropLast_concat, List.getLast?_concat, Option.map_some, Option.getD_some] at h2
  have hq : tl q ≠ [] := (hp q (by simp)).1
  have e : pfin (qs.map tl, tl q) = (qs ++ [q]).map tl := by
    unfold pfin
    rw [if_neg hq]
    simp
  refine ⟨?_, fun s hs => ?_⟩
  · unfold LN.pieces bits
    rw [h2, e, strsOf_tl]
  · obtain ⟨n, n1, n2, hs⟩ := hs
    unfold LN.pieces bits
    rw [tl_append, scan_app, h2, hs, scan_sl n1, e]
    exact strsOf_tl _
theorem has_first {y : Str} {s : Str} (hy : Pc y) (hs : s = "" ∨ Sl s) : Has (s ++ y) [y] := by
  refine ⟨by simp, ?_⟩
  rw [tl_append, scan_app]
  have e : scan (tl s) = ([], []) := by
    rcases hs with rfl | ⟨n, n1, n2, e⟩
    · rfl
    · unfold scan
      rw [e, scan_sl0]
  rw [e, scan_part hy.2.1]
  simp
theorem has_more {z s y : Str} {ps : List Str} (h : Has z ps) (hp : ∀ y ∈ ps, Pc y) (hs : Sl s) (hy : Pc y) : Has (z ++ s ++ y) (ps ++ [y]) := by
  obtain ⟨h1, h2⟩ := h
  obtain ⟨qs, q, rfl⟩ : ∃ qs q, ps = qs ++ [q] := ⟨ps.dropLast, ps.getLast h1, (List.dropLast_concat_getLast h1).symm⟩
  simp only [List.dropLast_concat, List.getLast?_concat, Option.map_some, Option.getD_some] at h2
  have hq : tl q ≠ [] := (hp q (by simp)).1
  obtain ⟨n, n1, n2, hs⟩ := hs
  refine ⟨by simp, ?_⟩
  rw [tl_append, tl_append, scan_app, scan_app, h2, hs, scan_sl n1, scan_part hy.2.1]
  simp only [List.dropLast_concat, List.getLast?_concat, Option.map_some, Option.getD_some, List.nil_append]
  unfold pfin
  rw [if_neg hq]
  simp
theorem pieces_sl {z : Str} {n : Nat} (h : tl z = List.replicate n 47) : pieces z = [] := by
  unfold pieces bits scan
  rw [h, scan_sl0]
  rfl
def pSlashes (s : V) (H : Hp) (Q : VK) (_ : XK) : Prop := ∃ (a : Addr) (xs : List V), s = .ref a ∧ H a = some (.lst xs) ∧ StOk xs ∧
  ∀ (z : Str) (xs' : List V) (H' : Hp), Sl z → StOk xs' → But a H H' → H' a = some (.lst xs') → Q (.str z) H'
theorem u_slashes {a : Addr} {xs : List V} {H : Hp} {Q : VK} {E : XK} (h1 : H a = some (.lst xs)) (so : StOk xs)
    (k : ∀ (z : Str) (xs' : List V) (H' : Hp), Sl z → StOk xs' → But a H H' → H' a = some (.lst xs') → Q (.str z) H') : pSlashes (.ref a) H Q E := ⟨a, xs, rfl, h1, so, k⟩
theorem sc__law_slashes : FnScope ["_law_state"] ["_law_state"] (defScope st__law_slashes) := ⟨rfl, rfl, rfl, by decide +kernel, rfl, by decide +kernel, by decide +kernel⟩
theorem ok__law_slashes (T : Txt K mg) (B__law_digit : FnB P w K mg base CX0 1 "_law_digit" ["_law_state", "_law_base"] spDigit) {f : Addr} {fd : FuncData} (F : FunD K "_law_slashes" "_law_slashes" (defArgs st__law_slashes) (defBody st__law_slashes) (defScope st__law_slashes) [] [] f fd) : FnOk P w K mg base CX0 2 f fd ["_law_state"] (sp1 pSlashes) := by
  refine F.ok sc__law_slashes (fun vs H Q E h => ?_) (fun cdv A outer s H vs Q E hr h => ?_)
  · exact len1 h
  · obtain ⟨a, rfl, h⟩ := h
    have hu := hu_of hr
    have hu65 := hr.units
    refine ⟨_, PSs.nox ((pss_one (ps_ret (pe_op op_mulU pe_str (pe_ix (ix_U (K := K)) (pe_lst (pa_cons pe_int (pa_cons pe_int (pa_cons pe_int (pa_cons pe_int (pa_cons pe_int (pa_cons pe_int pa_nil))))))) (pe_callF B__law_digit (hr.mono (by decide)) pass0 (pa_cons (pv 0) (pa_cons pe_int pa_nil))) (fun _ _ => rfl)))))), ?_⟩
    try dsimp only [cxOf]
    rw [show L2.start ["_law_state"] [a] = [some a] from rfl]
    obtain ⟨p, xs, rfl, hp, so, k⟩ := h
    wtm_at "r"
    refine ⟨by wtm_at "sz", fun l hl => ?_⟩
    wtm_at "r"
    have npl : p ≠ l := ne_of_none hp hl
    refine u_digit ((upd_ne npl).trans hp) so (by decide) fun q xs2 H2 q0 q1 so2 b2 h2 => ?_
    wtm_at "r"
    have hL := b2 l _ npl.symm upd_same
    obtain ⟨v, hv, hm⟩ := atI_ex (xs := [V.int 1, .int 1, .int 1, .int 2, .int 3, .int 1]) q0 (by simpa using q1)
    obtain ⟨n, rfl, n1, n2⟩ : ∃ n : Int, v = .int n ∧ 1 ≤ n ∧ n ≤ 3 := by
      simp only [List.mem_cons, List.mem_singleton, List.not_mem_nil, or_false] at hm
      rcases hm with rfl | rfl | rfl | rfl | rfl | rfl
      all_goals exact ⟨_, rfl, by decide, by decide⟩
    refine u_ixL hL hv ?_
    refine u_mulS (by omega) (by decide +kernel) ?_
    refine k _ xs2 H2 ⟨n.toNat, by omega, by omega, ?_⟩ so2 ((But.of_same (same_new hl)).trans b2) h2
    rw [tl_mul, show tl "/" = [47] by decide +kernel]
    exact List.flatten_replicate_singleton
def pLParts (s m : V) (H : Hp) (Q : VK) (_ : XK) : Prop := ∃ (a : Addr) (xs : List V) (n : Int), s = .ref a ∧ m = .int n ∧ 0 ≤ n ∧ n ≤ 1000 ∧ H a = some (.lst xs) ∧ StOk xs ∧
  ∀ (ps : List Str) (p : Addr) (xs' : List V) (H' : Hp), (∀ y ∈ ps, isPart y = true) → ps.length ≤ n.toNat → StOk xs' → But a H H' → H p = none → H' a = some (.lst xs') → H' p = some (.lst (ps.map V.str)) → Q (.ref p) H'
theorem u_lparts {a : Addr} {xs : List V} {n : Int} {H : Hp} {Q : VK} {E : XK} (h0 : 0 ≤ n ∧ n ≤ 1000) (h1 : H a = some (.lst xs)) (so : StOk xs)
    (k : ∀ (ps : List Str) (p : Addr) (xs' : List V) (H' : Hp), (∀ y ∈ ps, isPart y = true) → ps.length ≤ n.toNat → StOk xs' → But a H H' → H p = none → H' a = some (.lst xs') → H' p = some (.lst (ps.map V.str)) → Q (.ref p) H') : pLParts (.ref a) (.int n) H Q E :=
  ⟨a, xs, n, rfl, rfl, h0.1, h0.2, h1, so, k⟩
theorem sc__law_parts : FnScope ["_law_state", "_law_most", "_law_parts_here", "_law_k", "_law_name_here"] ["_law_state", "_law_most"] (defScope st__law_parts) := ⟨rfl, rfl, rfl, by decide +kernel, rfl, by decide +kernel, by decide +kernel⟩
theorem ok__law_parts (T : Txt K mg) (B__law_digit : FnB P w K mg base CX0 1 "_law_digit" ["_law_state", "_law_base"] spDigit) (B__law_name : FnB P w K mg base CX0 2 "_law_name" ["_law_state"] spLName) {f : Addr} {fd : FuncData} (F : FunD K "_law_parts" "_law_parts" (defArgs st__law_parts) (defBody st__law_parts) (defScope st__law_parts) [] [] f fd) : FnOk P w K mg base CX0 3 f fd ["_law_state", "_law_most"] (sp2 pLParts) := by
  refine F.ok sc__law_parts (fun vs H Q E h => ?_) (fun cdv A outer s H vs Q E hr h => ?_)
  · exact len2 h
  · obtain ⟨a, b, rfl, h⟩ := h
    have hu := hu_of hr
    have hu65 := hr.units
    refine ⟨_, PSs.nox ((pss_cons (ps_set (i := 2) sc__law_parts.nd rfl (by first | exact Or.inl rfl | exact Or.inr rfl) (pe_lst pa_nil))
    (pss_cons (ps_for PassesOwn.never rfl (pi_range1 rfl T.z_range (pa_cons (pe_callF B__law_digit (hr.mono (by decide)) pass0 (pa_cons (pv 0) (pa_cons (pe_op (op_addU (K := K)) (pv 1) pe_int) pa_nil))) pa_nil)) (pg_name (i := 3) sc__law_parts.nd rfl (by first | exact Or.inl rfl | exact Or.inr rfl)) (pss_cons (ps_set (i := 4) sc__law_parts.nd rfl (by first | exact Or.inl rfl | exact Or.inr rfl) (pe_callF B__law_name (hr.mono (by decide)) pass0 (pa_cons (pv 0) pa_nil)))
    (pss_one (ps_expr (pe_bm PySem.F.plainAttrs_list PySem.F.slot_list_append PySem.F.type_list_append mt_append (pv 2) (pa_cons (pe_ix (ix_U (K := K)) (pe_lst (pa_cons (pv 4) (pa_cons (pv 4) (pa_cons (pv 4) (pa_cons pe_str (pa_cons pe_str pa_nil)))))) (pe_callF B__law_digit (hr.mono (by decide)) pass0 (pa_cons (pv 0) (pa_cons pe_int pa_nil))) (fun _ _ => rfl)) pa_nil))))))
    (pss_one (ps_ret (pv 2)))))), ?_⟩
    try dsimp only [cxOf]
    rw [show L2.start ["_law_state", "_law_most", "_law_parts_here", "_law_k", "_law_name_here"] [a, b] = [some a, some b, none, none, none] from rfl]
    obtain ⟨p, xs, n, rfl, rfl, n0, n1, hp, so, k⟩ := h
    wtm_at "r"
    refine ⟨by wtm_at "sz", fun l hl => ?_⟩
    have npl : p ≠ l := ne_of_none hp hl
    wtm_at "r"
    refine u_digit ((upd_ne npl).trans hp) so (by omega) fun r xs1 H1 r0 r1 so1 b1 h1 => ?_
    wtm_at "r"
    refine u_itR1 (by omega) (by omega) ?_
    refine for_yl yl_range (fun i σ' H' => ∃ (ps : List Str) (xs' : List V) (v w : Option V), σ' = [some (.ref p), some (.int n), some (.ref l), v, w] ∧ (∀ y ∈ ps, isPart y = true) ∧ ps.length = i ∧ StOk xs' ∧ But p H H' ∧ H' p = some (.lst xs') ∧ H' l = some (.lst (ps.map V.str)))
      ⟨[], xs1, none, none, rfl, (fun _ h => by cases h), rfl, so1, (But.of_same (same_new hl)).trans b1, h1, b1 l _ npl.symm upd_same⟩ (fun _ _ _ _ _ => trivial) ?_ ?_
    · rintro i x σ' H2 hx ⟨ps, xs2, v, w, rfl, hps, hi, so2, b2, h2, hL⟩
      obtain ⟨hir, rfl⟩ := rangeV_at hx
      wtm_at "r"
      refine u_lname h2 so2 fun z xs3 H3 hz so3 b3 h3 => ?_
      wtm_at "r"
      refine u_tyL (SqL.of (b3 l _ npl.symm hL)) ?_
      wtm_at "r"
      refine ⟨by wtm_at "sz", fun m hm => ?_⟩
      have npm : p ≠ m := ne_of_none h3 hm
      wtm_at "r"
      refine u_digit ((upd_ne npm).trans h3) so3 (by decide) fun q xs4 H4 q0 q1 so4 b4 h4 => ?_
      wtm_at "r"
      obtain ⟨u, hu', hm'⟩ := atI_ex (xs := [V.str z, .str z, .str z, .str ".", .str ".."]) q0 (by simpa using q1)
      obtain ⟨y, rfl, hy⟩ : ∃ y, u = .str y ∧ isPart y = true := by
        simp only [List.mem_cons, List.mem_singleton, List.not_mem_nil, or_false] at hm'
        rcases hm' with rfl | rfl | rfl | rfl | rfl
        · exact ⟨_, rfl, isPart_iff.mpr (.inr (.inr hz))⟩
        · exact ⟨_, rfl, isPart_iff.mpr (.inr (.inr hz))⟩
        · exact ⟨_, rfl, isPart_iff.mpr (.inr (.inr hz))⟩
        · exact ⟨_, rfl, isPart_iff.mpr (.inl rfl)⟩
        · exact ⟨_, rfl, isPart_iff.mpr (.inr (.inl rfl))⟩
      refine u_ixL (b4 m _ npm.symm upd_same) hu' ?_
      wtm_at "r"
      have hL4 : H4 l = some (.lst (ps.map V.str)) := b4 l _ npl.symm (same_new hm _ _ (b3 l _ npl.symm hL))
      refine u_append hL4 (lt_line (by rw [List.length_map]; omega)) ?_
      wtm_at "r"
      refine ⟨ps ++ [y], xs4, _, _, rfl, ?_, by rw [List.length_append, hi]; rfl, so4, ?_, (upd_ne npl).trans h4, by rw [List.map_append]; exact upd_same⟩
      · intro y' hy'
        rcases List.mem_append.mp hy' with h | h
        · exact hps y' h
        · rw [List.mem_singleton.mp h]; exact hy
      · intro b o hb e
        have hbl : b ≠ l := ne_of_none e hl
        rw [upd_ne hbl]
        exact b4 b o hb (same_new hm _ _ (b3 b o hb (b2 b o hb e)))
    · rintro σ' H2 ⟨ps, xs2, v, w, rfl, hps, hi, so2, b2, h2, hL⟩
      rw [rangeV_len] at hi
      wtm_at "r"
      exact k ps l xs2 H2 hps (by omega) so2 b2 hl h2 hL
def pLPath (K : PySem.W.Frag) (b s : V) (H : Hp) (Q : VK) (_ : XK) : Prop := ∃ (a p : Addr) (xs : List V) (ps : List Str), b = .ref p ∧ s = .ref a ∧ p ≠ a ∧ (∀ y ∈ ps, Pc y ∧ PyData.strOk y = true) ∧ ps.length ≤ 20 ∧ H a = some (.lst xs) ∧ StOk xs ∧ H p = some (.lst (ps.map V.str)) ∧
  ∀ (z : Str) (xs' : List V) (H' : Hp), pieces z = ps → 1 ≤ z.length → z.length ≤ 1000 → StOk xs' → But a H H' → H' a = some (.lst xs') → Q (.str z) H'
theorem u_lpath {K : PySem.W.Frag} {a p : Addr} {xs : List V} {ps : List Str} {H : Hp} {Q : VK} {E : XK} (n : p ≠ a) (hp : ∀ y ∈ ps, Pc y ∧ PyData.strOk y = true) (hl : ps.length ≤ 20) (h1 : H a = some (.lst xs)) (so : StOk xs) (h2 : H p = some (.lst (ps.map V.str)))
    (k : ∀ (z : Str) (xs' : List V) (H' : Hp), pieces z = ps → 1 ≤ z.length → z.length ≤ 1000 → StOk xs' → But a H H' → H' a = some (.lst xs') → Q (.str z) H') : pLPath K (.ref p) (.ref a) H Q E := ⟨a, p, xs, ps, rfl, rfl, n, hp, hl, h1, so, h2, k⟩
theorem part_both {ps : List Str} (h : ∀ y ∈ ps, isPart y = true) : ∀ y ∈ ps, Pc y ∧ PyData.strOk y = true := fun y hy => ⟨part_pc (h y hy), part_ok (h y hy)⟩
theorem sc__law_path : FnScope ["_law_parts_here", "_law_state", "_law_text", "_law_part"] ["_law_parts_here", "_law_state"] (defScope st__law_path) := ⟨rfl, rfl, rfl, by decide +kernel, rfl, by decide +kernel, by decide +kernel⟩
theorem ok__law_path (T : Txt K mg) (B__law_slashes : FnB P w K mg base CX0 2 "_law_slashes" ["_law_state"] (sp1 pSlashes)) (B__law_digit : FnB P w K mg base CX0 1 "_law_digit" ["_law_state", "_law_base"] spDigit) {f : Addr} {fd : FuncData} (F : FunD K "_law_path" "_law_path" (defArgs st__law_path) (defBody st__law_path) (defScope st__law_path) [] [] f fd) : FnOk P w K mg base CX0 3 f fd ["_law_parts_here", "_law_state"] (sp2 (pLPath K)) := by
  refine F.ok sc__law_path (fun vs H Q E h => ?_) (fun cdv A outer s H vs Q E hr h => ?_)
  · exact len2 h
  · obtain ⟨a, b, rfl, h⟩ := h
    have hu := hu_of hr
    have hu65 := hr.units
    refine ⟨_, PSs.nox ((pss_cons (ps_set (i := 2) sc__law_path.nd rfl (by first | exact Or.inl rfl | exact Or.inr rfl) (pe_ix (ix_U (K := K)) (pe_lst (pa_cons pe_str (pa_cons (pe_callF B__law_slashes (hr.mono (by decide)) pass0 (pa_cons (pv 1) pa_nil)) pa_nil))) (pe_callF B__law_digit (hr.mono (by decide)) pass0 (pa_cons (pv 1) (pa_cons pe_int pa_nil))) (fun _ _ => rfl)))
    (pss_cons (ps_if (pt_cmpR (op_eqU (K := K) hu65) (pv 0) (pe_lst pa_nil) (nomark _)) (pss_one (ps_ret (pe_op (op_addU (K := K)) pe_str (pv 2)))) pss_nil)
    (pss_cons (ps_set (i := 2) sc__law_path.nd rfl (by first | exact Or.inl rfl | exact Or.inr rfl) (pe_op (op_addU (K := K)) (pv 2) (pe_ix (ix_U (K := K)) (pv 0) pe_int (fun _ _ => rfl))))
    (pss_cons (ps_for PassesOwn.never rfl (pi_list (pe_slice (sl_U (K := K)) (pv 0) (po_some pe_int) po_none)) (pg_name (i := 3) sc__law_path.nd rfl (by first | exact Or.inl rfl | exact Or.inr rfl)) (pss_one (ps_set (i := 2) sc__law_path.nd rfl (by first | exact Or.inl rfl | exact Or.inr rfl) (pe_op (op_addU (K := K)) (pe_op (op_addU (K := K)) (pv 2) (pe_callF B__law_slashes (hr.mono (by decide)) pass0 (pa_cons (pv 1) pa_nil))) (pv 3)))))
    (pss_one (ps_ret (pe_op (op_addU (K := K)) (pv 2) (pe_ix (ix_U (K := K)) (pe_lst (pa_cons pe_str (pa_cons pe_str (pa_cons (pe_callF B__law_slashes (hr.mono (by decide)) pass0 (pa_cons (pv 1) pa_nil)) pa_nil)))) (pe_callF B__law_digit (hr.mono (by decide)) pass0 (pa_cons (pv 1) (pa_cons pe_int pa_nil))) (fun _ _ => rfl)))))))))), ?_⟩
    try dsimp only [cxOf]
    rw [show L2.start ["_law_parts_here", "_law_state", "_law_text", "_law_part"] [a, b] = [some a, some b, none, none] from rfl]
    obtain ⟨p, bl, xs, ps, rfl, rfl, nbp, hps, hlen, hp, so, hb, k⟩ := h
    wtm_at "r"
    refine u_slashes hp so fun s1 xs1 H1 hs1 so1 b1 h1 => ?_
    wtm_at "r"
    refine ⟨by wtm_at "sz", fun l hl => ?_⟩
    have npl : p ≠ l := ne_of_none h1 hl
    wtm_at "r"
    refine u_digit ((upd_ne npl).trans h1) so1 (by decide) fun r xs2 H2 r0 r1 so2 b2 h2 => ?_
    wtm_at "r"
    obtain ⟨v, hv, hm⟩ := atI_ex (xs := [V.str "", .str s1]) r0 (by simpa using r1)
    obtain ⟨s, rfl, hs⟩ : ∃ s : Str, v = .str s ∧ (s = "" ∨ Sl s) := by
      simp only [List.mem_cons, List.mem_singleton, List.not_mem_nil, or_false] at hm
      rcases hm with rfl | rfl
      · exact ⟨_, rfl, .inl rfl⟩
      · exact ⟨_, rfl, .inr hs1⟩
    have slen : s.length ≤ 3 := by
      rcases hs with rfl | h
      · decide +kernel
      · exact h.len.2
    refine u_ixL (b2 l _ npl.symm upd_same) hv ?_
    have bb : But p H H2 := b1.trans ((But.of_same (same_new hl)).trans b2)
    have hb2 : H2 bl = some (.lst (ps.map V.str)) := bb bl _ nbp hb
    wtm_at "r"
    refine ⟨by wtm_at "sz", fun e he => ?_⟩
    have npe : p ≠ e := ne_of_none h2 he
    have hb3 := same_new (o := .lst []) he _ _ hb2
    have h3 : upd H2 e (.lst []) p = some (.lst xs2) := (upd_ne npe).trans h2
    have b3 : But p H (upd H2 e (.lst [])) := bb.trans (But.of_same (same_new he))
    refine u_eqStrs (ss := ps) (ts := []) (SqL.of hb3) (SqL.of upd_same) (fun y hy => (hps y hy).2) (fun _ h => by cases h) ?_
    wtm_at "r"
    generalize upd H2 e (.lst []) = H3 at hb3 h3 b3 ⊢
    by_cases hnil : ps = []
    · refine if_t (decide_eq_true hnil) ?_
      wtm_at "r"
      refine u_add_str (by rw [show ("/" : Str).length = 1 by decide +kernel]; wtm_at "sz") ?_
      refine k _ xs2 H3 ?_ ?_ ?_ so2 b3 h3
      · rw [hnil]
        obtain ⟨n, hn⟩ : ∃ n, tl s = List.replicate n 47 := by
          rcases hs with rfl | ⟨n, _, _, e⟩
          · exact ⟨0, by decide +kernel⟩
          · exact ⟨n, e⟩
        refine pieces_sl (n := n + 1) ?_
        rw [tl_append, hn, show tl "/" = [47] by decide +kernel, List.replicate_succ]
        rfl
      · rw [len_app, show ("/" : Str).length = 1 by decide +kernel]; omega
      · rw [len_app, show ("/" : Str).length = 1 by decide +kernel]; omega
    · refine if_f (decide_eq_false hnil) ?_
      obtain ⟨y0, r, rfl⟩ : ∃ y r, ps = y :: r := by
        cases ps with
        | nil => exact absurd rfl hnil
        | cons y r => exact ⟨y, r, rfl⟩
      have hy0 := (hps y0 List.mem_cons_self).1
      wtm_at "r"
      refine u_ixL hb3 (atI_zero _ _) ?_
      refine u_add_str (by have := hy0.2.2; wtm_at "sz") ?_
      wtm_at "r"
      refine u_slL (SqL.of hb3) fun q hq => ?_
      have npq : p ≠ q := ne_of_none h3 hq
      refine u_itL (SqL.of upd_same) ?_
      have ec : cutV ((y0 :: r).map V.str) (some 1) none = r.map V.str := by
        rw [show (some 1 : Option Int) = some ((1 : Nat) : Int) from rfl]
        unfold cutV
        rw [HT.sIx_nat, HT.sIx_none]
        simp
        exact List.take_of_length_le (by simp)
      rw [ec]
      have hq0 : upd H3 q (.lst (r.map V.str)) q = some (.lst (r.map V.str)) := upd_same
      have h4 : upd H3 q (.lst (r.map V.str)) p = some (.lst xs2) := (upd_ne npq).trans h3
      have b4 : But p H (upd H3 q (.lst (r.map V.str))) := b3.trans (But.of_same (same_new hq))
      generalize upd H3 q (.lst (r.map V.str)) = H4 at hq0 h4 b4 ⊢
      refine for_yl yl_list (fun i σ' H' => ∃ (z : Str) (xs' : List V) (v : Option V), σ' = [some (.ref bl), some (.ref p), some (.str z), v] ∧ Has z (y0 :: r.take i) ∧ z.length ≤ 23 + 23 * i ∧ StOk xs' ∧ But p H4 H' ∧ H' p = some (.lst xs'))
        ⟨_, xs2, none, rfl, by simpa using has_first hy0 hs, by rw [len_app]; have := hy0.2.2; omega, so2, fun _ _ _ h => h, h4⟩ (fun i σ' H' _ ⟨_, _, _, _, _, _, _, b, _⟩ => SqL.of (b _ _ npq.symm hq0)) ?_ ?_
      · rintro i x σ' H5 hx ⟨z, xs5, v, rfl, hz, lz, so5, b5, h5⟩
        have hil : i < r.length := by
          have := (List.getElem?_eq_some_iff.mp hx).1
          rwa [List.length_map] at this
        rw [List.getElem?_map] at hx
        obtain ⟨y, hy, rfl⟩ := Option.map_eq_some_iff.mp hx
        have hyr := mem_some hy
        have hyp := (hps y (List.mem_cons_of_mem _ hyr)).1
        wtm_at "r"
        refine u_slashes h5 so5 fun s6 xs6 H6 hs6 so6 b6 h6 => ?_
        simp only [List.length_cons] at hlen
        have l6 := hs6.len.2
        have ly := hyp.2.2
        refine u_add_str (by wtm_at "sz") ?_
        wtm_at "r"
        refine u_add_str (by rw [len_app]; wtm_at "sz") ?_
        wtm_at "r"
        refine ⟨_, xs6, _, rfl, ?_, ?_, so6, b5.trans b6, h6⟩
        · have et : r.take (i + 1) = r.take i ++ [y] := by rw [List.take_succ, hy]; rfl
          rw [et]
          refine has_more (ps := y0 :: r.take i) hz (fun y' h' => ?_) hs6 hyp
          rcases List.mem_cons.mp h' with rfl | h'
          · exact hy0
          · exact (hps y' (List.mem_cons_of_mem _ (List.mem_of_mem_take h'))).1
        · rw [len_app, len_app]; omega
      · rintro σ' H5 ⟨z, xs5, v, rfl, hz, lz, so5, b5, h5⟩
        rw [List.length_map] at lz hz
        rw [List.take_length] at hz
        simp only [List.length_cons] at hlen
        obtain ⟨e1, e2⟩ := hz.pieces fun y' h' => (hps y' h').1
        have z1 : 1 ≤ z.length := by
          have : pieces z ≠ [] := by rw [e1]; simp
          cases q : z.length with
          | zero =>
            have : tl z = [] := List.length_eq_zero_iff.mp (by rw [← len_tl, q])
            have : pieces z = [] := by unfold pieces bits scan; rw [this]; rfl
            contradiction
          | succ n => omega
        wtm_at "r"
        refine u_slashes h5 so5 fun s6 xs6 H6 hs6 so6 b6 h6 => ?_
        wtm_at "r"
        refine ⟨by wtm_at "sz", fun m hm => ?_⟩
        have npm : p ≠ m := ne_of_none h6 hm
        wtm_at "r"
        refine u_digit ((upd_ne npm).trans h6) so6 (by decide) fun d xs7 H7 d0 d1 so7 b7 h7 => ?_
        wtm_at "r"
        obtain ⟨v, hv, hm'⟩ := atI_ex (xs := [V.str "", .str "", .str s6]) d0 (by simpa using d1)
        have b7' : But p H H7 := b4.trans (b5.trans (b6.trans ((But.of_same (same_new hm)).trans b7)))
        have hm7 := b7 m _ npm.symm upd_same
        have l6 := hs6.len.2
        simp only [List.mem_cons, List.mem_singleton, List.not_mem_nil, or_false] at hm'
        have hmt : v = .str "" ∨ v = .str s6 := by
          rcases hm' with h | h | h
          · exact .inl h
          · exact .inl h
          · exact .inr h
        rcases hmt with rfl | rfl
        · refine u_ixL hm7 hv ?_
          refine u_add_str (by rw [show ("" : Str).length = 0 by decide +kernel]; wtm_at "sz") ?_
          have ez : z ++ ("" : Str) = z := ext_tl (by rw [tl_append, show tl "" = [] by decide +kernel, List.append_nil])
          rw [ez]
          exact k z xs7 H7 e1 z1 (by omega) so7 b7' h7
        · refine u_ixL hm7 hv ?_
          refine u_add_str (by wtm_at "sz") ?_
          exact k _ xs7 H7 (e2 s6 hs6) (by rw [len_app]; omega) (by rw [len_app]; omega) so7 b7' h7
theorem slash_mk : (slash : Str) = ⟨#[47]⟩ := by decide +kernel
theorem starts_first {z : Str} {c : Nat} (h : (tl z)[0]? = some c) : Txt.startswith z slash = decide ((⟨#[c]⟩ : Str) = slash) := by
  rw [Bool.eq_iff_iff, decide_eq_true_eq]
  unfold Txt.startswith
  rw [Bool.and_eq_true, decide_eq_true_eq, slash_mk]
  have q := StrLaws.subAt_one z 47 0
  rw [show (tl z) = z.cps.toList from rfl] at h
  rw [h] at q
  refine Iff.trans q ?_
  simp
theorem ends_last {z : Str} {c : Nat} (h : (tl z).getLast? = some c) : Txt.endswith z slash = decide ((⟨#[c]⟩ : Str) = slash) := by
  rw [Bool.eq_iff_iff, decide_eq_true_eq]
  unfold Txt.endswith
  rw [Bool.and_eq_true, decide_eq_true_eq, slash_mk]
  have q := StrLaws.subAt_one z 47 (z.length - 1)
  have hl : (tl z)[z.length - 1]? = some c := by rw [← h, List.getLast?_eq_getElem?, len_tl]
  rw [show (tl z) = z.cps.toList from rfl] at hl
  rw [hl] at q
  have z1 : 1 ≤ z.length := by
    rw [len_tl]
    cases e : tl z with
    | nil => rw [e] at h; cases h
    | cons a r => simp
  rw [show (⟨#[47]⟩ : Str).length = 1 from rfl] at q ⊢
  constructor
  · intro ⟨h1, h2⟩
    have := q.mp ⟨by omega, h2⟩
    simp at this
    rw [this]
  · intro e
    have : c = 47 := by simpa using e
    have := q.mpr (by rw [this])
    exact ⟨by omega, this.2⟩
theorem nonempty_ends {z : Str} (h : 1 ≤ z.length) : ∃ c d, (tl z)[0]? = some c ∧ (tl z).getLast? = some d := by
  rw [len_tl] at h
  cases e : tl z with
  | nil => rw [e] at h; simp at h
  | cons a r => exact ⟨a, (a :: r).getLast (by simp), rfl, by rw [List.getLast?_eq_some_getLast]⟩
theorem good_iff {z : Str} : goodPath z = true ↔ 1 ≤ z.length ∧ z.length ≤ 2000 ∧ ∀ y ∈ pieces z, isPart y = true := by
  unfold goodPath
  rw [Bool.and_eq_true, Bool.and_eq_true, decide_eq_true_eq, decide_eq_true_eq, List.all_eq_true]
theorem Has.slashes {z s : Str} {ps : List Str} {n : Nat} (h : Has z ps) (hp : ∀ y ∈ ps, Pc y) (hn : 1 ≤ n) (hs : tl s = List.replicate n 47) : LN.pieces (z ++ s) = ps := by
  obtain ⟨h1, h2⟩ := h
  obtain ⟨qs, q, rfl⟩ : ∃ qs q, ps = qs ++ [q] := ⟨ps.dropLast, ps.getLast h1, (List.dropLast_concat_getLast h1).symm⟩
  simp only [List.dropLast_concat, List.getLast?_concat, Option.map_some, Option.getD_some] at h2
  have hq : tl q ≠ [] := (hp q (by simp)).1
  have e : pfin (qs.map tl, tl q) = (qs ++ [q]).map tl := by
    unfold pfin
    rw [if_neg hq]
    simp
  unfold LN.pieces bits
  rw [tl_append, scan_app, h2, hs, scan_sl hn, e]
  exact strsOf_tl _
theorem scan_join : ∀ (ps : List Str) (d : List (List Nat)), ps ≠ [] → (∀ y ∈ ps, Pc y) → (joinL [47] (ps.map tl)).foldl pst (d, []) = (d ++ ps.dropLast.map tl, (ps.getLast?.map tl).getD [])
  | [], _, h, _ => absurd rfl h
  | [y], d, _, hp => by
    show (tl y).foldl pst (d, []) = _
    rw [scan_part (hp y (by simp)).2.1]
    simp
  | y :: x :: r, d, _, hp => by
    have hy := hp y (by simp)
    have ih := scan_join (x :: r) (d ++ [tl y]) (by simp) (fun w hw => hp w (List.mem_cons_of_mem _ hw))
    show (tl y ++ ([47] ++ joinL [47] ((x :: r).map tl))).foldl pst (d, []) = _
    rw [List.foldl_append, scan_part hy.2.1, List.foldl_append]
    have e : ([47] : List Nat).foldl pst (d, [] ++ tl y) = (d ++ [tl y], []) := by
      show pst (d, [] ++ tl y) 47 = _
      simp [pst, hy.1]
    rw [e, ih]
    simp
theorem has_join {ps : List Str} (h : ps ≠ []) (hp : ∀ y ∈ ps, Pc y) : Has (Txt.join slash ps) ps := by
  refine ⟨h, ?_⟩
  rw [join_eq, tl_join, show tl slash = [47] by decide +kernel]
  have := scan_join ps [] h hp
  rw [List.nil_append] at this
  exact this
theorem join_len (y : Str) : ∀ n : Nat, (Txt.join slash (List.replicate (n + 1) y)).length = (n + 1) * (y.length + 1) - 1 := by
  intro n
  rw [join_eq, len_tl, tl_join, show tl slash = [47] by decide +kernel]
  induction n with
  | zero => simp [joinL, len_tl]
  | succ n ih =>
    show (tl y ++ ([47] ++ joinL [47] ((List.replicate (n + 1) y).map tl))).length = _
    rw [List.length_append, List.length_append, ih, ← len_tl, List.length_singleton]
    have e : (n + 1 + 1) * (y.length + 1) = (n + 1) * (y.length + 1) + (y.length + 1) := by rw [Nat.succ_mul]
    rw [e]
    have : 1 ≤ (n + 1) * (y.length + 1) := Nat.mul_pos (by omega) (by omega)
    omega
def pLRight (K : PySem.W.Frag) (t b : V) (H : Hp) (Q : VK) (_ : XK) : Prop := ∃ (z : Str) (p : Addr), t = .str z ∧ b = .ref p ∧ goodPath z = true ∧ SqL K H p ((pieces z).map V.str) ∧ ∀ H', Same H H' → Q (.bl true) H'
theorem sc__law_right : FnScope ["_law_text", "_law_parts_here", "_law_due", "_law_k", "_law_found"] ["_law_text", "_law_parts_here"] (defScope st__law_right) := ⟨rfl, rfl, rfl, by decide +kernel, rfl, by decide +kernel, by decide +kernel⟩
theorem ok__law_right (T : Txt K mg) (B_parts_of : FnB P w K mg base (L2.CX P w) 3 "parts_of" ["path"] (sp1 (pPartsOf K))) {f : Addr} {fd : FuncData} (F : FunD K "_law_right" "_law_right" (defArgs st__law_right) (defBody st__law_right) (defScope st__law_right) [] [] f fd) : FnOk P w K mg base CX0 4 f fd ["_law_text", "_law_parts_here"] (sp2 (pLRight K)) := by
  refine F.ok sc__law_right (fun vs H Q E h => ?_) (fun cdv A outer s H vs Q E hr h => ?_)
  · exact len2 h
  · obtain ⟨a, b, rfl, h⟩ := h
    have hu := hu_of hr
    have hu65 := hr.units
    refine ⟨_, PSs.nox ((pss_cons (ps_set (i := 2) sc__law_right.nd rfl (by first | exact Or.inl rfl | exact Or.inr rfl) (pe_callTy (call_listU (K := K)) (by rfl) T.z_list (by decide +kernel) (pa_cons (pv 1) pa_nil)))
    (Evl.pss_cut (ps_if (PW.pt (pw_and (pt_cmpR (op_neU (K := K) hu65) (pv 1) (pe_lst pa_nil) (nomark _)) (pw_and1 (pt_cmpR (op_eqU (K := K) hu65) (pe_ix (ix_U (K := K)) (pv 0) (pe_un un_neg pe_int) (fun _ _ => rfl)) pe_str (nomark _))))) (pss_one (ps_expr (pe_bm PySem.F.plainAttrs_list PySem.F.slot_list_append PySem.F.type_list_append mt_append (pv 2) (pa_cons pe_str pa_nil)))) pss_nil)
    (pss_cons (ps_for PassesOwn.never rfl (pi_range1 rfl T.z_range (pa_cons pe_int pa_nil)) (pg_name (i := 3) sc__law_right.nd rfl (by first | exact Or.inl rfl | exact Or.inr rfl)) (pss_cons (ps_set (i := 4) sc__law_right.nd rfl (by first | exact Or.inl rfl | exact Or.inr rfl) (pe_callF B_parts_of (hr.mono (by decide)) passL (pa_cons (pv 0) pa_nil)))
    (pss_cons (ps_if (PW.pt (pw_or (pt_not (pt_val (pe_callB (call_isiU (K := K)) (by rfl) T.z_isinstance (by decide +kernel) (pa_cons (pv 4) (pa_cons (pe_bltn (v := .ty "tuple") (by rfl) T.z_tuple (by decide +kernel) rfl) pa_nil))))) (pw_or (pt_cmpR (op_neU (K := K) hu65) (pe_callB (call_lenU (K := K)) (by rfl) T.z_len PySem.boot_len (pa_cons (pv 4) pa_nil)) pe_int (nomark _)) (pw_or1 (pt_not (pt_val (pe_callB (call_isiU (K := K)) (by rfl) T.z_isinstance (by decide +kernel) (pa_cons (pe_ix (ix_U (K := K)) (pv 4) pe_int (fun _ _ => rfl)) (pa_cons (pe_bltn (v := .ty "list") (by rfl) T.z_list (by decide +kernel) rfl) pa_nil))))))))) (pss_one (ps_ret pe_bl)) pss_nil)
    (pss_cons (ps_if (PW.pt (pw_or (pt_not (pt_val (pe_callB (call_isiU (K := K)) (by rfl) T.z_isinstance (by decide +kernel) (pa_cons (pe_ix (ix_U (K := K)) (pv 4) pe_int (fun _ _ => rfl)) (pa_cons (pe_bltn (v := .ty "bool") (by rfl) T.z_bool (by decide +kernel) rfl) pa_nil))))) (pw_or (pt_cmpR (op_neU (K := K) hu65) (pe_ix (ix_U (K := K)) (pv 4) pe_int (fun _ _ => rfl)) (pe_cmpR (op_eqU (K := K) hu65) (pe_ix (ix_U (K := K)) (pv 0) pe_int (fun _ _ => rfl)) pe_str (nomark _)) (nomark _)) (pw_or1 (pt_cmpR (op_neU (K := K) hu65) (pe_ix (ix_U (K := K)) (pv 4) pe_int (fun _ _ => rfl)) (pv 2) (nomark _)))))) (pss_one (ps_ret pe_bl)) pss_nil)
    (pss_one (ps_expr (pe_bm PySem.F.plainAttrs_list PySem.F.slot_list_append PySem.F.type_list_append mt_append (pe_ix (ix_U (K := K)) (pv 4) pe_int (fun _ _ => rfl)) (pa_cons pe_str pa_nil))))))))
    (pss_one (ps_ret pe_bl)))))), ?_⟩
    try dsimp only [cxOf]
    rw [show L2.start ["_law_text", "_law_parts_here", "_law_due", "_law_k", "_law_found"] [a, b] = [some a, some b, none, none, none] from rfl]
    obtain ⟨z, p, rfl, rfl, hg, hp, k⟩ := h
    obtain ⟨z1, z2, hps⟩ := good_iff.mp hg
    obtain ⟨c, d, hc, hd⟩ := nonempty_ends z1
    have lz : z.length ≤ sizeLine := by wtm_at "sz"
    have lp : (pieces z).length ≤ 2001 := by
      rw [← split_pieces]
      exact Nat.le_trans (List.length_filter_le _ _) (by have := split_len z; omega)
    have oks : ∀ y ∈ pieces z, PyData.strOk y = true := fun y hy => part_ok (hps y hy)
    have oks2 : ∀ y ∈ partsOf z, PyData.strOk y = true := fun y hy => by
      unfold partsOf at hy
      by_cases hh : pieces z ≠ [] ∧ Txt.endswith z slash = true
      · rw [if_pos hh] at hy
        rcases List.mem_append.mp hy with h | h
        · exact oks y h
        · rw [List.mem_singleton.mp h]; decide +kernel
      · rw [if_neg hh] at hy
        exact oks y hy
    wtm_at "r"
    refine u_listL hp fun l hl => ?_
    wtm_at "r"
    refine s_cut (fun σ' H1 => σ' = [some (.str z), some (.ref p), some (.ref l), none, none] ∧ Same H H1 ∧ H1 l = some (.lst ((partsOf z).map V.str))) ?_ ?_
    · wtm_at "r"
      refine ⟨by wtm_at "sz", fun e he => ?_⟩
      have s1 : Same H (upd (upd H l (.lst ((pieces z).map V.str))) e (.lst [])) := (same_new hl).trans (same_new he)
      have hl1 := same_new (o := .lst []) he _ _ (upd_same (H := H) (a := l) (o := .lst ((pieces z).map V.str)))
      refine u_neStrs (ss := pieces z) (ts := []) (s1.seq hp) (SqL.of upd_same) oks (fun _ h => by cases h) ?_
      wtm_at "r"
      generalize upd (upd H l (.lst ((pieces z).map V.str))) e (.lst []) = H1 at s1 hl1 ⊢
      by_cases hn : pieces z = []
      · refine if_f (by rw [hn]; rfl) ?_
        refine if_f rfl ?_
        wtm_at "r"
        refine ⟨rfl, s1, ?_⟩
        have e : partsOf z = pieces z := by unfold partsOf; rw [if_neg (fun h => h.1 hn)]
        rw [e]
        exact hl1
      · refine if_t (by rw [decide_eq_false hn]; rfl) ?_
        wtm_at "r"
        refine u_ixS lz (atI_neg1 _ d hd) ?_
        wtm_at "r"
        rw [show (Str.ofString "/") = slash from rfl, ← ends_last hd]
        cases hE : Txt.endswith z slash with
        | false =>
          refine if_f rfl ?_
          wtm_at "r"
          refine ⟨rfl, s1, ?_⟩
          have e : partsOf z = pieces z := by unfold partsOf; rw [if_neg (fun h => by rw [hE] at h; cases h.2)]
          rw [e]
          exact hl1
        | true =>
          refine if_t rfl ?_
          wtm_at "r"
          refine u_tyL (SqL.of hl1) ?_
          wtm_at "r"
          refine u_append hl1 (lt_line (by rw [List.length_map]; omega)) ?_
          wtm_at "r"
          refine ⟨rfl, Same.wr s1 hl, ?_⟩
          have e : partsOf z = pieces z ++ [(".":Str)] := by unfold partsOf; rw [if_pos ⟨hn, hE⟩]
          rw [e, List.map_append]
          exact upd_same
    · rintro σ' H1 ⟨rfl, s1, h1⟩
      have hS : pathV (.str z) = some (Txt.startswith z slash, partsOf z) := by
        show pathS z = _
        unfold pathS
        rw [if_pos hg]
      wtm_at "r"
      refine u_itR1 (by decide) (by decide) ?_
      refine for_yl yl_range (fun i σ' H' => ∃ v u, σ' = [some (.str z), some (.ref p), some (.ref l), v, u] ∧ Same H1 H') ⟨_, _, rfl, Same.refl _⟩ (fun _ _ _ _ _ => trivial) ?_ ?_
      · rintro i x σ' H2 hx ⟨v, u, rfl, s2⟩
        obtain ⟨hi, rfl⟩ := rangeV_at hx
        wtm_at "r"
        refine ⟨lz, fun h => (by rw [hS] at h; cases h), fun r ps e t L H3 s3 ht hL h3 h4 => ?_⟩
        obtain ⟨rfl, rfl⟩ : Txt.startswith z slash = r ∧ partsOf z = ps := by rw [hS] at e; exact Prod.mk.inj (Option.some.inj e)
        wtm_at "r"
        refine u_isTy (n := "tuple") (r := true) (.base (.tup h3)) (by decide +kernel) ?_
        wtm_at "r"
        refine if_f rfl ?_
        wtm_at "r"
        refine u_lenT (SqT.of h3) ?_
        wtm_at "r"
        refine if_f rfl ?_
        wtm_at "r"
        refine u_ixT h3 rfl ?_
        wtm_at "r"
        refine u_isTy (n := "list") (r := true) (.base (.lst h4)) (by decide +kernel) ?_
        wtm_at "r"
        refine if_f rfl ?_
        wtm_at "r"
        refine u_ixT h3 rfl ?_
        wtm_at "r"
        refine u_isTy (n := "bool") (r := true) (.base (.bl _)) (by decide +kernel) ?_
        wtm_at "r"
        refine if_f rfl ?_
        wtm_at "r"
        refine u_ixT h3 rfl ?_
        wtm_at "r"
        refine u_ixS lz (atI_nat (j := 0) hc) ?_
        wtm_at "r"
        rw [show (Str.ofString "/") = slash from rfl, ← starts_first hc]
        refine if_f (by simp) ?_
        wtm_at "r"
        refine u_ixT h3 rfl ?_
        wtm_at "r"
        refine u_neStrs (SqL.of h4) (SqL.of (s3 _ _ (s2 _ _ h1))) oks2 oks2 ?_
        wtm_at "r"
        refine if_f (by simp) ?_
        wtm_at "r"
        refine u_ixT h3 rfl ?_
        wtm_at "r"
        refine u_tyL (SqL.of h4) ?_
        wtm_at "r"
        have lpo : (partsOf z).length ≤ 2002 := by
          unfold partsOf
          by_cases hh : pieces z ≠ [] ∧ Txt.endswith z slash = true
          · rw [if_pos hh, List.length_append]; simp; omega
          · rw [if_neg hh]; omega
        refine u_append h4 (lt_line (by rw [List.length_map]; omega)) ?_
        wtm_at "r"
        exact ⟨_, _, rfl, Same.wr (s2.trans s3) (s2.free hL)⟩
      · rintro σ' H2 ⟨v, u, rfl, s2⟩
        wtm_at "r"
        exact k H2 (s1.trans s2)
def pCellAt (K : PySem.W.Frag) (b j : V) (H : Hp) (Q : VK) (_ : XK) : Prop := ∃ (a : Addr) (ns : List Int) (i : Int), b = .ref a ∧ j = .int i ∧ SqL K H a (ns.map V.int) ∧ 0 ≤ i ∧ ns.length ≤ 1000 ∧ ∀ c, Q (.int c) H
theorem sc__law_cell_at : FnScope ["_law_script", "_law_k"] ["_law_script", "_law_k"] (defScope st__law_cell_at) := ⟨rfl, rfl, rfl, by decide +kernel, rfl, by decide +kernel, by decide +kernel⟩
theorem ok__law_cell_at (T : Txt K mg)  {f : Addr} {fd : FuncData} (F : FunD K "_law_cell_at" "_law_cell_at" (defArgs st__law_cell_at) (defBody st__law_cell_at) (defScope st__law_cell_at) [] [] f fd) : FnOk P w K mg base CX0 1 f fd ["_law_script", "_law_k"] (sp2 (pCellAt K)) := by
  refine F.ok sc__law_cell_at (fun vs H Q E h => ?_) (fun cdv A outer s H vs Q E hr h => ?_)
  · exact len2 h
  · obtain ⟨a, b, rfl, h⟩ := h
    have hu := hu_of hr
    have hu65 := hr.units
    refine ⟨_, PSs.nox ((pss_cons (ps_if (pt_cmpR op_lt (pv 1) (pe_callB (call_lenU (K := K)) (by rfl) T.z_len PySem.boot_len (pa_cons (pv 0) pa_nil)) (nomark _)) (pss_one (ps_ret (pe_ix (ix_U (K := K)) (pv 0) (pv 1) (fun _ _ => rfl)))) pss_nil)
    (pss_one (ps_ret pe_int)))), ?_⟩
    try dsimp only [cxOf]
    rw [show L2.start ["_law_script", "_law_k"] [a, b] = [some a, some b] from rfl]
    obtain ⟨p, ns, i, rfl, rfl, hS, i0, hl, k⟩ := h
    wtm_at "r"
    refine u_lenL hS ?_
    wtm_at "r"
    rw [List.length_map]
    refine if_2 (fun hi => ?_) (fun hi => ?_)
    · have hi : i < ns.length := of_decide_eq_true hi
      wtm_at "r"
      obtain ⟨v, hv, hm⟩ := atI_ex (xs := ns.map V.int) i0 (by rw [List.length_map]; exact hi)
      obtain ⟨c, _, rfl⟩ := List.mem_map.mp hm
      exact u_ixLK hS hv (k c)
    · wtm_at "r"
      exact k 0
def spLaw (K : PySem.W.Frag) : V → Hp → VK → XK → Prop := fun x H Q _ => ∃ (a : Addr) (ns : List Int), x = .ref a ∧ SqL K H a (ns.map V.int) ∧ ns.length ≤ 63 ∧ ∀ H', Q (.bl true) H'
theorem good_of {z : Str} {ps : List Str} (e : pieces z = ps) (h1 : 1 ≤ z.length) (h2 : z.length ≤ 2000) (hp : ∀ y ∈ ps, isPart y = true) : goodPath z = true := good_iff.mpr ⟨h1, h2, fun y hy => hp y (by rw [← e]; exact hy)⟩
theorem flat_one (n : Nat) (y : Str) : (List.replicate n [V.str y]).flatten = (List.replicate n y).map V.str := by
  rw [List.flatten_replicate_singleton, List.map_replicate]
theorem sum_rep (n : Nat) (y : Str) : ((List.replicate n y).map (·.length)).sum = n * y.length := by
  rw [List.map_replicate, List.sum_replicate_nat]
theorem mul_sl (n : Nat) (hn : (n : Int) < 10000) : tl (Txt.mul slash (n : Int)) = List.replicate n 47 := by
  rw [tl_mul, show tl slash = [47] by decide +kernel, List.flatten_replicate_singleton]
  rfl
theorem slash_len : ("/" : Str).length = 1 := by decide +kernel
theorem mul_sl_len (n : Nat) (hn : (n : Int) < 10000) : (Txt.mul slash (n : Int)).length = n := by
  rw [len_tl, mul_sl n hn, List.length_replicate]
theorem sc_law : FnScope ["_law_script", "_law_cell", "_law_state", "_law_parts_here", "_law_part", "_law_many"] ["_law_script"] (defScope st_law) := ⟨rfl, rfl, rfl, by decide +kernel, rfl, by decide +kernel, by decide +kernel⟩
theorem ok_law (T : Txt K mg) (B__law_right : FnB P w K mg base CX0 4 "_law_right" ["_law_text", "_law_parts_here"] (sp2 (pLRight K))) (B__law_cell_at : FnB P w K mg base CX0 1 "_law_cell_at" ["_law_script", "_law_k"] (sp2 (pCellAt K))) (B__law_path : FnB P w K mg base CX0 3 "_law_path" ["_law_parts_here", "_law_state"] (sp2 (pLPath K))) (B__law_parts : FnB P w K mg base CX0 3 "_law_parts" ["_law_state", "_law_most"] (sp2 pLParts)) {f : Addr} {fd : FuncData} (F : FunD K "law" "law" (defArgs st_law) (defBody st_law) (defScope st_law) [] [] f fd) : FnOk P w K mg base CX0 5 f fd ["_law_script"] (sp1 (spLaw K)) := by
  refine F.ok sc_law (fun vs H Q E h => ?_) (fun cdv A outer s H vs Q E hr h => ?_)
  · exact len1 h
  · obtain ⟨a, rfl, h⟩ := h
    have hu := hu_of hr
    have hu65 := hr.units
    refine ⟨_, PSs.nox ((pss_cons (ps_for PassesOwn.never rfl (pi_list (pe_op (op_addU (K := K)) (pe_lst (pa_cons pe_int pa_nil)) (pe_slice (sl_U (K := K)) (pv 0) po_none (po_some pe_int)))) (pg_name (i := 1) sc_law.nd rfl (by first | exact Or.inl rfl | exact Or.inr rfl)) (pss_cons (ps_set (i := 2) sc_law.nd rfl (by first | exact Or.inl rfl | exact Or.inr rfl) (pe_lst (pa_cons (pv 1) pa_nil)))
    (pss_cons (ps_set (i := 3) sc_law.nd rfl (by first | exact Or.inl rfl | exact Or.inr rfl) (pe_callF B__law_parts (hr.mono (by decide)) pass0 (pa_cons (pv 2) (pa_cons pe_int pa_nil))))
    (pss_one (ps_if (pt_not (pt_val (pe_callF B__law_right (hr.mono (by decide)) pass0 (pa_cons (pe_callF B__law_path (hr.mono (by decide)) pass0 (pa_cons (pv 3) (pa_cons (pv 2) pa_nil))) (pa_cons (pv 3) pa_nil))))) (pss_one (ps_ret pe_bl)) pss_nil)))))
    (pss_cons (ps_set (i := 1) sc_law.nd rfl (by first | exact Or.inl rfl | exact Or.inr rfl) (pe_callF B__law_cell_at (hr.mono (by decide)) pass0 (pa_cons (pv 0) (pa_cons pe_int pa_nil))))
    (pss_cons (ps_set (i := 4) sc_law.nd rfl (by first | exact Or.inl rfl | exact Or.inr rfl) (pe_ix (ix_U (K := K)) (pe_lst (pa_cons pe_str (pa_cons pe_str (pa_cons pe_str (pa_cons pe_str pa_nil))))) (pe_op op_mod (pv 1) pe_int) (fun _ _ => rfl)))
    (pss_cons (ps_set (i := 5) sc_law.nd rfl (by first | exact Or.inl rfl | exact Or.inr rfl) (pe_op op_fdiv pe_int (pe_op (op_addU (K := K)) (pe_callB (call_lenU (K := K)) (by rfl) T.z_len PySem.boot_len (pa_cons (pv 4) pa_nil)) pe_int)))
    (pss_cons (ps_set (i := 3) sc_law.nd rfl (by first | exact Or.inl rfl | exact Or.inr rfl) (pe_op op_mulU (pe_lst (pa_cons (pv 4) pa_nil)) (pe_op op_sub (pv 5) (pe_op op_mod (pe_op op_fdiv (pv 1) pe_int) pe_int))))
    (pss_cons (ps_if (PW.pt (pw_or (pt_not (pt_val (pe_callF B__law_right (hr.mono (by decide)) pass0 (pa_cons (pe_op (op_addU (K := K)) pe_str (pe_m1 PySem.F.slot_str_join PySem.F.type_str_join (mt_joinN (K := K)) pe_str (pv 3))) (pa_cons (pv 3) pa_nil))))) (pw_or1 (pt_not (pt_val (pe_callF B__law_right (hr.mono (by decide)) pass0 (pa_cons (pe_op (op_addU (K := K)) (pe_m1 PySem.F.slot_str_join PySem.F.type_str_join (mt_joinN (K := K)) pe_str (pv 3)) pe_str) (pa_cons (pv 3) pa_nil)))))))) (pss_one (ps_ret pe_bl)) pss_nil)
    (pss_one (ps_ret (pe_and (pe_callF B__law_right (hr.mono (by decide)) pass0 (pa_cons (pe_op op_mulU pe_str pe_int) (pa_cons (pe_lst pa_nil) pa_nil))) (pe_one (pe_callF B__law_right (hr.mono (by decide)) pass0 (pa_cons (pe_op (op_addU (K := K)) pe_str (pe_op op_mulU pe_str pe_int)) (pa_cons (pe_lst (pa_cons pe_str pa_nil)) pa_nil)))))))))))))), ?_⟩
    try dsimp only [cxOf]
    rw [show L2.start ["_law_script", "_law_cell", "_law_state", "_law_parts_here", "_law_part", "_law_many"] [a] = [some a, none, none, none, none, none] from rfl]
    obtain ⟨p, ns, rfl, hS, hlen, k⟩ := h
    wtm_at "r"
    refine ⟨by wtm_at "sz", fun l hl => ?_⟩
    wtm_at "r"
    refine u_slL ((same_new hl).seq hS) (fun m hm => ?_)
    have nlm : l ≠ m := ne_of_none upd_same hm
    have hc := cutV_length (ns.map V.int) none (some 20)
    rw [List.length_map] at hc
    refine u_add_lst ((upd_ne nlm).trans upd_same) upd_same (le_line (by simp; omega)) (fun q hq => ?_)
    refine u_itL (SqL.of upd_same) ?_
    have hit : ∀ x ∈ [V.int 0] ++ cutV (ns.map V.int) none (some 20), ∃ c : Int, x = .int c := fun x hx => by
      rcases List.mem_append.mp hx with h | h
      · exact ⟨0, List.mem_singleton.mp h⟩
      · obtain ⟨c, _, e⟩ := List.mem_map.mp (List.mem_of_mem_drop (List.mem_of_mem_take h))
        exact ⟨c, e.symm⟩
    have hS0 := (((same_new (o := .lst [V.int 0]) hl).trans (same_new (o := .lst (cutV (ns.map V.int) none (some 20))) hm)).trans (same_new (o := .lst ([V.int 0] ++ cutV (ns.map V.int) none (some 20))) hq)).seq hS
    have hq0 : upd (upd (upd H l (.lst [V.int 0])) m (.lst (cutV (ns.map V.int) none (some 20)))) q (.lst ([V.int 0] ++ cutV (ns.map V.int) none (some 20))) q = some (.lst ([V.int 0] ++ cutV (ns.map V.int) none (some 20))) := upd_same
    generalize upd (upd (upd H l (.lst [V.int 0])) m (.lst (cutV (ns.map V.int) none (some 20)))) q (.lst ([V.int 0] ++ cutV (ns.map V.int) none (some 20))) = H0 at hq0 hS0 ⊢
    refine for_yl yl_list (fun i σ' H' => ∃ v1 v2 v3, σ' = [some (.ref p), v1, v2, v3, none, none] ∧ Same H0 H') ⟨_, _, _, rfl, Same.refl _⟩ (fun i σ' H' _ ⟨_, _, _, _, s⟩ => SqL.of (s _ _ hq0)) ?_ ?_
    · rintro i x σ' H1 hx ⟨v1, v2, v3, rfl, s1⟩
      obtain ⟨c, rfl⟩ := hit x (List.mem_of_getElem? hx)
      wtm_at "r"
      refine ⟨by wtm_at "sz", fun st hst => ?_⟩
      have n0 : H0 st = none := s1.free hst
      wtm_at "r"
      refine u_lparts (by decide) upd_same (.inl ⟨c, rfl⟩) fun ps pl xs1 H2 hps hpl so1 b1 npl h1 hpp => ?_
      have nst : pl ≠ st := fun e => by rw [e, upd_same] at npl; cases npl
      have s2 : Same H0 H2 := Same.butOf (Same.newer s1 hst) b1 n0
      wtm_at "r"
      refine u_lpath nst (part_both hps) (by simp at hpl; omega) h1 so1 hpp fun z xs3 H3 hz z1 z2 so3 b3 h3 => ?_
      have s3 : Same H0 H3 := Same.butOf s2 b3 n0
      wtm_at "r"
      have hp3 := b3 pl _ nst hpp
      refine ⟨z, pl, rfl, rfl, good_of hz z1 (by omega) hps, SqL.of (by rw [hz]; exact hp3), fun H4 s4 => ?_⟩
      wtm_at "r"
      refine if_f rfl ?_
      wtm_at "r"
      exact ⟨_, _, _, rfl, s3.trans s4⟩
    · rintro σ' H1 ⟨v1, v2, v3, rfl, s1⟩
      wtm_at "r"
      refine ⟨p, ns, 0, rfl, rfl, s1.seq hS0, by decide, by omega, fun cell => ?_⟩
      wtm_at "r"
      refine ⟨by wtm_at "sz", fun l1 hl1 => ?_⟩
      wtm_at "r"
      obtain ⟨c0, c1⟩ := mod_lt (x := cell) (m := 4) (by decide)
      obtain ⟨v, hv, hm⟩ := atI_ex (xs := [V.str ".", .str "..", .str "a", .str "abcdefgh"]) c0 (by simpa using c1)
      obtain ⟨y, rfl, hy⟩ : ∃ y, v = .str y ∧ isPart y = true := by
        simp only [List.mem_cons, List.mem_singleton, List.not_mem_nil, or_false] at hm
        rcases hm with rfl | rfl | rfl | rfl
        all_goals exact ⟨_, rfl, by decide +kernel⟩
      have hy8 := (part_signs hy).1
      have hy1 : 1 ≤ y.length := by
        rw [len_tl]
        cases e : tl y with
        | nil => exact absurd e (part_signs hy).2.1
        | cons a b => simp
      refine u_ixL upd_same hv ?_
      wtm_at "r"
      refine u_lenS (by wtm_at "sz") ?_
      wtm_at "r"
      refine ⟨by wtm_at "sz", fun l2 hl2 => ?_⟩
      wtm_at "r"
      have hd : 222 ≤ 2000 / ((y.length : Int) + 1) ∧ 2000 / ((y.length : Int) + 1) ≤ 1000 ∧ 2000 / ((y.length : Int) + 1) * (y.length + 1) ≤ 2000 := by
        refine ⟨(Int.le_ediv_iff_mul_le (by omega)).mpr (by omega), ?_, Int.ediv_mul_le _ (by omega)⟩
        have : 2000 / ((y.length : Int) + 1) * (y.length + 1) ≤ 2000 := Int.ediv_mul_le _ (by omega)
        have h2 : 2000 / ((y.length : Int) + 1) * 2 ≤ 2000 / ((y.length : Int) + 1) * (y.length + 1) := Int.mul_le_mul_of_nonneg_left (by omega) (Int.ediv_nonneg (by decide) (by omega))
        omega
      obtain ⟨d0, d1⟩ := mod_lt (x := cell / 4) (m := 3) (by decide)
      generalize hn : 2000 / ((y.length : Int) + 1) = D at hd ⊢
      obtain ⟨hd1, hd2, hd3⟩ := hd
      generalize cell / 4 % 3 = j at d0 d1 ⊢
      obtain ⟨N, hN⟩ : ∃ N : Nat, D - j = (N : Int) + 1 := ⟨(D - j - 1).toNat, by omega⟩
      rw [hN]
      refine u_mulL upd_same (by omega) (by rw [List.length_singleton]; wtm_at "sz") fun l3 hl3 => ?_
      have eN : ((N : Int) + 1).toNat = N + 1 := by omega
      rw [eN, flat_one]
      have hN2 : (N + 1) * (y.length + 1) ≤ 2000 := by
        have h3 : (((N + 1) * (y.length + 1) : Nat) : Int) ≤ D * (y.length + 1) := by
          rw [Int.natCast_mul]
          exact Int.mul_le_mul_of_nonneg_right (by omega) (by omega)
        omega
      have hpy : ∀ y' ∈ List.replicate (N + 1) y, isPart y' = true := fun y' h => by rw [(List.mem_replicate.mp h).2]; exact hy
      have hpc : ∀ y' ∈ List.replicate (N + 1) y, Pc y' := fun y' h => part_pc (hpy y' h)
      have hne : List.replicate (N + 1) y ≠ [] := by simp
      have s3 : Same H1 (upd (upd (upd H1 l1 (.lst [V.str ".", .str "..", .str "a", .str "abcdefgh"])) l2 (.lst [V.str y])) l3 (.lst ((List.replicate (N + 1) y).map V.str))) := ((same_new hl1).trans (same_new hl2)).trans (same_new hl3)
      have h3 : upd (upd (upd H1 l1 (.lst [V.str ".", .str "..", .str "a", .str "abcdefgh"])) l2 (.lst [V.str y])) l3 (.lst ((List.replicate (N + 1) y).map V.str)) l3 = some (.lst ((List.replicate (N + 1) y).map V.str)) := upd_same
      generalize upd (upd (upd H1 l1 (.lst [V.str ".", .str "..", .str "a", .str "abcdefgh"])) l2 (.lst [V.str y])) l3 (.lst ((List.replicate (N + 1) y).map V.str)) = H2 at s3 h3 ⊢
      have hjl := join_len y N
      have hjs : ((List.replicate (N + 1) y).map (·.length)).sum + (List.replicate (N + 1) y).length * ("/" : Str).length ≤ 16777216 := by
        rw [sum_rep, List.length_replicate, slash_len]
        have : (N + 1) * (y.length + 1) = (N + 1) * y.length + (N + 1) := Nat.mul_succ _ _
        omega
      have hj := has_join hne hpc
      have hN1 : 1 ≤ (N + 1) * y.length := Nat.mul_pos (by omega) (by omega)
      have hN3 : (N + 1) * (y.length + 1) = (N + 1) * y.length + (N + 1) := Nat.mul_succ _ _
      wtm_at "r"
      refine u_joinL (SqL.of h3) hjs ?_
      rw [show (Str.ofString "/") = slash from rfl]
      refine u_add_str (by rw [show slash.length = 1 from slash_len, hjl]; wtm_at "sz") ?_
      wtm_at "r"
      have e1 : pieces (slash ++ Txt.join slash (List.replicate (N + 1) y)) = List.replicate (N + 1) y := by
        have e : tl slash = [47] := by decide +kernel
        have := hj.2
        have q : Has (slash ++ Txt.join slash (List.replicate (N + 1) y)) (List.replicate (N + 1) y) := by
          refine ⟨hne, ?_⟩
          rw [tl_append, scan_app, e, show scan [47] = ([], []) by decide +kernel]
          exact hj.2
        exact (q.pieces hpc).1
      refine ⟨_, l3, rfl, rfl, good_of e1 (by rw [len_app, show slash.length = 1 from slash_len]; omega) (by rw [len_app, show slash.length = 1 from slash_len, hjl]; omega) hpy, SqL.of (by rw [e1]; exact h3), fun H3 s4 => ?_⟩
      wtm_at "r"
      refine if_f rfl ?_
      wtm_at "r"
      have h4 := s4 _ _ h3
      refine u_joinL (SqL.of h4) hjs ?_
      wtm_at "r"
      refine u_add_str (by rw [show slash.length = 1 from slash_len, hjl]; wtm_at "sz") ?_
      wtm_at "r"
      have e2 : pieces (Txt.join slash (List.replicate (N + 1) y) ++ slash) = List.replicate (N + 1) y := hj.slashes hpc (n := 1) (by decide) (by decide +kernel)
      refine ⟨_, l3, rfl, rfl, good_of e2 (by rw [len_app, show slash.length = 1 from slash_len]; omega) (by rw [len_app, show slash.length = 1 from slash_len, hjl]; omega) hpy, SqL.of (by rw [e2]; exact h4), fun H4 s5 => ?_⟩
      wtm_at "r"
      refine if_f rfl ?_
      wtm_at "r"
      refine u_mulS (by decide) (by rw [show slash.length = 1 from slash_len]; decide) ?_
      wtm_at "r"
      refine ⟨by wtm_at "sz", fun l5 hl5 => ?_⟩
      wtm_at "r"
      have e3 : pieces (Txt.mul slash 2000) = [] := pieces_sl (n := 2000) (mul_sl 2000 (by decide))
      have e4 : (Txt.mul slash 2000).length = 2000 := mul_sl_len 2000 (by decide)
      refine ⟨_, l5, rfl, rfl, good_of e3 (by omega) (by omega) (fun _ h => by cases h), SqL.of (by rw [e3]; exact upd_same), fun H5 s6 => ?_⟩
      wtm_at "r"
      refine u_mulS (by decide) (by rw [show slash.length = 1 from slash_len]; decide) ?_
      have e5 : (Txt.mul slash 1999).length = 1999 := mul_sl_len 1999 (by decide)
      refine u_add_str (by rw [e5, show ("a" : Str).length = 1 by decide +kernel]; wtm_at "sz") ?_
      wtm_at "r"
      refine ⟨by wtm_at "sz", fun l6 hl6 => ?_⟩
      wtm_at "r"
      have pa : isPart "a" = true := by decide +kernel
      have e6 : pieces ("a" ++ Txt.mul slash 1999) = [("a" : Str)] := by
        have q : Has ("" ++ "a") [("a" : Str)] := has_first (part_pc pa) (.inl rfl)
        have q2 : ("" ++ "a" : Str) = "a" := by decide +kernel
        rw [q2] at q
        exact q.slashes (fun y' h => by rw [List.mem_singleton.mp h]; exact part_pc pa) (n := 1999) (by decide) (mul_sl 1999 (by decide))
      have e7 : ("a" ++ Txt.mul slash 1999 : Str).length = 2000 := by rw [len_app, e5, show ("a" : Str).length = 1 by decide +kernel]
      refine ⟨_, l6, rfl, rfl, good_of e6 (by omega) (by omega) (fun _ h => by rw [List.mem_singleton.mp h]; exact pa), SqL.of (by rw [e6]; exact upd_same), fun H6 s7 => ?_⟩
      exact k H6
end
def d_is_name : He.DefD := ⟨("is_name", none), "is_name", "is_name", defArgs st_is_name, defBody st_is_name, defScope st_is_name, [], []⟩
def d__law_digit : He.DefD := ⟨("_law_digit", none), "_law_digit", "_law_digit", defArgs st__law_digit, defBody st__law_digit, defScope st__law_digit, [], []⟩
def d__law_name : He.DefD := ⟨("_law_name", none), "_law_name", "_law_name", defArgs st__law_name, defBody st__law_name, defScope st__law_name, [], []⟩
def d_is_part : He.DefD := ⟨("is_part", none), "is_part", "is_part", defArgs st_is_part, defBody st_is_part, defScope st_is_part, [], []⟩
def d_parts_of : He.DefD := ⟨("parts_of", none), "parts_of", "parts_of", defArgs st_parts_of, defBody st_parts_of, defScope st_parts_of, [], []⟩
def d__law_slashes : He.DefD := ⟨("_law_slashes", none), "_law_slashes", "_law_slashes", defArgs st__law_slashes, defBody st__law_slashes, defScope st__law_slashes, [], []⟩
def d__law_parts : He.DefD := ⟨("_law_parts", none), "_law_parts", "_law_parts", defArgs st__law_parts, defBody st__law_parts, defScope st__law_parts, [], []⟩
def d__law_path : He.DefD := ⟨("_law_path", none), "_law_path", "_law_path", defArgs st__law_path, defBody st__law_path, defScope st__law_path, [], []⟩
def d__law_right : He.DefD := ⟨("_law_right", none), "_law_right", "_law_right", defArgs st__law_right, defBody st__law_right, defScope st__law_right, [], []⟩
def d__law_cell_at : He.DefD := ⟨("_law_cell_at", none), "_law_cell_at", "_law_cell_at", defArgs st__law_cell_at, defBody st__law_cell_at, defScope st__law_cell_at, [], []⟩
def d_law : He.DefD := ⟨("law", none), "law", "law", defArgs st_law, defBody st_law, defScope st_law, [], []⟩
def dfs : List He.DefD := [d_is_name, d__law_digit, d__law_name, d_is_part, d_parts_of, d__law_slashes, d__law_parts, d__law_path, d__law_right, d__law_cell_at, d_law]
def fas : List He.Fa := [.str "LETTERS" "abcdefghijklmnopqrstuvwxyz", .int "MOST_LETTERS" 8, .int "MOST_SIGNS" 2000, .exc "NoPath", .free "all", .free "bool", .free "isinstance", .free "len", .free "list", .free "range", .free "str", .free "tuple", .glo "is_name", .glo "_law_digit", .glo "_law_name", .glo "is_part", .glo "parts_of", .glo "_law_slashes", .glo "_law_parts", .glo "_law_path", .glo "_law_right", .glo "_law_cell_at", .glo "law", .glo "NoPath"]
abbrev R : PySem.W.OpenRow := PySem.W.OpenLaw.row PySem.Challenge.rw_leadnames_k03_parts_of_paths
abbrev hk : PySem.W.Hook := He.hookD 6 fas dfs
def ob (s : PySem.W.SharedT) : He.AlD := He.obsDG 6 fas dfs (HandSHeadRun.getT s)
theorem ob_eq (s : PySem.W.SharedT) : ob s = hk.obs s.abs := He.obsDG_eq (HandSHeadRun.getT_eq s)
set_option maxHeartbeats 0 in
theorem run (w : World) : HandSHeadRun.RunEq R (PySem.W.view R.prog [18]) hk ob 1160 ["LeadError", "NoPath", "LETTERS", "MOST_LETTERS", "MOST_SIGNS", "is_name", "is_part", "parts_of", "_law_cell_at", "_law_digit", "_law_name", "_law_parts", "_law_slashes", "_law_path", "_law_right"] w := by
  intro os
  kernel_rfl
theorem facts {P : Program} {w : World} {K : PySem.W.Frag} {h : Heap} {mg : Str → Option Value} {f : Addr} (X : K.In h) (G : h.Ns mainGlobals mg) (hfa : mg ("law" : Str) = some (.ref f)) (c : He.SaysD fas dfs K) :
    ∃ fd : FuncData, (∀ (s : Shared) (v : Value), BindsTo s fd ⟨[v], []⟩ [("_law_script", v)]) ∧ ∀ base : Heap, K.In base → base.Ns mainGlobals mg → FnOk P w K mg base CX0 5 f fd ["_law_script"] (sp1 (spLaw K)) := by
  have T : Txt K mg := { c_LETTERS := He.str_ok X G (c.fact 0 (f := .str "LETTERS" "abcdefghijklmnopqrstuvwxyz") rfl), c_MOST_LETTERS := He.int_ok X G (c.fact 1 (f := .int "MOST_LETTERS" 8) rfl), c_MOST_SIGNS := He.int_ok X G (c.fact 2 (f := .int "MOST_SIGNS" 2000) rfl), e_NoPath := (let z := He.exc_ok (c.fact 3 (f := .exc "NoPath") rfl); ⟨(He.glo_ok X G (c.fact 23 (f := .glo "NoPath") rfl)), z.1, z.2.1, z.2.2.1, z.2.2.2⟩), z_all := He.free_ok X G (c.fact 4 (f := .free "all") rfl), z_bool := He.free_ok X G (c.fact 5 (f := .free "bool") rfl), z_isinstance := He.free_ok X G (c.fact 6 (f := .free "isinstance") rfl), z_len := He.free_ok X G (c.fact 7 (f := .free "len") rfl), z_list := He.free_ok X G (c.fact 8 (f := .free "list") rfl), z_range := He.free_ok X G (c.fact 9 (f := .free "range") rfl), z_str := He.free_ok X G (c.fact 10 (f := .free "str") rfl), z_tuple := He.free_ok X G (c.fact 11 (f := .free "tuple") rfl) }
  obtain ⟨fd_is_name, F_is_name⟩ := c.def_ 0 (d := d_is_name) rfl
  obtain ⟨fd__law_digit, F__law_digit⟩ := c.def_ 1 (d := d__law_digit) rfl
  obtain ⟨fd__law_name, F__law_name⟩ := c.def_ 2 (d := d__law_name) rfl
  obtain ⟨fd_is_part, F_is_part⟩ := c.def_ 3 (d := d_is_part) rfl
  obtain ⟨fd_parts_of, F_parts_of⟩ := c.def_ 4 (d := d_parts_of) rfl
  obtain ⟨fd__law_slashes, F__law_slashes⟩ := c.def_ 5 (d := d__law_slashes) rfl
  obtain ⟨fd__law_parts, F__law_parts⟩ := c.def_ 6 (d := d__law_parts) rfl
  obtain ⟨fd__law_path, F__law_path⟩ := c.def_ 7 (d := d__law_path) rfl
  obtain ⟨fd__law_right, F__law_right⟩ := c.def_ 8 (d := d__law_right) rfl
  obtain ⟨fd__law_cell_at, F__law_cell_at⟩ := c.def_ 9 (d := d__law_cell_at) rfl
  obtain ⟨fd_law, F_law⟩ := c.def_ 10 (d := d_law) rfl
  have g_is_name := (He.glo_ok X G (c.fact 12 (f := .glo "is_name") rfl))
  have g__law_digit := (He.glo_ok X G (c.fact 13 (f := .glo "_law_digit") rfl))
  have g__law_name := (He.glo_ok X G (c.fact 14 (f := .glo "_law_name") rfl))
  have g_is_part := (He.glo_ok X G (c.fact 15 (f := .glo "is_part") rfl))
  have g_parts_of := (He.glo_ok X G (c.fact 16 (f := .glo "parts_of") rfl))
  have g__law_slashes := (He.glo_ok X G (c.fact 17 (f := .glo "_law_slashes") rfl))
  have g__law_parts := (He.glo_ok X G (c.fact 18 (f := .glo "_law_parts") rfl))
  have g__law_path := (He.glo_ok X G (c.fact 19 (f := .glo "_law_path") rfl))
  have g__law_right := (He.glo_ok X G (c.fact 20 (f := .glo "_law_right") rfl))
  have g__law_cell_at := (He.glo_ok X G (c.fact 21 (f := .glo "_law_cell_at") rfl))
  have g_law := (He.glo_ok X G (c.fact 22 (f := .glo "law") rfl))
  have e := hfa.symm.trans g_law
  cases e
  have B_is_name : ∀ base, FnB P w K mg base CX0 1 "is_name" ["text"] (spIsName K) := fun base => ⟨_, _, ok_is_name T  F_is_name, g_is_name, F_is_name.kp, FunD.bindsN F_is_name fun _ _ _ _ _ _ us hl => match us, hl with | [_], _ => rfl⟩
  have B__law_digit : ∀ base, FnB P w K mg base CX0 1 "_law_digit" ["_law_state", "_law_base"] spDigit := fun base => ⟨_, _, ok__law_digit T  F__law_digit, g__law_digit, F__law_digit.kp, FunD.bindsN F__law_digit fun _ _ _ _ _ _ us hl => match us, hl with | [_, _], _ => rfl⟩
  have B__law_name : ∀ base, FnB P w K mg base CX0 2 "_law_name" ["_law_state"] spLName := fun base => ⟨_, _, ok__law_name T (B__law_digit base) F__law_name, g__law_name, F__law_name.kp, FunD.bindsN F__law_name fun _ _ _ _ _ _ us hl => match us, hl with | [_], _ => rfl⟩
  have B_is_part : ∀ base, FnB P w K mg base CX0 2 "is_part" ["text"] (sp1 (pIsPart K)) := fun base => ⟨_, _, ok_is_part T (B_is_name base) F_is_part, g_is_part, F_is_part.kp, FunD.bindsN F_is_part fun _ _ _ _ _ _ us hl => match us, hl with | [_], _ => rfl⟩
  have B_parts_of : ∀ base, FnB P w K mg base (L2.CX P w) 3 "parts_of" ["path"] (sp1 (pPartsOf K)) := fun base => ⟨_, _, ok_parts_of T (B_is_part base) F_parts_of, g_parts_of, F_parts_of.kp, FunD.bindsN F_parts_of fun _ _ _ _ _ _ us hl => match us, hl with | [_], _ => rfl⟩
  have B__law_slashes : ∀ base, FnB P w K mg base CX0 2 "_law_slashes" ["_law_state"] (sp1 pSlashes) := fun base => ⟨_, _, ok__law_slashes T (B__law_digit base) F__law_slashes, g__law_slashes, F__law_slashes.kp, FunD.bindsN F__law_slashes fun _ _ _ _ _ _ us hl => match us, hl with | [_], _ => rfl⟩
  have B__law_parts : ∀ base, FnB P w K mg base CX0 3 "_law_parts" ["_law_state", "_law_most"] (sp2 pLParts) := fun base => ⟨_, _, ok__law_parts T (B__law_digit base) (B__law_name base) F__law_parts, g__law_parts, F__law_parts.kp, FunD.bindsN F__law_parts fun _ _ _ _ _ _ us hl => match us, hl with | [_, _], _ => rfl⟩
  have B__law_path : ∀ base, FnB P w K mg base CX0 3 "_law_path" ["_law_parts_here", "_law_state"] (sp2 (pLPath K)) := fun base => ⟨_, _, ok__law_path T (B__law_slashes base) (B__law_digit base) F__law_path, g__law_path, F__law_path.kp, FunD.bindsN F__law_path fun _ _ _ _ _ _ us hl => match us, hl with | [_, _], _ => rfl⟩
  have B__law_right : ∀ base, FnB P w K mg base CX0 4 "_law_right" ["_law_text", "_law_parts_here"] (sp2 (pLRight K)) := fun base => ⟨_, _, ok__law_right T (B_parts_of base) F__law_right, g__law_right, F__law_right.kp, FunD.bindsN F__law_right fun _ _ _ _ _ _ us hl => match us, hl with | [_, _], _ => rfl⟩
  have B__law_cell_at : ∀ base, FnB P w K mg base CX0 1 "_law_cell_at" ["_law_script", "_law_k"] (sp2 (pCellAt K)) := fun base => ⟨_, _, ok__law_cell_at T  F__law_cell_at, g__law_cell_at, F__law_cell_at.kp, FunD.bindsN F__law_cell_at fun _ _ _ _ _ _ us hl => match us, hl with | [_, _], _ => rfl⟩
  have b := FunD.bindsA (ps := ["_law_script"]) F_law fun _ _ _ _ _ _ us hl => match us, hl with | [_], _ => rfl
  exact ⟨fd_law, fun s v => b s [v] rfl, fun base _ _ => ok_law T (B__law_right base) (B__law_cell_at base) (B__law_path base) (B__law_parts base) F_law⟩
end LN
open PySem PySem.W PySem.Calls PyProof.Rows
set_option maxHeartbeats 0 in
theorem PySem.Challenge.cw_leadnames_k03_parts_of_paths_holds : PySem.Challenge.rw_leadnames_k03_parts_of_paths.Holds := by
  w_on; o_law
  refine HandSHeadRun.head_any (r := OpenLaw.row PySem.Challenge.rw_leadnames_k03_parts_of_paths) (q := view (OpenLaw.row PySem.Challenge.rw_leadnames_k03_parts_of_paths).prog [18]) (H := LN.hk) (ob := LN.ob) (M := 1160) (loose := ["LeadError", "NoPath", "LETTERS", "MOST_LETTERS", "MOST_SIGNS", "is_name", "is_part", "parts_of", "_law_cell_at", "_law_digit", "_law_name", "_law_parts", "_law_slashes", "_law_path", "_law_right"]) (d := HandSHeadRun.topDef (OpenLaw.row PySem.Challenge.rw_leadnames_k03_parts_of_paths).prog 18) (kwd := []) LN.ob_eq
    (by kernel_rfl) (fun s => by kernel_rfl) LN.run (by kernel_rfl) (by kernel_rfl) (by kernel_rfl) (by rfl) (by first | assumption | decide +kernel) (by decide +kernel) ⟨rfl, rfl, rfl, rfl, rfl, by decide +kernel⟩ ?hw ?hc
  case hw => w_witness2
  case hc =>
    refine L2.walk_ofE (l := PySem.Challenge.rw_leadnames_k03_parts_of_paths) (n := 63) (k := 5) (x := "_law_script") (CX := L2.CX0) rfl (by decide) (by kernel_rfl) ⟨rfl, by decide, by decide⟩ ?F (fun _ _ _ _ z => z)
    intro w mg fa h Y G hmg0
    obtain ⟨K, KX, c⟩ := Y
    have hmg : mg ("law" : PySem.Str) = some (.ref fa) := by
      have e : (HandSHeadRun.topDef (OpenLaw.row PySem.Challenge.rw_leadnames_k03_parts_of_paths).prog 18).name = ("law" : PySem.Str) := by kernel_rfl
      rw [← e]
      exact hmg0
    obtain ⟨fd, hb, hF⟩ := LN.facts (P := (PySem.Challenge.rw_leadnames_k03_parts_of_paths).prog) (w := w) KX G hmg c
    exact ⟨K, fd, LN.sp1 (LN.spLaw K), KX, hb, fun H a ns hl _ hS => ⟨_, rfl, a, ns, rfl, hS, hl, fun _ => rfl⟩, hF⟩
#print axioms PySem.Challenge.cw_leadnames_k03_parts_of_paths_holds
