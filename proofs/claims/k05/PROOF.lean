import PyProof.Rows.All
import Wide.All
import OpenK.AllK
import Wide.FinOn
import PyProof.EqAt
import PyProof.EqKinds
import PyProof.TupleCall
import HandS.Base
import HandS.Call
import HandS.List
import HandS.Comp
import HandS.Ends
import HandS.Dict
import HandS.Iter
import HandS.Text
import HandS.Exc
import HandS.ExcOwn
import HandS.TryOnly
import HandS.IsInst
import HandS.Flow
import HandS.Defaults
import HandS.SortInts
import HandS.Evl
import HandS.Words
import HandS.WordsList
import HandS.WordsDict
import HandS.WordsExc
import HandS.Head0
import HandS.Head1
import HandS.Head2
import HandS.HeadEnd
import HandS.HeadHook1
import HandS.HeadHook2
import HandS.CallSlots
import HandS.ClsMeth
import HandS.ExcInit
import HandS.ExcIs
import HandS.ExcField
import HandS.More
import HandS.FStr
import HandS.Style
import PySem.Challenge.RW_leadnames_k05_whole_paths_put_together
set_option Elab.async false
set_option linter.all false
set_option maxRecDepth 100000
set_option maxHeartbeats 4000000
/-! the kit of these proofs: readings in steps -/
namespace LN
open PySem PySem.Spec PyProof.Rows L2 TL

/-! ### heaps -/
/-- all but the object at a is as it was -/
def But (a : Addr) (H H' : Hp) : Prop := ∀ b o, b ≠ a → H b = some o → H' b = some o
theorem But.of_same {a : Addr} {H H' : Hp} (s : Same H H') : But a H H' := fun b o _ h => s b o h
theorem But.trans {a : Addr} {H H1 H2 : Hp} (x : But a H H1) (y : But a H1 H2) : But a H H2 := fun b o n h => y b o n (x b o n h)
theorem same_new {H : Hp} {p : Addr} {o : HO} (h : H p = none) : Same H (upd H p o) := fun b u e => by rw [upd_ne (ne_of_none e h)]; exact e
theorem Same.newer {H H' : Hp} {p : Addr} {o : HO} (s : Same H H') (h : H' p = none) : Same H (upd H' p o) := s.trans (same_new h)
/-- a thing that H did not know may be written -/
theorem Same.wr {H H' : Hp} {p : Addr} {o : HO} (s : Same H H') (h : H p = none) : Same H (upd H' p o) := fun b u e => by rw [upd_ne (ne_of_none e h)]; exact s b u e
theorem But.wr {a : Addr} {H H' : Hp} {o : HO} (s : But a H H') : But a H (upd H' a o) := fun b u n e => by rw [upd_ne n]; exact s b u n e
theorem But.newer {a : Addr} {H H' : Hp} {p : Addr} {o : HO} (s : But a H H') (h : H' p = none) : But a H (upd H' p o) := fun b u n e => by rw [upd_ne (ne_of_none (s b u n e) h)]; exact s b u n e
theorem Same.butOf {a : Addr} {H H1 H2 : Hp} (s : Same H H1) (b : But a H1 H2) (n : H a = none) : Same H H2 := fun c o e => b c o (ne_of_none e n) (s c o e)
theorem lt_line {n : Nat} (h : n < 16000000) : n < sizeLine := by rw [sizeLine_eq]; omega
theorem le_line {n : Nat} (h : n < 16000000) : n ≤ sizeLine := by rw [sizeLine_eq]; omega

/-! ### steps: statements -/
section
variable {σ : L2.St} {H : Hp} {Q : VK} {n b c : L2.St → Hp → Prop} {r : VK}
theorem s_seq {t u : TS} (h : t (Ends.mk (u (Ends.mk n r b c)) r b c) σ H) : tSeq t u (Ends.mk n r b c) σ H := h
theorem s_cut {t u : TS} (M : L2.St → Hp → Prop) (h1 : t (Ends.mk M r b c) σ H) (h2 : ∀ σ' H', M σ' H' → u (Ends.mk n r b c) σ' H') : Evl.tCut t u (Ends.mk n r b c) σ H := ⟨M, h1, h2⟩
theorem s_next (h : n σ H) : tNext (Ends.mk n r b c) σ H := h
theorem s_brk (h : b σ H) : tBreak (Ends.mk n r b c) σ H := h
theorem s_cont (h : c σ H) : tCont (Ends.mk n r b c) σ H := h
theorem s_asg {te : TE} {g : TG} (h : te σ H fun x H1 => g x σ H1 n) : tAsg te g (Ends.mk n r b c) σ H := h
theorem s_name {i : Nat} {v : V} {q : L2.St → Hp → Prop} (h : q (σ.set i (some v)) H) : gName i v σ H q := h
theorem s_ret {te : TE} (h : te σ H r) : tRet te (Ends.mk n r b c) σ H := h
theorem s_retN (h : r .non H) : tRetN (Ends.mk n r b c) σ H := h
theorem s_drop {te : TE} (h : te σ H fun _ H1 => n σ H1) : tDrop te (Ends.mk n r b c) σ H := h
theorem s_if {t : TT} {x y : TS} (h : t σ H fun k H1 => if k = true then x (Ends.mk n r b c) σ H1 else y (Ends.mk n r b c) σ H1) : tIfS t x y (Ends.mk n r b c) σ H := h
theorem s_fldput {K : PySem.W.Frag} {ta tv : TE} {f : Str} (h : tv σ H fun y H1 => ta σ H1 fun x H2 => ∃ a C dx fs, x = .ref a ∧ H2 a = some (.ins C dx fs) ∧ Cls K C ∧ NoAttr K C f ∧ fs.length < 1000 ∧ n σ (upd H2 a (.ins C dx (putF f y fs)))) : sFld K ta tv f (Ends.mk n r b c) σ H := h
/-! ### steps: expressions -/
theorem s_var {i : Nat} {v : V} (e : σ[i]? = some (some v)) (h : Q v H) : tVar i σ H Q := ⟨v, e, h⟩
theorem s_c {v : V} (h : Q v H) : tC v σ H Q := h
theorem s_op {f : R2} {ta tb : TE} (h : ta σ H fun x H1 => tb σ H1 fun y H2 => f x y H2 Q) : tOp f ta tb σ H Q := h
theorem s_un {f : V → Hp → VK → Prop} {ta : TE} (h : ta σ H fun x H1 => f x H1 Q) : tUn f ta σ H Q := h
theorem s_cb {f : List V → Hp → VK → Prop} {t : TA} (h : t σ H fun vs H1 => f vs H1 Q) : tCB f t σ H Q := h
theorem s_call {sp : Sp} {dvs : List V} {E : XK} {t : TA} (h : t σ H fun vs H1 => sp (vs ++ dvs) H1 Q E) : tCall sp dvs E t σ H Q := h
theorem s_nil {q : List V → Hp → Prop} (h : q [] H) : tNil σ H q := h
theorem s_cons {ta : TE} {tr : TA} {q : List V → Hp → Prop} (h : ta σ H fun x H1 => tr σ H1 fun xs H2 => q (x :: xs) H2) : tCons ta tr σ H q := h
theorem s_tup {t : TA} (h : t σ H fun xs H1 => xs.length ≤ sizeLine ∧ ∀ p, H1 p = none → Q (.ref p) (upd H1 p (.tup xs))) : tTup t σ H Q := h
theorem s_lst {t : TA} (h : t σ H fun xs H1 => xs.length ≤ sizeLine ∧ ∀ p, H1 p = none → Q (.ref p) (upd H1 p (.lst xs))) : tLst t σ H Q := h
theorem s_test {te : TE} {q : Bool → Hp → Prop} (h : te σ H fun x H1 => ∃ k, x = .bl k ∧ q k H1) : tTest te σ H q := h
theorem s_tB {te : TE} {q : Bool → Hp → Prop} (h : te σ H fun x H1 => ∃ k, x = .bl k ∧ q k H1) : tB te σ H q := h
theorem s_bl {k : Bool} {q : Bool → Prop} (h : q k) : ∃ k', V.bl k = .bl k' ∧ q k' := ⟨k, rfl, h⟩
theorem s_and {t u : TT} {q : Bool → Hp → Prop} (h : t σ H fun k H1 => if k = true then u σ H1 q else q false H1) : tAnd t u σ H q := h
theorem s_or {t u : TT} {q : Bool → Hp → Prop} (h : t σ H fun k H1 => if k = true then q true H1 else u σ H1 q) : tOr t u σ H q := h
theorem s_not {t : TT} {q : Bool → Hp → Prop} (h : t σ H fun k H1 => q (!k) H1) : tNot t σ H q := h
theorem s_ifExp {t : TT} {ta tb : TE} (h : t σ H fun k H1 => if k = true then ta σ H1 Q else tb σ H1 Q) : tIf t ta tb σ H Q := h
theorem s_andV {ta tb : TE} (h : ta σ H fun x H1 => ∃ k, x = .bl k ∧ if k = true then tb σ H1 Q else Q (.bl false) H1) : tAndV ta tb σ H Q := h
theorem s_orV {ta tb : TE} (h : ta σ H fun x H1 => ∃ k, x = .bl k ∧ if k = true then Q (.bl true) H1 else tb σ H1 Q) : tOrV ta tb σ H Q := h
theorem s_notV {ta : TE} (h : ta σ H fun x H1 => ∃ k, x = .bl k ∧ Q (.bl (!k)) H1) : tNotV ta σ H Q := h
theorem s_sl {f : V → Option Int → Option Int → Hp → VK → Prop} {te : TE} {tl th : TO} (h : te σ H fun x H1 => tl σ H1 fun l H2 => th σ H2 fun u H3 => f x l u H3 Q) : tSl f te tl th σ H Q := h
theorem s_nopart {q : Option Int → Hp → Prop} (h : q none H) : tNoPart σ H q := h
theorem s_part {t : TE} {q : Option Int → Hp → Prop} (h : t σ H fun x H1 => ∃ i, x = .int i ∧ q (some i) H1) : tPart t σ H q := h
theorem s_int {i : Int} {q : Int → Prop} (h : q i) : ∃ j, V.int i = .int j ∧ q j := ⟨i, rfl, h⟩
theorem s_bm {K : PySem.W.Frag} {T : String} {f : V → List V → Hp → VK → Prop} {to : TE} {t : TA} (h : to σ H fun x H1 => tyV K T x H1 ∧ t σ H1 fun xs H2 => f x xs H2 Q) : tBM K T f to t σ H Q := h
theorem s_bm0 {K : PySem.W.Frag} {T : String} {f : V → List V → Hp → VK → Prop} {to : TE} (h : to σ H fun x H1 => tyV K T x H1 ∧ f x [] H1 Q) : tBM0 K T f to σ H Q := h
theorem s_m1 {f : V → List V → Hp → VK → Prop} {to te : TE} (h : to σ H fun x H1 => (∃ a, x = .str a) ∧ te σ H1 fun y H2 => f x [y] H2 Q) : tM1 f to te σ H Q := h
theorem s_m0 {f : V → List V → Hp → VK → Prop} {to : TE} (h : to σ H fun x H1 => (∃ a, x = .str a) ∧ f x [] H1 Q) : tM0 f to σ H Q := h
/-! ### tests that are known -/
theorem if_t {k : Bool} {A B : Prop} (e : k = true) (h : A) : if k = true then A else B := by rw [if_pos e]; exact h
theorem if_f {k : Bool} {A B : Prop} (e : k = false) (h : B) : if k = true then A else B := by rw [e, if_neg Bool.false_ne_true]; exact h
theorem if_2 {k : Bool} {A B : Prop} (h1 : k = true → A) (h2 : k = false → B) : if k = true then A else B := by
  cases k with
  | true => rw [if_pos rfl]; exact h1 rfl
  | false => rw [if_neg Bool.false_ne_true]; exact h2 rfl
end
/-! ### operators, whatever the values -/
section
variable {X : Cx} {K : PySem.W.Frag}
def rAddS0 : R2 := fun x y H Q => ∃ i j, x = .str i ∧ y = .str j ∧ i.length + j.length ≤ sizeLine ∧ Q (.str (i ++ j)) H
def uAdd (K : PySem.W.Frag) : R2 := fun x y H Q => rI0 (fun i j => .int (i + j)) x y H Q ∨ rAddS0 x y H Q ∨ rCat x y H Q ∨ rCatT K x y H Q
theorem op_addU (hK : X.K = K := by rfl) : OpR X (binaryOp .Add) (uAdd K) := hK ▸ op_add.or (OpR.or (r := rAddS0) op_add_str (op_cat.or op_catT))
theorem u_add_int {i j : Int} {H : Hp} {Q : VK} (h : Q (.int (i + j)) H) : uAdd K (.int i) (.int j) H Q := .inl ⟨i, j, rfl, rfl, h⟩
theorem u_add_str {i j : Str} {H : Hp} {Q : VK} (hl : i.length + j.length ≤ sizeLine) (h : Q (.str (i ++ j)) H) : uAdd K (.str i) (.str j) H Q := .inr (.inl ⟨i, j, rfl, rfl, hl, h⟩)
theorem u_add_lst {l m : Addr} {xs zs : List V} {H : Hp} {Q : VK} (h1 : H l = some (.lst xs)) (h2 : H m = some (.lst zs)) (hl : xs.length + zs.length ≤ sizeLine) (h : ∀ p, H p = none → Q (.ref p) (upd H p (.lst (xs ++ zs)))) :
    uAdd K (.ref l) (.ref m) H Q := .inr (.inr (.inl ⟨l, m, xs, zs, rfl, rfl, h1, h2, hl, h⟩))
/-- == and != -/
def uEq (K : PySem.W.Frag) : R2 := fun x y H Q => rEq x y H Q ∨ rEqD K x y H Q
def uNe (K : PySem.W.Frag) : R2 := fun x y H Q => rNe x y H Q ∨ rNeD K x y H Q
theorem op_eqU (hu : X.A.units + 64 < cLine) (hK : X.K = K := by rfl) : OpR X (compareOp .Eq) (uEq K) := hK ▸ op_eq.or (op_eqD hu)
theorem op_neU (hu : X.A.units + 64 < cLine) (hK : X.K = K := by rfl) : OpR X (compareOp .NotEq) (uNe K) := hK ▸ op_ne.or (op_neD hu)
theorem u_eq {x y : V} {H : Hp} {Q : VK} (hs : scal x y = true) (h : Q (.bl (decide (x = y))) H) : uEq K x y H Q := .inl ⟨hs, h⟩
theorem u_ne {x y : V} {H : Hp} {Q : VK} (hs : scal x y = true) (h : Q (.bl (!decide (x = y))) H) : uNe K x y H Q := .inl ⟨hs, h⟩
theorem u_eqI {i j : Int} {H : Hp} {Q : VK} (h : Q (.bl (decide (i = j))) H) : uEq K (.int i) (.int j) H Q := u_eq rfl (by
  have e : decide (V.int i = V.int j) = decide (i = j) := by by_cases q : i = j <;> simp [q]
  rw [e]; exact h)
theorem u_neI {i j : Int} {H : Hp} {Q : VK} (h : Q (.bl (!decide (i = j))) H) : uNe K (.int i) (.int j) H Q := u_ne rfl (by
  have e : decide (V.int i = V.int j) = decide (i = j) := by by_cases q : i = j <;> simp [q]
  rw [e]; exact h)
theorem u_eqS {i j : Str} {H : Hp} {Q : VK} (h : Q (.bl (decide (i = j))) H) : uEq K (.str i) (.str j) H Q := u_eq rfl (by
  have e : decide (V.str i = V.str j) = decide (i = j) := by by_cases q : i = j <;> simp [q]
  rw [e]; exact h)
theorem u_neS {i j : Str} {H : Hp} {Q : VK} (h : Q (.bl (!decide (i = j))) H) : uNe K (.str i) (.str j) H Q := u_ne rfl (by
  have e : decide (V.str i = V.str j) = decide (i = j) := by by_cases q : i = j <;> simp [q]
  rw [e]; exact h)
theorem u_eqB {i j : Bool} {H : Hp} {Q : VK} (h : Q (.bl (decide (i = j))) H) : uEq K (.bl i) (.bl j) H Q := u_eq rfl (by
  have e : decide (V.bl i = V.bl j) = decide (i = j) := by by_cases q : i = j <;> simp [q]
  rw [e]; exact h)
theorem u_neB {i j : Bool} {H : Hp} {Q : VK} (h : Q (.bl (!decide (i = j))) H) : uNe K (.bl i) (.bl j) H Q := u_ne rfl (by
  have e : decide (V.bl i = V.bl j) = decide (i = j) := by by_cases q : i = j <;> simp [q]
  rw [e]; exact h)
/-- a[i] of a list, a tuple, a text -/
theorem u_ixL {p : Addr} {xs : List V} {i : Int} {v : V} {H : Hp} {Q : VK} (h1 : H p = some (.lst xs)) (h2 : atI xs i = some v) (h : Q v H) : rIx K (.ref p) (.int i) H Q := .inl ⟨p, xs, i, v, rfl, rfl, SqL.of h1, h2, h⟩
theorem u_ixT {p : Addr} {xs : List V} {i : Int} {v : V} {H : Hp} {Q : VK} (h1 : H p = some (.tup xs)) (h2 : atI xs i = some v) (h : Q v H) : rIx K (.ref p) (.int i) H Q := .inr (.inl ⟨p, xs, i, v, rfl, rfl, SqT.of h1, h2, h⟩)
theorem u_ixS {z : Str} {i : Int} {c : Nat} {H : Hp} {Q : VK} (hl : z.length ≤ sizeLine) (h2 : atI z.cps.toList i = some c) (h : Q (.str ⟨#[c]⟩) H) : rIx K (.str z) (.int i) H Q := .inr (.inr ⟨z, i, c, rfl, rfl, hl, h2, h⟩)
/-- slices -/
def uSl (K : PySem.W.Frag) : V → Option Int → Option Int → Hp → VK → Prop := fun x lo hi H Q => rSlL K x lo hi H Q ∨ rSlS x lo hi H Q
theorem sl_U (hK : X.K = K := by rfl) : SlR X (uSl K) := hK ▸ sl_list.or sl_str
theorem u_slL {p : Addr} {xs : List V} {lo hi : Option Int} {H : Hp} {Q : VK} (h1 : SqL K H p xs) (h : ∀ q, H q = none → Q (.ref q) (upd H q (.lst (cutV xs lo hi)))) : uSl K (.ref p) lo hi H Q := .inl ⟨p, xs, rfl, h1, h⟩
theorem u_slS {z : Str} {lo hi : Option Int} {H : Hp} {Q : VK} (hl : z.length ≤ sizeLine) (h : Q (.str (cutS z lo hi)) H) : uSl K (.str z) lo hi H Q := .inr ⟨z, rfl, hl, h⟩
/-- len -/
def rLenU (K : PySem.W.Frag) : List V → Hp → VK → Prop := fun xs H Q => (∃ x n, xs = [x] ∧ LenV K x H n ∧ Q (.int n) H) ∨ ∃ a kvs, xs = [V.ref a] ∧ H a = some (.dK kvs) ∧ Q (.int kvs.length) H
theorem call_lenU (hK : X.K = K := by rfl) : CallR X (.builtin "len") (rLenU K) := hK ▸ call_len.or call_lenD
theorem u_lenS {z : Str} {H : Hp} {Q : VK} (hl : z.length ≤ sizeLine) (h : Q (.int z.length) H) : rLenU K [V.str z] H Q := .inl ⟨_, _, rfl, ⟨hl, rfl⟩, h⟩
theorem u_lenL {p : Addr} {xs : List V} {H : Hp} {Q : VK} (h1 : SqL K H p xs) (h : Q (.int xs.length) H) : rLenU K [V.ref p] H Q := .inl ⟨_, _, rfl, .inl ⟨xs, h1, rfl⟩, h⟩
theorem u_lenT {p : Addr} {xs : List V} {H : Hp} {Q : VK} (h1 : SqT K H p xs) (h : Q (.int xs.length) H) : rLenU K [V.ref p] H Q := .inl ⟨_, _, rfl, .inr ⟨xs, h1, rfl⟩, h⟩
theorem u_lenD {p : Addr} {kvs : List (Key × V)} {H : Hp} {Q : VK} (h1 : H p = some (.dK kvs)) (h : Q (.int kvs.length) H) : rLenU K [V.ref p] H Q := .inr ⟨p, kvs, rfl, h1, h⟩
/-- in, not in: a list or tuple, one sign in a text, a dict -/
def rInSg : R2 := fun x y H Q => ∃ (c : Nat) (z : Str), x = .str ⟨#[c]⟩ ∧ y = .str z ∧ Q (.bl (decide (c ∈ z.cps.toList))) H
def rNotInSg : R2 := fun x y H Q => ∃ (c : Nat) (z : Str), x = .str ⟨#[c]⟩ ∧ y = .str z ∧ Q (.bl (!decide (c ∈ z.cps.toList))) H
def rInD : R2 := fun x y H Q => ∃ a o, y = .ref a ∧ DGet H a x o ∧ Q (.bl o.isSome) H
def rNotInD : R2 := fun x y H Q => ∃ a o, y = .ref a ∧ DGet H a x o ∧ Q (.bl (!o.isSome)) H
theorem op_inD (hu : X.A.units + 1 < cLine) : OpR X (compareOp .In) rInD := by
  intro pins s σ H x y v u Q I rx ry h
  obtain ⟨a, o, rfl, g, q⟩ := h
  cases ry
  exact d_in hu I g rx fun s3 I3 => ⟨.bl o.isSome, H, I3, rfl, q⟩
theorem op_notInD (hu : X.A.units + 1 < cLine) : OpR X (compareOp .NotIn) rNotInD := by
  intro pins s σ H x y v u Q I rx ry h
  obtain ⟨a, o, rfl, g, q⟩ := h
  cases ry
  exact d_notIn hu I g rx fun s3 I3 => ⟨.bl (!o.isSome), H, I3, rfl, q⟩
def uIn (K : PySem.W.Frag) : R2 := fun x y H Q => rIn K false x y H Q ∨ rInSg x y H Q ∨ rInD x y H Q
def uNotIn (K : PySem.W.Frag) : R2 := fun x y H Q => rIn K true x y H Q ∨ rNotInSg x y H Q ∨ rNotInD x y H Q
theorem op_inU (hu : X.A.units + 1 < cLine) (hK : X.K = K := by rfl) : OpR X (compareOp .In) (uIn K) := hK ▸ op_in_seq.or (OpR.or (r := rInSg) op_in_sign (op_inD hu))
theorem op_notInU (hu : X.A.units + 1 < cLine) (hK : X.K = K := by rfl) : OpR X (compareOp .NotIn) (uNotIn K) := hK ▸ op_notIn_seq.or (OpR.or (r := rNotInSg) op_notIn_sign (op_notInD hu))
theorem u_inSg {c : Nat} {z : Str} {H : Hp} {Q : VK} (h : Q (.bl (decide (c ∈ z.cps.toList))) H) : uIn K (.str ⟨#[c]⟩) (.str z) H Q := .inr (.inl ⟨c, z, rfl, rfl, h⟩)
theorem u_notInSg {c : Nat} {z : Str} {H : Hp} {Q : VK} (h : Q (.bl (!decide (c ∈ z.cps.toList))) H) : uNotIn K (.str ⟨#[c]⟩) (.str z) H Q := .inr (.inl ⟨c, z, rfl, rfl, h⟩)
theorem u_inT {p : Addr} {xs : List V} {x : V} {H : Hp} {Q : VK} (h1 : SqT K H p xs) (hx : flatV x = true) (hs : xs.all flatV = true) (h : Q (.bl (inV x xs)) H) : uIn K x (.ref p) H Q := .inl ⟨p, xs, rfl, .inr h1, hx, hs, h⟩
theorem u_inL {p : Addr} {xs : List V} {x : V} {H : Hp} {Q : VK} (h1 : SqL K H p xs) (hx : flatV x = true) (hs : xs.all flatV = true) (h : Q (.bl (inV x xs)) H) : uIn K x (.ref p) H Q := .inl ⟨p, xs, rfl, .inl h1, hx, hs, h⟩
theorem u_notInT {p : Addr} {xs : List V} {x : V} {H : Hp} {Q : VK} (h1 : SqT K H p xs) (hx : flatV x = true) (hs : xs.all flatV = true) (h : Q (.bl (!inV x xs)) H) : uNotIn K x (.ref p) H Q := .inl ⟨p, xs, rfl, .inr h1, hx, hs, h⟩
theorem u_notInL {p : Addr} {xs : List V} {x : V} {H : Hp} {Q : VK} (h1 : SqL K H p xs) (hx : flatV x = true) (hs : xs.all flatV = true) (h : Q (.bl (!inV x xs)) H) : uNotIn K x (.ref p) H Q := .inl ⟨p, xs, rfl, .inl h1, hx, hs, h⟩
/-- is None -/
def rIsN : R2 := fun x y H Q => y = .non ∧ Q (.bl (decide (x = .non))) H
def rNotN : R2 := fun x y H Q => y = .non ∧ Q (.bl (!decide (x = .non))) H
theorem op_isNn : OpR X (compareOp .Is) rIsN := op_isN
theorem op_notNn : OpR X (compareOp .IsNot) rNotN := op_notN
theorem u_isN {x : V} {H : Hp} {Q : VK} (h : Q (.bl (decide (x = .non))) H) : rIsN x .non H Q := ⟨rfl, h⟩
theorem u_notN {x : V} {H : Hp} {Q : VK} (h : Q (.bl (!decide (x = .non))) H) : rNotN x .non H Q := ⟨rfl, h⟩
/-- methods of texts -/
def rStarts : V → List V → Hp → VK → Prop := fun x xs H Q => ∃ a b, x = .str a ∧ xs = [.str b] ∧ Q (.bl (Txt.startswith a b)) H
def rEnds : V → List V → Hp → VK → Prop := fun x xs H Q => ∃ a b, x = .str a ∧ xs = [.str b] ∧ Q (.bl (Txt.endswith a b)) H
def rUpper : V → List V → Hp → VK → Prop := fun x xs H Q => ∃ a, x = .str a ∧ xs = [] ∧ a.length ≤ 5592405 ∧ Q (.str (Txt.upper a)) H
def rSplit : V → List V → Hp → VK → Prop := fun x xs H Q => ∃ a b, x = .str a ∧ xs = [.str b] ∧ (b.length == 0) = false ∧ a.length + 2 ≤ sizeLine ∧ rNewStrs (Txt.split a b) H Q
def rJoin (K : PySem.W.Frag) : V → List V → Hp → VK → Prop := fun x xs H Q => ∃ a p, ∃ ys : List Str, x = .str a ∧ xs = [.ref p] ∧ (SqL K H p (ys.map V.str) ∨ SqT K H p (ys.map V.str)) ∧ (ys.map (·.length)).sum + ys.length * a.length ≤ 16777216 ∧ Q (.str (Txt.join a ys)) H
theorem mt_startsN : MtR X "str.startswith" rStarts := mt_startswith
theorem mt_endsN : MtR X "str.endswith" rEnds := mt_endswith
theorem mt_upperN : MtR X "str.upper" rUpper := mt_upper
theorem mt_splitN : MtR X "str.split" rSplit := mt_split
theorem mt_joinN (hK : X.K = K := by rfl) : MtR X "str.join" (rJoin K) := hK ▸ mt_join
theorem u_m1 {a : Str} {P : Prop} (h : P) : (∃ b, V.str a = V.str b) ∧ P := ⟨⟨a, rfl⟩, h⟩
theorem u_starts {a b : Str} {H : Hp} {Q : VK} (h : Q (.bl (Txt.startswith a b)) H) : rStarts (.str a) [.str b] H Q := ⟨a, b, rfl, rfl, h⟩
theorem u_ends {a b : Str} {H : Hp} {Q : VK} (h : Q (.bl (Txt.endswith a b)) H) : rEnds (.str a) [.str b] H Q := ⟨a, b, rfl, rfl, h⟩
theorem u_upper {a : Str} {H : Hp} {Q : VK} (hl : a.length ≤ 5592405) (h : Q (.str (Txt.upper a)) H) : rUpper (.str a) [] H Q := ⟨a, rfl, rfl, hl, h⟩
theorem u_split {a b : Str} {H : Hp} {Q : VK} (hb : (b.length == 0) = false) (hl : a.length + 2 ≤ sizeLine) (h : ∀ p, H p = none → Q (.ref p) (upd H p (.lst ((Txt.split a b).map V.str)))) : rSplit (.str a) [.str b] H Q := ⟨a, b, rfl, rfl, hb, hl, h⟩
theorem u_joinL {a : Str} {p : Addr} {ys : List Str} {H : Hp} {Q : VK} (h1 : SqL K H p (ys.map V.str)) (hl : (ys.map (·.length)).sum + ys.length * a.length ≤ 16777216) (h : Q (.str (Txt.join a ys)) H) : rJoin K (.str a) [.ref p] H Q := ⟨a, p, ys, rfl, rfl, .inl h1, hl, h⟩
/-- methods of lists -/
theorem u_tyL {p : Addr} {xs : List V} {H : Hp} {P : Prop} (h1 : SqL K H p xs) (h : P) : tyV K "list" (.ref p) H ∧ P := ⟨.inl ⟨rfl, xs, h1⟩, h⟩
theorem u_append {p : Addr} {xs : List V} {y : V} {H : Hp} {Q : VK} (h1 : H p = some (.lst xs)) (hl : xs.length < sizeLine) (h : Q .non (upd H p (.lst (xs ++ [y])))) : rAppend (.ref p) [y] H Q := ⟨p, xs, y, rfl, rfl, h1, hl, h⟩
theorem u_extend {p q : Addr} {xs zs : List V} {H : Hp} {Q : VK} (h1 : H p = some (.lst xs)) (h2 : H q = some (.lst zs)) (hl : xs.length + zs.length ≤ sizeLine) (h : Q .non (upd H p (.lst (xs ++ zs)))) : rExtend (.ref p) [.ref q] H Q := ⟨p, q, xs, zs, rfl, rfl, h1, h2, hl, h⟩
theorem u_setL {p : Addr} {xs : List V} {k : Int} {j : Nat} {v : V} {H : Hp} {q : Hp → Prop} (h1 : H p = some (.lst xs)) (h2 : ixN xs.length k = some j) (h : q (upd H p (.lst (xs.set j v)))) : rSetL (.ref p) (.int k) v H q := ⟨p, xs, k, j, rfl, rfl, h1, h2, h⟩
theorem ix_U (hK : X.K = K := by rfl) : IxR X (rIx K) := hK ▸ ix_seq
theorem call_isiU (hK : X.K = K := by rfl) : CallR X (.builtin "isinstance") (rIsi K) := hK ▸ call_isi
theorem call_isiTU (hK : X.K = K := by rfl) : CallR X (.builtin "isinstance") (rIsiT K) := hK ▸ call_isiT
theorem cr_allU (hK : X.K = K := by rfl) (hc : X.calm = true := by rfl) : CallR X (.builtin "all") (rAll K) := hK ▸ cr_all hc
theorem cr_anyU (hK : X.K = K := by rfl) (hc : X.calm = true := by rfl) : CallR X (.builtin "any") (rAny K) := hK ▸ cr_any hc
/-- all, any -/
theorem u_all {p : Addr} {bs : List Bool} {H : Hp} {Q : VK} (h1 : SqL K H p (bs.map V.bl)) (h : Q (.bl (bs.all id)) H) : rAll K [.ref p] H Q := ⟨p, bs, rfl, h1, h⟩
theorem u_any {p : Addr} {bs : List Bool} {H : Hp} {Q : VK} (h1 : SqL K H p (bs.map V.bl)) (h : Q (.bl (bs.any id)) H) : rAny K [.ref p] H Q := ⟨p, bs, rfl, h1, h⟩
/-- arithmetic of ints -/
theorem u_rI0 {g : Int → Int → V} {i j : Int} {H : Hp} {Q : VK} (h : Q (g i j) H) : rI0 g (.int i) (.int j) H Q := ⟨i, j, rfl, rfl, h⟩
theorem u_rI {C : Int → Int → Prop} {g : Int → Int → V} {i j : Int} {H : Hp} {Q : VK} (hc : C i j) (h : Q (g i j) H) : rI C g (.int i) (.int j) H Q := ⟨i, j, rfl, rfl, hc, h⟩
theorem u_mod {i j : Int} {H : Hp} {Q : VK} (hj : 0 < j) (h : Q (.int (i % j)) H) : rI (fun _ j => 0 < j) (fun i j => .int (i % j)) (.int i) (.int j) H Q := u_rI hj h
theorem u_fdiv {i j : Int} {H : Hp} {Q : VK} (hj : 0 < j ∧ j < 1073741824) (h : Q (.int (i / j)) H) : rI CDiv (fun i j => .int (i / j)) (.int i) (.int j) H Q := u_rI hj h
theorem u_mul {i j : Int} {H : Hp} {Q : VK} (hc : (-18446744073709551616 < i ∧ i < 18446744073709551616) ∨ (-18446744073709551616 < j ∧ j < 18446744073709551616)) (h : Q (.int (i * j)) H) : rI CMul (fun i j => .int (i * j)) (.int i) (.int j) H Q := u_rI hc h
theorem u_rU {g : Int → V} {i : Int} {H : Hp} {Q : VK} (h : Q (g i) H) : rU g (.int i) H Q := ⟨i, rfl, h⟩
end


/-! ### names of the module, calls -/
section
variable {X : Cx}
theorem pe_gi {x : Str} {i : Int} {pos : Pos} (hm : ∃ t, X.mg x = some (.int i t)) (hg : Gl X x := by rfl) (hd : (x == ("__debug__" : Str)) = false := by decide) : PE X (.Name x pos) (tC (.int i)) := by
  obtain ⟨t, h⟩ := hm
  exact pe_glob hg h ⟨_, rfl⟩ hd
theorem pe_gs {x z : Str} {pos : Pos} (hm : ∃ t, X.mg x = some (.str z t)) (hg : Gl X x := by rfl) (hd : (x == ("__debug__" : Str)) = false := by decide) : PE X (.Name x pos) (tC (.str z)) := by
  obtain ⟨t, h⟩ := hm
  exact pe_glob hg h ⟨_, rfl⟩ hd
end
/-- a def that is named x, with its promise -/
structure FnB (P : Program) (w : World) (K : PySem.W.Frag) (mg : Str → Option Value) (base : Heap) (CX : CXT) (k : Nat) (x : Str) (ps : List Str) (sp : Sp) : Prop where
  ex : ∃ (f : Addr) (fd : FuncData), FnOk P w K mg base CX k f fd ps sp ∧ mg x = some (.ref f) ∧ PySem.W.keepIn K (.ref f) = true ∧ Binds K fd ps []
section
variable {X : Cx} {CX : CXT} {k : Nat} {x : Str} {ps : List Str} {sp : Sp} {E : XK} {p pos : Pos} {e : Expr} {es : List Expr} {t : TA}
theorem pe_callF (B : FnB X.prog X.w X.K X.mg X.base CX k x ps sp) (hr : Room k X.A) (hx : Passes CX X E) (ha : PA X (e :: es) t) (hg : Gl X x := by rfl) (hdb : (x == ("__debug__" : Str)) = false := by decide)
    (he : starEach (e :: es) X.env = (false, eval e X.env) :: starEach es X.env := by rfl) (hpl : (backTo pos (starEach es X.env)).any (·.1) = false := by rfl) : PE X (.Call (.Name x p) (e :: es) [] pos) (tCall sp [] E t) := by
  obtain ⟨f, fd, F, g, kp, bd⟩ := B.ex
  exact pe_call F hr hg g kp bd .nil hx ha hdb he hpl
theorem pe_callF0 (B : FnB X.prog X.w X.K X.mg X.base CX k x ps sp) (hr : Room k X.A) (hx : Passes CX X E) (hg : Gl X x := by rfl) (hdb : (x == ("__debug__" : Str)) = false := by decide) : PE X (.Call (.Name x p) [] [] pos) (tCall sp [] E tNil) := by
  obtain ⟨f, fd, F, g, kp, bd⟩ := B.ex
  exact pe_call0 F hr hg g kp bd .nil hx hdb
end
/-- promises by the number of parameters -/
def sp0 (P : Hp → VK → XK → Prop) : Sp := fun vs H Q E => vs = [] ∧ P H Q E
def sp1 (P : V → Hp → VK → XK → Prop) : Sp := fun vs H Q E => ∃ a, vs = [a] ∧ P a H Q E
def sp2 (P : V → V → Hp → VK → XK → Prop) : Sp := fun vs H Q E => ∃ a b, vs = [a, b] ∧ P a b H Q E
def sp3 (P : V → V → V → Hp → VK → XK → Prop) : Sp := fun vs H Q E => ∃ a b c, vs = [a, b, c] ∧ P a b c H Q E
def sp4 (P : V → V → V → V → Hp → VK → XK → Prop) : Sp := fun vs H Q E => ∃ a b c d, vs = [a, b, c, d] ∧ P a b c d H Q E
theorem len0 {P : Hp → VK → XK → Prop} {vs : List V} {H : Hp} {Q : VK} {E : XK} (h : sp0 P vs H Q E) : vs.length = 0 := by obtain ⟨rfl, _⟩ := h; rfl
theorem len1 {P : V → Hp → VK → XK → Prop} {vs : List V} {H : Hp} {Q : VK} {E : XK} (h : sp1 P vs H Q E) : vs.length = 1 := by obtain ⟨_, rfl, _⟩ := h; rfl
theorem len2 {P : V → V → Hp → VK → XK → Prop} {vs : List V} {H : Hp} {Q : VK} {E : XK} (h : sp2 P vs H Q E) : vs.length = 2 := by obtain ⟨_, _, rfl, _⟩ := h; rfl
theorem len3 {P : V → V → V → Hp → VK → XK → Prop} {vs : List V} {H : Hp} {Q : VK} {E : XK} (h : sp3 P vs H Q E) : vs.length = 3 := by obtain ⟨_, _, _, rfl, _⟩ := h; rfl
theorem len4 {P : V → V → V → V → Hp → VK → XK → Prop} {vs : List V} {H : Hp} {Q : VK} {E : XK} (h : sp4 P vs H Q E) : vs.length = 4 := by obtain ⟨_, _, _, _, rfl, _⟩ := h; rfl
section
variable {H : Hp} {Q : VK} {E : XK} {a b c d : V}
theorem s_sp0 {P : Hp → VK → XK → Prop} (h : P H Q E) : sp0 P (([] : List V) ++ []) H Q E := ⟨rfl, h⟩
theorem s_sp1 {P : V → Hp → VK → XK → Prop} (h : P a H Q E) : sp1 P ([a] ++ []) H Q E := ⟨_, rfl, h⟩
theorem s_sp2 {P : V → V → Hp → VK → XK → Prop} (h : P a b H Q E) : sp2 P ([a, b] ++ []) H Q E := ⟨_, _, rfl, h⟩
theorem s_sp3 {P : V → V → V → Hp → VK → XK → Prop} (h : P a b c H Q E) : sp3 P ([a, b, c] ++ []) H Q E := ⟨_, _, _, rfl, h⟩
theorem s_sp4 {P : V → V → V → V → Hp → VK → XK → Prop} (h : P a b c d H Q E) : sp4 P ([a, b, c, d] ++ []) H Q E := ⟨_, _, _, _, rfl, h⟩
theorem s_chain {r r' : R2} {ta tb tc : TE} {σ : L2.St} (h : ta σ H fun x H1 => tb σ H1 fun y H2 => r x y H2 fun z H3 => ∃ k, z = .bl k ∧ (if k = true then tc σ H3 fun w' H4 => r' y w' H4 Q else Q (.bl false) H3)) : tChain r r' ta tb tc σ H Q := h
theorem s_disp {trs : List (TE × TE)} {σ : L2.St} (h : ∀ p, H p = none → tPairs trs σ (upd H p (.dK [])) fun ps H2 => H2 p = some (.dK []) ∧ ∃ kvs : List (Key × V), ps = kvs.map (fun kv => (kV kv.1, kv.2)) ∧ kvs.length ≤ 15 ∧ Q (.ref p) (upd H2 p (.dK (mergeK [] kvs)))) : tDisp trs σ H Q := h
theorem s_dnewK {σ : L2.St} (h : ∀ p, H p = none → Q (.ref p) (upd H p (.dK []))) : tDNewK σ H Q := h
theorem s_pairs0 {σ : L2.St} {q : List (V × V) → Hp → Prop} (h : q [] H) : tPairs [] σ H q := h
theorem s_pairs1 {tk tv : TE} {trs : List (TE × TE)} {σ : L2.St} {q : List (V × V) → Hp → Prop} (h : tk σ H fun x H1 => tv σ H1 fun y H2 => tPairs trs σ H2 fun ps H3 => q ((x, y) :: ps) H3) : tPairs ((tk, tv) :: trs) σ H q := h
theorem s_gsub {to ti : TE} {t : TSet} {v : V} {σ : L2.St} {q : L2.St → Hp → Prop} (h : to σ H fun o H1 => ti σ H1 fun i H2 => t o i v H2 fun H3 => q σ H3) : gSub to ti t v σ H q := h
theorem u_isi {K : PySem.W.Frag} {x v : V} {t u : Value} {k : Bool} (hk : ClsV v u) (ty : TyX K H x t) (e : PySem.W.kitOne K t u = some k) (h : Q (.bl k) H) : rIsi K [x, v] H Q := ⟨x, v, t, u, k, rfl, hk, ty, e, h⟩
end
/-! ### what is walked: items xs while S stands -/
structure Yl (J : It) (S : Hp → Prop) (xs : List V) : Prop where
  go : ∀ i H, S H → i < xs.length → J.go i H
  yld : ∀ i H x H', S H → i < xs.length → J.yld i H x H' → H' = H ∧ xs[i]? = some x
  stop : ∀ H, S H → J.stop xs.length H
theorem yl_list {K : PySem.W.Frag} {a : Addr} {xs : List V} : Yl (Itl K a) (fun H => SqL K H a xs) xs where
  go := fun i H h hi => ⟨xs, xs[i], h, by simp [hi]⟩
  yld := fun i H x H' h hi y => by obtain ⟨e, y⟩ := y; exact ⟨e, y xs h⟩
  stop := fun H h => ⟨xs, h, Nat.le_refl _⟩
theorem yl_tup {K : PySem.W.Frag} {a : Addr} {xs : List V} : Yl (Itt K a) (fun H => SqT K H a xs) xs where
  go := fun i H h hi => ⟨xs, xs[i], h, by simp [hi]⟩
  yld := fun i H x H' h hi y => by obtain ⟨e, y⟩ := y; exact ⟨e, y xs h⟩
  stop := fun H h => ⟨xs, h, Nat.le_refl _⟩
def signsV (z : Str) : List V := z.cps.toList.map fun c => .str ⟨#[c]⟩
theorem signsV_len (z : Str) : (signsV z).length = z.length := by simp [signsV, Str.length]
theorem yl_str {z : Str} : Yl (Its z) (fun _ => True) (signsV z) where
  go := fun i H _ hi => by rw [signsV_len] at hi; exact hi
  yld := fun i H x H' _ hi y => by
    obtain ⟨e, c, hc, rfl⟩ := y
    refine ⟨e, ?_⟩
    unfold signsV
    rw [List.getElem?_map, Array.getElem?_toList, hc]
    rfl
  stop := fun H _ => by rw [signsV_len]; exact Nat.le_refl _
def rangeV (lo : Int) (n : Nat) : List V := (List.range n).map fun i => .int (lo + (i : Nat))
theorem rangeV_len (lo : Int) (n : Nat) : (rangeV lo n).length = n := by simp [rangeV]
theorem rangeV_at {lo : Int} {n i : Nat} {x : V} (h : (rangeV lo n)[i]? = some x) : i < n ∧ x = .int (lo + i) := by
  have hi := (List.getElem?_eq_some_iff.mp h).1
  rw [rangeV_len] at hi
  refine ⟨hi, ?_⟩
  unfold rangeV at h
  rw [List.getElem?_map, List.getElem?_range hi] at h
  exact (Option.some.inj h).symm
theorem yl_range {lo : Int} {n : Nat} : Yl (Itr lo n) (fun _ => True) (rangeV lo n) where
  go := fun i H _ hi => by rw [rangeV_len] at hi; exact hi
  yld := fun i H x H' _ hi y => by
    obtain ⟨e, y⟩ := y
    rw [rangeV_len] at hi
    refine ⟨e, ?_⟩
    unfold rangeV
    rw [List.getElem?_map, List.getElem?_range hi, y]
    rfl
  stop := fun H _ => by rw [rangeV_len]; exact Nat.le_refl _
/-! ### for -/
def forGo (J : It) (g : TG) (tb : TS) (n : L2.St → Hp → Prop) (r : VK) (σ : L2.St) (H : Hp) : Prop := ∃ W : Nat → Nat → L2.St → Hp → Prop, (∃ m, W 0 m σ H) ∧ ∀ i m σ H, W i m σ H →
  (J.stop i H ∧ n σ H) ∨ (J.go i H ∧ ∃ N : L2.St → Hp → Prop, (∀ σ' H', N σ' H' → ∃ m', m' < m ∧ W (i + 1) m' σ' H') ∧ ∀ x H', J.yld i H x H' → g x σ H' fun σ2 H2 => tb (Ends.mk N r n N) σ2 H2)
section
variable {σ : L2.St} {H : Hp} {n b c : L2.St → Hp → Prop} {r : VK} {g : TG} {tb : TS} {K : PySem.W.Frag}
theorem s_for {wi : TI} (h : wi σ H fun J H1 => forGo J g tb n r σ H1) : tFor wi g tb (Ends.mk n r b c) σ H := h
theorem for_yl {J : It} {S : Hp → Prop} {xs : List V} (Y : Yl J S xs) (Pv : Nat → L2.St → Hp → Prop) (h0 : Pv 0 σ H) (hS : ∀ i σ H, i ≤ xs.length → Pv i σ H → S H)
    (hs : ∀ i x σ H, xs[i]? = some x → Pv i σ H → g x σ H fun σ2 H2 => tb (Ends.mk (Pv (i + 1)) r n (Pv (i + 1))) σ2 H2) (hd : ∀ σ H, Pv xs.length σ H → n σ H) : forGo J g tb n r σ H := by
  refine ⟨fun i m σ H => m = xs.length - i ∧ i ≤ xs.length ∧ Pv i σ H, ⟨xs.length, by simp, Nat.zero_le _, h0⟩, ?_⟩
  rintro i m σ H ⟨rfl, hi, p⟩
  have q := hS i σ H hi p
  by_cases hlt : i < xs.length
  · refine .inr ⟨Y.go i H q hlt, Pv (i + 1), fun σ' H' p' => ⟨xs.length - (i + 1), by omega, rfl, hlt, p'⟩, fun x H' y => ?_⟩
    obtain ⟨e, hx⟩ := Y.yld i H x H' q hlt y
    subst e
    exact hs i x σ _ hx p
  · have e : i = xs.length := by omega
    subst e
    exact .inl ⟨Y.stop H q, hd σ H p⟩
/-! the things that are walked -/
theorem s_iList {tl : TE} {R : It → Hp → Prop} (h : tl σ H fun x H1 => ∃ a, x = .ref a ∧ (∃ xs, SqL K H1 a xs) ∧ R (Itl K a) H1) : iList K tl σ H R := h
theorem u_itL {a : Addr} {xs : List V} {q : Addr → Prop} (h1 : SqL K H a xs) (h : q a) : ∃ a', V.ref a = .ref a' ∧ (∃ xs, SqL K H a' xs) ∧ q a' := ⟨a, rfl, ⟨xs, h1⟩, h⟩
theorem s_iTup {tl : TE} {R : It → Hp → Prop} (h : tl σ H fun x H1 => ∃ a, x = .ref a ∧ (∃ xs, SqT K H1 a xs) ∧ R (Itt K a) H1) : iTup K tl σ H R := h
theorem u_itT {a : Addr} {xs : List V} {q : Addr → Prop} (h1 : SqT K H a xs) (h : q a) : ∃ a', V.ref a = .ref a' ∧ (∃ xs, SqT K H a' xs) ∧ q a' := ⟨a, rfl, ⟨xs, h1⟩, h⟩
theorem s_iStr {te : TE} {R : It → Hp → Prop} (h : te σ H fun v H1 => ∃ x, v = .str x ∧ R (Its x) H1) : iStr te σ H R := h
theorem u_itS {z : Str} {q : Str → Prop} (h : q z) : ∃ x, V.str z = .str x ∧ q x := ⟨z, rfl, h⟩
theorem s_iR1 {ta : TA} {R : It → Hp → Prop} (h : ta σ H fun vs H1 => ∃ j : Int, vs = [.int j] ∧ -(2 ^ 62) ≤ j ∧ j < 2 ^ 62 ∧ R (Itr 0 j.toNat) H1) : iRng1 ta σ H R := h
theorem u_itR1 {j : Int} {q : Int → Prop} (h1 : -(2 ^ 62) ≤ j) (h2 : j < 2 ^ 62) (h : q j) : ∃ j' : Int, [V.int j] = [.int j'] ∧ -(2 ^ 62) ≤ j' ∧ j' < 2 ^ 62 ∧ q j' := ⟨j, rfl, h1, h2, h⟩
theorem s_iR2 {ta : TA} {R : It → Hp → Prop} (h : ta σ H fun vs H1 => ∃ i j : Int, vs = [.int i, .int j] ∧ (-(2 ^ 62) ≤ i ∧ i < 2 ^ 62 ∧ -(2 ^ 62) ≤ j ∧ j < 2 ^ 62) ∧ R (Itr i (j - i).toNat) H1) : iRng2 ta σ H R := h
theorem u_itR2 {i j : Int} {q : Int → Int → Prop} (h1 : -(2 ^ 62) ≤ i ∧ i < 2 ^ 62 ∧ -(2 ^ 62) ≤ j ∧ j < 2 ^ 62) (h : q i j) : ∃ i' j' : Int, [V.int i, V.int j] = [.int i', .int j'] ∧ (-(2 ^ 62) ≤ i' ∧ i' < 2 ^ 62 ∧ -(2 ^ 62) ≤ j' ∧ j' < 2 ^ 62) ∧ q i' j' := ⟨i, j, rfl, h1, h⟩
end
/-! ### a comprehension -/
def lcGo (J : It) (g : TG) (tt : TT) (te : TE) (vs : List Nat) (σ : L2.St) (H1 : Hp) (Q : VK) : Prop := ∀ D, H1 D = none → ∃ W : Nat → Nat → Hp → Prop, (∃ m, W 0 m (upd H1 D (.lst []))) ∧ ∀ i m H, W i m H →
  (J.stop i H ∧ Q (.ref D) H) ∨ (J.go i H ∧ ∃ Nx : Hp → Prop, (∀ H', Nx H' → ∃ m', m' < m ∧ W (i + 1) m' H') ∧ ∀ x H', J.yld i H x H' → g x (wipe σ vs) H' fun σ2 H2 => wipe σ2 vs = wipe σ vs ∧ tt σ2 H2 fun b H3 =>
    if b = true then te σ2 H3 fun y H4 => ∃ acc, H4 D = some (.lst acc) ∧ acc.length < sizeLine ∧ Nx (upd H4 D (.lst (acc ++ [y]))) else Nx H3)
section
variable {σ : L2.St} {H : Hp} {Q : VK} {g : TG} {tt : TT} {te : TE} {vs : List Nat}
theorem s_lc {wi : TI} (h : wi σ H fun J H1 => lcGo J g tt te vs σ H1 Q) : tLc wi g tt te vs σ H Q := h
/-- the items xs, p which of them are taken, f what is made of one; nothing that stood is changed -/
theorem lc_yl {J : It} {S : Hp → Prop} {xs : List V} {j : Nat} (Y : Yl J S xs) (hS0 : S H) (hS : ∀ H', Same H H' → S H') (p : V → Bool) (f : V → V) (hl : xs.length < 16000000) (hw : ∀ x, wipe ((wipe σ vs).set j (some x)) vs = wipe σ vs)
    (ht : ∀ x, x ∈ xs → ∀ H', Same H H' → ∀ q : Bool → Hp → Prop, (∀ H'', Same H' H'' → q (p x) H'') → tt ((wipe σ vs).set j (some x)) H' q)
    (he : ∀ x, x ∈ xs → p x = true → ∀ H', Same H H' → ∀ q : VK, (∀ H'', Same H' H'' → q (f x) H'') → te ((wipe σ vs).set j (some x)) H' q)
    (hq : ∀ D H', H D = none → Same H H' → H' D = some (.lst ((xs.filter p).map f)) → Q (.ref D) H') : lcGo J (gName j) tt te vs σ H Q := by
  intro D hD
  refine ⟨fun i m H' => m = xs.length - i ∧ i ≤ xs.length ∧ Same H H' ∧ H' D = some (.lst (((xs.take i).filter p).map f)), ⟨xs.length, by simp, Nat.zero_le _, same_new hD, upd_same⟩, ?_⟩
  rintro i m H' ⟨rfl, hi, s1, hd⟩
  have q := hS H' s1
  by_cases hlt : i < xs.length
  · refine .inr ⟨Y.go i H' q hlt, fun H'' => Same H H'' ∧ H'' D = some (.lst (((xs.take (i + 1)).filter p).map f)), fun H'' p' => ⟨xs.length - (i + 1), by omega, rfl, hlt, p'⟩, fun x H2 y => ?_⟩
    obtain ⟨e, hx⟩ := Y.yld i H' x H2 q hlt y
    subst e
    have hm : x ∈ xs := List.mem_of_getElem? hx
    have et : xs.take (i + 1) = xs.take i ++ [x] := by
      rw [List.take_succ, hx]; rfl
    refine ⟨hw x, ht x hm _ s1 _ fun H3 s3 => ?_⟩
    rw [et, List.filter_append, List.map_append]
    cases hp : p x with
    | false =>
      refine if_f rfl ⟨s1.trans s3, ?_⟩
      have e2 : [x].filter p = [] := by simp [List.filter, hp]
      rw [e2]
      have := s3 _ _ hd
      simpa using this
    | true =>
      refine if_t rfl (he x hm hp _ (s1.trans s3) _ fun H4 s4 => ?_)
      have e2 : [x].filter p = [x] := by simp [List.filter, hp]
      rw [e2]
      refine ⟨_, s4 _ _ (s3 _ _ hd), ?_, ?_, ?_⟩
      · refine lt_line ?_
        rw [List.length_map]
        have h1 := List.length_filter_le p (xs.take i)
        rw [List.length_take] at h1
        omega
      · exact Same.wr ((s1.trans s3).trans s4) hD
      · exact upd_same
  · have e : i = xs.length := by omega
    subst e
    rw [List.take_length] at hd
    exact .inl ⟨Y.stop H' q, hq D H' hD s1 hd⟩
theorem t_yes {x : L2.St} {H' : Hp} {q : Bool → Hp → Prop} (h : ∀ H'', Same H' H'' → q true H'') : tYes x H' q := h H' (Same.refl _)
end

/-! ### texts repeated, lists repeated -/
def rMulS : R2 := fun x y H Q => ∃ (z : Str) (n : Int), x = .str z ∧ y = .int n ∧ n < 10000 ∧ z.length ≤ 1000 ∧ -10000 < n ∧ Q (.str (Txt.mul z n)) H
theorem mulOk_small {z : Str} {n : Int} (h1 : n < 10000) (h2 : z.length ≤ 1000) (h3 : -10000 < n) : MulOk z n := by
  refine ⟨?_, fun h _ => ?_, fun h _ => ?_⟩
  · have a : ¬ n < -(2 ^ 63 : Int) := by omega
    have b : ¬ n ≥ 2 ^ 63 := by omega
    simp only [decide_eq_false a, decide_eq_false b, Bool.or_false]
  · have hn : 0 < n := by omega
    have q : (2 ^ 63 - 1) / (10000 : Int) ≤ (2 ^ 63 - 1) / n := by
      refine (Int.le_ediv_iff_mul_le hn).mpr ?_
      have e : (2 ^ 63 - 1 : Int) / 10000 = 922337203685477 := by decide
      rw [e]
      have h5 : (922337203685477 : Int) * n ≤ 922337203685477 * 10000 := Int.mul_le_mul_of_nonneg_left (by omega) (by decide)
      exact Int.le_trans h5 (by decide)
    have e : (2 ^ 63 - 1 : Int) / 10000 = 922337203685477 := by decide
    rw [e] at q
    omega
  · show decide (z.length * n.toNat > sizeLine) = false
    refine decide_eq_false ?_
    rw [sizeLine_eq]
    have : z.length * n.toNat ≤ 1000 * 10000 := Nat.mul_le_mul h2 (by omega)
    omega
theorem tl_mul (z : Str) (n : Int) : tl (Txt.mul z n) = (List.replicate n.toNat (tl z)).flatten := by
  unfold Txt.mul
  have fold : ∀ (k : Nat) (acc : Array Nat), ((List.replicate k z.cps).foldl (· ++ ·) acc).toList = acc.toList ++ (List.replicate k (tl z)).flatten := by
    intro k
    induction k with
    | zero => intro acc; simp
    | succ k ih =>
      intro acc
      rw [List.replicate_succ, List.foldl_cons, ih, List.replicate_succ, List.flatten_cons]
      simp [tl]
  by_cases h1 : n < 1
  · rw [if_pos h1]
    have : n.toNat = 0 := by omega
    rw [this]
    rfl
  · rw [if_neg h1]
    by_cases h2 : (n == 1 || z.length == 0) = true
    · rw [if_pos h2]
      rw [Bool.or_eq_true, beq_iff_eq, beq_iff_eq] at h2
      rcases h2 with h2 | h2
      · rw [h2]
        simp
      · have e : tl z = [] := by
          have := len_tl z
          rw [h2] at this
          exact List.length_eq_zero_iff.mp this.symm
        rw [e]
        simp
    · rw [if_neg h2]
      show ((List.replicate n.toNat z.cps).foldl (· ++ ·) #[]).toList = _
      rw [fold]
      simp
section
variable {X : Cx} {K : PySem.W.Frag} {H : Hp} {Q : VK}
theorem op_mulS : OpR X (binaryOp .Mult) rMulS := by
  intro pins s σ H x y v u Q I rx ry h
  obtain ⟨z, n, rfl, rfl, h1, h2, h3, q⟩ := h
  obtain ⟨t, rfl⟩ := rx
  obtain ⟨t', rfl⟩ := ry
  exact PySem.SB.mul (mulOk_small h1 h2 h3) fun t2 k => ⟨.str _, H, I.tok k, ⟨t2, rfl⟩, q⟩
def uMul : R2 := fun x y H Q => rI CMul (fun i j => .int (i * j)) x y H Q ∨ rMulS x y H Q ∨ rRep x y H Q
theorem op_mulU : OpR X (binaryOp .Mult) uMul := op_mul.or (op_mulS.or op_rep)
theorem u_mulI {i j : Int} (hc : (-18446744073709551616 < i ∧ i < 18446744073709551616) ∨ (-18446744073709551616 < j ∧ j < 18446744073709551616)) (h : Q (.int (i * j)) H) : uMul (.int i) (.int j) H Q := .inl (u_rI hc h)
theorem u_mulS {z : Str} {n : Int} (h1 : n < 10000 ∧ -10000 < n) (h2 : z.length ≤ 1000) (h : Q (.str (Txt.mul z n)) H) : uMul (.str z) (.int n) H Q := .inr (.inl ⟨z, n, rfl, rfl, h1.1, h2, h1.2, h⟩)
theorem u_mulL {l : Addr} {xs : List V} {k : Int} (h1 : H l = some (.lst xs)) (h2 : -1000000 < k ∧ k < 1000000) (h3 : xs.length * k.toNat ≤ sizeLine) (h : ∀ p, H p = none → Q (.ref p) (upd H p (.lst (List.replicate k.toNat xs).flatten))) : uMul (.ref l) (.int k) H Q :=
  .inr (.inr ⟨l, k, xs, rfl, rfl, h1, by omega, by omega, h3, h⟩)
/-! ### == of lists of texts -/
theorem dp_all : ∀ ss : List Str, DpAll K H (ss.map V.str) (ss.map PyData.str)
  | [] => .nil
  | s :: r => .cons (.str s) (dp_all r)
theorem dp_strs {p : Addr} {ss : List Str} (h : SqL K H p (ss.map V.str)) : Dp K H (.ref p) (.list (ss.map PyData.str)) := .lst h (dp_all ss)
theorem eqvAll_strs : ∀ ss ts : List Str, PyData.eqvAll (ss.map PyData.str) (ts.map PyData.str) = decide (ss = ts)
  | [], [] => by simp [PyData.eqvAll]
  | [], t :: ts => by simp [PyData.eqvAll]
  | s :: ss, [] => by simp [PyData.eqvAll]
  | s :: ss, t :: ts => by
    have ih := eqvAll_strs ss ts
    simp only [List.map_cons, PyData.eqvAll, PyData.eqv, ih]
    by_cases h : s = t <;> by_cases h2 : ss = ts <;> simp [h, h2]
theorem shaped_strs {ss : List Str} (h : ∀ s ∈ ss, PyData.strOk s = true) : SeqAt.shaped (.list (ss.map PyData.str)) = true := by
  unfold SeqAt.shaped
  rw [Bool.and_eq_true]
  constructor
  · show PyData.canLayAll0 (ss.map PyData.str) = true
    induction ss with
    | nil => simp [PyData.canLayAll0]
    | cons s r ih =>
      rw [List.map_cons, PyData.canLayAll0, Bool.and_eq_true]
      exact ⟨h s List.mem_cons_self, ih fun x hx => h x (List.mem_cons_of_mem _ hx)⟩
  · refine decide_eq_true ?_
    have e : ∀ l : List Str, PyData.depthAll (l.map PyData.str) ≤ 1 := by
      intro l
      induction l with
      | nil => simp [PyData.depthAll]
      | cons s r ih => simp only [List.map_cons, PyData.depthAll, PyData.depth]; omega
    have := e ss
    simp only [PyData.depth]
    omega
theorem u_neStrs {p q : Addr} {ss ts : List Str} (h1 : SqL K H p (ss.map V.str)) (h2 : SqL K H q (ts.map V.str)) (o1 : ∀ s ∈ ss, PyData.strOk s = true) (o2 : ∀ s ∈ ts, PyData.strOk s = true) (h : Q (.bl (!decide (ss = ts))) H) : uNe K (.ref p) (.ref q) H Q :=
  .inr ⟨_, _, dp_strs h1, dp_strs h2, shaped_strs o1, shaped_strs o2, by show Q (.bl (!PyData.eqvAll _ _)) H; rw [eqvAll_strs]; exact h⟩
theorem u_eqStrs {p q : Addr} {ss ts : List Str} (h1 : SqL K H p (ss.map V.str)) (h2 : SqL K H q (ts.map V.str)) (o1 : ∀ s ∈ ss, PyData.strOk s = true) (o2 : ∀ s ∈ ts, PyData.strOk s = true) (h : Q (.bl (decide (ss = ts))) H) : uEq K (.ref p) (.ref q) H Q :=
  .inr ⟨_, _, dp_strs h1, dp_strs h2, shaped_strs o1, shaped_strs o2, by show Q (.bl (PyData.eqvAll _ _)) H; rw [eqvAll_strs]; exact h⟩
end
/-! ### raising -/
/-- what is known of an own exception class x without an __init__ -/
structure EF (K : PySem.W.Frag) (mg : Str → Option Value) (x : Str) : Prop where
  g : mg x = some (.ref (He.ga K x))
  ex : PySem.W.excIn K (He.ga K x) He.veBase "ValueError.__new__" = true
  kp : PySem.W.keepIn K (.ref (He.ga K x)) = true
  sb : PySem.W.subIn K (.ref (He.ga K x)) (.type "BaseException") = some true
  ty : PySem.W.typeIn K (.ref (He.ga K x)) = some (.type "type")
def tRz (C : Addr) (W : WX) : TS := fun _ σ H => W (.ref C) none σ H
section
variable {X : Cx}
theorem ps_raiseE {K : PySem.W.Frag} {W : WX} {x m : Str} {j : Nat} {p p2 pos pos' : Pos} (hc : X.calm = true) (tk : Takes X W) (e : EF K X.mg x) (hK : X.K = K := by rfl) (hg : Gl X x := by rfl) (hdb : (x == ("__debug__" : Str)) = false := by decide) :
    PS X (.Raise (some (.Call (.Name x p) [.Constant (.str m) j p2] [] pos)) none pos') (tRz (He.ga K x) W) := by
  subst hK
  exact ps_raise hc tk (pmk_own PySem.F.excBase_ValueError e.ex e.g e.kp (raises_own e.sb e.ty) hg hdb)
end
theorem s_rz {C : Addr} {E : XK} {D : Ends} {σ : L2.St} {H : Hp} (h : E (.ref C) none H) : tRz C (fun cls d _ H => E cls d H) D σ H := h

def rListOf (K : PySem.W.Frag) : List V → Hp → VK → Prop := fun xs H Q => ∃ p ys, xs = [V.ref p] ∧ (SqL K H p ys ∨ SqT K H p ys) ∧ ∀ l, H l = none → Q (.ref l) (upd H l (.lst ys))
theorem call_listU {X : Cx} {K : PySem.W.Frag} (hK : X.K = K := by rfl) : CallR X (.type "list") (rListOf K) := by subst hK; exact call_list_of
theorem u_listL {K : PySem.W.Frag} {p : Addr} {ys : List V} {H : Hp} {Q : VK} (h1 : SqL K H p ys) (h : ∀ l, H l = none → Q (.ref l) (upd H l (.lst ys))) : rListOf K [.ref p] H Q := ⟨p, ys, rfl, .inl h1, h⟩
theorem u_ixLK {K : PySem.W.Frag} {p : Addr} {xs : List V} {i : Int} {v : V} {H : Hp} {Q : VK} (h1 : SqL K H p xs) (h2 : atI xs i = some v) (h : Q v H) : rIx K (.ref p) (.int i) H Q := .inl ⟨p, xs, i, v, rfl, rfl, h1, h2, h⟩
theorem neg_set {i : Int} {H : Hp} {Q : VK} (h : Q (.int (-i)) H) : rU (fun i => .int (-i)) (.int i) H Q := u_rU h
theorem atI_neg1 {α : Type} (xs : List α) (v : α) (h : xs.getLast? = some v) : atI xs (-1) = some v := by
  obtain ⟨ys, rfl⟩ : ∃ ys, xs = ys ++ [v] := List.getLast?_eq_some_iff.mp h
  exact atI_last ys v
theorem atI_zero {α : Type} (x : α) (r : List α) : atI (x :: r) 0 = some x := atI_nat (j := 0) rfl
/-- two things at two places -/
theorem mem_some {α : Type} {xs : List α} {i : Nat} {x : α} (h : xs[i]? = some x) : x ∈ xs := List.mem_of_getElem? h

/-! ## rules of these proofs: calls whose exceptions are wished for at the slots; classes; exceptions that are kept -/
section
variable {X : Cx} {CX : CXT} {k : Nat} {f C : Addr} {fd : FuncData} {ps : List Str} {sp : Sp} {dvs : List V} {ds : List Value} {E : L2.St → XK} {x m : Str} {p pos apos : Pos} {e o : Expr} {es : List Expr} {ta : TE} {t : TA}
def tCal (sp : Sp) (dvs : List V) (E : L2.St → XK) (t : TA) : TE := fun σ H Q => t σ H fun vs H1 => sp (vs ++ dvs) H1 Q (E σ)
def tMet (C : Addr) (m : Str) (sp : Sp) (dvs : List V) (E : L2.St → XK) (ta : TE) (t : TA) : TE := fun σ H Q => ta σ H fun x H1 => ∃ a dx fs, x = .ref a ∧ H1 a = some (.ins C dx fs) ∧ fs.lookup m = none ∧ t σ H1 fun vs H2 => sp (x :: (vs ++ dvs)) H2 Q (E σ)
def tNew (C : Addr) (sp : Sp) (dvs : List V) (E : L2.St → XK) (t : TA) : TE := fun σ H Q => t σ H fun vs H1 => ∀ x dx, H1 x = none → H1 dx = none → dx ≠ x → sp (.ref x :: (vs ++ dvs)) (upd (upd H1 dx (.own x)) x (.ins C dx [])) (fun v H2 => v = .non ∧ Q (.ref x) H2) (E σ)
/-- a def by its name, a method of a class, a maker, a def read off a class: each with its promise and the defaults dvs -/
structure FB (P : Program) (w : World) (K : PySem.W.Frag) (mg : Str → Option Value) (base : Heap) (CX : CXT) (k : Nat) (x : Str) (ps : List Str) (dvs : List V) (sp : Sp) : Prop where
  ex : ∃ (f : Addr) (fd : FuncData) (ds : List Value), FnOk P w K mg base CX k f fd ps sp ∧ mg x = some (.ref f) ∧ PySem.W.keepIn K (.ref f) = true ∧ Binds K fd ps ds ∧ Vals dvs ds
structure MB (P : Program) (w : World) (K : PySem.W.Frag) (mg : Str → Option Value) (base : Heap) (CX : CXT) (k : Nat) (C : Addr) (m : Str) (ps : List Str) (dvs : List V) (sp : Sp) : Prop where
  ex : ∃ (f : Addr) (fd : FuncData) (ds : List Value), FnOk P w K mg base CX k f fd ps sp ∧ Cls K C ∧ Meth K C m f ∧ Binds K fd ps ds ∧ Vals dvs ds
structure NB (P : Program) (w : World) (K : PySem.W.Frag) (mg : Str → Option Value) (base : Heap) (CX : CXT) (k : Nat) (x : Str) (C : Addr) (ps : List Str) (dvs : List V) (sp : Sp) : Prop where
  ex : ∃ (f : Addr) (fd : FuncData) (ds : List Value), FnOk P w K mg base CX k f fd ps sp ∧ mg x = some (.ref C) ∧ Mk K C f ∧ Binds K fd ps ds ∧ Vals dvs ds
structure CB (P : Program) (w : World) (K : PySem.W.Frag) (mg : Str → Option Value) (base : Heap) (CX : CXT) (k : Nat) (x : Str) (C : Addr) (m : Str) (ps : List Str) (sp : Sp) : Prop where
  ex : ∃ (f : Addr) (fd : FuncData), FnOk P w K mg base CX k f fd ps sp ∧ mg x = some (.ref C) ∧ ClX.CRead K C (.type "type") ∧ PySem.W.findCls K (.ref C) (.type "type") m = some (.val (.ref f)) ∧ PySem.W.keepIn K (.ref f) = true ∧ Binds K fd ps []
theorem pe_F (B : FB X.prog X.w X.K X.mg X.base CX k x ps dvs sp) (hr : Room k X.A) (hx : ∀ σ, PassesAt CX X σ (E σ)) (ha : PA X (e :: es) t) (hg : Gl X x := by rfl) (hdb : (x == ("__debug__" : Str)) = false := by decide)
    (he : starEach (e :: es) X.env = (false, eval e X.env) :: starEach es X.env := by rfl) (hpl : (backTo pos (starEach es X.env)).any (·.1) = false := by rfl) : PE X (.Call (.Name x p) (e :: es) [] pos) (tCal sp dvs E t) := by
  obtain ⟨f, fd, ds, F, g, kp, bd, hd⟩ := B.ex
  exact pe_callSD F hr hg g kp bd hd hx ha hdb he hpl
theorem pe_F0 (B : FB X.prog X.w X.K X.mg X.base CX k x ps dvs sp) (hr : Room k X.A) (hx : ∀ σ, PassesAt CX X σ (E σ)) (hg : Gl X x := by rfl) (hdb : (x == ("__debug__" : Str)) = false := by decide) : PE X (.Call (.Name x p) [] [] pos) (tCal sp dvs E tNil) := by
  obtain ⟨f, fd, ds, F, g, kp, bd, hd⟩ := B.ex
  refine ⟨fun pins s σ H Q I h => wpAny_Call_Name_kw (ld_glob I hg g ?_ hdb)⟩
  exact PySem.W.callWith_K0 I.kIn kp (run_fnSD (us := []) F hr bd hd (hx σ) I .nil h)
theorem pe_M {pl : Sem Bool} (B : MB X.prog X.w X.K X.mg X.base CX k C m ps dvs sp) (hr : Room k X.A) (hx : ∀ σ, PassesAt CX X σ (E σ)) (he : PE X o ta) (ha : PA X (e :: es) t)
    (hst : starEach (e :: es) X.env = (false, eval e X.env) :: starEach es X.env := by rfl) (hpl : (backTo pos (starEach es X.env)).any (·.1) = false := by rfl)
    (ht : eval (.Call (.Attribute o m apos) (e :: es) [] pos) X.env = (do let ov ← eval o X.env; standAt apos.atName; let (f, first) ← holding [ov] (getMethod ov m pl); callWith pos f first (backTo pos (starEach (e :: es) X.env)) (backToKw pos (keywordEach [] X.env))) := by rfl) :
    PE X (.Call (.Attribute o m apos) (e :: es) [] pos) (tMet C m sp dvs E ta t) := by
  obtain ⟨f, fd, ds, F, c, hm, bd, hd⟩ := B.ex
  refine ⟨fun pins s σ H Q I h => PySem.W.methodCall_KW (pl := pl) (thn (he.run pins s σ H _ I h) fun u s1 ⟨x, H1, I1, rx, a, dx, fs, ex, ea, l, q⟩ => ?_) ht⟩
  subst ex
  cases rx
  refine getmeth_ok I1 ea c hm l (PySem.W.callWith_K (first := [.ref a]) (h₀ := X.base) I.ok.mod.kin hm.kp (thn (ha.run pos pins s1 σ H1 _ I1 q) fun us s2 ⟨vs, H2, I2, r, q2⟩ => ⟨I2.kIn, ?_⟩) hst hpl)
  exact run_fnSD (us := .ref a :: us) (vs := .ref a :: vs) F hr bd hd (hx σ) I2 (.cons rfl r) q2
theorem pe_M0 {pl : Sem Bool} (B : MB X.prog X.w X.K X.mg X.base CX k C m ps dvs sp) (hr : Room k X.A) (hx : ∀ σ, PassesAt CX X σ (E σ)) (he : PE X o ta)
    (ht : eval (.Call (.Attribute o m apos) [] [] pos) X.env = (do let ov ← eval o X.env; standAt apos.atName; let (f, first) ← holding [ov] (getMethod ov m pl); callWith pos f first (backTo pos (starEach [] X.env)) (backToKw pos (keywordEach [] X.env))) := by rfl) :
    PE X (.Call (.Attribute o m apos) [] [] pos) (tMet C m sp dvs E ta tNil) := by
  obtain ⟨f, fd, ds, F, c, hm, bd, hd⟩ := B.ex
  refine ⟨fun pins s σ H Q I h => PySem.W.methodCall_KW (pl := pl) (thn (he.run pins s σ H _ I h) fun u s1 ⟨x, H1, I1, rx, a, dx, fs, ex, ea, l, q⟩ => ?_) ht⟩
  subst ex
  cases rx
  refine getmeth_ok I1 ea c hm l ?_
  exact PySem.W.callWith_K0 (first := [.ref a]) I1.kIn hm.kp (run_fnSD (us := [.ref a]) (vs := [.ref a]) F hr bd hd (hx σ) I1 (.cons rfl .nil) q)
theorem run_new {pins : List (Addr × Obj)} {σ : L2.St} {H : Hp} {s : Shared} {Q : VK} {us : List Value} {vs : List V} {E : XK} (M : Mk X.K C f) (F : FnOk X.prog X.w X.K X.mg X.base CX k f fd ps sp) (hr : Room (k + 1) X.A) (hb : Binds X.K fd ps ds) (hd : Vals dvs ds)
    (hx : PassesAt CX X σ E) (I : Inv X pins σ H s) (r : Vals vs us)
    (h : ∀ x dx, H x = none → H dx = none → dx ≠ x → sp (.ref x :: (vs ++ dvs)) (upd (upd H dx (.own x)) x (.ins C dx [])) (fun v H2 => v = .non ∧ Q (.ref x) H2) E) :
    wpAny (model X.prog X.w) X.A (call (.ref C) us) (EP X pins σ Q) X.xe s := by
  obtain ⟨n, hn⟩ : ∃ n, n = s.heap.objs.size := ⟨_, rfl⟩
  have z0 : H n = none := I.hok.fresh (by rw [hn]; exact Nat.le_refl _)
  have z1 : H (n + 1) = none := I.hok.fresh (by rw [hn]; exact Nat.le_succ _)
  have hq := h (n + 1) n z1 z0 (Nat.ne_of_lt (Nat.lt_succ_self n))
  have J := Inv.made (C := C) I
  rw [← hn] at J
  have rr : Vals (V.ref (n + 1) :: (vs ++ dvs)) (Value.ref (n + 1) :: (us ++ ds)) := .cons rfl (r.append hd)
  have hl : ((Value.ref (n + 1) :: us) ++ ds).length = ps.length := by
    have q := rr.length
    rw [F.len _ _ _ _ hq] at q
    exact q.symm
  refine wpAny_call (make_map I.kIn M.makes M.init (beq_iff_eq.mp M.fn) ?_)
  have G := F.run _ X.stack _ _ ⟨Value.ref (n + 1) :: us, []⟩ (Value.ref (n + 1) :: (us ++ ds)) _ _ E (hr.make C us []) (J.env0.make C us []) (hb _ (Value.ref (n + 1) :: us) J.kIn hl) rr hq
  rw [hn] at G
  refine codeAny_mono G fun res s2 hq2 => ?_
  rw [← hn] at hq2
  match res, hq2 with
  | .error er, c => exact hx pins _ _ er s2 J c
  | .ok (.ret u), c =>
    obtain ⟨v, H9, I9, rv, ev, q9⟩ := J.after c
    rw [ev] at rv
    exact ⟨rv, ⟨V.ref (n + 1), H9, I9, by rw [hn]; rfl, q9⟩⟩
  | .ok .next, c => exact c.elim
  | .ok .brk, c => exact c.elim
  | .ok .cont, c => exact c.elim
theorem pe_N (B : NB X.prog X.w X.K X.mg X.base CX k x C ps dvs sp) (hr : Room (k + 1) X.A) (hx : ∀ σ, PassesAt CX X σ (E σ)) (ha : PA X (e :: es) t) (hg : Gl X x := by rfl) (hdb : (x == ("__debug__" : Str)) = false := by decide)
    (he : starEach (e :: es) X.env = (false, eval e X.env) :: starEach es X.env := by rfl) (hpl : (backTo pos (starEach es X.env)).any (·.1) = false := by rfl) : PE X (.Call (.Name x p) (e :: es) [] pos) (tNew C sp dvs E t) := by
  obtain ⟨f, fd, ds, F, g, M, bd, hd⟩ := B.ex
  refine ⟨fun pins s σ H Q I h => wpAny_Call_Name_kw (ld_glob I hg g ?_ hdb)⟩
  refine PySem.W.callWith_K (h₀ := X.base) I.ok.mod.kin M.kp (thn (ha.run pos pins s σ H _ I h) fun us s1 ⟨vs, H1, I1, r, q⟩ => ⟨I1.kIn, ?_⟩) he hpl
  exact run_new M F hr bd hd (hx σ) I1 r q
theorem pe_N0 (B : NB X.prog X.w X.K X.mg X.base CX k x C ps dvs sp) (hr : Room (k + 1) X.A) (hx : ∀ σ, PassesAt CX X σ (E σ)) (hg : Gl X x := by rfl) (hdb : (x == ("__debug__" : Str)) = false := by decide) : PE X (.Call (.Name x p) [] [] pos) (tNew C sp dvs E tNil) := by
  obtain ⟨f, fd, ds, F, g, M, bd, hd⟩ := B.ex
  refine ⟨fun pins s σ H Q I h => wpAny_Call_Name_kw (ld_glob I hg g ?_ hdb)⟩
  exact PySem.W.callWith_K0 I.kIn M.kp (run_new (us := []) M F hr bd hd (hx σ) I .nil h)
/-- C.m(e, ..), a plain def read off the class that is named x -/
theorem pe_C {q0 : Pos} {pl : Sem Bool} (B : CB X.prog X.w X.K X.mg X.base CX k x C m ps sp) (hr : Room k X.A) (hx : ∀ σ, PassesAt CX X σ (E σ)) (ha : PA X (e :: es) t) (hg : Gl X x := by rfl) (hdb : (x == ("__debug__" : Str)) = false := by decide)
    (hst : starEach (e :: es) X.env = (false, eval e X.env) :: starEach es X.env := by rfl) (hpl : (backTo pos (starEach es X.env)).any (·.1) = false := by rfl)
    (ht : eval (.Call (.Attribute (.Name x q0) m apos) (e :: es) [] pos) X.env = (do let ov ← eval (.Name x q0) X.env; standAt apos.atName; let (f, first) ← holding [ov] (getMethod ov m pl); callWith pos f first (backTo pos (starEach (e :: es) X.env)) (backToKw pos (keywordEach [] X.env))) := by rfl) :
    PE X (.Call (.Attribute (.Name x q0) m apos) (e :: es) [] pos) (tCal sp [] E t) := by
  obtain ⟨f, fd, F, g, rd, fc, kp, bd⟩ := B.ex
  refine ⟨fun pins s σ H Q I h => PySem.W.methodCall_KW (pl := pl) (ld_glob I hg g ?_ hdb) ht⟩
  refine PySem.W.method_cls I.kIn rd.ga (PySem.W.cls_value I.kIn rd.rd fc rfl ?_)
  refine PySem.W.callWith_K (first := []) (h₀ := X.base) I.ok.mod.kin kp (thn (ha.run pos pins _ σ H _ (I.tok _) h) fun us s2 ⟨vs, H2, I2, r, q2⟩ => ⟨I2.kIn, ?_⟩) hst hpl
  exact run_fnSD F hr bd .nil (hx σ) I2 r q2
theorem pe_alt {e : Expr} {t1 t2 : TE} (h1 : PE X e t1) (h2 : PE X e t2) : PE X e (fun σ H Q => t1 σ H Q ∨ t2 σ H Q) := ⟨fun pins s σ H Q I h => h.elim (h1.run pins s σ H Q I) (h2.run pins s σ H Q I)⟩
theorem passE0 (σ : L2.St) : PassesAt (L2.CX X.prog X.w) X σ E0 := fun pins H s e s' I c => passL (X := X) pins σ H s e s' I c
end
/-! ### exceptions of own classes -/
section
variable {X : Cx} {pins : List (Addr × Obj)} {σ : L2.St} {H : Hp} {s : Shared} {a C : Addr} {cls : Value} {d : Option Addr}
/-- at a: an exception of the class cls, its dict d -/
def ExT (cls : Value) (d : Option Addr) (a : Addr) : HO := .ext fun h => ∃ (oe : Obj) (vs : Array Value), h.get? a = some oe ∧ Zc cls d oe ∧ oe.data = .fields vs
theorem exT_ok {P : Program} {w : World} {h : Heap} {oe : Obj} {vs : Array Value} (e : h.get? a = some oe) (z : Zc cls d oe) (hd : oe.data = .fields vs) : ObjOk P w H h a (ExT cls d a) :=
  ⟨⟨oe, vs, e, z, hd⟩, ⟨oe, e⟩, fun _ _ ⟨o1, v1, e1, z1, d1⟩ k => ⟨o1, v1, k _ e1, z1, d1⟩⟩
theorem exT_at (I : Inv X pins σ H s) (e : H a = some (ExT cls d a)) : ∃ (oe : Obj) (vs : Array Value), s.heap.get? a = some oe ∧ Zc cls d oe ∧ oe.data = .fields vs := (show ObjOk X.prog X.w H s.heap a (ExT cls d a) from I.hok a _ e).1
/-- what was untracked, and is new since the entry, is tracked from now on -/
theorem Inv.track {o : HO} (I : Inv X pins σ H s) (na : H a = none) (n0 : X.s_0.heap.get? a = none) (nL : a ≠ X.env.locals) (nC : ∀ x c, X.env.cells.lookup x = some c → c ≠ a) (nP : ∀ p ∈ X.pn ++ pins, p.1 ≠ a)
    (ok : ObjOk X.prog X.w (upd H a o) s.heap a o) : Inv X pins σ (upd H a o) s := by
  have old : ∀ {b : Addr} {u : HO}, H b = some u → upd H a o b = some u := fun {b u} q => by rw [upd_ne (ne_of_none q na)]; exact q
  have n0' : ∀ {b : Addr} {u : Obj}, X.s_0.heap.get? b = some u → b ≠ a := fun {b u} q z => by rw [z, n0] at q; cases q
  refine ⟨I.ok, I.os, I.bare, ⟨I.base.keep, I.base.slot, fun b u q n hx => ?_, I.base.there, fun b xs q => old (I.base.tups b xs q), fun b u v q => old (I.base.frzs b u v q), fun b ps q => ?_⟩, I.loc, I.cell, ?_, fun x c q => ?_, fun p hp => ?_, fun b u q => ?_, I.len⟩
  · rw [upd_ne (n0' q)]; exact I.base.free b u q n hx
  · obtain ⟨more, q2⟩ := I.base.tbls b ps q
    exact ⟨more, old q2⟩
  · rw [upd_ne (Ne.symm nL)]; exact I.free
  · rw [upd_ne (nC x c q)]; exact I.freeC x c q
  · obtain ⟨h1, h2, h3, h4, h5⟩ := I.pin p hp
    exact ⟨h1, by rw [upd_ne (nP p hp)]; exact h2, h3, h4, h5⟩
  · by_cases hb : b = a
    · subst hb
      rw [upd_same] at q
      cases q
      exact ok
    · rw [upd_ne hb] at q
      exact (I.hok b u q).stay (fun c v _ z => z) (fun c z => old z) (fun c xs z => old z)
end
/-! ### try .. except x as n .. except y .., the exceptions kept -/
def asEnds (D : Ends) : Option Nat → Ends
  | none => D
  | some i => { nx := fun τ H' => D.nx (τ.set i none) H', rt := D.rt, bk := fun τ H' => D.bk (τ.set i none) H', ct := fun τ H' => D.ct (τ.set i none) H' }
def asSt (σ : L2.St) (a : Addr) : Option Nat → L2.St
  | none => σ
  | some i => σ.set i (some (.ref a))
/-- what is wished of an exception of the body: the first clause that matches runs, with the exception tracked at a -/
def wKp (K : PySem.W.Frag) (Wout : WX) (D : Ends) : List (Value × Option Nat × TS) → WX
  | [] => Wout
  | (c, i, ts) :: r => fun cls d σ H => ∃ b, PySem.W.exmOne K cls c = some b ∧ (b = true → ∀ a, H a = none → ts (asEnds D i) (asSt σ a i) (upd H a (ExT cls d a))) ∧ (b = false → wKp K Wout D r cls d σ H)
def tTry (K : PySem.W.Frag) (tb : WX → TS) (Wout : WX) (l : List (Value × Option Nat × TS)) : TS := fun D σ H => tb (wKp K Wout D l) D σ H
inductive KHs (X : Cx) : List ExceptHandler → List (Value × Option Nat × TS) → Prop
  | nil : KHs X [] []
  | as {x n : Str} {c : Value} {i : Nat} {ts : TS} {b1 : Stmt} {suite : List Stmt} {np ph : Pos} {hds : List ExceptHandler} {l : List (Value × Option Nat × TS)} (hN : X.N.Nodup) (hi : X.N[i]? = some n) (hln : X.env.kindOf n = some .local) (hc : Names X x c)
      (hsu : ∀ (a : Addr) (pn : List (Addr × Obj)), PSs (X.suite a pn) (b1 :: suite) ts) (r : KHs X hds l) : KHs X (.ExceptHandler (some (.Name x np)) (some n) (b1 :: suite) ph :: hds) ((c, some i, ts) :: l)
  | no {x : Str} {c : Value} {ts : TS} {b1 : Stmt} {suite : List Stmt} {np ph : Pos} {hds : List ExceptHandler} {l : List (Value × Option Nat × TS)} (hc : Names X x c)
      (hsu : ∀ (a : Addr) (pn : List (Addr × Obj)), PSs (X.suite a pn) (b1 :: suite) ts) (r : KHs X hds l) : KHs X (.ExceptHandler (some (.Name x np)) none (b1 :: suite) ph :: hds) ((c, none, ts) :: l)
section
variable {X : Cx} {body : List Stmt} {h0 : ExceptHandler} {hds : List ExceptHandler} {l : List (Value × Option Nat × TS)} {pos : Pos} {tb : WX → TS} {Wout : WX}
/-- the suite's context with nothing pinned for it -/
theorem suite_tracked {pins : List (Addr × Obj)} {σ : L2.St} {H : Hp} {s : Shared} {a : Addr} {o : HO} (I : Inv X pins σ H s) (na : H a = none) (n0 : X.s_0.heap.get? a = none) (nL : a ≠ X.env.locals) (nC : ∀ x c, X.env.cells.lookup x = some c → c ≠ a)
    (nP : ∀ p ∈ X.pn ++ pins, p.1 ≠ a) (ok : ObjOk X.prog X.w (upd H a o) s.heap a o) : Inv (X.suite a (X.pn ++ pins)) [] σ (upd H a o) s := by
  have J := Inv.track I na n0 nL nC nP ok
  exact ⟨J.ok.suite _ _, J.os, J.bare, J.base, J.loc, J.cell, J.free, J.freeC, fun p hp => J.pin p (by rw [List.append_nil] at hp; exact hp), J.hok, J.len⟩
theorem unsuite_tracked {pins : List (Addr × Obj)} {σ : L2.St} {H : Hp} {s : Shared} {a : Addr} (S : Inv (X.suite a (X.pn ++ pins)) [] σ H s) (ok : X.Ok) : Inv X pins σ H s :=
  ⟨ok, S.os, S.bare, S.base, S.loc, S.cell, S.free, S.freeC, fun p hp => S.pin p (by rw [List.append_nil]; exact hp), S.hok, S.len⟩
theorem ps_try_kept (hs : X.stack = X.env :: X.outer) (hf : X.env.frame = some X.env.locals) (hex : X.ex = []) (tk : Takes X Wout)
    (hb : ∀ (W : WX) (pn : List (Addr × Obj)) (xe : Value → Shared → Prop), Takes (X.tr pn xe) W → PassesOwn (model X.prog X.w) X.A X.env xe → PSs (X.tr pn xe) body (tb W))
    (hh : KHs X (h0 :: hds) l) : PS X (.Try body (h0 :: hds) [] [] pos) (tTry X.K tb Wout l) := by
  refine ⟨fun pins s σ H D I h => wpAny_Try_except ?_⟩
  have ok := I.ok
  have hframes : X.A.frames = some (X.env :: X.outer) := ok.frames.trans (congrArg some hs)
  have wish := hb (wKp X.K Wout D l) (X.pn ++ pins) (fun e s1 => wpAny (model X.prog X.w) X.A (noteFrame e X.env) (fun _ s2 => wpAny (model X.prog X.w) X.A (setFlight e none) (fun _ s3 =>
    wpAny (model X.prog X.w) X.A (handleBy e X.env (h0 :: hds)) (SP X pins D) X.xe s3) X.xe s2) X.xe s1)
  refine wpAny_mono ((wish ?caught PassesOwn.looking).run [] s σ H D (I.toTry _) h) ?through (fun _ _ z => z)
  case through =>
    intro fl s1 r
    match fl, r with
    | .next, ⟨τ, H9, J9, q⟩ => exact wpAny_execs_nil ⟨τ, H9, J9.ofTry ok, q⟩
    | .brk, ⟨τ, H9, J9, q⟩ => exact ⟨τ, H9, J9.ofTry ok, q⟩
    | .cont, ⟨τ, H9, J9, q⟩ => exact ⟨τ, H9, J9.ofTry ok, q⟩
    | .ret u, ⟨v, τ, H9, J9, rv, q⟩ => exact ⟨v, τ, H9, J9.ofTry ok, rv, q⟩
  case caught =>
    rintro u s9 ⟨a, B, sI, pins9, τ, H9, cls, d, rfl, J9, nb, up, sky, na, os, ag, w9⟩
    have J := J9.ofTry ok
    rw [hs] at sky
    show wpAny _ _ (noteFrame (.ref a) X.env) _ _ _
    refine Sky.land Zc.steady hframes hf sky fun h3 fl3 up3 => ?_
    have J3 : Inv X pins τ H9 { s9 with heap := h3 } := J.landed nb fl3.1 (up.trans up3) os ag
    obtain ⟨o3, vs3, e3, z3, d3⟩ := fl3.there
    have nfr : a ∉ frs (X.env :: X.outer) := fun hm => by
      obtain ⟨_, o', e', hnf⟩ := fl3.2.2.1.mem hm
      rw [e3] at e'
      cases e'
      exact hnf _ d3
    have nL : a ≠ X.env.locals := fun z => nfr (List.mem_filterMap.mpr ⟨X.env, List.mem_cons_self, by rw [hf, z]⟩)
    have nsI : ∀ o, sI.heap.get? a ≠ some o := fun o q => by
      have z := nb a o q (by rw [hs]; exact nfr)
      rw [fl3.2.1] at z
      cases z
    have n0 : X.s_0.heap.get? a = none := by
      cases q : X.s_0.heap.get? a with
      | none => rfl
      | some o =>
        obtain ⟨o', q'⟩ := J.base.there a o q (by rw [hex]; exact List.not_mem_nil)
        exact absurd q' (nsI o')
    have nC : ∀ x c, X.env.cells.lookup x = some c → c ≠ a := fun y c1 q z => by
      obtain ⟨v, o, hc1, _⟩ := J.cell y c1 q
      rw [z] at hc1
      exact nsI o hc1
    have nP : ∀ p ∈ X.pn ++ pins, p.1 ≠ a := fun p hp z => by
      have q := (J.pin p hp).1
      rw [z] at q
      exact nsI _ q
    have S3 := suite_tracked J3 na n0 nL nC nP (exT_ok e3 z3 d3)
    have looksT : PySem.W.Looks (model X.prog X.w) h3 (typeOf (.ref a)) cls := fun A Q E s k q => wpAny_typeOf_ref (k _ _ e3) (by rw [z3.1]; exact q)
    have named : ∀ {x : Str} {c : Value} {np : Pos} {Q : Value → Shared → Prop} {E : Value → Shared → Prop}, Names X x c → Q c { s9 with heap := h3 } → wpAny (model X.prog X.w) (X.A.mark (some (.ref a))) (eval (.Name x np) X.env) Q E { s9 with heap := h3 } := fun {x c np Q E} hc q => by
      obtain ⟨hg, hdb, hm | ⟨hm, hv, hnn⟩⟩ := hc
      · exact ld_glob (X := X.suite a (X.pn ++ pins)) S3 hg hm q hdb
      · exact ld_blt (X := X.suite a (X.pn ++ pins)) S3 hg hm hv q hnn hdb
    have again : ∀ {h4 : Heap}, HandSPX.FlyingZ B (X.env :: X.outer) a (Zc cls d) h4 → h3.UpToSlots h4 → Inv (X.suite a (X.pn ++ pins)) [] τ (upd H9 a (ExT cls d a)) { s9 with heap := h4 } := fun {h4} fl4 up4 => by
      have J4 : Inv X pins τ H9 { s9 with heap := h4 } := J.landed nb fl4.1 ((up.trans up3).trans up4) os ag
      obtain ⟨o4, vs4, e4, z4, d4⟩ := fl4.there
      exact suite_tracked J4 na n0 nL nC nP (exT_ok e4 z4 d4)
    have go : ∀ {hds2 : List ExceptHandler} {l2 : List (Value × Option Nat × TS)}, KHs X hds2 l2 → wKp X.K Wout D l2 cls d τ H9 → wpAny (model X.prog X.w) X.A (handleBy (.ref a) X.env hds2) (SP X pins D) X.xe { s9 with heap := h3 } := by
      intro hds2 l2 hk
      induction hk with
      | nil =>
        intro hno
        refine wpAny_handleBy_nil ?_
        obtain ⟨_, _, _, oe, vs, T, oT, _, he, _, hd, h1, _⟩ := id fl3
        unfold PySem.passOn
        refine wpAny_bind (wpAny_field he hd h1 ?_)
        rw [if_neg (show ¬ ((Value.ref T == Value.none) = true) by simp)]
        have out : wpAny (model X.prog X.w) X.A (setFlight (.ref a) X.env.frame) (fun _ s4 => wpAny (model X.prog X.w) X.A (throw (.ref a) : Sem Flow) (SP X pins D) X.xe s4) X.xe { s9 with heap := h3 } := by
          rw [hf]
          refine HandSPX.setFlight_upZ fl3 fun h4 hh4 up4 => wpAny_throw (tk _ _ ?_)
          rw [← hs] at hh4
          exact ⟨a, B, sI, pins, τ, H9, cls, d, rfl, J, nb, (up.trans up3).trans up4, .inr (.inr hh4), na, os, ag, hno⟩
        first
          | exact wpAny_bind (wpAny_pure (wpAny_bind out))
          | exact wpAny_bind out
      | @as x n c i ts b1 suite np ph hds l hN hi hln hc hsu r ih =>
        rintro ⟨b, hb1, hyes, hno⟩
        refine wpAny_handleBy_cons (codeAny_handlers_test ?_) (by intro q; cases q)
        refine named hc ((PySem.W.exm_one (M := model X.prog X.w) J3.kIn looksT hb1).here ?_)
        cases b with
        | true =>
          refine codeAny_handlers_suite_as (HandSPX.lands_againZ fl3 fun h4 fl4 up4 => ?_)
          refine store_ok (X := X.suite a (X.pn ++ pins)) (v := .ref a) (again fl4 up4) hN hi (.inl hln) rfl (fun s5 S5 => ?_) (.inr hln)
          have fin : ∀ {τ6 : L2.St} {H6 : Hp} {s6 : Shared} {Q : Shared → Prop}, Inv (X.suite a (X.pn ++ pins)) [] τ6 H6 s6 → (∀ s7, Inv X pins (τ6.set i none) H6 s7 → Q s7) →
              wpAny (model X.prog X.w) X.A (do bindName X.env n .none; unbindBehindTheSuite X.env n ph) (fun _ s7 => Q s7) X.xe s6 := fun {τ6 H6 s6 Q} S6 hq => gone_ok (unsuite_tracked S6 ok) hN hi hln hq
          refine wpAny_mono ((hsu a (X.pn ++ pins)).run [] s5 _ _ _ S5 (hyes rfl a na)) (fun fl s6 r => ?_) (fun _ _ z => z.elim)
          match fl, r with
          | .next, ⟨τ6, H6, S6, q⟩ => exact fin S6 fun s7 J7 => ⟨_, _, J7, q⟩
          | .brk, ⟨τ6, H6, S6, q⟩ => exact fin S6 fun s7 J7 => ⟨_, _, J7, q⟩
          | .cont, ⟨τ6, H6, S6, q⟩ => exact fin S6 fun s7 J7 => ⟨_, _, J7, q⟩
          | .ret u, ⟨v, τ6, H6, S6, rv, q⟩ => exact fin S6 fun s7 J7 => ⟨_, _, _, J7, rv, q⟩
        | false => exact ih (hno rfl)
      | @no x c ts b1 suite np ph hds l hc hsu r ih =>
        rintro ⟨b, hb1, hyes, hno⟩
        refine wpAny_handleBy_cons (codeAny_handlers_test ?_) (by intro q; cases q)
        refine named hc ((PySem.W.exm_one (M := model X.prog X.w) J3.kIn looksT hb1).here ?_)
        cases b with
        | true =>
          refine codeAny_handlers_suite (HandSPX.lands_againZ fl3 fun h4 fl4 up4 => ?_)
          refine wpAny_mono ((hsu a (X.pn ++ pins)).run [] _ _ _ _ (again fl4 up4) (hyes rfl a na)) (fun fl s6 r => ?_) (fun _ _ z => z.elim)
          match fl, r with
          | .next, ⟨τ6, H6, S6, q⟩ => exact ⟨_, _, unsuite_tracked S6 ok, q⟩
          | .brk, ⟨τ6, H6, S6, q⟩ => exact ⟨_, _, unsuite_tracked S6 ok, q⟩
          | .cont, ⟨τ6, H6, S6, q⟩ => exact ⟨_, _, unsuite_tracked S6 ok, q⟩
          | .ret u, ⟨v, τ6, H6, S6, rv, q⟩ => exact ⟨_, _, _, unsuite_tracked S6 ok, rv, q⟩
        | false => exact ih (hno rfl)
    exact go hh w9
end
/-! ### what is asked of a kept exception: isinstance, a field -/
/-- what is to be known of the class cl of an exception, so that isinstance and fields are read rightly -/
structure ExK (K : PySem.W.Frag) (D : Addr) : Prop where
  hg : PySem.W.findIn K (.ref D) "__getattribute__" = some (some (.builtin "BaseException.__getattribute__"))
  hk : PySem.W.findIn K (.ref D) "__getattr__" = some none
  hs : PySem.W.subIn K (.ref D) (.type "BaseException") = some true
  hd : PySem.W.hasDictIn K D = true
  ha : PySem.W.findIn K (.ref D) "__class__" = some (some (.builtin "object.__class__"))
  hn : PySem.W.specialIn K (.builtin "object.__class__") "__get__" = some (some (.builtin "getset_descriptor.__get__"))
  ht : PySem.W.takesIn K (.builtin "object.__class__") = some true
  hm : PySem.W.mroIn K D (.type "object") = some true
end LN
namespace PySem.W
open PySem PySem.Spec PySem.Calls PyProof.Rows
section
variable {prog : Program} {w : World} {A : Around} {E : Value → Shared → Prop} {s : Shared} {K : Frag} {x D : Addr} {ox : Obj} {od : Option Obj}
theorem ln_find_class (T : LN.ExK K D) : findObj K D od "__class__" = some (.bind (.builtin "getset_descriptor.__get__") (.builtin "object.__class__")) := by
  have hc : (clsIn K D).isSome = true := by
    obtain ⟨cd, hc, _⟩ := any_some T.hd
    rw [hc]; rfl
  cases od with
  | none => exact findObj_dataN hc T.ha T.hn T.ht
  | some o => exact findObj_data hc T.ha T.hn T.ht
theorem ln_class_of {Q : Option Value → Shared → Prop} (T : LN.ExK K D) (X : K.In s.heap) (I : InstAt s.heap x ox D od) (h : Q (some (.ref D)) { s with toks := s.toks + 1 }) : wpAny (model prog w) A (getAttr? (.ref x) "__class__") Q E s := by
  have hf := ln_find_class (od := od) T
  obtain ⟨hp, g, d, t, os⟩ := s
  have La := I.type (M := model prog w)
  have Lb := looks_findIn (M := model prog w) X T.hg
  have Lc := looks_findIn (M := model prog w) X T.hk
  have Ld := looks_find (M := model prog w) X I hf
  have isE : Looks (model prog w) hp (isInstance (.ref x) (.type "BaseException")) true := La.andThen (looks_subIn X T.hs)
  have p0 : (false && onTheHeap (Value.builtin "BaseException.__getattribute__")) = false := rfl
  have p1 : (onTheHeap (Value.ref D) && Value.builtin "BaseException.__getattribute__" == Value.builtin "object.__getattribute__") = false := by
    rw [show (Value.builtin "BaseException.__getattribute__" == Value.builtin "object.__getattribute__") = false by decide +kernel]
    rfl
  unfold getAttr? getAttrBy? getAttrBy
  refine wpAny_bind (wpAny_mkText (wpAny_bind (wpAny_attempt (wpAny_holding (wpAny_bind (La.at (wpAny_bind (Lb.at ?_))))))))
  show wpAny _ _ (if (onTheHeap (Value.ref D) && Value.builtin "BaseException.__getattribute__" == Value.builtin "object.__getattribute__") = true then _ else _) _ _ _
  rw [p1, if_neg Bool.false_ne_true]
  unfold getAttrByItsOwn hookBefore
  refine wpAny_bind ?_
  rw [if_pos (show onTheHeap (Value.ref D) = true from rfl)]
  refine Lc.at (wpAny_bind (wpAny_attempt (wpAny_holding ?_)))
  unfold callGetattribute
  rw [p0, if_neg Bool.false_ne_true]
  unfold boundAndCalled
  rw [PySem.F.excAttr_ValueError.ga.bind (.ref x)]
  refine wpAny_bind (wpAny_pure ?_)
  show wpAny _ _ (call (.builtin "BaseException.__getattribute__") [.ref x, .str "__class__" t]) _ _ _
  refine wpAny_call (codeAny_call_builtin PySem.F.excAttr_ValueError.ga.plain PySem.F.entry_bexc_ga (@check_slot (model prog w) _ _ ⟨hp, g, d, t + 1, os⟩ "BaseException.__getattribute__" "BaseException" "__getattribute__" (.ref x) [.str "__class__" t] [] _ (by decide +kernel) (by decide +kernel) isE (PySem.F.args_bexc_ga (.ref x) (.str "__class__" t)) ?_))
  unfold Builtin.«object.__getattribute__»
  refine wpAny_bind (wpAny_of_eq (a := ((Value.ref x : Value), [Value.str "__class__" t])) (by first | rfl | (simp only [slotArgs]; rfl)) ?_)
  refine wpAny_bind (wpAny_pure (wpAny_bind (La.at (wpAny_bind (Ld.at ?_)))))
  show wpAny _ _ (holding [Value.builtin "object.__class__"] (call (.builtin "getset_descriptor.__get__") [.builtin "object.__class__", .ref x, .ref D]) >>= ret) _ _ _
  refine wpAny_bind (wpAny_holding (wpAny_call (class_get (s := ⟨hp, g, d, t + 1, os⟩) (ox := ox) (od := od) X I T.hm (wpAny_pure ?_))))
  show wpAny _ _ (handedOut (.ref D)) _ _ _
  rw [handedOut_of (v := .ref D) rfl]
  first
    | exact wpAny_pure (wpAny_pure h)
    | exact wpAny_pure h
    | exact wpAny_pure (wpAny_bind (wpAny_pure (wpAny_pure h)))
theorem ln_kitx (T : LN.ExK K D) : KitX K (.ref x) (.ref D) (fun h => ∃ od, InstAt h x ox D od) where
  ty := fun _ _ _ ⟨_, I⟩ => I.type
  it := fun _ _ X _ => by
    obtain ⟨cd, hc, _⟩ := any_some T.hd
    unfold clsIn at hc
    split at hc
    · rename_i c1 d1 cd1 sl1 ho
      intro A1 Q1 E1 s1 k q
      unfold isType loadHead
      exact wpAny_bind (wpAny_loadPart (k _ _ (X _ _ ho)) (wpAny_pure q))
    · cases hc
  ne := fun h tp dd its n sl X htp => by
    obtain ⟨cd, hc, _⟩ := any_some T.hd
    refine Bool.eq_false_iff.mpr fun q => ?_
    cases Value.ref.inj (beq_iff_eq.mp q)
    unfold clsIn at hc
    split at hc
    · rename_i ho
      cases (X _ _ ho).symm.trans htp
    · cases hc
  ca := fun X ⟨_, I⟩ k => ln_class_of T X I k
end
end PySem.W
namespace LN
open PySem PySem.Spec PyProof.Rows L2 TL
/-- the type of a thing, exceptions that are kept among them -/
inductive TyE (K : PySem.W.Frag) (H : Hp) : V → Value → Prop where
  | x {v : V} {t : Value} (h : TyX K H v t) : TyE K H v t
  | e {a D : Addr} {d : Option Addr} (h : H a = some (ExT (.ref D) d a)) (T : ExK K D) (hd : ∀ b, d = some b → ∃ fs, H b = some (.xd fs)) : TyE K H (.ref a) (.ref D)
section
variable {X : Cx} {pins : List (Addr × Obj)} {σ : L2.St} {H : Hp} {s : Shared}
theorem exT_inst {a D : Addr} {d : Option Addr} (I : Inv X pins σ H s) (h : H a = some (ExT (.ref D) d a)) (hd : ∀ b, d = some b → ∃ fs, H b = some (.xd fs)) :
    ∃ ox od, PySem.W.InstAt s.heap a ox D od ∧ (∀ b, d = some b → ∃ o, od = some o ∧ s.heap.get? b = some o) := by
  obtain ⟨⟨oc, odd, oda, osl⟩, vs, e, ⟨z1, z2⟩, dd⟩ := exT_at I h
  dsimp only at z1 z2 dd
  subst z1 z2 dd
  cases odd with
  | none => exact ⟨_, none, ⟨e, rfl, rfl, trivial⟩, fun b q => by cases q⟩
  | some b =>
    obtain ⟨fs, hb⟩ := hd b rfl
    obtain ⟨mA, ⟨ob, _, _, eb, _⟩, _⟩ := (show ObjOk X.prog X.w H s.heap b (.xd fs) from I.hok b _ hb)
    exact ⟨_, some ob, ⟨e, rfl, rfl, eb⟩, fun b2 q => by cases q; exact ⟨ob, rfl, eb⟩⟩
theorem kitE {x : V} {u t : Value} (I : Inv X pins σ H s) (rx : RelV x u) (ty : TyE X.K H x t) : ∃ P : Heap → Prop, PySem.W.KitX X.K u t P ∧ P s.heap ∧ u ≠ .builtin "__main__.__loader__#opaque" := by
  cases ty with
  | x h => exact kit_of I rx h
  | e h T hd =>
    cases rx
    obtain ⟨ox, od, J, _⟩ := exT_inst I h hd
    exact ⟨_, PySem.W.ln_kitx (ox := ox) T, ⟨od, J⟩, fun z => nomatch z⟩
def rIsiE (K : PySem.W.Frag) : List V → Hp → VK → Prop := fun xs H Q => ∃ (x c : V) (t u : Value) (b : Bool), xs = [x, c] ∧ ClsV c u ∧ TyE K H x t ∧ PySem.W.kitOne K t u = some b ∧ Q (.bl b) H
def rIsiET (K : PySem.W.Frag) : List V → Hp → VK → Prop := fun xs H Q => ∃ (x : V) (tp : Addr) (cs : List V) (t : Value) (us : List Value) (b : Bool), xs = [x, .ref tp] ∧ H tp = some (.tup cs) ∧ Paired ClsV cs us ∧ TyE K H x t ∧ PySem.W.kitAny K t us = some b ∧ Q (.bl b) H
theorem call_isiE {K : PySem.W.Frag} (hK : X.K = K := by rfl) : CallR X (.builtin "isinstance") (rIsiE K) := by
  subst hK
  intro pins s σ H xs us Q I r h
  obtain ⟨x, c, t, u, b, rfl, k, ty, e, q⟩ := h
  obtain ⟨u1, u2, rfl, r1, r2⟩ := vals2 r
  cases k.eq r2
  obtain ⟨P, Z, p, hx⟩ := kitE I r1 ty
  exact PySem.W.kia_one Z I.kIn p e hx fun tk => ⟨.bl b, H, I.tok tk, rfl, q⟩
theorem call_isiET {K : PySem.W.Frag} (hK : X.K = K := by rfl) : CallR X (.builtin "isinstance") (rIsiET K) := by
  subst hK
  intro pins s σ H xs us Q I r h
  obtain ⟨x, tp, cs, t, ws, b, rfl, hT, k, ty, e, q⟩ := h
  obtain ⟨u1, u2, rfl, r1, r2⟩ := vals2 r
  cases (show u2 = Value.ref tp from r2)
  obtain ⟨P, Z, p, hx⟩ := kitE I r1 ty
  obtain ⟨_, its, rv, ⟨oc, od, dt, sl⟩, h1, h2, n, h3⟩ := (show ObjOk X.prog X.w H s.heap tp (.tup cs) from I.hok tp _ hT)
  cases ClsV.all k rv
  dsimp only at h2 h3
  subst h2 h3
  exact PySem.W.kia_tup Z I.kIn p h1 e hx fun tk => ⟨.bl b, H, I.tok tk, rfl, q⟩
/-- e.f of a kept exception -/
def tXfK (K : PySem.W.Frag) (ta : TE) (f : Str) : TE := fun σ H Q => ta σ H fun x H1 => ∃ (a D dd : Addr) (fs : List (Str × V)) (v : V), x = .ref a ∧ H1 a = some (ExT (.ref D) (some dd) a) ∧ ExK K D ∧ PySem.W.findIn K (.ref D) f = some none ∧ H1 dd = some (.xd fs) ∧ fs.lookup f = some v ∧ Q v H1
theorem pe_xfk {e : Expr} {ta : TE} {f : Str} {pos : Pos} (he : PE X e ta) (hb : attributeBase e f X.env (eval e X.env) = eval e X.env := by rfl) : PE X (.Attribute e f pos) (tXfK X.K ta f) := by
  refine ⟨fun pins s σ H Q I h => attr_of hb (thn (he.run pins s σ H _ I h) fun u s1 ⟨x, H1, I1, rx, a, D, dd, fs, v, ex, ea, T, hno, ed, l, q⟩ => ?_)⟩
  subst ex
  cases rx
  obtain ⟨ox, od, J, hod⟩ := exT_inst I1 ea fun b q => by cases q; exact ⟨fs, ed⟩
  obtain ⟨mA, hns, hr⟩ := (show ObjOk X.prog X.w H1 s1.heap dd (.xd fs) from I1.hok dd _ ed)
  obtain ⟨o9, ho, hl⟩ := lookIn_ns hns
  obtain ⟨o8, rfl, ho8⟩ := hod dd rfl
  rw [ho] at ho8
  cases ho8
  obtain ⟨u, hu, ru⟩ := RelO.some_of (v := v) (o := mA f) (by rw [← l]; exact hr f)
  exact HandSPX.exc_get I1.kIn J T.hg T.hk T.hs (PySem.W.findObj_own T.hd hno rfl (by rw [hl, hu])) (handed_of ru) ⟨v, H1, I1.tok _, ru, q⟩
end
/-! ### an exception with an own __init__: made, raised -/
/-- L.__init__(self, ..), L an own class over ValueError without an __init__ -/
structure LB (K : PySem.W.Frag) (mg : Str → Option Value) (x : Str) (L : Addr) : Prop where
  g : mg x = some (.ref L)
  rd : ClX.CRead K L (.type "type")
  fc : PySem.W.findCls K (.ref L) (.type "type") "__init__" = some (.val (.builtin "ValueError.__init__"))
section
variable {X : Cx} {CX : CXT} {k : Nat} {C L : Addr} {ps : List Str} {sp : Sp} {x f : Str} {p pos apos q0 : Pos} {e : Expr} {es : List Expr} {te : TE} {t : TA}
theorem pe_L {pl : Sem Bool} (B : LB X.K X.mg x L) (ha : PA X (e :: es) t) (hg : Gl X x := by rfl) (hdb : (x == ("__debug__" : Str)) = false := by decide)
    (hst : starEach (e :: es) X.env = (false, eval e X.env) :: starEach es X.env := by rfl) (hpl : (backTo pos (starEach es X.env)).any (·.1) = false := by rfl)
    (ht : eval (.Call (.Attribute (.Name x q0) "__init__" apos) (e :: es) [] pos) X.env = (do let ov ← eval (.Name x q0) X.env; standAt apos.atName; let (f, first) ← holding [ov] (getMethod ov "__init__" pl); callWith pos f first (backTo pos (starEach (e :: es) X.env)) (backToKw pos (keywordEach [] X.env))) := by rfl) :
    PE X (.Call (.Attribute (.Name x q0) "__init__" apos) (e :: es) [] pos) (tVeI X.K t) := by
  refine ⟨fun pins s σ H Q I h => PySem.W.methodCall_KW (pl := pl) (ld_glob I hg B.g ?_ hdb) ht⟩
  refine PySem.W.method_cls I.kIn B.rd.ga (PySem.W.cls_value I.kIn B.rd.rd B.fc rfl ?_)
  show wpAny _ _ (callWith pos (Value.builtin "ValueError.__init__") [] (backTo pos (starEach (e :: es) X.env)) []) _ _ _
  refine PyProof.Rows.callWith_method1 (thn (ha.run pos pins _ σ H _ (I.tok _) h) fun us s1 ⟨vs, H1, I1, r1, a, C, ws, ev, hl, T, ea, q⟩ => ?_) hst hpl
  subst ev
  match us, r1 with
  | u0 :: ur, .cons ra rw9 =>
    cases (show u0 = Value.ref a from ra)
    exact oinit_ok T I1 ea (by rw [← Paired.length rw9, sizeLine_eq]; omega) fun s2 J => ⟨.non, H1, J, rfl, q⟩
/-- what such an __init__ promises: one field f, from its one argument -/
def spXI (K : PySem.W.Frag) (C : Addr) (f : Str) : Sp := fun vs H Q _ => ∃ (a : Addr) (v : V), vs = [.ref a, v] ∧ H a = some (exo a C none) ∧ ∀ dx, H dx = none → dx ≠ a → Q .non (upd (upd H dx (exd dx [(f, v)])) a (exo a C (some dx)))
structure XB (P : Program) (w : World) (K : PySem.W.Frag) (mg : Str → Option Value) (base : Heap) (CX : CXT) (k : Nat) (x : Str) (C : Addr) (f : Str) : Prop where
  ex : ∃ (fI : Addr) (fd : FuncData) (ps : List Str), FnOk P w K mg base CX k fI fd ps (spXI K C f) ∧ mg x = some (.ref C) ∧ OexC K C ∧ PySem.W.findIn K (.ref C) "__init__" = some (some (.ref fI)) ∧ PySem.W.typeIn K (.ref fI) = some (.type "function") ∧ Binds K fd ps []
/-- behind the arguments vs: what is asked of the making and of the raise -/
def rzK (K : PySem.W.Frag) (C : Addr) (f : Str) (W : WX) (σ : L2.St) (vs : List V) (H : Hp) : Prop := vs.length ≤ 1000 ∧ ∀ a, H a = none → spXI K C f (.ref a :: (vs ++ [])) (upd H a (exo a C none))
  (fun v H2 => v = .non ∧ ∃ (d : Addr) (fs : List (Str × V)), H2 a = some (exo a C (some d)) ∧ H2 d = some (exd d fs) ∧ H d = none ∧ W (.ref C) (some d) σ (upd (del H2 a) d (.xd fs))) (fun _ _ _ => False)
def tRzI (K : PySem.W.Frag) (C : Addr) (f : Str) (t : TA) (W : WX) : TS := fun _ σ H => t σ H fun vs H1 => rzK K C f W σ vs H1
theorem ps_raiseI {W : WX} {pos2 : Pos} (B : XB X.prog X.w X.K X.mg X.base (L2.CX X.prog X.w) k x C f) (hr : Room (k + 1) X.A) (hc : X.calm = true) (tk : Takes X W) (ha : PA X (e :: es) t) (hg : Gl X x := by rfl)
    (hdb : (x == ("__debug__" : Str)) = false := by decide) (hst : starEach (e :: es) X.env = (false, eval e X.env) :: starEach es X.env := by rfl) (hpl : (backTo pos (starEach es X.env)).any (·.1) = false := by rfl) :
    PS X (.Raise (some (.Call (.Name x p) (e :: es) [] pos)) none pos2) (tRzI X.K C f t W) := by
  obtain ⟨fI, fd, ps, F, g, T, iC, tI, bd⟩ := B.ex
  exact ps_raise (pos := pos2) hc tk (pmk_oex T iC tI F hr bd .nil passL hg g ha hdb hst hpl)
theorem u_rz {K : PySem.W.Frag} {W : WX} {σ : L2.St} {v : V} {H : Hp} (h : ∀ d, H d = none → W (.ref C) (some d) σ (upd H d (.xd [(f, v)]))) : rzK K C f W σ [v] H := by
  refine ⟨by simp, fun a na => ⟨a, v, rfl, upd_same, fun dx nd ne => ⟨rfl, dx, [(f, v)], upd_same, ?_, ?_, ?_⟩⟩⟩
  · rw [upd_ne ne, upd_same]
  · rw [upd_ne ne] at nd; exact nd
  · have e : upd (del (upd (upd (upd H a (exo a C none)) dx (exd dx [(f, v)])) a (exo a C (some dx))) a) dx (.xd [(f, v)]) = upd H dx (.xd [(f, v)]) := by
      funext b
      by_cases hb : b = dx
      · rw [hb, upd_same, upd_same]
      · rw [upd_ne hb, upd_ne hb]
        by_cases ha : b = a
        · rw [ha, del_same, na]
        · rw [del_ne ha, upd_ne ha, upd_ne hb, upd_ne ha]
    rw [e]
    rw [upd_ne ne] at nd
    exact h dx nd
/-- the body of such an __init__ -/
theorem u_vei {K : PySem.W.Frag} {σ : L2.St} {a : Addr} {ws : List V} {H : Hp} {Q : VK} (T : OexC K C) (hl : ws.length ≤ 1000) (ea : H a = some (exo a C none)) (h : Q .non H) : ∃ (a' C : Addr) (ws' : List V), V.ref a :: ws = .ref a' :: ws' ∧ ws'.length ≤ 1000 ∧ OexC K C ∧ H a' = some (exo a' C none) ∧ Q .non H := ⟨a, C, ws, rfl, hl, T, ea, h⟩
end
/-! ### facts of the text, read by a Hook -/
inductive Fx where
  | fa (f : He.Fa)
  | crd (x : Str)
  | cfn (x m : Str)
  | lini (x : Str)
  | exk (x : Str)
  | oex (x f : Str)
  | kit (x y : Str) (b : Bool)
  | kitT (x : Str) (t : String) (b : Bool)
  | cc (x : Str)
  | kitN (x : Str) (ys : List Str) (b : Bool)
  | exmV (x : Str) (b : Bool)
def isVal (r : Option PySem.W.CFound) (v : Value) : Bool := match r with
  | some (.val u) => decide (u = v)
  | _ => false
theorem isVal_ok {r : Option PySem.W.CFound} {v : Value} (h : isVal r v = true) : r = some (.val v) := by
  unfold isVal at h
  split at h
  · rw [of_decide_eq_true h]
  · cases h
open He in
def Fx.ok (K : PySem.W.Frag) : Fx → Bool
  | .fa f => f.ok K
  | .crd x => PySem.W.readsIn K (ga K x) (.type "type") && decide (PySem.W.specialIn K (.ref (ga K x)) "__getattribute__" = some (some (.builtin "type.__getattribute__")))
  | .cfn x m => isVal (PySem.W.findCls K (.ref (ga K x)) (.type "type") m) (.ref (ma K (ga K x) m)) && PySem.W.keepIn K (.ref (ma K (ga K x) m))
  | .lini x => isVal (PySem.W.findCls K (.ref (ga K x)) (.type "type") "__init__") (.builtin "ValueError.__init__")
  | .exk x => decide (PySem.W.findIn K (.ref (ga K x)) "__getattribute__" = some (some (.builtin "BaseException.__getattribute__"))) && (decide (PySem.W.findIn K (.ref (ga K x)) "__getattr__" = some none) && (decide (PySem.W.subIn K (.ref (ga K x)) (.type "BaseException") = some true) && (PySem.W.hasDictIn K (ga K x) &&
      (decide (PySem.W.findIn K (.ref (ga K x)) "__class__" = some (some (.builtin "object.__class__"))) && (decide (PySem.W.specialIn K (.builtin "object.__class__") "__get__" = some (some (.builtin "getset_descriptor.__get__"))) && (decide (PySem.W.takesIn K (.builtin "object.__class__") = some true) && decide (PySem.W.mroIn K (ga K x) (.type "object") = some true)))))))
  | .oex x f => (match K.lookup (ga K x) with
      | some ⟨.type "type", _, .cls cd, sl⟩ => (match cd.mro, sl.toList with
        | .ref C' :: bm, [_, _, _, _, some (.builtin n), _] => C' == ga K x && (n == "ValueError.__new__" && (!cd.hasDel && (cd.hasDict && PySem.HandSPX.refsVE bm)))
        | _, _ => false)
      | _ => false) && (decide (PySem.W.findIn K (.ref (ga K x)) "__setattr__" = some (some (.builtin "object.__setattr__"))) && (decide (PySem.W.subIn K (.ref (ga K x)) (.type "BaseException") = some true) && (decide (PySem.W.typeIn K (.ref (ga K x)) = some (.type "type")) && (PySem.W.keepIn K (.ref (ga K x)) &&
      (decide (PySem.W.findIn K (.ref (ga K x)) "__init__" = some (some (.ref (ma K (ga K x) "__init__")))) && (decide (PySem.W.typeIn K (.ref (ma K (ga K x) "__init__")) = some (.type "function")) && decide (PySem.W.findIn K (.ref (ga K x)) f = some none)))))))
  | .kit x y b => decide (PySem.W.kitOne K (.ref (ga K x)) (.ref (ga K y)) = some b)
  | .kitT x t b => decide (PySem.W.kitOne K (.ref (ga K x)) (.type t) = some b)
  | .cc x => decide (PySem.W.findIn K (.ref (ga K x)) "__class__" = some (some (.builtin "object.__class__"))) && (decide (PySem.W.specialIn K (.builtin "object.__class__") "__get__" = some (some (.builtin "getset_descriptor.__get__"))) && (decide (PySem.W.takesIn K (.builtin "object.__class__") = some true) && decide (PySem.W.mroIn K (ga K x) (.type "object") = some true)))
  | .kitN x ys b => decide (PySem.W.kitAny K (.ref (ga K x)) (ys.map fun y => .ref (ga K y)) = some b)
  | .exmV x b => decide (PySem.W.exmOne K (.ref (ga K x)) (.type "ValueError") = some b)
open He in
section
variable {K : PySem.W.Frag} {x y m f : Str}
theorem crd_ok (c : (Fx.crd x).ok K = true) : ClX.CRead K (ga K x) (.type "type") := let ⟨a, b⟩ := ba c; ⟨a, of_decide_eq_true b⟩
theorem cfn_ok (c : (Fx.cfn x m).ok K = true) : PySem.W.findCls K (.ref (ga K x)) (.type "type") m = some (.val (.ref (ma K (ga K x) m))) ∧ PySem.W.keepIn K (.ref (ma K (ga K x) m)) = true := let ⟨a, b⟩ := ba c; ⟨isVal_ok a, b⟩
theorem lini_ok (c : (Fx.lini x).ok K = true) : PySem.W.findCls K (.ref (ga K x)) (.type "type") "__init__" = some (.val (.builtin "ValueError.__init__")) := isVal_ok c
theorem exk_ok (c : (Fx.exk x).ok K = true) : ExK K (ga K x) := by
  obtain ⟨c1, c⟩ := ba c
  obtain ⟨c2, c⟩ := ba c
  obtain ⟨c3, c⟩ := ba c
  obtain ⟨c4, c⟩ := ba c
  obtain ⟨c5, c⟩ := ba c
  obtain ⟨c6, c⟩ := ba c
  obtain ⟨c7, c8⟩ := ba c
  exact ⟨of_decide_eq_true c1, of_decide_eq_true c2, of_decide_eq_true c3, c4, of_decide_eq_true c5, of_decide_eq_true c6, of_decide_eq_true c7, of_decide_eq_true c8⟩
theorem oex_ok (c : (Fx.oex x f).ok K = true) : OexC K (ga K x) ∧ PySem.W.findIn K (.ref (ga K x)) "__init__" = some (some (.ref (ma K (ga K x) "__init__"))) ∧ PySem.W.typeIn K (.ref (ma K (ga K x) "__init__")) = some (.type "function") ∧ PySem.W.findIn K (.ref (ga K x)) f = some none := by
  obtain ⟨c1, c⟩ := ba c
  obtain ⟨c2, c⟩ := ba c
  obtain ⟨c3, c⟩ := ba c
  obtain ⟨c4, c⟩ := ba c
  obtain ⟨c5, c⟩ := ba c
  obtain ⟨c6, c⟩ := ba c
  obtain ⟨c7, c8⟩ := ba c
  refine ⟨⟨?_, of_decide_eq_true c2, of_decide_eq_true c3, of_decide_eq_true c4, c5⟩, of_decide_eq_true c6, of_decide_eq_true c7, of_decide_eq_true c8⟩
  split at c1
  · rename_i dd cd sl ho
    split at c1
    · rename_i C' bm k0 k1 k2 k3 n k5 hm hs
      obtain ⟨d1, c1⟩ := ba c1
      obtain ⟨d2, c1⟩ := ba c1
      obtain ⟨d3, c1⟩ := ba c1
      obtain ⟨d4, d5⟩ := ba c1
      obtain ⟨nm, bs, mro, ns, qn, hd, sn, sub, ab, col, del⟩ := cd
      dsimp only at hm d3 d4
      have e3 : del = false := by simpa using d3
      have es : sl = #[k0, k1, k2, k3, some (.builtin n), k5] := by
        obtain ⟨l⟩ := sl
        exact congrArg _ hs
      subst hm e3 d4 es
      have e1 : C' = ga K x := beq_iff_eq.mp d1
      have e2 : n = "ValueError.__new__" := beq_iff_eq.mp d2
      subst e2
      rw [e1] at ho
      exact ⟨nm, qn, ns, bs, bm, sn, sub, ab, col, dd, k0, k1, k2, k3, k5, ho, d5⟩
    · cases c1
  · cases c1
theorem kit_ok {b : Bool} (c : (Fx.kit x y b).ok K = true) : PySem.W.kitOne K (.ref (ga K x)) (.ref (ga K y)) = some b := of_decide_eq_true c
theorem kitT_ok {b : Bool} {t : String} (c : (Fx.kitT x t b).ok K = true) : PySem.W.kitOne K (.ref (ga K x)) (.type t) = some b := of_decide_eq_true c
theorem kitN_ok {b : Bool} {ys : List Str} (c : (Fx.kitN x ys b).ok K = true) : PySem.W.kitAny K (.ref (ga K x)) (ys.map fun y => .ref (ga K y)) = some b := of_decide_eq_true c
theorem exmV_ok {b : Bool} (c : (Fx.exmV x b).ok K = true) : PySem.W.exmOne K (.ref (ga K x)) (.type "ValueError") = some b := of_decide_eq_true c
theorem cc_ok (c : (Fx.cc x).ok K = true) : PySem.W.findIn K (.ref (ga K x)) "__class__" = some (some (.builtin "object.__class__")) ∧ PySem.W.specialIn K (.builtin "object.__class__") "__get__" = some (some (.builtin "getset_descriptor.__get__")) ∧ PySem.W.takesIn K (.builtin "object.__class__") = some true ∧ PySem.W.mroIn K (ga K x) (.type "object") = some true := by
  obtain ⟨c1, c⟩ := ba c
  obtain ⟨c2, c⟩ := ba c
  obtain ⟨c3, c4⟩ := ba c
  exact ⟨of_decide_eq_true c1, of_decide_eq_true c2, of_decide_eq_true c3, of_decide_eq_true c4⟩
end
open He in
section
def obsX (fx : List Fx) (fn : List DefD) (K : PySem.W.Frag) : AlD := ((fx.all fun f => f.ok K) && fn.all fun d => d.ok K, fn.map fun d => fnW K d.at_)
def SaysX (fx : List Fx) (fn : List DefD) (K : PySem.W.Frag) : Prop := obsX fx fn K = valD fn
def obsXG (n : Nat) (fx : List Fx) (fn : List DefD) (g : Addr → Option Obj) : AlD := obsX fx fn (frG g (asD g n))
def hookX (n : Nat) (fx : List Fx) (fn : List DefD) : PySem.W.Hook := { α := AlD, obs := fun s => obsXG n fx fn s.heap.get?, val := fun _ => valD fn, says := fun _ h => ∃ K : PySem.W.Frag, K.In h ∧ SaysX fx fn K, of := fun _ _ e => ⟨_, frG_in, e⟩, keeps := fun _ _ _ ⟨K, hK, c⟩ k => ⟨K, PySem.W.Frag.In.keeps hK k, c⟩ }
theorem obsXG_eq {n : Nat} {fx : List Fx} {fn : List DefD} {g : Addr → Option Obj} {s : Shared} (h : ∀ a, g a = s.heap.get? a) : obsXG n fx fn g = (hookX n fx fn).obs s := by
  cases (funext h : g = s.heap.get?)
  rfl
variable {fx : List Fx} {fn : List DefD} {K : PySem.W.Frag}
theorem SaysX.fact (c : SaysX fx fn K) (i : Nat) {f : Fx} (h : fx[i]? = some f := by rfl) : f.ok K = true :=
  List.all_eq_true.mp (ba (show ((fx.all fun f => f.ok K) && fn.all fun d => d.ok K) = true from congrArg (fun z : AlD => z.1) c)).1 f (List.mem_of_getElem? h)
theorem SaysX.def_ (c : SaysX fx fn K) (i : Nat) {d : DefD} (h : fn[i]? = some d := by rfl) : ∃ fd, FunD K d.name d.qual d.params d.body d.scope (d.dvs K) (d.kws K) (fAd K d.at_) fd := by
  have c2 := (ba (show ((fx.all fun f => f.ok K) && fn.all fun d => d.ok K) = true from congrArg (fun z : AlD => z.1) c)).2
  have e : (fn.map (fun d => fnW K d.at_))[i]? = (fn.map DefD.val)[i]? := congrArg (fun z : AlD => z.2[i]?) c
  rw [List.getElem?_map, List.getElem?_map, h] at e
  exact DefD.funD (Option.some.inj e) (List.all_eq_true.mp c2 d (List.mem_of_getElem? h))
end
/-! ### fields and methods of one of several classes -/
def tFl (Cs : List Addr) (f : Str) (ta : TE) : TE := fun σ H Q => ta σ H fun x H1 => ∃ a C dx fs v, x = .ref a ∧ H1 a = some (.ins C dx fs) ∧ C ∈ Cs ∧ fs.lookup f = some v ∧ Q v H1
def sFl (Cs : List Addr) (f : Str) (ta tv : TE) : TS := fun D σ H => tv σ H fun y H1 => ta σ H1 fun x H2 => ∃ a C dx fs, x = .ref a ∧ H2 a = some (.ins C dx fs) ∧ C ∈ Cs ∧ fs.length < 1000 ∧ D.nx σ (upd H2 a (.ins C dx (putF f y fs)))
/-- a class, what its method promises, the defaults -/
structure MD where
  C : Addr
  ps : List Str
  dvs : List V
  sp : Sp
def tMe (ms : List MD) (m : Str) (E : L2.St → XK) (ta : TE) (t : TA) : TE := fun σ H Q => ta σ H fun x H1 => ∃ a dx fs d, x = .ref a ∧ H1 a = some (.ins d.C dx fs) ∧ d ∈ ms ∧ fs.lookup m = none ∧ t σ H1 fun vs H2 => d.sp (x :: (vs ++ d.dvs)) H2 Q (E σ)
theorem allM_nil {α : Type} {p : α → Prop} : ∀ x ∈ ([] : List α), p x := fun _ h => absurd h List.not_mem_nil
theorem allM_cons {α : Type} {p : α → Prop} {a : α} {l : List α} (h : p a) (r : ∀ x ∈ l, p x) : ∀ x ∈ a :: l, p x := fun x hx => (List.mem_cons.mp hx).elim (fun e => e ▸ h) (r x)
section
variable {X : Cx} {CX : CXT} {k : Nat} {Cs : List Addr} {ms : List MD} {E : L2.St → XK} {f m : Str} {p pos apos : Pos} {e o : Expr} {es : List Expr} {ta tv : TE} {t : TA}
theorem pe_fl (hC : ∀ C ∈ Cs, Cls X.K C ∧ NoAttr X.K C f) (he : PE X e ta) (hb : attributeBase e f X.env (eval e X.env) = eval e X.env := by rfl) : PE X (.Attribute e f pos) (tFl Cs f ta) := by
  refine ⟨fun pins s σ H Q I h => attr_of hb (thn (he.run pins s σ H _ I h) fun u s1 ⟨x, H1, I1, rx, a, C, dx, fs, v, ex, ea, hm, l, q⟩ => ?_)⟩
  subst ex
  cases rx
  exact getattr_ok I1 ea (hC C hm).1 (hC C hm).2 l fun u s2 I2 ru => ⟨v, H1, I2, ru, q⟩
theorem ps_fl (hC : ∀ C ∈ Cs, Cls X.K C ∧ NoAttr X.K C f) (ho : PE X o ta) (he : PE X e tv) (hs : swapsWith e (some (.Attribute o f p)) pos.line X.env = pure false := by rfl) : PS X (.Assign [.Attribute o f p] e pos) (sFl Cs f ta tv) := by
  refine ⟨fun pins s σ H D I h => plainObj_wpAny_Assign_Attribute (thn (he.run pins s σ H _ I h) fun v s1 ⟨y, H1, I1, r1, q1⟩ => thn (ho.run pins s1 σ H1 _ I1 q1) fun u s2 ⟨x, H2, I2, r2, a, C, dx, fs, ex, ea, hm, hl, q⟩ => ?_) hs⟩
  subst ex
  cases r2
  exact setattr_ok I2 ea (hC C hm).1 (hC C hm).2 hl r1 fun s3 I3 => ⟨_, _, I3, q⟩
theorem MB.mono {P : Program} {w : World} {K : PySem.W.Frag} {mg : Str → Option Value} {base : Heap} {CX : CXT} {j k : Nat} {C : Addr} {m : Str} {ps : List Str} {dvs : List V} {sp : Sp} (B : MB P w K mg base CX j C m ps dvs sp) (h : j ≤ k) : MB P w K mg base CX k C m ps dvs sp := by
  obtain ⟨f, fd, ds, F, r⟩ := B.ex
  exact ⟨f, fd, ds, F.mono h, r⟩
theorem pe_Me {pl : Sem Bool} (B : ∀ d ∈ ms, MB X.prog X.w X.K X.mg X.base CX k d.C m d.ps d.dvs d.sp) (hr : Room k X.A) (hx : ∀ σ, PassesAt CX X σ (E σ)) (he : PE X o ta) (ha : PA X (e :: es) t)
    (hst : starEach (e :: es) X.env = (false, eval e X.env) :: starEach es X.env := by rfl) (hpl : (backTo pos (starEach es X.env)).any (·.1) = false := by rfl)
    (ht : eval (.Call (.Attribute o m apos) (e :: es) [] pos) X.env = (do let ov ← eval o X.env; standAt apos.atName; let (f, first) ← holding [ov] (getMethod ov m pl); callWith pos f first (backTo pos (starEach (e :: es) X.env)) (backToKw pos (keywordEach [] X.env))) := by rfl) :
    PE X (.Call (.Attribute o m apos) (e :: es) [] pos) (tMe ms m E ta t) := by
  refine ⟨fun pins s σ H Q I h => PySem.W.methodCall_KW (pl := pl) (thn (he.run pins s σ H _ I h) fun u s1 ⟨x, H1, I1, rx, a, dx, fs, d, ex, ea, hm, l, q⟩ => ?_) ht⟩
  obtain ⟨f, fd, ds, F, c, hme, bd, hd⟩ := (B d hm).ex
  subst ex
  cases rx
  refine getmeth_ok I1 ea c hme l (PySem.W.callWith_K (first := [.ref a]) (h₀ := X.base) I.ok.mod.kin hme.kp (thn (ha.run pos pins s1 σ H1 _ I1 q) fun us s2 ⟨vs, H2, I2, r, q2⟩ => ⟨I2.kIn, ?_⟩) hst hpl)
  exact run_fnSD (us := .ref a :: us) (vs := .ref a :: vs) F hr bd hd (hx σ) I2 (.cons rfl r) q2
theorem pe_Me0 {pl : Sem Bool} (B : ∀ d ∈ ms, MB X.prog X.w X.K X.mg X.base CX k d.C m d.ps d.dvs d.sp) (hr : Room k X.A) (hx : ∀ σ, PassesAt CX X σ (E σ)) (he : PE X o ta)
    (ht : eval (.Call (.Attribute o m apos) [] [] pos) X.env = (do let ov ← eval o X.env; standAt apos.atName; let (f, first) ← holding [ov] (getMethod ov m pl); callWith pos f first (backTo pos (starEach [] X.env)) (backToKw pos (keywordEach [] X.env))) := by rfl) :
    PE X (.Call (.Attribute o m apos) [] [] pos) (tMe ms m E ta tNil) := by
  refine ⟨fun pins s σ H Q I h => PySem.W.methodCall_KW (pl := pl) (thn (he.run pins s σ H _ I h) fun u s1 ⟨x, H1, I1, rx, a, dx, fs, d, ex, ea, hm, l, q⟩ => ?_) ht⟩
  obtain ⟨f, fd, ds, F, c, hme, bd, hd⟩ := (B d hm).ex
  subst ex
  cases rx
  refine getmeth_ok I1 ea c hme l ?_
  exact PySem.W.callWith_K0 (first := [.ref a]) I1.kIn hme.kp (run_fnSD (us := [.ref a]) (vs := [.ref a]) F hr bd hd (hx σ) I1 (.cons rfl .nil) q)
end
/-! ### steps of these readings -/
section
variable {σ : L2.St} {H : Hp} {Q : VK} {n b c : L2.St → Hp → Prop} {r : VK}
theorem s_cal {sp : Sp} {dvs : List V} {E : L2.St → XK} {t : TA} (h : t σ H fun vs H1 => sp (vs ++ dvs) H1 Q (E σ)) : tCal sp dvs E t σ H Q := h
theorem s_new {C : Addr} {sp : Sp} {dvs : List V} {E : L2.St → XK} {t : TA} (h : t σ H fun vs H1 => ∀ x dx, H1 x = none → H1 dx = none → dx ≠ x → sp (.ref x :: (vs ++ dvs)) (upd (upd H1 dx (.own x)) x (.ins C dx [])) (fun v H2 => v = .non ∧ Q (.ref x) H2) (E σ)) : tNew C sp dvs E t σ H Q := h
theorem s_fl {Cs : List Addr} {f : Str} {ta : TE} (h : ta σ H fun x H1 => ∃ a C dx fs v, x = .ref a ∧ H1 a = some (.ins C dx fs) ∧ C ∈ Cs ∧ fs.lookup f = some v ∧ Q v H1) : tFl Cs f ta σ H Q := h
theorem u_fl {Cs : List Addr} {f : Str} {a C dx : Addr} {fs : List (Str × V)} {v : V} (h1 : H a = some (.ins C dx fs)) (hm : C ∈ Cs) (l : fs.lookup f = some v) (h : Q v H) : ∃ a' C dx fs v, V.ref a = .ref a' ∧ H a' = some (.ins C dx fs) ∧ C ∈ Cs ∧ fs.lookup f = some v ∧ Q v H := ⟨a, C, dx, fs, v, rfl, h1, hm, l, h⟩
theorem s_sfl {Cs : List Addr} {f : Str} {ta tv : TE} (h : tv σ H fun y H1 => ta σ H1 fun x H2 => ∃ a C dx fs, x = .ref a ∧ H2 a = some (.ins C dx fs) ∧ C ∈ Cs ∧ fs.length < 1000 ∧ n σ (upd H2 a (.ins C dx (putF f y fs)))) : sFl Cs f ta tv (Ends.mk n r b c) σ H := h
theorem u_sfl {Cs : List Addr} {f : Str} {y : V} {a C dx : Addr} {fs : List (Str × V)} {q : Hp → Prop} (h1 : H a = some (.ins C dx fs)) (hm : C ∈ Cs) (hl : fs.length < 1000) (h : q (upd H a (.ins C dx (putF f y fs)))) :
    ∃ a' C dx fs, V.ref a = .ref a' ∧ H a' = some (.ins C dx fs) ∧ C ∈ Cs ∧ fs.length < 1000 ∧ q (upd H a' (.ins C dx (putF f y fs))) := ⟨a, C, dx, fs, rfl, h1, hm, hl, h⟩
theorem s_me {ms : List MD} {m : Str} {E : L2.St → XK} {ta : TE} {t : TA} (h : ta σ H fun x H1 => ∃ a dx fs d, x = .ref a ∧ H1 a = some (.ins d.C dx fs) ∧ d ∈ ms ∧ fs.lookup m = none ∧ t σ H1 fun vs H2 => d.sp (x :: (vs ++ d.dvs)) H2 Q (E σ)) : tMe ms m E ta t σ H Q := h
theorem u_me {ms : List MD} {m : Str} {XE : XK} {t : TA} {a C dx : Addr} {fs : List (Str × V)} {ps : List Str} {dvs : List V} {sp : Sp} (h1 : H a = some (.ins C dx fs)) (hm : (⟨C, ps, dvs, sp⟩ : MD) ∈ ms) (l : fs.lookup m = none) (h : t σ H fun vs H2 => sp (.ref a :: (vs ++ dvs)) H2 Q XE) :
    ∃ a' dx fs d, V.ref a = .ref a' ∧ H a' = some (.ins (MD.C d) dx fs) ∧ d ∈ ms ∧ fs.lookup m = none ∧ t σ H fun vs H2 => d.sp (.ref a :: (vs ++ d.dvs)) H2 Q XE := ⟨a, dx, fs, ⟨C, ps, dvs, sp⟩, rfl, h1, hm, l, h⟩
theorem s_xfk {K : PySem.W.Frag} {f : Str} {ta : TE} (h : ta σ H fun x H1 => ∃ (a D dd : Addr) (fs : List (Str × V)) (v : V), x = .ref a ∧ H1 a = some (ExT (.ref D) (some dd) a) ∧ ExK K D ∧ PySem.W.findIn K (.ref D) f = some none ∧ H1 dd = some (.xd fs) ∧ fs.lookup f = some v ∧ Q v H1) : tXfK K ta f σ H Q := h
theorem s_rzi {K : PySem.W.Frag} {C : Addr} {f : Str} {t : TA} {W : WX} {D : Ends} (h : t σ H fun vs H1 => rzK K C f W σ vs H1) : tRzI K C f t W D σ H := h
theorem s_vei {K : PySem.W.Frag} {t : TA} (h : t σ H fun vs H1 => ∃ (a C : Addr) (ws : List V), vs = .ref a :: ws ∧ ws.length ≤ 1000 ∧ OexC K C ∧ H1 a = some (exo a C none) ∧ Q .non H1) : tVeI K t σ H Q := h
theorem s_isE {K : PySem.W.Frag} {x v : V} {t u : Value} {k : Bool} (hk : ClsV v u) (ty : TyE K H x t) (e : PySem.W.kitOne K t u = some k) (h : Q (.bl k) H) : rIsiE K [x, v] H Q := ⟨x, v, t, u, k, rfl, hk, ty, e, h⟩
end
theorem Same.get {H H' : Hp} {a : Addr} {o : HO} (s : Same H H') (h : H a = some o) : H' a = some o := s a o h
theorem But.get {c : Addr} {H H' : Hp} {a : Addr} {o : HO} (s : But c H H') (n : a ≠ c) (h : H a = some o) : H' a = some o := s a o n h
theorem u_tupI {xs : List V} {H : Hp} {q : Addr → Prop} (hl : xs.length ≤ sizeLine) (h : ∀ p, H p = none → q p) : xs.length ≤ sizeLine ∧ ∀ p, H p = none → q p := ⟨hl, h⟩
theorem u_lstI {xs : List V} {H : Hp} {q : Addr → Prop} (hl : xs.length ≤ sizeLine) (h : ∀ p, H p = none → q p) : xs.length ≤ sizeLine ∧ ∀ p, H p = none → q p := ⟨hl, h⟩
/-- what isinstance asks of an instance's class -/
def CcK (K : PySem.W.Frag) (D : Addr) : Prop := PySem.W.findIn K (.ref D) "__class__" = some (some (.builtin "object.__class__")) ∧ PySem.W.specialIn K (.builtin "object.__class__") "__get__" = some (some (.builtin "getset_descriptor.__get__")) ∧ PySem.W.takesIn K (.builtin "object.__class__") = some true ∧ PySem.W.mroIn K D (.type "object") = some true
section
variable {K : PySem.W.Frag} {tb : WX → TS} {Wout : WX} {l : List (Value × Option Nat × TS)} {D : Ends} {σ : L2.St} {H : Hp} {cls c : Value} {d : Option Addr} {i : Nat} {ts : TS} {n b ct : L2.St → Hp → Prop} {r : VK}
theorem s_try (h : tb (wKp K Wout D l) D σ H) : tTry K tb Wout l D σ H := h
/-- the exception is caught by the first clause | not by it -/
theorem u_as (e : PySem.W.exmOne K cls c = some true) (h : ∀ a, H a = none → ts (Ends.mk (fun τ H' => n (τ.set i none) H') r (fun τ H' => b (τ.set i none) H') (fun τ H' => ct (τ.set i none) H')) (σ.set i (some (.ref a))) (upd H a (ExT cls d a))) :
    wKp K Wout (Ends.mk n r b ct) ((c, some i, ts) :: l) cls d σ H := ⟨true, e, fun _ => h, fun z => nomatch z⟩
theorem u_no (e : PySem.W.exmOne K cls c = some true) (h : ∀ a, H a = none → ts (Ends.mk n r b ct) σ (upd H a (ExT cls d a))) : wKp K Wout (Ends.mk n r b ct) ((c, none, ts) :: l) cls d σ H := ⟨true, e, fun _ => h, fun z => nomatch z⟩
theorem u_nx {o : Option Nat} (e : PySem.W.exmOne K cls c = some false) (h : wKp K Wout D l cls d σ H) : wKp K Wout D ((c, o, ts) :: l) cls d σ H := ⟨false, e, ⟨fun z => absurd z Bool.false_ne_true, fun _ => h⟩⟩
theorem u_we {W : WX} (h : W cls d σ H) : WE W σ cls d H := h
theorem u_isET {x : V} {tp : Addr} {cs : List V} {t : Value} {us : List Value} {k : Bool} {Q : VK} (hT : H tp = some (.tup cs)) (hk : Paired ClsV cs us) (ty : TyE K H x t) (e : PySem.W.kitAny K t us = some k) (h : Q (.bl k) H) : rIsiET K [x, .ref tp] H Q := ⟨x, tp, cs, t, us, k, rfl, hT, hk, ty, e, h⟩
theorem own1 (C : Addr) : ClsV (.ref C) (.ref C) := .own C
end
theorem pairedOwn : ∀ Cs : List Addr, Paired ClsV (Cs.map V.ref) (Cs.map Value.ref)
  | [] => .nil
  | C :: r => .cons (.own C) (pairedOwn r)
theorem ne_none {H : Hp} {a b : Addr} {o : HO} (h : H a = none) (e : H b = some o) : b ≠ a := ne_of_none e h
theorem u_menuL {K : PySem.W.Frag} {p : Addr} {xs : List V} {i : Int} {H : Hp} {Q : VK} (h1 : H p = some (.lst xs)) (h2 : 0 ≤ i) (h3 : i < xs.length) (h : ∀ v ∈ xs, Q v H) : rIx K (.ref p) (.int i) H Q := by
  obtain ⟨j, rfl⟩ : ∃ j : Nat, i = (j : Int) := ⟨i.toNat, by omega⟩
  have hj : j < xs.length := by omega
  exact u_ixL h1 (atI_nat (by simp [hj])) (h _ (List.getElem_mem hj))
theorem u_menuA {K : PySem.W.Frag} {p : Addr} {xs : List V} {i : Int} {H : Hp} {Q : VK} (P : V → Bool) (h1 : H p = some (.lst xs)) (hP : xs.all P = true) (h2 : 0 ≤ i) (h3 : i < xs.length) (h : ∀ v, P v = true → Q v H) : rIx K (.ref p) (.int i) H Q :=
  u_menuL h1 h2 h3 fun v hv => h v (List.all_eq_true.mp hP v hv)
theorem cutV_to (xs : List V) (j : Nat) : cutV xs none (some (j : Int)) = xs.take j := by
  show ((xs.drop 0).take (HT.sIx xs.length xs.length (some (j : Int)) - 0)) = _
  rw [List.drop_zero, Nat.sub_zero, HT.sIx_nat, ← List.take_eq_take_min]
theorem cutV_from (xs : List V) (j : Nat) : cutV xs (some (j : Int)) none = xs.drop j := by
  show ((xs.drop (HT.sIx xs.length 0 (some (j : Int)))).take (xs.length - HT.sIx xs.length 0 (some (j : Int)))) = _
  rw [HT.sIx_nat, List.take_of_length_le (by rw [List.length_drop]; exact Nat.le_refl _)]
  by_cases h : j ≤ xs.length
  · rw [Nat.min_eq_left h]
  · rw [Nat.min_eq_right (by omega), List.drop_of_length_le (Nat.le_refl _), List.drop_of_length_le (by omega)]
theorem len_mul (z : Str) (n : Int) : (Txt.mul z n).length = n.toNat * z.length := by
  rw [len_tl, tl_mul, List.length_flatten, List.map_replicate, List.sum_replicate_nat, len_tl]
/-! ### data of a type: compared as a whole -/
class Enc (α : Type) where
  enc : α → PyData
  sh : α → Prop
  dep : Nat
  lay : ∀ a, sh a → (enc a).canLay0 = true
  dp : ∀ a, (enc a).depth ≤ dep
  eq : ∀ a b, PyData.eqv (enc a) (enc b) = true ↔ a = b
class EncN (α : Type) extends Enc α where
  nn : ∀ a, PyData.eqv .none (enc a) = false ∧ PyData.eqv (enc a) .none = false
instance : EncN Int where
  enc := .int
  sh := fun _ => True
  dep := 0
  lay := fun a _ => by simp [PyData.canLay0]
  dp := fun a => by simp [PyData.depth]
  eq := fun a b => by simp [PyData.eqv]
  nn := fun a => by simp [PyData.eqv]
instance : EncN Bool where
  enc := .bool
  sh := fun _ => True
  dep := 0
  lay := fun a _ => by simp [PyData.canLay0]
  dp := fun a => by simp [PyData.depth]
  eq := fun a b => by simp [PyData.eqv]
  nn := fun a => by simp [PyData.eqv]
instance : EncN Str where
  enc := .str
  sh := fun z => PyData.strOk z = true
  dep := 0
  lay := fun a h => by simp [PyData.canLay0, h]
  dp := fun a => by simp [PyData.depth]
  eq := fun a b => by simp [PyData.eqv]
  nn := fun a => by simp [PyData.eqv]
def encO {α : Type} [EncN α] : Option α → PyData
  | none => .none
  | some a => Enc.enc a
instance {α : Type} [EncN α] : Enc (Option α) where
  enc := encO
  sh := fun o => ∀ a, o = some a → Enc.sh a
  dep := Enc.dep α
  lay := fun o h => by
    cases o with
    | none => simp [encO, PyData.canLay0]
    | some a => exact Enc.lay a (h a rfl)
  dp := fun o => by
    cases o with
    | none => simp [encO, PyData.depth]
    | some a => exact Enc.dp a
  eq := fun o p => by
    cases o with
    | none => cases p with
      | none => simp [encO, PyData.eqv]
      | some b => simp [encO, (EncN.nn b).1]
    | some a => cases p with
      | none => simp [encO, (EncN.nn a).2]
      | some b => simp [encO, Enc.eq a b]
section
variable {α β γ δ : Type} [Enc α] [Enc β] [Enc γ] [Enc δ]
theorem encAll_lay (xs : List α) (h : ∀ x ∈ xs, Enc.sh x) : PyData.canLayAll0 (xs.map Enc.enc) = true := by
  induction xs with
  | nil => simp [PyData.canLayAll0]
  | cons x r ih =>
    rw [List.map_cons, PyData.canLayAll0, Bool.and_eq_true]
    exact ⟨Enc.lay x (h x List.mem_cons_self), ih fun y hy => h y (List.mem_cons_of_mem _ hy)⟩
theorem encAll_dp (xs : List α) : PyData.depthAll (xs.map Enc.enc) ≤ Enc.dep α := by
  induction xs with
  | nil => simp [PyData.depthAll]
  | cons x r ih =>
    have := Enc.dp x
    rw [List.map_cons, PyData.depthAll]
    omega
theorem encAll_eq : ∀ xs ys : List α, PyData.eqvAll (xs.map Enc.enc) (ys.map Enc.enc) = true ↔ xs = ys
  | [], [] => by simp [PyData.eqvAll]
  | [], y :: ys => by simp [PyData.eqvAll]
  | x :: xs, [] => by simp [PyData.eqvAll]
  | x :: xs, y :: ys => by
    rw [List.map_cons, List.map_cons, PyData.eqvAll, Bool.and_eq_true, Enc.eq x y, encAll_eq xs ys, List.cons.injEq]
instance : EncN (List α) where
  enc := fun xs => .list (xs.map Enc.enc)
  sh := fun xs => ∀ x ∈ xs, Enc.sh x
  dep := Enc.dep α + 1
  lay := fun xs h => by rw [PyData.canLay0]; exact encAll_lay xs h
  dp := fun xs => by rw [PyData.depth]; exact Nat.succ_le_succ (encAll_dp xs)
  eq := fun xs ys => by rw [PyData.eqv]; exact encAll_eq xs ys
  nn := fun a => by simp [PyData.eqv]
/-- tuples -/
structure T1 (α : Type) where
  a : α
deriving DecidableEq
structure T2 (α β : Type) where
  a : α
  b : β
deriving DecidableEq
structure T3 (α β γ : Type) where
  a : α
  b : β
  c : γ
deriving DecidableEq
structure T4 (α β γ δ : Type) where
  a : α
  b : β
  c : γ
  d : δ
deriving DecidableEq
instance : EncN (T1 α) where
  enc := fun t => .tuple [Enc.enc t.a]
  sh := fun t => Enc.sh t.a
  dep := Enc.dep α + 1
  lay := fun t h => by simp [PyData.canLay0, PyData.canLayAll0, Enc.lay _ h]
  dp := fun t => by have := Enc.dp t.a; simp only [PyData.depth, PyData.depthAll]; omega
  eq := fun ⟨a⟩ ⟨b⟩ => by simp [PyData.eqv, PyData.eqvAll, Enc.eq]
  nn := fun a => by simp [PyData.eqv]
instance : EncN (T2 α β) where
  enc := fun t => .tuple [Enc.enc t.a, Enc.enc t.b]
  sh := fun t => Enc.sh t.a ∧ Enc.sh t.b
  dep := max (Enc.dep α) (Enc.dep β) + 1
  lay := fun t h => by simp [PyData.canLay0, PyData.canLayAll0, Enc.lay _ h.1, Enc.lay _ h.2]
  dp := fun t => by have := Enc.dp t.a; have := Enc.dp t.b; simp only [PyData.depth, PyData.depthAll]; omega
  eq := fun ⟨a, b⟩ ⟨a', b'⟩ => by simp [PyData.eqv, PyData.eqvAll, Enc.eq]
  nn := fun a => by simp [PyData.eqv]
instance : EncN (T3 α β γ) where
  enc := fun t => .tuple [Enc.enc t.a, Enc.enc t.b, Enc.enc t.c]
  sh := fun t => Enc.sh t.a ∧ Enc.sh t.b ∧ Enc.sh t.c
  dep := max (Enc.dep α) (max (Enc.dep β) (Enc.dep γ)) + 1
  lay := fun t h => by simp [PyData.canLay0, PyData.canLayAll0, Enc.lay _ h.1, Enc.lay _ h.2.1, Enc.lay _ h.2.2]
  dp := fun t => by have := Enc.dp t.a; have := Enc.dp t.b; have := Enc.dp t.c; simp only [PyData.depth, PyData.depthAll]; omega
  eq := fun ⟨a, b, c⟩ ⟨a', b', c'⟩ => by simp [PyData.eqv, PyData.eqvAll, Enc.eq]
  nn := fun a => by simp [PyData.eqv]
instance : EncN (T4 α β γ δ) where
  enc := fun t => .tuple [Enc.enc t.a, Enc.enc t.b, Enc.enc t.c, Enc.enc t.d]
  sh := fun t => Enc.sh t.a ∧ Enc.sh t.b ∧ Enc.sh t.c ∧ Enc.sh t.d
  dep := max (max (Enc.dep α) (Enc.dep β)) (max (Enc.dep γ) (Enc.dep δ)) + 1
  lay := fun t h => by simp [PyData.canLay0, PyData.canLayAll0, Enc.lay _ h.1, Enc.lay _ h.2.1, Enc.lay _ h.2.2.1, Enc.lay _ h.2.2.2]
  dp := fun t => by have := Enc.dp t.a; have := Enc.dp t.b; have := Enc.dp t.c; have := Enc.dp t.d; simp only [PyData.depth, PyData.depthAll]; omega
  eq := fun ⟨a, b, c, d⟩ ⟨a', b', c', d'⟩ => by simp [PyData.eqv, PyData.eqvAll, Enc.eq]
  nn := fun a => by simp [PyData.eqv]
/-- v is the data a -/
def De (K : PySem.W.Frag) (H : Hp) (v : V) (a : α) : Prop := Dp K H v (Enc.enc a)
end
section
variable {α β γ δ : Type} [Enc α] [Enc β] [Enc γ] [Enc δ] {K : PySem.W.Frag} {H H' : Hp} {Q : VK} {x y z u : V} {p : Addr}
theorem de_int (i : Int) : De K H (.int i) i := .int i
theorem de_bl (i : Bool) : De K H (.bl i) i := .bl i
theorem de_str (i : Str) : De K H (.str i) i := .str i
theorem de_non {α : Type} [EncN α] : De K H .non (none : Option α) := .non
theorem de_some {α : Type} [EncN α] {a : α} (h : De K H x a) : De K H x (some a) := h
theorem de_nil (h : SqL K H p []) : De K H (.ref p) ([] : List α) := .lst h .nil
theorem deAll {vs : List V} {as : List α} (h : Paired (De K H) vs as) : DpAll K H vs (as.map Enc.enc) := by
  induction h with
  | nil => exact .nil
  | cons r _ ih => exact .cons r ih
theorem de_lst {vs : List V} {as : List α} (h : SqL K H p vs) (r : Paired (De K H) vs as) : De K H (.ref p) as := .lst h (deAll r)
theorem de_strs {ss : List Str} (h : SqL K H p (ss.map V.str)) : De K H (.ref p) ss := dp_strs h
theorem de_ints {ns : List Int} (h : SqL K H p (ns.map V.int)) : De K H (.ref p) ns := by
  refine de_lst h ?_
  clear h
  induction ns with
  | nil => exact .nil
  | cons n r ih => exact .cons (de_int n) ih
theorem de_t1 {a : α} (h : SqT K H p [x]) (h1 : De K H x a) : De K H (.ref p) (T1.mk a) := .tup h (.cons h1 .nil)
theorem de_t2 {a : α} {b : β} (h : SqT K H p [x, y]) (h1 : De K H x a) (h2 : De K H y b) : De K H (.ref p) (T2.mk a b) := .tup h (.cons h1 (.cons h2 .nil))
theorem de_t3 {a : α} {b : β} {c : γ} (h : SqT K H p [x, y, z]) (h1 : De K H x a) (h2 : De K H y b) (h3 : De K H z c) : De K H (.ref p) (T3.mk a b c) := .tup h (.cons h1 (.cons h2 (.cons h3 .nil)))
theorem de_t4 {a : α} {b : β} {c : γ} {d : δ} (h : SqT K H p [x, y, z, u]) (h1 : De K H x a) (h2 : De K H y b) (h3 : De K H z c) (h4 : De K H u d) : De K H (.ref p) (T4.mk a b c d) := .tup h (.cons h1 (.cons h2 (.cons h3 (.cons h4 .nil))))
theorem shaped_enc {a : α} (h : Enc.sh a) (hd : Enc.dep α ≤ 64) : SeqAt.shaped (Enc.enc a) = true := by
  unfold SeqAt.shaped
  rw [Enc.lay a h, Bool.true_and]
  exact decide_eq_true (Nat.le_trans (Enc.dp a) hd)
theorem eqv_enc {a b : α} [Decidable (a = b)] : PyData.eqv (Enc.enc a) (Enc.enc b) = decide (a = b) := by
  rw [Bool.eq_iff_iff, decide_eq_true_eq]
  exact Enc.eq a b
theorem u_neE {a b : α} [Decidable (a = b)] (h1 : De K H x a) (h2 : De K H y b) (s1 : Enc.sh a) (s2 : Enc.sh b) (hd : Enc.dep α ≤ 64) (h : Q (.bl (!decide (a = b))) H) : uNe K x y H Q :=
  .inr ⟨_, _, h1, h2, shaped_enc s1 hd, shaped_enc s2 hd, by rw [eqv_enc]; exact h⟩
theorem u_eqE {a b : α} [Decidable (a = b)] (h1 : De K H x a) (h2 : De K H y b) (s1 : Enc.sh a) (s2 : Enc.sh b) (hd : Enc.dep α ≤ 64) (h : Q (.bl (decide (a = b))) H) : uEq K x y H Q :=
  .inr ⟨_, _, h1, h2, shaped_enc s1 hd, shaped_enc s2 hd, by rw [eqv_enc]; exact h⟩
end
section
variable {K : PySem.W.Frag} {a : Addr} {xs r : List V} {v : V} {n : Nat} {t : TGs} {g : TG} {u : TGs} {σ : L2.St} {H : Hp} {Q : L2.St → Hp → Prop}
theorem u_gtup (h1 : SqT K H a xs) (hl : xs.length = n) (h : t xs σ H Q) : gTup K n t (.ref a) σ H Q := ⟨a, xs, rfl, h1, hl, h⟩
theorem s_gcons (h : g v σ H fun σ' H' => u r σ' H' Q) : gCons g u (v :: r) σ H Q := ⟨v, r, rfl, h⟩
theorem s_gnil (h : Q σ H) : gNil [] σ H Q := ⟨rfl, h⟩
end
mutual
theorem dpSame {K : PySem.W.Frag} {H H' : Hp} (s : Same H H') : ∀ (d : PyData) (v : V), Dp K H v d → Dp K H' v d
  | .none, _, h => by cases h; exact .non
  | .bool b, _, h => by cases h; exact .bl b
  | .int b, _, h => by cases h; exact .int b
  | .str b, _, h => by cases h; exact .str b
  | .list ds, _, h => by
    cases h with
    | lst q r => exact .lst (s.seq q) (dpAllSame s ds _ r)
  | .tuple ds, _, h => by
    cases h with
    | tup q r =>
      refine .tup ?_ (dpAllSame s ds _ r)
      rcases q with (q | ⟨o, q⟩) | q
      · exact .inl (.inl (s _ _ q))
      · exact .inl (.inr ⟨o, s _ _ q⟩)
      · exact .inr q
  | .dict _, _, h => by cases h
theorem dpAllSame {K : PySem.W.Frag} {H H' : Hp} (s : Same H H') : ∀ (ds : List PyData) (vs : List V), DpAll K H vs ds → DpAll K H' vs ds
  | [], _, h => by cases h; exact .nil
  | d :: ds, _, h => by
    cases h with
    | cons a b => exact .cons (dpSame s d _ a) (dpAllSame s ds _ b)
end
theorem De.same {α : Type} [Enc α] {K : PySem.W.Frag} {H H' : Hp} {v : V} {a : α} (h : De K H v a) (s : Same H H') : De K H' v a := dpSame s _ _ h
theorem u_neS0 {K : PySem.W.Frag} {H : Hp} {Q : VK} {p q : Addr} {ss : List Str} (h1 : SqL K H p (ss.map V.str)) (h2 : SqL K H q []) (o1 : ∀ s ∈ ss, PyData.strOk s = true) (h : Q (.bl (!decide (ss = []))) H) : uNe K (.ref p) (.ref q) H Q :=
  u_neStrs (ts := []) h1 h2 o1 (fun _ h => by cases h) h
theorem u_eqS0 {K : PySem.W.Frag} {H : Hp} {Q : VK} {p q : Addr} {ss : List Str} (h1 : SqL K H p (ss.map V.str)) (h2 : SqL K H q []) (o1 : ∀ s ∈ ss, PyData.strOk s = true) (h : Q (.bl (decide (ss = []))) H) : uEq K (.ref p) (.ref q) H Q :=
  u_eqStrs (ts := []) h1 h2 o1 (fun _ h => by cases h) h

local macro_rules | `(tactic| wtm_at "hp") => `(tactic| first
  | assumption
  | (with_reducible exact upd_same)
  | ((with_reducible refine (upd_ne ?n).trans ?m); (case n => wtm_at "ne"); (case m => wtm_at "hp")))
local macro_rules | `(tactic| wtm_at "ne") => `(tactic| first | assumption | (refine Ne.symm ?_; assumption))
local macro_rules | `(tactic| wtm_at "sz") => `(tactic| first | (refine le_line ?_; omega) | (refine lt_line ?_; omega) | (refine le_line ?_; (simp; done)) | (refine lt_line ?_; (simp; done)) | (refine le_line ?_; (simp; omega)) | (refine lt_line ?_; (simp; omega)))
local macro_rules | `(tactic| wtm_at "r") => `(tactic| repeat (wtm_at "s"))
local macro_rules | `(tactic| wtm_at "s") => `(tactic| first
  | (with_reducible refine s_seq ?_)
  | (with_reducible refine s_asg ?_)
  | (with_reducible refine s_name ?_)
  | ((with_reducible refine s_var (v := ?v) ?e ?_); (case e => exact rfl))
  | (with_reducible refine s_c ?_)
  | (with_reducible refine s_op ?_)
  | (with_reducible refine s_if ?_)
  | (with_reducible refine s_test ?_)
  | (with_reducible refine s_bl ?_)
  | (with_reducible refine u_add_int ?_)
  | (with_reducible refine u_eqI ?_) | (with_reducible refine u_neI ?_)
  | (with_reducible refine u_eqS ?_) | (with_reducible refine u_neS ?_)
  | (with_reducible refine u_eqB ?_) | (with_reducible refine u_neB ?_)
  | (with_reducible refine u_rI0 ?_)
  | (with_reducible refine u_rU ?_)
  | (with_reducible refine s_ret ?_)
  | (with_reducible refine s_retN ?_)
  | (with_reducible refine s_call ?_)
  | (with_reducible refine s_cons ?_)
  | (with_reducible refine s_nil ?_)
  | (with_reducible refine s_cb ?_)
  | (with_reducible refine s_drop ?_)
  | (with_reducible refine s_next ?_)
  | (with_reducible refine s_brk ?_)
  | (with_reducible refine s_cont ?_)
  | (with_reducible refine s_tB ?_)
  | (with_reducible refine s_and ?_)
  | (with_reducible refine s_or ?_)
  | (with_reducible refine s_not ?_)
  | (with_reducible refine s_un ?_)
  | (with_reducible refine s_tup ?_)
  | (with_reducible refine s_lst ?_)
  | (with_reducible refine s_ifExp ?_)
  | (with_reducible refine s_sl ?_)
  | (with_reducible refine s_nopart ?_)
  | (with_reducible refine s_part ?_)
  | (with_reducible refine s_int ?_)
  | (with_reducible refine s_bm ?_)
  | (with_reducible refine s_bm0 ?_)
  | (with_reducible refine s_m1 ?_)
  | (with_reducible refine s_m0 ?_)
  | (with_reducible refine s_andV ?_)
  | (with_reducible refine s_orV ?_)
  | (with_reducible refine s_notV ?_)
  | (with_reducible refine s_fldput ?_)
  | ((with_reducible refine u_mod ?hc ?_); (case hc => omega))
  | ((with_reducible refine u_fdiv ?hc ?_); (case hc => omega))
  | ((with_reducible refine u_mul ?hc ?_); (case hc => omega))
  | ((with_reducible refine u_ixL (xs := ?xs) (v := ?v) ?h1 ?h2 ?_); (case h1 => wtm_at "hp"); (case h2 => rfl))
  | ((with_reducible refine u_mulI ?hc ?_); (case hc => omega))
  | (with_reducible refine s_rz ?_)
  | (with_reducible refine s_chain ?_)
  | (with_reducible refine s_for ?_) | (with_reducible refine s_lc ?_) | (with_reducible refine s_iList ?_) | (with_reducible refine s_iTup ?_) | (with_reducible refine s_iStr ?_) | (with_reducible refine s_iR1 ?_) | (with_reducible refine s_iR2 ?_)
  | (with_reducible refine u_itS ?_)
  | (with_reducible refine s_gsub ?_)
  | (with_reducible refine s_pairs1 ?_) | (with_reducible refine s_pairs0 ?_)
  | (with_reducible refine u_isN ?_) | (with_reducible refine u_notN ?_)
  | (with_reducible refine u_m1 ?_) | (with_reducible refine u_starts ?_) | (with_reducible refine u_ends ?_)
  | (with_reducible refine u_inSg ?_) | (with_reducible refine u_notInSg ?_)
  | (with_reducible refine s_sp1 ?_) | (with_reducible refine s_sp2 ?_) | (with_reducible refine s_sp3 ?_) | (with_reducible refine s_sp4 ?_) | (with_reducible refine s_sp0 ?_)
  | (with_reducible refine s_cal ?_) | (with_reducible refine s_new ?_) | (with_reducible refine s_fl ?_) | (with_reducible refine s_sfl ?_) | (with_reducible refine s_me ?_) | (with_reducible refine s_xfk ?_) | (with_reducible refine s_rzi ?_) | (with_reducible refine s_vei ?_))
/-! steps that look things up by themselves -/
local macro_rules | `(tactic| wtm_at "hq") => `(tactic| first
  | assumption
  | (with_reducible exact upd_same)
  | ((with_reducible refine (upd_ne ?n).trans ?m); (case n => wtm_at "nq"); (case m => wtm_at "hq"))
  | ((refine Same.get (by assumption) ?m); (case m => wtm_at "hq"))
  | ((refine But.get (by assumption) ?n ?m); (case n => wtm_at "nq"); (case m => wtm_at "hq")))
local macro_rules | `(tactic| wtm_at "nq") => `(tactic| first
  | assumption | (refine Ne.symm ?_; assumption)
  | ((refine ne_none (o := ?o) (by assumption) ?m); (case m => wtm_at "hq"))
  | ((refine Ne.symm (ne_none (o := ?o) (by assumption) ?m)); (case m => wtm_at "hq")))
local macro_rules | `(tactic| wtm_at "sm") => `(tactic| first
  | assumption | exact Same.refl _
  | ((with_reducible refine Same.newer ?s (by assumption)); (case s => wtm_at "sm"))
  | ((with_reducible refine Same.wr ?s ?f); (case s => wtm_at "sm"); (case f => wtm_at "fr"))
  | ((refine Same.trans ?s (by assumption)); (case s => wtm_at "sm"))
  | ((refine Same.butOf ?s (by assumption) ?f); (case s => wtm_at "sm"); (case f => wtm_at "fr")))
local macro_rules | `(tactic| wtm_at "fr") => `(tactic| first
  | assumption
  | ((refine Same.free ?s (by assumption)); (case s => wtm_at "sm")))
local macro_rules | `(tactic| wtm_at "qL") => `(tactic| first
  | assumption
  | ((refine SqL.of ?m); (case m => wtm_at "hq"))
  | ((refine Same.seq (by assumption) ?m); (case m => wtm_at "qL"))
  | ((refine Same.seq ?s (by assumption)); (case s => wtm_at "sm")))
local macro_rules | `(tactic| wtm_at "qT") => `(tactic| first
  | assumption
  | ((refine SqT.of ?m); (case m => wtm_at "hq")))
local macro_rules | `(tactic| wtm_at "in") => `(tactic| first
  | exact List.Mem.head _ | exact .tail _ (.head _) | exact .tail _ (.tail _ (.head _)) | exact .tail _ (.tail _ (.tail _ (.head _))) | exact .tail _ (.tail _ (.tail _ (.tail _ (.head _)))) | exact .tail _ (.tail _ (.tail _ (.tail _ (.tail _ (.head _))))))
local macro_rules | `(tactic| wtm_at "kn") => `(tactic| first | with_reducible rfl | assumption | (simp only [Bool.not_true, Bool.not_false]; done))
local macro_rules | `(tactic| wtm_at "a1") => `(tactic| first
  | wtm_at "s"
  | (with_reducible refine u_rz ?_) | (with_reducible refine s_try ?_)
  | ((with_reducible refine u_itR1 ?h1 ?h2 ?_); (case h1 => first | decide | omega); (case h2 => first | decide | omega))
  | ((with_reducible refine u_fl (C := ?C) (dx := ?dx) (fs := ?fs) (v := ?v) ?h ?m ?l ?_); (case h => wtm_at "hq"); (case m => wtm_at "in"); (case l => rfl))
  | ((with_reducible refine u_sfl (C := ?C) (dx := ?dx) (fs := ?fs) ?h ?m ?l ?_); (case h => wtm_at "hq"); (case m => wtm_at "in"); (case l => (first | decide | (simp; done))))
  | ((with_reducible refine u_me (C := ?C) (dx := ?dx) (fs := ?fs) (ps := ?ps) (dvs := ?dvs) (sp := ?sp) ?h ?m ?l ?_); (case h => wtm_at "hq"); (case m => wtm_at "in"); (case l => rfl))
  | ((with_reducible refine if_t ?h ?_); (case h => wtm_at "kn"))
  | ((with_reducible refine if_f ?h ?_); (case h => wtm_at "kn"))
  | ((with_reducible refine u_lenL (xs := ?xs) ?h ?_); (case h => wtm_at "qL"))
  | ((with_reducible refine u_lenT (xs := ?xs) ?h ?_); (case h => wtm_at "qT"))
  | ((with_reducible refine u_lenD (kvs := ?kvs) ?h ?_); (case h => wtm_at "hq"))
  | ((with_reducible refine u_lenS ?h ?_); (case h => (first | assumption | wtm_at "sz")))
  | ((with_reducible refine u_ixL (xs := ?xs) (v := ?v) ?h1 ?h2 ?_); (case h1 => wtm_at "hq"); (case h2 => rfl))
  | ((with_reducible refine u_ixT (xs := ?xs) (v := ?v) ?h1 ?h2 ?_); (case h1 => wtm_at "hq"); (case h2 => rfl))
  | ((with_reducible refine u_itL (xs := ?xs) ?h ?_); (case h => wtm_at "qL"))
  | ((with_reducible refine u_itT (xs := ?xs) ?h ?_); (case h => wtm_at "qT"))
  | ((with_reducible refine u_tyL (xs := ?xs) ?h ?_); (case h => wtm_at "qL"))
  | ((with_reducible refine u_append (xs := ?xs) ?h ?l ?_); (case h => wtm_at "hq"); (case l => wtm_at "sz"))
  | ((with_reducible refine u_listL (ys := ?ys) ?h ?_); (case h => wtm_at "qL"))
  | ((with_reducible refine u_slS ?h ?_); (case h => (first | assumption | wtm_at "sz")))
  | ((with_reducible refine u_slL (xs := ?xs) ?h ?_); (case h => wtm_at "qL"); intro _ _)
  | ((with_reducible refine u_add_str ?h ?_); (case h => wtm_at "sz"))
  | ((with_reducible refine u_add_lst (xs := ?xs) (zs := ?zs) ?h1 ?h2 ?h ?_); (case h1 => wtm_at "hq"); (case h2 => wtm_at "hq"); (case h => wtm_at "sz"); intro _ _)
  | ((with_reducible refine u_gtup (xs := ?xs) ?h ?l ?_); (case h => wtm_at "qT"); (case l => rfl)) | (with_reducible refine s_gcons ?_) | (with_reducible refine s_gnil ?_)
  | ((with_reducible refine u_tupI ?h ?_); (case h => wtm_at "sz"); intro _ _)
  | ((with_reducible refine u_lstI ?h ?_); (case h => wtm_at "sz"); intro _ _))
local macro_rules | `(tactic| wtm_at "a") => `(tactic| repeat (wtm_at "a1"))

def top (i : Nat) : Stmt := PySem.Challenge.pw_leadnames_k05_whole_paths_put_together.main.body.getD i (.Pass ⟨0, 0, 0, 0⟩)
abbrev st_is_name : Stmt := top 7
abbrev st__law_digit : Stmt := top 12
abbrev st__law_name : Stmt := top 13
abbrev st_is_part : Stmt := top 8
abbrev st_parts_of : Stmt := top 9
abbrev st__law_slashes : Stmt := top 15
abbrev st__law_parts : Stmt := top 14
abbrev st__law_path : Stmt := top 16
abbrev st_law : Stmt := top 17
structure Txt (K : PySem.W.Frag) (mg : Str → Option Value) : Prop where
  c_LETTERS : ∃ t, mg "LETTERS" = some (.str "abcdefghijklmnopqrstuvwxyz" t)
  c_MOST_LETTERS : ∃ t, mg "MOST_LETTERS" = some (.int 8 t)
  c_MOST_SIGNS : ∃ t, mg "MOST_SIGNS" = some (.int 2000 t)
  e_NoPath : EF K mg "NoPath"
  z_all : mg "all" = none
  z_isinstance : mg "isinstance" = none
  z_len : mg "len" = none
  z_range : mg "range" = none
  z_str : mg "str" = none
section
variable {P : Program} {w : World} {K : PySem.W.Frag} {mg : Str → Option Value} {base : Heap}
/-! ### names -/
abbrev letters : Str := "abcdefghijklmnopqrstuvwxyz"
/-- one to eight small letters -/
def isNm (z : Str) : Bool := decide (1 ≤ z.length) && (decide (z.length ≤ 8) && z.cps.toList.all fun c => decide (c ∈ letters.cps.toList))
def nameV : V → Bool
  | .str z => isNm z
  | _ => false
/-- a text of a bearable length, or a thing of another kind -/
def Thing (K : PySem.W.Frag) (H : Hp) (x : V) : Prop := match x with
  | .str z => z.length ≤ sizeLine
  | y => ∃ n, TyX K H y (.type n) ∧ kitB n "str" = some false
def pIsName (K : PySem.W.Frag) (x : V) (H : Hp) (Q : VK) (_ : XK) : Prop := Thing K H x ∧ ∀ H', Same H H' → Q (.bl (nameV x)) H'
abbrev spIsName (K : PySem.W.Frag) : Sp := sp1 (pIsName K)
theorem u_isTy {K : PySem.W.Frag} {H : Hp} {Q : VK} {x : V} {n m : String} {r : Bool} (ty : TyX K H x (.type n)) (e : kitB n m = some r) (h : Q (.bl r) H) : rIsiE K [x, .ty m] H Q := s_isE (.ty _) (.x ty) (kit_ty e) h
theorem u_isStr {K : PySem.W.Frag} {H : Hp} {Q : VK} {z : Str} (h : Q (.bl true) H) : rIsiE K [.str z, .ty "str"] H Q := u_isTy (.base (.str z)) (by decide +kernel) h
theorem Thing.not {K : PySem.W.Frag} {H : Hp} {x : V} (t : Thing K H x) (h : ¬ ∃ z, x = .str z) : nameV x = false ∧ ∃ n, TyX K H x (.type n) ∧ kitB n "str" = some false := by
  cases x with
  | str z => exact absurd ⟨z, rfl⟩ h
  | _ => exact ⟨rfl, t⟩
theorem all_map {α : Type} (f : α → Bool) (l : List α) : (l.map f).all id = l.all f := by
  rw [List.all_map]; rfl
/-- small letters alone -/
def Low (z : Str) : Prop := ∀ c ∈ tl z, c ∈ letters.cps.toList
theorem isNm_iff {z : Str} : isNm z = true ↔ (1 ≤ z.length ∧ z.length ≤ 8 ∧ Low z) := by
  simp only [isNm, Bool.and_eq_true, decide_eq_true_eq, List.all_eq_true]
  exact Iff.rfl
theorem isNm_not {z : Str} {c : Nat} (h : c ∈ tl z) (n : ¬ c ∈ letters.cps.toList) : isNm z = false := by
  cases e : isNm z with
  | false => rfl
  | true => exact absurd ((isNm_iff.mp e).2.2 c h) n
theorem len_app (x y : Str) : (x ++ y).length = x.length + y.length := by rw [len_tl, len_tl, len_tl, tl_append, List.length_append]
theorem len_one (c : Nat) : (⟨#[c]⟩ : Str).length = 1 := rfl
theorem low_app {x y : Str} (h1 : Low x) (h2 : Low y) : Low (x ++ y) := fun c hc => by
  rw [tl_append, List.mem_append] at hc
  exact hc.elim (h1 c) (h2 c)
theorem low_one {c : Nat} (h : c ∈ letters.cps.toList) : Low ⟨#[c]⟩ := fun d hd => by
  have e : d = c := by simpa [tl] using hd
  rw [e]; exact h
theorem low_nil {z : Str} (h : tl z = []) : Low z := fun c hc => by rw [h] at hc; cases hc
theorem letters_range {c : Nat} (h : c ∈ letters.cps.toList) : 97 ≤ c ∧ c ≤ 122 := by
  have e := List.all_eq_true.mp (show letters.cps.toList.all (fun c => decide (97 ≤ c ∧ c ≤ 122)) = true by decide +kernel) c h
  exact of_decide_eq_true e
theorem isNm_short {z : Str} (h : ¬ (1 ≤ z.length)) : isNm z = false := by simp [isNm, h]
theorem isNm_long {z : Str} (h : ¬ (z.length ≤ 8)) : isNm z = false := by simp [isNm, h]
theorem isNm_mid {z : Str} (h1 : 1 ≤ z.length) (h2 : z.length ≤ 8) : isNm z = z.cps.toList.all fun c => decide (c ∈ letters.cps.toList) := by simp [isNm, h1, h2]
theorem sc_is_name : FnScope ["text", "sign"] ["text"] (defScope st_is_name) := ⟨rfl, rfl, rfl, by decide +kernel, rfl, by decide +kernel, by decide +kernel⟩
theorem ok_is_name (T : Txt K mg)  {f : Addr} {fd : FuncData} {dvs : List V} (F : FunD K "is_name" "is_name" (defArgs st_is_name) (defBody st_is_name) (defScope st_is_name) dvs [] f fd) : FnOk P w K mg base (L2.CX P w) 1 f fd ["text"] (spIsName K) := by
  refine F.ok sc_is_name (fun vs H Q E h => ?_) (fun cdv A outer s H vs Q E hr h => ?_)
  · exact len1 h
  · obtain ⟨a, rfl, h⟩ := h
    have hu := hu_of hr
    have hu65 := hr.units
    refine ⟨_, ((pss_cons (ps_if (PW.pt (pw_or (pt_not (pt_val (pe_callB (call_isiE (K := K)) (by rfl) T.z_isinstance (by decide +kernel) (pa_cons (pv 0) (pa_cons (pe_bltn (v := .ty "str") (by rfl) T.z_str (by decide +kernel) rfl) pa_nil))))) (pw_or1 (pt_not (pt_chain op_le op_le pe_int (pe_callB (call_lenU (K := K)) (by rfl) T.z_len PySem.boot_len (pa_cons (pv 0) pa_nil)) (pe_gi T.c_MOST_LETTERS)))))) (pss_one (ps_ret pe_bl)) pss_nil)
    (pss_one (ps_ret (pe_callB (cr_allU (K := K)) (by rfl) T.z_all (by decide +kernel) (pa_cons (pe_lc (own := [("sign", 1)]) (g := gName 1) (tt := tYes) rfl sc_is_name.nd (pi_str (pv 0)) (blkOk_by (own := [("sign", 1)]) (N := ["text", "sign"]) (sc := defScope st_is_name) (by decide +kernel)) (fun _ _ _ _ _ => (pg_name (i := 1) sc_is_name.nd rfl (Or.inl rfl))) (fun _ _ _ _ _ => pts_nil) (fun _ _ _ _ _ => (pe_cmpR (op_inU (K := K) hu) (pv 1) (pe_gs T.c_LETTERS) (by rfl)))) pa_nil)))))), ?_⟩
    try dsimp only [cxOf]
    rw [show L2.start ["text", "sign"] [a] = [some a, none] from rfl]
    obtain ⟨ht, k⟩ := h
    by_cases hs : ∃ z, a = .str z
    · obtain ⟨z, rfl⟩ := hs
      have hz : z.length ≤ sizeLine := ht
      have k : ∀ H', Same H H' → Q (.bl (isNm z)) H' := k
      repeat (wtm_at "s")
      refine u_isStr ?_
      repeat (wtm_at "s")
      refine if_f rfl ?_
      repeat (wtm_at "s")
      refine u_lenS hz ?_
      repeat (wtm_at "s")
      refine if_2 (fun h1 => ?_) (fun h1 => ?_)
      · repeat (wtm_at "s")
        have h1 : 1 ≤ z.length := by simp at h1; omega
        refine if_2 (fun h2 => ?_) (fun h2 => ?_)
        · have h2 : ¬ z.length ≤ 8 := by simp at h2; omega
          repeat (wtm_at "s")
          rw [← isNm_long h2]
          exact k H (Same.refl H)
        · have h2 : z.length ≤ 8 := by simp at h2; omega
          repeat (wtm_at "s")
          refine lc_yl yl_str trivial (fun _ _ => trivial) (fun _ => true) (fun x => match x with | .str y => .bl (y.cps.toList.all fun c => decide (c ∈ letters.cps.toList)) | _ => .non) (by rw [signsV_len]; omega) (fun x => rfl) (fun x hx H' s1 q h => t_yes h) (fun x hx _ H' s1 q h => ?_) (fun D H' hD s1 hd => ?_)
          · obtain ⟨c, hc, rfl⟩ := List.mem_map.mp hx
            repeat (wtm_at "s")
            have := h H' (Same.refl _)
            simpa using this
          · have e : (signsV z).filter (fun _ => true) = signsV z := List.filter_eq_self.mpr fun _ _ => rfl
            rw [e] at hd
            repeat (wtm_at "s")
            refine u_all (bs := z.cps.toList.map fun c => decide (c ∈ letters.cps.toList)) (SqL.of (hd.trans ?_)) ?_
            · simp [signsV]
            · rw [all_map, ← isNm_mid h1 h2]
              exact k H' s1
      · have h1 : ¬ 1 ≤ z.length := by simp at h1; omega
        repeat (wtm_at "s")
        refine if_t rfl ?_
        repeat (wtm_at "s")
        rw [← isNm_short h1]
        exact k H (Same.refl H)
    · obtain ⟨e, n, ty, ek⟩ := Thing.not ht hs
      repeat (wtm_at "s")
      refine u_isTy ty ek ?_
      repeat (wtm_at "s")
      refine if_t rfl ?_
      refine if_t rfl ?_
      repeat (wtm_at "s")
      rw [← e]
      exact k H (Same.refl H)
/-! ### rights -/
abbrev goods : List V := [.str "", .str "l", .str "g", .str "w", .str "lg", .str "lw", .str "gw", .str "lgw"]
def rightsV : V → Bool
  | .str z => inV (.str z) goods
  | _ => false
def pIsRights (K : PySem.W.Frag) (x : V) (H : Hp) (Q : VK) (_ : XK) : Prop := Thing K H x ∧ ∀ H', Same H H' → Q (.bl (rightsV x)) H'
theorem Thing.notR {K : PySem.W.Frag} {H : Hp} {x : V} (t : Thing K H x) (h : ¬ ∃ z, x = .str z) : rightsV x = false ∧ ∃ n, TyX K H x (.type n) ∧ kitB n "str" = some false := by
  cases x with
  | str z => exact absurd ⟨z, rfl⟩ h
  | _ => exact ⟨rfl, t⟩
/-! ### the law's draws -/
/-- a state of draws: one number, or three -/
def StOk (xs : List V) : Prop := (∃ n : Int, xs = [.int n]) ∨ ∃ n s c : Int, xs = [.int n, .int s, .int c]
def pDigit (s b : V) (H : Hp) (Q : VK) (_ : XK) : Prop := ∃ (a : Addr) (xs : List V) (n : Int), s = .ref a ∧ b = .int n ∧ H a = some (.lst xs) ∧ StOk xs ∧ 0 < n ∧ n < 1073741824 ∧
  ∀ (r : Int) (xs' : List V) (H' : Hp), 0 ≤ r → r < n → StOk xs' → But a H H' → H' a = some (.lst xs') → Q (.int r) H'
abbrev spDigit : Sp := sp2 pDigit
theorem mod_lt {x : Int} {m : Int} (h : 0 < m) : 0 ≤ x % m ∧ x % m < m := ⟨Int.emod_nonneg _ (by omega), Int.emod_lt_of_pos _ h⟩
theorem sc__law_digit : FnScope ["_law_state", "_law_base", "_law_found", "_law_number"] ["_law_state", "_law_base"] (defScope st__law_digit) := ⟨rfl, rfl, rfl, by decide +kernel, rfl, by decide +kernel, by decide +kernel⟩
theorem ok__law_digit (T : Txt K mg)  {f : Addr} {fd : FuncData} {dvs : List V} (F : FunD K "_law_digit" "_law_digit" (defArgs st__law_digit) (defBody st__law_digit) (defScope st__law_digit) dvs [] f fd) : FnOk P w K mg base (L2.CX P w) 1 f fd ["_law_state", "_law_base"] spDigit := by
  refine F.ok sc__law_digit (fun vs H Q E h => ?_) (fun cdv A outer s H vs Q E hr h => ?_)
  · exact len2 h
  · obtain ⟨a, b, rfl, h⟩ := h
    have hu := hu_of hr
    have hu65 := hr.units
    refine ⟨_, ((Evl.pss_cut (ps_if (pt_cmpR (op_eqU (K := K) hu65) (pe_callB (call_lenU (K := K)) (by rfl) T.z_len PySem.boot_len (pa_cons (pv 0) pa_nil)) pe_int (nomark _)) (pss_one (ps_expr (pe_bm PySem.F.plainAttrs_list PySem.F.slot_list_extend PySem.F.type_list_extend mt_extend (pv 0) (pa_cons (pe_lst (pa_cons (pe_op op_mod (pe_ix (ix_U (K := K)) (pv 0) pe_int (fun _ _ => rfl)) pe_int) (pa_cons pe_int pa_nil))) pa_nil)))) pss_nil)
    (pss_cons (ps_if (pt_cmpR op_gt (pe_ix (ix_U (K := K)) (pv 0) pe_int (fun _ _ => rfl)) pe_int (nomark _)) (pss_cons (ps_set (i := 2) sc__law_digit.nd rfl (by first | exact Or.inl rfl | exact Or.inr rfl) (pe_op op_mod (pe_ix (ix_U (K := K)) (pv 0) pe_int (fun _ _ => rfl)) (pv 1)))
    (pss_cons (ps_asg (pe_op op_fdiv (pe_ix (ix_U (K := K)) (pv 0) pe_int (fun _ _ => rfl)) (pv 1)) (pg_sub (pv 0) pe_int set_list))
    (pss_one (ps_ret (pv 2))))) pss_nil)
    (pss_cons (ps_asg (pe_op (op_addU (K := K)) (pe_ix (ix_U (K := K)) (pv 0) pe_int (fun _ _ => rfl)) pe_int) (pg_sub (pv 0) pe_int set_list))
    (pss_cons (ps_set (i := 3) sc__law_digit.nd rfl (by first | exact Or.inl rfl | exact Or.inr rfl) (pe_op op_mod (pe_op op_mulU (pe_op (op_addU (K := K)) (pe_op (op_addU (K := K)) (pe_ix (ix_U (K := K)) (pv 0) pe_int (fun _ _ => rfl)) (pe_op op_mulU pe_int (pe_ix (ix_U (K := K)) (pv 0) pe_int (fun _ _ => rfl)))) pe_int) pe_int) pe_int))
    (pss_cons (ps_set (i := 3) sc__law_digit.nd rfl (by first | exact Or.inl rfl | exact Or.inr rfl) (pe_op op_mod (pe_op op_mulU (pv 3) (pe_op (op_addU (K := K)) (pe_op op_fdiv (pv 3) pe_int) pe_int)) pe_int))
    (pss_one (ps_ret (pe_op op_mod (pe_op op_mod (pe_op op_mulU (pv 3) (pe_op (op_addU (K := K)) (pe_op op_fdiv (pv 3) pe_int) pe_int)) pe_int) (pv 1)))))))))), ?_⟩
    try dsimp only [cxOf]
    rw [show L2.start ["_law_state", "_law_base", "_law_found", "_law_number"] [a, b] = [some a, some b, none, none] from rfl]
    obtain ⟨p, xs, m, rfl, rfl, hp, so, m0, m1, k⟩ := h
    refine s_cut (fun σ' H1 => ∃ n s c : Int, σ' = [some (.ref p), some (.int m), none, none] ∧ But p H H1 ∧ H1 p = some (.lst [.int n, .int s, .int c])) ?_ ?_
    · wtm_at "r"
      refine u_lenL (SqL.of hp) ?_
      wtm_at "r"
      rcases so with ⟨n, rfl⟩ | ⟨n, s, c, rfl⟩
      · refine if_t rfl ?_
        wtm_at "r"
        refine u_tyL (SqL.of hp) ?_
        wtm_at "r"
        refine ⟨by wtm_at "sz", fun q hq => ?_⟩
        wtm_at "r"
        have npq : p ≠ q := ne_of_none hp hq
        refine u_extend ((upd_ne npq).trans hp) upd_same (by wtm_at "sz") ?_
        wtm_at "r"
        exact ⟨n, _, _, rfl, But.wr (But.of_same (same_new hq)), upd_same⟩
      · refine if_f rfl ?_
        wtm_at "r"
        exact ⟨n, s, c, rfl, But.of_same (Same.refl H), hp⟩
    · rintro σ' H1 ⟨n, s, c, rfl, b1, h1⟩
      wtm_at "r"
      refine if_2 (fun hn => ?_) (fun hn => ?_)
      · wtm_at "r"
        refine u_setL h1 rfl ?_
        wtm_at "r"
        exact k _ _ _ (mod_lt m0).1 (mod_lt m0).2 (.inr ⟨_, s, c, rfl⟩) (But.wr b1) upd_same
      · wtm_at "r"
        refine u_setL h1 rfl ?_
        wtm_at "r"
        exact k _ _ _ (mod_lt m0).1 (mod_lt m0).2 (.inr ⟨n, s, _, rfl⟩) (But.wr b1) upd_same
theorem u_digit {a : Addr} {xs : List V} {n : Int} {H : Hp} {Q : VK} {E : XK} (h1 : H a = some (.lst xs)) (so : StOk xs) (m0 : 0 < n ∧ n < 1073741824)
    (k : ∀ (r : Int) (xs' : List V) (H' : Hp), 0 ≤ r → r < n → StOk xs' → But a H H' → H' a = some (.lst xs') → Q (.int r) H') : pDigit (.ref a) (.int n) H Q E := ⟨a, xs, n, rfl, rfl, h1, so, m0.1, m0.2, k⟩
theorem atI_ex {α : Type} {xs : List α} {r : Int} (h0 : 0 ≤ r) (h1 : r < xs.length) : ∃ v, atI xs r = some v ∧ v ∈ xs := by
  obtain ⟨j, rfl⟩ : ∃ j : Nat, r = (j : Int) := ⟨r.toNat, by omega⟩
  have hj : j < xs.length := by omega
  exact ⟨xs[j], atI_nat (by simp [hj]), List.getElem_mem hj⟩
theorem letters_len : letters.cps.toList.length = 26 := by decide +kernel
def pLName (s : V) (H : Hp) (Q : VK) (_ : XK) : Prop := ∃ (a : Addr) (xs : List V), s = .ref a ∧ H a = some (.lst xs) ∧ StOk xs ∧
  ∀ (z : Str) (xs' : List V) (H' : Hp), isNm z = true → StOk xs' → But a H H' → H' a = some (.lst xs') → Q (.str z) H'
abbrev spLName : Sp := sp1 pLName
theorem u_lname {a : Addr} {xs : List V} {H : Hp} {Q : VK} {E : XK} (h1 : H a = some (.lst xs)) (so : StOk xs)
    (k : ∀ (z : Str) (xs' : List V) (H' : Hp), isNm z = true → StOk xs' → But a H H' → H' a = some (.lst xs') → Q (.str z) H') : pLName (.ref a) H Q E := ⟨a, xs, rfl, h1, so, k⟩
theorem sc__law_name : FnScope ["_law_state", "_law_found", "_law_k"] ["_law_state"] (defScope st__law_name) := ⟨rfl, rfl, rfl, by decide +kernel, rfl, by decide +kernel, by decide +kernel⟩
theorem ok__law_name (T : Txt K mg) (B_F__law_digit : FB P w K mg base (L2.CX P w) 1 "_law_digit" ["_law_state", "_law_base"] [] spDigit) {f : Addr} {fd : FuncData} {dvs : List V} (F : FunD K "_law_name" "_law_name" (defArgs st__law_name) (defBody st__law_name) (defScope st__law_name) dvs [] f fd) : FnOk P w K mg base (L2.CX P w) 2 f fd ["_law_state"] spLName := by
  refine F.ok sc__law_name (fun vs H Q E h => ?_) (fun cdv A outer s H vs Q E hr h => ?_)
  · exact len1 h
  · obtain ⟨a, rfl, h⟩ := h
    have hu := hu_of hr
    have hu65 := hr.units
    refine ⟨_, ((pss_cons (ps_set (i := 1) sc__law_name.nd rfl (by first | exact Or.inl rfl | exact Or.inr rfl) pe_str)
    (pss_cons (ps_for (passes_of rfl) rfl (pi_range1 rfl T.z_range (pa_cons (pe_op (op_addU (K := K)) pe_int (pe_F B_F__law_digit (hr.mono (by decide)) (by exact fun σ => passAt (takes_of rfl rfl rfl rfl) σ) (pa_cons (pv 0) (pa_cons pe_int pa_nil)))) pa_nil)) (pg_name (i := 2) sc__law_name.nd rfl (by first | exact Or.inl rfl | exact Or.inr rfl)) (pss_one (ps_set (i := 1) sc__law_name.nd rfl (by first | exact Or.inl rfl | exact Or.inr rfl) (pe_op (op_addU (K := K)) (pv 1) (pe_ix (ix_U (K := K)) pe_str (pe_F B_F__law_digit (hr.mono (by decide)) (by exact fun σ => passAt (takes_of rfl rfl rfl rfl) σ) (pa_cons (pv 0) (pa_cons pe_int pa_nil))) (fun _ _ => rfl))))))
    (pss_one (ps_ret (pv 1)))))), ?_⟩
    try dsimp only [cxOf]
    rw [show L2.start ["_law_state", "_law_found", "_law_k"] [a] = [some a, none, none] from rfl]
    obtain ⟨p, xs, rfl, hp, so, k⟩ := h
    wtm_at "r"
    refine u_digit hp so (by decide) fun r xs1 H1 r0 r1 so1 b1 h1 => ?_
    wtm_at "r"
    refine u_itR1 (by omega) (by omega) ?_
    refine for_yl yl_range (fun i σ' H' => ∃ z xs' v, σ' = [some (.ref p), some (.str z), v] ∧ z.length = i ∧ Low z ∧ StOk xs' ∧ But p H H' ∧ H' p = some (.lst xs')) ⟨_, xs1, none, rfl, rfl, low_nil rfl, so1, b1, h1⟩ (fun _ _ _ _ _ => trivial) ?_ ?_
    · rintro i x σ' H2 hx ⟨z, xs2, v, rfl, hz, lz, so2, b2, h2⟩
      obtain ⟨hi, rfl⟩ := rangeV_at hx
      wtm_at "r"
      refine u_digit h2 so2 (by decide) fun q xs3 H3 q0 q1 so3 b3 h3 => ?_
      wtm_at "r"
      obtain ⟨c, hc, hm⟩ := atI_ex (xs := letters.cps.toList) q0 (by rw [letters_len]; exact q1)
      refine u_ixS (by decide +kernel) hc ?_
      refine u_add_str ?_ ?_
      · rw [len_one]; wtm_at "sz"
      wtm_at "r"
      exact ⟨_, xs3, _, rfl, by rw [len_app, len_one, hz], low_app lz (low_one hm), so3, b2.trans b3, h3⟩
    · rintro σ' H2 ⟨z, xs2, v, rfl, hz, lz, so2, b2, h2⟩
      rw [rangeV_len] at hz
      wtm_at "r"
      exact k z xs2 H2 (isNm_iff.mpr ⟨by omega, by omega, lz⟩) so2 b2 h2
theorem tl_cut (z : Str) (lo hi : Option Int) : tl (cutS z lo hi) = ((tl z).drop (HT.sIx z.length 0 lo)).take (HT.sIx z.length z.length hi - HT.sIx z.length 0 lo) := rfl
theorem cut_to (z : Str) (k : Nat) : tl (cutS z none (some (k : Int))) = (tl z).take k := by
  rw [tl_cut, HT.sIx_nat]
  show ((tl z).drop 0).take (min k z.length - 0) = _
  rw [List.drop_zero, Nat.sub_zero, len_tl, ← List.take_eq_take_min]
theorem cut_from (z : Str) (k : Nat) : tl (cutS z (some (k : Int)) none) = (tl z).drop k := by
  rw [tl_cut, HT.sIx_nat]
  show ((tl z).drop (min k z.length)).take (z.length - min k z.length) = _
  rw [List.take_of_length_le (by rw [List.length_drop, ← len_tl]; exact Nat.le_refl _)]
  by_cases h : k ≤ z.length
  · rw [Nat.min_eq_left h]
  · rw [Nat.min_eq_right (by omega), List.drop_of_length_le (by rw [← len_tl]; exact Nat.le_refl _), List.drop_of_length_le (by rw [← len_tl]; omega)]

/-! ### paths -/
abbrev slash : Str := "/"
/-- one sign of a path's text goes in: the parts that are done, the part that is begun -/
def pst (s : List (List Nat) × List Nat) (c : Nat) : List (List Nat) × List Nat := if c = 47 then (if s.2 = [] then s.1 else s.1 ++ [s.2], []) else (s.1, s.2 ++ [c])
def pfin (s : List (List Nat) × List Nat) : List (List Nat) := if s.2 = [] then s.1 else s.1 ++ [s.2]
def scan (l : List Nat) : List (List Nat) × List Nat := l.foldl pst ([], [])
/-- the parts of a text, those without signs left out -/
def bits (z : Str) : List (List Nat) := pfin (scan (tl z))
theorem spl_scan : ∀ (l acc : List Nat) (done : List (List Nat)), done ++ (spl [47] 0 acc l).filter (fun p => !p.isEmpty) = pfin (l.foldl pst (done, acc))
  | [], acc, done => by
    rw [spl_nil]
    cases acc with
    | nil => simp [pfin]
    | cons a r => simp [pfin]
  | c :: r, acc, done => by
    rw [List.foldl_cons]
    by_cases h : c = 47
    · subst h
      rw [spl_hit (show pre [47] (47 :: r) = true by simp [pre]), List.filter_cons]
      show done ++ (if (!acc.isEmpty) = true then acc :: (spl [47] 0 [] r).filter (fun p => !p.isEmpty) else (spl [47] 0 [] r).filter (fun p => !p.isEmpty)) = pfin (r.foldl pst (pst (done, acc) 47))
      cases acc with
      | nil =>
        rw [if_neg (by simp)]
        exact spl_scan r [] done
      | cons a b =>
        rw [if_pos (by simp)]
        have e := spl_scan r [] (done ++ [a :: b])
        rw [List.append_assoc] at e
        exact e
    · rw [spl_miss (pre_of_head [] r h)]
      have e : pst (done, acc) c = (done, acc ++ [c]) := if_neg h
      rw [e]
      exact spl_scan r (acc ++ [c]) done
theorem split_bits (z : Str) : ((Txt.split z slash).map tl).filter (fun p => !p.isEmpty) = bits z := by
  rw [split_spl z slash (by decide +kernel) (kind_ok (by decide +kernel)), show tl slash = [47] by decide +kernel]
  exact spl_scan (tl z) [] []
/-- the texts of the parts -/
def strsOf (l : List (List Nat)) : List Str := l.map fun p => ⟨p.toArray⟩
theorem strsOf_tl (l : List Str) : strsOf (l.map tl) = l := by
  unfold strsOf
  rw [List.map_map]
  have : ((fun p : List Nat => (⟨p.toArray⟩ : Str)) ∘ tl) = id := funext fun z => mk_tl z
  rw [this, List.map_id]
theorem tl_strsOf (l : List (List Nat)) : (strsOf l).map tl = l := by
  unfold strsOf
  rw [List.map_map]
  have : (tl ∘ fun p : List Nat => (⟨p.toArray⟩ : Str)) = id := funext fun z => rfl
  rw [this, List.map_id]
def pieces (z : Str) : List Str := strsOf (bits z)
theorem str_empty {z : Str} : z = "" ↔ tl z = [] := ⟨fun e => by rw [e]; decide +kernel, fun e => ext_tl (by rw [e]; decide +kernel)⟩
theorem split_pieces (z : Str) : (Txt.split z slash).filter (fun y => !decide (y = ("" : Str))) = pieces z := by
  unfold pieces
  rw [← split_bits, ← strsOf_tl ((Txt.split z slash).filter _)]
  congr 1
  rw [List.filter_map]
  congr 1
  refine List.filter_congr fun y _ => ?_
  show (!decide (y = ("" : Str))) = !(tl y).isEmpty
  by_cases h : y = ("" : Str)
  · rw [decide_eq_true h, str_empty.mp h]; rfl
  · rw [decide_eq_false h]
    have : tl y ≠ [] := fun e => h (str_empty.mpr e)
    cases q : tl y with
    | nil => exact absurd q this
    | cons a b => rfl
def isPart (z : Str) : Bool := inV (.str z) [.str ".", .str ".."] || isNm z
def goodPath (z : Str) : Bool := decide (1 ≤ z.length) && (decide (z.length ≤ 2000) && (pieces z).all isPart)
def partsOf (z : Str) : List Str := if pieces z ≠ [] ∧ Txt.endswith z slash = true then pieces z ++ [("." : Str)] else pieces z
/-- whether it is from the root, its parts; none: no path -/
def pathS (z : Str) : Option (Bool × List Str) := if goodPath z = true then some (Txt.startswith z slash, partsOf z) else none
def pathV : V → Option (Bool × List Str)
  | .str z => pathS z
  | _ => none
theorem split_len (z : Str) : (Txt.split z slash).length ≤ z.length + 1 := by
  have e := split_spl z slash (by decide +kernel) (kind_ok (by decide +kernel))
  have h : ∀ (l acc : List Nat), (spl [47] 0 acc l).length ≤ l.length + 1 := by
    intro l
    induction l with
    | nil => intro acc; simp [spl_nil]
    | cons c r ih =>
      intro acc
      by_cases hc : c = 47
      · subst hc
        rw [spl_hit (show pre [47] (47 :: r) = true by simp [pre])]
        have := ih []
        simp only [List.length_cons]
        exact Nat.succ_le_succ this
      · rw [spl_miss (pre_of_head [] r hc)]
        exact Nat.le_trans (ih _) (by simp only [List.length_cons]; omega)
  have l1 : (Txt.split z slash).length = (spl (tl slash) 0 [] (tl z)).length := by rw [← e, List.length_map]
  rw [l1, show tl slash = [47] by decide +kernel, len_tl]
  exact h _ _
theorem scan_len : ∀ (l acc : List Nat) (done : List (List Nat)) (n : Nat), acc.length + l.length ≤ n → (∀ p ∈ done, p.length ≤ n) → ∀ p ∈ pfin (l.foldl pst (done, acc)), p.length ≤ n := by
  intro l
  induction l with
  | nil =>
    intro acc done n ha hd p hp
    unfold pfin at hp
    by_cases h : acc = []
    · simp only [List.foldl_nil, h, if_true] at hp
      exact hd p hp
    · simp only [List.foldl_nil, h, if_false, List.mem_append, List.mem_singleton] at hp
      rcases hp with hp | hp
      · exact hd p hp
      · subst hp; simp only [List.length_nil] at ha; omega
  | cons c r ih =>
    intro acc done n ha hd p hp
    rw [List.foldl_cons] at hp
    simp only [List.length_cons] at ha
    by_cases hc : c = 47
    · have e : pst (done, acc) c = (if acc = [] then done else done ++ [acc], []) := if_pos hc
      rw [e] at hp
      refine ih [] _ n (by simp only [List.length_nil]; omega) (fun q hq => ?_) p hp
      by_cases h : acc = []
      · rw [if_pos h] at hq; exact hd q hq
      · rw [if_neg h, List.mem_append, List.mem_singleton] at hq
        rcases hq with hq | hq
        · exact hd q hq
        · subst hq; omega
    · have e : pst (done, acc) c = (done, acc ++ [c]) := if_neg hc
      rw [e] at hp
      exact ih _ _ n (by rw [List.length_append, List.length_singleton]; omega) hd p hp
theorem pieces_len (z y : Str) (hy : y ∈ pieces z) : y.length ≤ z.length := by
  have hm : tl y ∈ bits z := by
    rw [← tl_strsOf (bits z)]
    exact List.mem_map.mpr ⟨y, hy, rfl⟩
  rw [len_tl, len_tl]
  exact scan_len (tl z) [] [] _ (by simp only [List.length_nil]; omega) (fun _ h => by cases h) _ hm
theorem low_ok {z : Str} (h : ∀ c ∈ tl z, c < 128) : PyData.strOk z = true := by
  unfold PyData.strOk
  rw [Array.all_eq_true_iff_forall_mem]
  intro c hc
  have := h c (by rw [← Array.mem_toList_iff] at hc; exact hc)
  simp; omega
theorem isPart_iff {z : Str} : isPart z = true ↔ z = "." ∨ z = ".." ∨ isNm z = true := by
  unfold isPart
  rw [Bool.or_eq_true]
  have : inV (.str z) [.str ".", .str ".."] = true ↔ z = "." ∨ z = ".." := by
    simp only [inV, List.any_cons, List.any_nil, Bool.or_false, Bool.or_eq_true, eqV, beq_iff_eq]
    exact ⟨fun h => h.elim (fun e => .inl e.symm) (fun e => .inr e.symm), fun h => h.elim (fun e => .inl e.symm) (fun e => .inr e.symm)⟩
  rw [this, or_assoc]
/-- a part's signs: letters or dots -/
theorem part_signs {z : Str} (h : isPart z = true) : z.length ≤ 8 ∧ tl z ≠ [] ∧ ∀ c ∈ tl z, c = 46 ∨ (97 ≤ c ∧ c ≤ 122) := by
  rcases isPart_iff.mp h with rfl | rfl | h
  · exact ⟨by decide +kernel, by decide +kernel, fun c hc => .inl (by rw [show tl "." = [46] by decide +kernel] at hc; simpa using hc)⟩
  · exact ⟨by decide +kernel, by decide +kernel, fun c hc => .inl (by rw [show tl ".." = [46, 46] by decide +kernel] at hc; simpa using hc)⟩
  · obtain ⟨h1, h2, h3⟩ := isNm_iff.mp h
    refine ⟨h2, fun e => ?_, fun c hc => .inr (letters_range (h3 c hc))⟩
    rw [len_tl, e] at h1
    simp at h1
theorem part_ok {z : Str} (h : isPart z = true) : PyData.strOk z = true := low_ok fun c hc => by
  have := (part_signs h).2.2 c hc
  omega
theorem Thing.notP {K : PySem.W.Frag} {H : Hp} {x : V} (t : Thing K H x) (h : ¬ ∃ z, x = .str z) : pathV x = none ∧ ∃ n, TyX K H x (.type n) ∧ kitB n "str" = some false := by
  cases x with
  | str z => exact absurd ⟨z, rfl⟩ h
  | _ => exact ⟨rfl, t⟩
def pIsPart (K : PySem.W.Frag) (x : V) (H : Hp) (Q : VK) (_ : XK) : Prop := ∃ z, x = .str z ∧ z.length ≤ sizeLine ∧ ∀ H', Same H H' → Q (.bl (isPart z)) H'
theorem sc_is_part : FnScope ["text"] ["text"] (defScope st_is_part) := ⟨rfl, rfl, rfl, by decide +kernel, rfl, by decide +kernel, by decide +kernel⟩
theorem ok_is_part (T : Txt K mg) (B_F_is_name : FB P w K mg base (L2.CX P w) 1 "is_name" ["text"] [] (spIsName K)) {f : Addr} {fd : FuncData} {dvs : List V} (F : FunD K "is_part" "is_part" (defArgs st_is_part) (defBody st_is_part) (defScope st_is_part) dvs [] f fd) : FnOk P w K mg base (L2.CX P w) 2 f fd ["text"] (sp1 (pIsPart K)) := by
  refine F.ok sc_is_part (fun vs H Q E h => ?_) (fun cdv A outer s H vs Q E hr h => ?_)
  · exact len1 h
  · obtain ⟨a, rfl, h⟩ := h
    have hu := hu_of hr
    have hu65 := hr.units
    refine ⟨_, ((pss_one (ps_ret (pe_or (pe_cmpR (op_inU (K := K) hu) (pv 0) (pe_tup (pa_cons pe_str (pa_cons pe_str pa_nil))) (by rfl)) (pe_one (pe_F B_F_is_name (hr.mono (by decide)) (by exact fun σ => passAt (takes_of rfl rfl rfl rfl) σ) (pa_cons (pv 0) pa_nil))))))), ?_⟩
    try dsimp only [cxOf]
    rw [show L2.start ["text"] [a] = [some a] from rfl]
    obtain ⟨z, rfl, hz, k⟩ := h
    wtm_at "r"
    refine ⟨by wtm_at "sz", fun p hp => ?_⟩
    refine u_inT (SqT.of upd_same) rfl rfl ?_
    wtm_at "r"
    refine if_2 (fun h1 => ?_) (fun h1 => ?_)
    · have e : isPart z = true := by unfold isPart; rw [h1]; rfl
      rw [← e]
      exact k _ (same_new hp)
    · wtm_at "r"
      refine ⟨hz, fun H' s => ?_⟩
      have e : nameV (.str z) = isPart z := by unfold isPart; rw [h1]; rfl
      rw [e]
      exact k H' ((same_new hp).trans s)
def pPartsOf (K : PySem.W.Frag) (x : V) (H : Hp) (Q : VK) (E : XK) : Prop := Thing K H x ∧ (pathV x = none → ∀ H', Same H H' → E (.ref (He.ga K "NoPath")) none H') ∧
  ∀ r ps, pathV x = some (r, ps) → ∀ (t l : Addr) (H' : Hp), Same H H' → H t = none → H l = none → H' t = some (.tup [.bl r, .ref l]) → H' l = some (.lst (ps.map V.str)) → Q (.ref t) H'
theorem sc_parts_of : FnScope ["path", "parts", "part"] ["path"] (defScope st_parts_of) := ⟨rfl, rfl, rfl, by decide +kernel, rfl, by decide +kernel, by decide +kernel⟩
theorem ok_parts_of (T : Txt K mg) (B_F_is_part : FB P w K mg base (L2.CX P w) 2 "is_part" ["text"] [] (sp1 (pIsPart K))) {f : Addr} {fd : FuncData} {dvs : List V} (F : FunD K "parts_of" "parts_of" (defArgs st_parts_of) (defBody st_parts_of) (defScope st_parts_of) dvs [] f fd) : FnOk P w K mg base (L2.CX P w) 3 f fd ["path"] (sp1 (pPartsOf K)) := by
  refine F.ok sc_parts_of (fun vs H Q E h => ?_) (fun cdv A outer s H vs Q E hr h => ?_)
  · exact len1 h
  · obtain ⟨a, rfl, h⟩ := h
    have hu := hu_of hr
    have hu65 := hr.units
    refine ⟨_, ((pss_cons (ps_if (PW.pt (pw_or (pt_not (pt_val (pe_callB (call_isiE (K := K)) (by rfl) T.z_isinstance (by decide +kernel) (pa_cons (pv 0) (pa_cons (pe_bltn (v := .ty "str") (by rfl) T.z_str (by decide +kernel) rfl) pa_nil))))) (pw_or1 (pt_not (pt_chain op_le op_le pe_int (pe_callB (call_lenU (K := K)) (by rfl) T.z_len PySem.boot_len (pa_cons (pv 0) pa_nil)) (pe_gi T.c_MOST_SIGNS)))))) (pss_one (ps_raiseE rfl (takes_of rfl rfl rfl rfl) T.e_NoPath)) pss_nil)
    (pss_cons (ps_setLc (i := 1) (own := [("part", 2)]) (g := gName 2) rfl sc_parts_of.nd rfl rfl (sw_true rfl rfl rfl (by decide +kernel)) (pi_list (pe_m1 PySem.F.slot_str_split PySem.F.type_str_split (mt_splitN) (pv 0) pe_str)) (blkOk_by (own := [("part", 2)]) (N := ["path", "parts", "part"]) (sc := defScope st_parts_of) (by decide +kernel)) (fun _ _ _ _ _ => (pg_name (i := 2) sc_parts_of.nd rfl (Or.inl rfl))) (fun _ _ _ _ _ => pts_one (pt_cmpR (op_neU (K := K) hu65) (pv 2) pe_str (nomark _))) (fun _ _ _ _ _ => (pv 2)))
    (pss_cons (ps_if (pt_not (pt_val (pe_callB (cr_allU (K := K)) (by rfl) T.z_all (by decide +kernel) (pa_cons (pe_lc (own := [("part", 2)]) (g := gName 2) (tt := tYes) rfl sc_parts_of.nd (pi_list (pv 1)) (blkOk_by (own := [("part", 2)]) (N := ["path", "parts", "part"]) (sc := defScope st_parts_of) (by decide +kernel)) (fun _ _ _ _ _ => (pg_name (i := 2) sc_parts_of.nd rfl (Or.inl rfl))) (fun _ _ _ _ _ => pts_nil) (fun _ _ _ _ _ => (pe_F B_F_is_part (hr.mono (by decide)) passE0 (pa_cons (pv 2) pa_nil)))) pa_nil)))) (pss_one (ps_raiseE rfl (takes_of rfl rfl rfl rfl) T.e_NoPath)) pss_nil)
    (pss_cons (ps_if (PW.pt (pw_and (pt_cmpR (op_neU (K := K) hu65) (pv 1) (pe_lst pa_nil) (nomark _)) (pw_and1 (pt_val (pe_m1 PySem.F.slot_str_endswith PySem.F.type_str_endswith (mt_endsN) (pv 0) pe_str))))) (pss_one (ps_expr (pe_bm PySem.F.plainAttrs_list PySem.F.slot_list_append PySem.F.type_list_append mt_append (pv 1) (pa_cons pe_str pa_nil)))) pss_nil)
    (pss_one (ps_ret (pe_tup (pa_cons (pe_m1 PySem.F.slot_str_startswith PySem.F.type_str_startswith (mt_startsN) (pv 0) pe_str) (pa_cons (pv 1) pa_nil)))))))))), ?_⟩
    try dsimp only [cxOf]
    rw [show L2.start ["path", "parts", "part"] [a] = [some a, none, none] from rfl]
    obtain ⟨ht, kE, kQ⟩ := h
    by_cases hs : ∃ z, a = .str z
    · obtain ⟨z, rfl⟩ := hs
      have hz : z.length ≤ sizeLine := ht
      have kE : pathS z = none → ∀ H', Same H H' → E (.ref (He.ga K "NoPath")) none H' := kE
      wtm_at "r"
      refine u_isStr ?_
      wtm_at "r"
      refine if_f rfl ?_
      wtm_at "r"
      refine u_lenS hz ?_
      wtm_at "r"
      refine if_2 (fun h1 => ?_) (fun h1 => ?_)
      · wtm_at "r"
        have h1 : 1 ≤ z.length := by simp at h1; omega
        refine if_2 (fun h2 => ?_) (fun h2 => ?_)
        · have h2 : ¬ z.length ≤ 2000 := by simp at h2; omega
          wtm_at "r"
          refine kE ?_ H (Same.refl H)
          simp [pathS, goodPath, h2]
        · have h2 : z.length ≤ 2000 := by simp at h2; omega
          wtm_at "r"
          refine u_split (by decide +kernel) (by wtm_at "sz") fun L hL => ?_
          refine u_itL (SqL.of upd_same) ?_
          have sL := same_new (o := .lst ((Txt.split z slash).map V.str)) hL
          have hlen := split_len z
          refine lc_yl yl_list (SqL.of upd_same) (fun H' s' => SqL.of (s' _ _ upd_same)) (fun x => match x with | .str y => !decide (y = ("" : Str)) | _ => true) (fun x => x) (by rw [List.length_map]; show (Txt.split z slash).length < _; omega) (fun x => rfl) (fun x hx H' s1 q h => ?_) (fun x hx _ H' s1 q h => ?_) (fun D H1 hD s1 hd => ?_)
          · obtain ⟨y, hy, rfl⟩ := List.mem_map.mp hx
            wtm_at "r"
            exact h H' (Same.refl _)
          · wtm_at "r"
            exact h H' (Same.refl _)
          have ed : ((((Txt.split z slash).map V.str).filter (fun x => match x with | .str y => !decide (y = ("" : Str)) | _ => true)).map fun x => x) = (pieces z).map V.str := by
            rw [List.map_id', List.filter_map, ← split_pieces]
            rfl
          rw [ed] at hd
          have s1' : Same H H1 := sL.trans s1
          have hDH : H D = none := sL.free hD
          have plen : (pieces z).length ≤ 2001 := by
            rw [← split_pieces]
            exact Nat.le_trans (List.length_filter_le _ _) (by omega)
          wtm_at "r"
          refine u_itL (SqL.of hd) ?_
          refine lc_yl yl_list (SqL.of hd) (fun H' s' => SqL.of (s' _ _ hd)) (fun _ => true) (fun x => match x with | .str y => .bl (isPart y) | _ => .non) (by rw [List.length_map]; omega) (fun x => rfl) (fun x hx H' s2 q h => t_yes h) (fun x hx _ H' s2 q h => ?_) (fun D2 H2 hD2 s2 hd2 => ?_)
          · obtain ⟨y, hy, rfl⟩ := List.mem_map.mp hx
            wtm_at "r"
            refine ⟨y, rfl, ?_, fun H'' s3 => h H'' s3⟩
            exact le_line (by have := pieces_len z y hy; omega)
          have ed2 : (((((pieces z).map V.str).filter fun _ => true)).map (fun x => match x with | .str y => V.bl (isPart y) | _ => .non)) = ((pieces z).map isPart).map V.bl := by
            rw [List.filter_eq_self.mpr (fun _ _ => rfl), List.map_map, List.map_map]
            rfl
          rw [ed2] at hd2
          wtm_at "r"
          refine u_all (SqL.of hd2) ?_
          wtm_at "r"
          rw [all_map]
          cases hall : (pieces z).all isPart with
          | false =>
            refine if_t rfl ?_
            wtm_at "r"
            refine kE ?_ H2 (s1'.trans s2)
            simp [pathS, goodPath, hall]
          | true =>
            have hgood : goodPath z = true := by simp [goodPath, h1, h2, hall]
            have hS : pathV (.str z) = some (Txt.startswith z slash, partsOf z) := by
              show pathS z = _
              unfold pathS
              rw [if_pos hgood]
            refine if_f rfl ?_
            wtm_at "r"
            refine ⟨by wtm_at "sz", fun N hN => ?_⟩
            have hd3 := same_new (o := .lst []) hN _ _ (s2 _ _ hd)
            have s3 : Same H _ := (s1'.trans s2).trans (same_new (o := .lst []) hN)
            refine u_neStrs (ss := pieces z) (ts := []) (SqL.of hd3) (SqL.of upd_same) (fun y hy => part_ok (List.all_eq_true.mp hall y hy)) (fun _ h => by cases h) ?_
            wtm_at "r"
            by_cases hp : pieces z = []
            · refine if_f (by rw [hp]; rfl) ?_
              refine if_f rfl ?_
              wtm_at "r"
              have e : partsOf z = pieces z := by unfold partsOf; rw [if_neg (fun h => h.1 hp)]
              refine ⟨by wtm_at "sz", fun t ht => ?_⟩
              refine kQ _ _ hS t D _ (s3.trans (same_new ht)) (s3.free ht) hDH upd_same ?_
              rw [e]
              exact same_new ht _ _ hd3
            · refine if_t (by rw [decide_eq_false hp]; rfl) ?_
              wtm_at "r"
              cases he : Txt.endswith z slash with
              | false =>
                refine if_f rfl ?_
                wtm_at "r"
                have e : partsOf z = pieces z := by unfold partsOf; rw [if_neg (fun h => by rw [he] at h; cases h.2)]
                refine ⟨by wtm_at "sz", fun t ht => ?_⟩
                refine kQ _ _ hS t D _ (s3.trans (same_new ht)) (s3.free ht) hDH upd_same ?_
                rw [e]
                exact same_new ht _ _ hd3
              | true =>
                refine if_t rfl ?_
                wtm_at "r"
                refine u_tyL (SqL.of hd3) ?_
                wtm_at "r"
                refine u_append hd3 (lt_line (by rw [List.length_map]; omega)) ?_
                wtm_at "r"
                have e : partsOf z = pieces z ++ [(".":Str)] := by unfold partsOf; rw [if_pos ⟨hp, he⟩]
                refine ⟨by wtm_at "sz", fun t ht => ?_⟩
                refine kQ _ _ hS t D _ ((Same.wr s3 hDH).trans (same_new ht)) ((Same.wr s3 hDH).free ht) hDH upd_same ?_
                rw [e, List.map_append]
                exact same_new ht _ _ upd_same
      · have h1 : ¬ 1 ≤ z.length := by simp at h1; omega
        wtm_at "r"
        refine if_t rfl ?_
        wtm_at "r"
        refine kE ?_ H (Same.refl H)
        simp [pathS, goodPath, h1]
    · obtain ⟨e, n, ty, ek⟩ := Thing.notP ht hs
      wtm_at "r"
      refine u_isTy ty ek ?_
      wtm_at "r"
      refine if_t rfl ?_
      refine if_t rfl ?_
      wtm_at "r"
      exact kE e H (Same.refl H)
theorem scan_part {p : List Nat} (h : ¬ 47 ∈ p) : ∀ (d : List (List Nat)) (a : List Nat), p.foldl pst (d, a) = (d, a ++ p) := by
  induction p with
  | nil => intro d a; simp
  | cons c r ih =>
    intro d a
    have hc : ¬ c = 47 := fun e => h (by rw [e]; exact List.mem_cons_self)
    have e : pst (d, a) c = (d, a ++ [c]) := if_neg hc
    rw [List.foldl_cons, e, ih (fun q => h (List.mem_cons_of_mem _ q)), List.append_assoc]
    rfl
theorem scan_sl0 : ∀ (n : Nat) (d : List (List Nat)), (List.replicate n 47).foldl pst (d, []) = (d, [])
  | 0, d => rfl
  | n + 1, d => by
    rw [List.replicate_succ, List.foldl_cons]
    have e : pst (d, []) 47 = (d, []) := by simp [pst]
    rw [e, scan_sl0 n d]
theorem scan_sl {n : Nat} (hn : 1 ≤ n) (s : List (List Nat) × List Nat) : (List.replicate n 47).foldl pst s = (pfin s, []) := by
  obtain ⟨m, rfl⟩ : ∃ m, n = m + 1 := ⟨n - 1, by omega⟩
  obtain ⟨d, a⟩ := s
  rw [List.replicate_succ, List.foldl_cons]
  have e : pst (d, a) 47 = (pfin (d, a), []) := by simp [pst, pfin]
  rw [e, scan_sl0 m]
theorem scan_app (l m : List Nat) : scan (l ++ m) = m.foldl pst (scan l) := by unfold scan; rw [List.foldl_append]
/-- a part of a path that is built: not empty, no slash in it -/
def Pc (z : Str) : Prop := tl z ≠ [] ∧ ¬ 47 ∈ tl z ∧ z.length ≤ 20
theorem part_pc {z : Str} (h : isPart z = true) : Pc z := by
  obtain ⟨h1, h2, h3⟩ := part_signs h
  refine ⟨h2, fun hm => ?_, by omega⟩
  have := h3 47 hm
  omega
/-- some slashes -/
def Sl (z : Str) : Prop := ∃ n : Nat, 1 ≤ n ∧ n ≤ 3 ∧ tl z = List.replicate n 47
theorem Sl.len {z : Str} (h : Sl z) : 1 ≤ z.length ∧ z.length ≤ 3 := by
  obtain ⟨n, h1, h2, e⟩ := h
  rw [len_tl, e, List.length_replicate]
  exact ⟨h1, h2⟩
/-- the text z has the parts ps behind one another, the last one at its end -/
def Has (z : Str) (ps : List Str) : Prop := ps ≠ [] ∧ scan (tl z) = (ps.dropLast.map tl, (ps.getLast?.map tl).getD [])
theorem Has.pieces {z : Str} {ps : List Str} (h : Has z ps) (hp : ∀ y ∈ ps, Pc y) : pieces z = ps ∧ ∀ s, Sl s → pieces (z ++ s) = ps := by
  obtain ⟨h1, h2⟩ := h
  obtain ⟨qs, q, rfl⟩ : ∃ qs q, ps = qs ++ [q] := ⟨ps.dropLast, ps.getLast h1, (List.dropLast_concat_getLast h1).symm⟩
  simp only [List.dropLast_concat, List.getLast?_concat, Option.map_some, Option.getD_some] at h2
  have hq : tl q ≠ [] := (hp q (by simp)).1
  have e : pfin (qs.map tl, tl q) = (qs ++ [q]).map tl := by
    unfold pfin
    rw [if_neg hq]
    simp
  refine ⟨?_, fun s hs => ?_⟩
  · unfold LN.pieces bits
    rw [h2, e, strsOf_tl]
  · obtain ⟨n, n1, n2, hs⟩ := hs
    unfold LN.pieces bits
    rw [tl_append, scan_app, h2, hs, scan_sl n1, e]
    exact strsOf_tl _
theorem has_first {y : Str} {s : Str} (hy : Pc y) (hs : s = "" ∨ Sl s) : Has (s ++ y) [y] := by
  refine ⟨by simp, ?_⟩
  rw [tl_append, scan_app]
  have e : scan (tl s) = ([], []) := by
    rcases hs with rfl | ⟨n, n1, n2, e⟩
    · rfl
    · unfold scan
      rw [e, scan_sl0]
  rw [e, scan_part hy.2.1]
  simp
theorem has_more {z s y : Str} {ps : List Str} (h : Has z ps) (hp : ∀ y ∈ ps, Pc y) (hs : Sl s) (hy : Pc y) : Has (z ++ s ++ y) (ps ++ [y]) := by
  obtain ⟨h1, h2⟩ := h
  obtain ⟨qs, q, rfl⟩ : ∃ qs q, ps = qs ++ [q] := ⟨ps.dropLast, ps.getLast h1, (List.dropLast_concat_getLast h1).symm⟩
  simp only [List.dropLast_concat, List.getLast?_concat, Option.map_some, Option.getD_some] at h2
  have hq : tl q ≠ [] := (hp q (by simp)).1
  obtain ⟨n, n1, n2, hs⟩ := hs
  refine ⟨by simp, ?_⟩
  rw [tl_append, tl_append, scan_app, scan_app, h2, hs, scan_sl n1, scan_part hy.2.1]
  simp only [List.dropLast_concat, List.getLast?_concat, Option.map_some, Option.getD_some, List.nil_append]
  unfold pfin
  rw [if_neg hq]
  simp
theorem pieces_sl {z : Str} {n : Nat} (h : tl z = List.replicate n 47) : pieces z = [] := by
  unfold pieces bits scan
  rw [h, scan_sl0]
  rfl
def pSlashes (s : V) (H : Hp) (Q : VK) (_ : XK) : Prop := ∃ (a : Addr) (xs : List V), s = .ref a ∧ H a = some (.lst xs) ∧ StOk xs ∧
  ∀ (z : Str) (xs' : List V) (H' : Hp), Sl z → StOk xs' → But a H H' → H' a = some (.lst xs') → Q (.str z) H'
theorem u_slashes {a : Addr} {xs : List V} {H : Hp} {Q : VK} {E : XK} (h1 : H a = some (.lst xs)) (so : StOk xs)
    (k : ∀ (z : Str) (xs' : List V) (H' : Hp), Sl z → StOk xs' → But a H H' → H' a = some (.lst xs') → Q (.str z) H') : pSlashes (.ref a) H Q E := ⟨a, xs, rfl, h1, so, k⟩
theorem sc__law_slashes : FnScope ["_law_state"] ["_law_state"] (defScope st__law_slashes) := ⟨rfl, rfl, rfl, by decide +kernel, rfl, by decide +kernel, by decide +kernel⟩
theorem ok__law_slashes (T : Txt K mg) (B_F__law_digit : FB P w K mg base (L2.CX P w) 1 "_law_digit" ["_law_state", "_law_base"] [] spDigit) {f : Addr} {fd : FuncData} {dvs : List V} (F : FunD K "_law_slashes" "_law_slashes" (defArgs st__law_slashes) (defBody st__law_slashes) (defScope st__law_slashes) dvs [] f fd) : FnOk P w K mg base (L2.CX P w) 2 f fd ["_law_state"] (sp1 pSlashes) := by
  refine F.ok sc__law_slashes (fun vs H Q E h => ?_) (fun cdv A outer s H vs Q E hr h => ?_)
  · exact len1 h
  · obtain ⟨a, rfl, h⟩ := h
    have hu := hu_of hr
    have hu65 := hr.units
    refine ⟨_, ((pss_one (ps_ret (pe_op op_mulU pe_str (pe_ix (ix_U (K := K)) (pe_lst (pa_cons pe_int (pa_cons pe_int (pa_cons pe_int (pa_cons pe_int (pa_cons pe_int (pa_cons pe_int pa_nil))))))) (pe_F B_F__law_digit (hr.mono (by decide)) (by exact fun σ => passAt (takes_of rfl rfl rfl rfl) σ) (pa_cons (pv 0) (pa_cons pe_int pa_nil))) (fun _ _ => rfl)))))), ?_⟩
    try dsimp only [cxOf]
    rw [show L2.start ["_law_state"] [a] = [some a] from rfl]
    obtain ⟨p, xs, rfl, hp, so, k⟩ := h
    wtm_at "r"
    refine ⟨by wtm_at "sz", fun l hl => ?_⟩
    wtm_at "r"
    have npl : p ≠ l := ne_of_none hp hl
    refine u_digit ((upd_ne npl).trans hp) so (by decide) fun q xs2 H2 q0 q1 so2 b2 h2 => ?_
    wtm_at "r"
    have hL := b2 l _ npl.symm upd_same
    obtain ⟨v, hv, hm⟩ := atI_ex (xs := [V.int 1, .int 1, .int 1, .int 2, .int 3, .int 1]) q0 (by simpa using q1)
    obtain ⟨n, rfl, n1, n2⟩ : ∃ n : Int, v = .int n ∧ 1 ≤ n ∧ n ≤ 3 := by
      simp only [List.mem_cons, List.mem_singleton, List.not_mem_nil, or_false] at hm
      rcases hm with rfl | rfl | rfl | rfl | rfl | rfl
      all_goals exact ⟨_, rfl, by decide, by decide⟩
    refine u_ixL hL hv ?_
    refine u_mulS (by omega) (by decide +kernel) ?_
    refine k _ xs2 H2 ⟨n.toNat, by omega, by omega, ?_⟩ so2 ((But.of_same (same_new hl)).trans b2) h2
    rw [tl_mul, show tl "/" = [47] by decide +kernel]
    exact List.flatten_replicate_singleton
def pLParts (s m : V) (H : Hp) (Q : VK) (_ : XK) : Prop := ∃ (a : Addr) (xs : List V) (n : Int), s = .ref a ∧ m = .int n ∧ 0 ≤ n ∧ n ≤ 1000 ∧ H a = some (.lst xs) ∧ StOk xs ∧
  ∀ (ps : List Str) (p : Addr) (xs' : List V) (H' : Hp), (∀ y ∈ ps, isPart y = true) → ps.length ≤ n.toNat → StOk xs' → But a H H' → H p = none → H' a = some (.lst xs') → H' p = some (.lst (ps.map V.str)) → Q (.ref p) H'
theorem u_lparts {a : Addr} {xs : List V} {n : Int} {H : Hp} {Q : VK} {E : XK} (h0 : 0 ≤ n ∧ n ≤ 1000) (h1 : H a = some (.lst xs)) (so : StOk xs)
    (k : ∀ (ps : List Str) (p : Addr) (xs' : List V) (H' : Hp), (∀ y ∈ ps, isPart y = true) → ps.length ≤ n.toNat → StOk xs' → But a H H' → H p = none → H' a = some (.lst xs') → H' p = some (.lst (ps.map V.str)) → Q (.ref p) H') : pLParts (.ref a) (.int n) H Q E :=
  ⟨a, xs, n, rfl, rfl, h0.1, h0.2, h1, so, k⟩
theorem sc__law_parts : FnScope ["_law_state", "_law_most", "_law_parts_here", "_law_k", "_law_name_here"] ["_law_state", "_law_most"] (defScope st__law_parts) := ⟨rfl, rfl, rfl, by decide +kernel, rfl, by decide +kernel, by decide +kernel⟩
theorem ok__law_parts (T : Txt K mg) (B_F__law_digit : FB P w K mg base (L2.CX P w) 1 "_law_digit" ["_law_state", "_law_base"] [] spDigit) (B_F__law_name : FB P w K mg base (L2.CX P w) 2 "_law_name" ["_law_state"] [] spLName) {f : Addr} {fd : FuncData} {dvs : List V} (F : FunD K "_law_parts" "_law_parts" (defArgs st__law_parts) (defBody st__law_parts) (defScope st__law_parts) dvs [] f fd) : FnOk P w K mg base (L2.CX P w) 3 f fd ["_law_state", "_law_most"] (sp2 pLParts) := by
  refine F.ok sc__law_parts (fun vs H Q E h => ?_) (fun cdv A outer s H vs Q E hr h => ?_)
  · exact len2 h
  · obtain ⟨a, b, rfl, h⟩ := h
    have hu := hu_of hr
    have hu65 := hr.units
    refine ⟨_, ((pss_cons (ps_set (i := 2) sc__law_parts.nd rfl (by first | exact Or.inl rfl | exact Or.inr rfl) (pe_lst pa_nil))
    (pss_cons (ps_for (passes_of rfl) rfl (pi_range1 rfl T.z_range (pa_cons (pe_F B_F__law_digit (hr.mono (by decide)) (by exact fun σ => passAt (takes_of rfl rfl rfl rfl) σ) (pa_cons (pv 0) (pa_cons (pe_op (op_addU (K := K)) (pv 1) pe_int) pa_nil))) pa_nil)) (pg_name (i := 3) sc__law_parts.nd rfl (by first | exact Or.inl rfl | exact Or.inr rfl)) (pss_cons (ps_set (i := 4) sc__law_parts.nd rfl (by first | exact Or.inl rfl | exact Or.inr rfl) (pe_F B_F__law_name (hr.mono (by decide)) (by exact fun σ => passAt (takes_of rfl rfl rfl rfl) σ) (pa_cons (pv 0) pa_nil)))
    (pss_one (ps_expr (pe_bm PySem.F.plainAttrs_list PySem.F.slot_list_append PySem.F.type_list_append mt_append (pv 2) (pa_cons (pe_ix (ix_U (K := K)) (pe_lst (pa_cons (pv 4) (pa_cons (pv 4) (pa_cons (pv 4) (pa_cons pe_str (pa_cons pe_str pa_nil)))))) (pe_F B_F__law_digit (hr.mono (by decide)) (by exact fun σ => passAt (takes_of rfl rfl rfl rfl) σ) (pa_cons (pv 0) (pa_cons pe_int pa_nil))) (fun _ _ => rfl)) pa_nil))))))
    (pss_one (ps_ret (pv 2)))))), ?_⟩
    try dsimp only [cxOf]
    rw [show L2.start ["_law_state", "_law_most", "_law_parts_here", "_law_k", "_law_name_here"] [a, b] = [some a, some b, none, none, none] from rfl]
    obtain ⟨p, xs, n, rfl, rfl, n0, n1, hp, so, k⟩ := h
    wtm_at "r"
    refine ⟨by wtm_at "sz", fun l hl => ?_⟩
    have npl : p ≠ l := ne_of_none hp hl
    wtm_at "r"
    refine u_digit ((upd_ne npl).trans hp) so (by omega) fun r xs1 H1 r0 r1 so1 b1 h1 => ?_
    wtm_at "r"
    refine u_itR1 (by omega) (by omega) ?_
    refine for_yl yl_range (fun i σ' H' => ∃ (ps : List Str) (xs' : List V) (v w : Option V), σ' = [some (.ref p), some (.int n), some (.ref l), v, w] ∧ (∀ y ∈ ps, isPart y = true) ∧ ps.length = i ∧ StOk xs' ∧ But p H H' ∧ H' p = some (.lst xs') ∧ H' l = some (.lst (ps.map V.str)))
      ⟨[], xs1, none, none, rfl, (fun _ h => by cases h), rfl, so1, (But.of_same (same_new hl)).trans b1, h1, b1 l _ npl.symm upd_same⟩ (fun _ _ _ _ _ => trivial) ?_ ?_
    · rintro i x σ' H2 hx ⟨ps, xs2, v, w, rfl, hps, hi, so2, b2, h2, hL⟩
      obtain ⟨hir, rfl⟩ := rangeV_at hx
      wtm_at "r"
      refine u_lname h2 so2 fun z xs3 H3 hz so3 b3 h3 => ?_
      wtm_at "r"
      refine u_tyL (SqL.of (b3 l _ npl.symm hL)) ?_
      wtm_at "r"
      refine ⟨by wtm_at "sz", fun m hm => ?_⟩
      have npm : p ≠ m := ne_of_none h3 hm
      wtm_at "r"
      refine u_digit ((upd_ne npm).trans h3) so3 (by decide) fun q xs4 H4 q0 q1 so4 b4 h4 => ?_
      wtm_at "r"
      obtain ⟨u, hu', hm'⟩ := atI_ex (xs := [V.str z, .str z, .str z, .str ".", .str ".."]) q0 (by simpa using q1)
      obtain ⟨y, rfl, hy⟩ : ∃ y, u = .str y ∧ isPart y = true := by
        simp only [List.mem_cons, List.mem_singleton, List.not_mem_nil, or_false] at hm'
        rcases hm' with rfl | rfl | rfl | rfl | rfl
        · exact ⟨_, rfl, isPart_iff.mpr (.inr (.inr hz))⟩
        · exact ⟨_, rfl, isPart_iff.mpr (.inr (.inr hz))⟩
        · exact ⟨_, rfl, isPart_iff.mpr (.inr (.inr hz))⟩
        · exact ⟨_, rfl, isPart_iff.mpr (.inl rfl)⟩
        · exact ⟨_, rfl, isPart_iff.mpr (.inr (.inl rfl))⟩
      refine u_ixL (b4 m _ npm.symm upd_same) hu' ?_
      wtm_at "r"
      have hL4 : H4 l = some (.lst (ps.map V.str)) := b4 l _ npl.symm (same_new hm _ _ (b3 l _ npl.symm hL))
      refine u_append hL4 (lt_line (by rw [List.length_map]; omega)) ?_
      wtm_at "r"
      refine ⟨ps ++ [y], xs4, _, _, rfl, ?_, by rw [List.length_append, hi]; rfl, so4, ?_, (upd_ne npl).trans h4, by rw [List.map_append]; exact upd_same⟩
      · intro y' hy'
        rcases List.mem_append.mp hy' with h | h
        · exact hps y' h
        · rw [List.mem_singleton.mp h]; exact hy
      · intro b o hb e
        have hbl : b ≠ l := ne_of_none e hl
        rw [upd_ne hbl]
        exact b4 b o hb (same_new hm _ _ (b3 b o hb (b2 b o hb e)))
    · rintro σ' H2 ⟨ps, xs2, v, w, rfl, hps, hi, so2, b2, h2, hL⟩
      rw [rangeV_len] at hi
      wtm_at "r"
      exact k ps l xs2 H2 hps (by omega) so2 b2 hl h2 hL
def pLPath (K : PySem.W.Frag) (b s : V) (H : Hp) (Q : VK) (_ : XK) : Prop := ∃ (a p : Addr) (xs : List V) (ps : List Str), b = .ref p ∧ s = .ref a ∧ p ≠ a ∧ (∀ y ∈ ps, Pc y ∧ PyData.strOk y = true) ∧ ps.length ≤ 20 ∧ H a = some (.lst xs) ∧ StOk xs ∧ H p = some (.lst (ps.map V.str)) ∧
  ∀ (z : Str) (xs' : List V) (H' : Hp), pieces z = ps → 1 ≤ z.length → z.length ≤ 900 → StOk xs' → But a H H' → H' a = some (.lst xs') → Q (.str z) H'
theorem u_lpath {K : PySem.W.Frag} {a p : Addr} {xs : List V} {ps : List Str} {H : Hp} {Q : VK} {E : XK} (n : p ≠ a) (hp : ∀ y ∈ ps, Pc y ∧ PyData.strOk y = true) (hl : ps.length ≤ 20) (h1 : H a = some (.lst xs)) (so : StOk xs) (h2 : H p = some (.lst (ps.map V.str)))
    (k : ∀ (z : Str) (xs' : List V) (H' : Hp), pieces z = ps → 1 ≤ z.length → z.length ≤ 900 → StOk xs' → But a H H' → H' a = some (.lst xs') → Q (.str z) H') : pLPath K (.ref p) (.ref a) H Q E := ⟨a, p, xs, ps, rfl, rfl, n, hp, hl, h1, so, h2, k⟩
theorem part_both {ps : List Str} (h : ∀ y ∈ ps, isPart y = true) : ∀ y ∈ ps, Pc y ∧ PyData.strOk y = true := fun y hy => ⟨part_pc (h y hy), part_ok (h y hy)⟩
theorem sc__law_path : FnScope ["_law_parts_here", "_law_state", "_law_text", "_law_part"] ["_law_parts_here", "_law_state"] (defScope st__law_path) := ⟨rfl, rfl, rfl, by decide +kernel, rfl, by decide +kernel, by decide +kernel⟩
theorem ok__law_path (T : Txt K mg) (B_F__law_slashes : FB P w K mg base (L2.CX P w) 2 "_law_slashes" ["_law_state"] [] (sp1 pSlashes)) (B_F__law_digit : FB P w K mg base (L2.CX P w) 1 "_law_digit" ["_law_state", "_law_base"] [] spDigit) {f : Addr} {fd : FuncData} {dvs : List V} (F : FunD K "_law_path" "_law_path" (defArgs st__law_path) (defBody st__law_path) (defScope st__law_path) dvs [] f fd) : FnOk P w K mg base (L2.CX P w) 3 f fd ["_law_parts_here", "_law_state"] (sp2 (pLPath K)) := by
  refine F.ok sc__law_path (fun vs H Q E h => ?_) (fun cdv A outer s H vs Q E hr h => ?_)
  · exact len2 h
  · obtain ⟨a, b, rfl, h⟩ := h
    have hu := hu_of hr
    have hu65 := hr.units
    refine ⟨_, ((pss_cons (ps_set (i := 2) sc__law_path.nd rfl (by first | exact Or.inl rfl | exact Or.inr rfl) (pe_ix (ix_U (K := K)) (pe_lst (pa_cons pe_str (pa_cons (pe_F B_F__law_slashes (hr.mono (by decide)) (by exact fun σ => passAt (takes_of rfl rfl rfl rfl) σ) (pa_cons (pv 1) pa_nil)) pa_nil))) (pe_F B_F__law_digit (hr.mono (by decide)) (by exact fun σ => passAt (takes_of rfl rfl rfl rfl) σ) (pa_cons (pv 1) (pa_cons pe_int pa_nil))) (fun _ _ => rfl)))
    (pss_cons (ps_if (pt_cmpR (op_eqU (K := K) hu65) (pv 0) (pe_lst pa_nil) (nomark _)) (pss_one (ps_ret (pe_op (op_addU (K := K)) pe_str (pv 2)))) pss_nil)
    (pss_cons (ps_set (i := 2) sc__law_path.nd rfl (by first | exact Or.inl rfl | exact Or.inr rfl) (pe_op (op_addU (K := K)) (pv 2) (pe_ix (ix_U (K := K)) (pv 0) pe_int (fun _ _ => rfl))))
    (pss_cons (ps_for (passes_of rfl) rfl (pi_list (pe_slice (sl_U (K := K)) (pv 0) (po_some pe_int) po_none)) (pg_name (i := 3) sc__law_path.nd rfl (by first | exact Or.inl rfl | exact Or.inr rfl)) (pss_one (ps_set (i := 2) sc__law_path.nd rfl (by first | exact Or.inl rfl | exact Or.inr rfl) (pe_op (op_addU (K := K)) (pe_op (op_addU (K := K)) (pv 2) (pe_F B_F__law_slashes (hr.mono (by decide)) (by exact fun σ => passAt (takes_of rfl rfl rfl rfl) σ) (pa_cons (pv 1) pa_nil))) (pv 3)))))
    (pss_one (ps_ret (pe_op (op_addU (K := K)) (pv 2) (pe_ix (ix_U (K := K)) (pe_lst (pa_cons pe_str (pa_cons pe_str (pa_cons (pe_F B_F__law_slashes (hr.mono (by decide)) (by exact fun σ => passAt (takes_of rfl rfl rfl rfl) σ) (pa_cons (pv 1) pa_nil)) pa_nil)))) (pe_F B_F__law_digit (hr.mono (by decide)) (by exact fun σ => passAt (takes_of rfl rfl rfl rfl) σ) (pa_cons (pv 1) (pa_cons pe_int pa_nil))) (fun _ _ => rfl)))))))))), ?_⟩
    try dsimp only [cxOf]
    rw [show L2.start ["_law_parts_here", "_law_state", "_law_text", "_law_part"] [a, b] = [some a, some b, none, none] from rfl]
    obtain ⟨p, bl, xs, ps, rfl, rfl, nbp, hps, hlen, hp, so, hb, k⟩ := h
    wtm_at "r"
    refine u_slashes hp so fun s1 xs1 H1 hs1 so1 b1 h1 => ?_
    wtm_at "r"
    refine ⟨by wtm_at "sz", fun l hl => ?_⟩
    have npl : p ≠ l := ne_of_none h1 hl
    wtm_at "r"
    refine u_digit ((upd_ne npl).trans h1) so1 (by decide) fun r xs2 H2 r0 r1 so2 b2 h2 => ?_
    wtm_at "r"
    obtain ⟨v, hv, hm⟩ := atI_ex (xs := [V.str "", .str s1]) r0 (by simpa using r1)
    obtain ⟨s, rfl, hs⟩ : ∃ s : Str, v = .str s ∧ (s = "" ∨ Sl s) := by
      simp only [List.mem_cons, List.mem_singleton, List.not_mem_nil, or_false] at hm
      rcases hm with rfl | rfl
      · exact ⟨_, rfl, .inl rfl⟩
      · exact ⟨_, rfl, .inr hs1⟩
    have slen : s.length ≤ 3 := by
      rcases hs with rfl | h
      · decide +kernel
      · exact h.len.2
    refine u_ixL (b2 l _ npl.symm upd_same) hv ?_
    have bb : But p H H2 := b1.trans ((But.of_same (same_new hl)).trans b2)
    have hb2 : H2 bl = some (.lst (ps.map V.str)) := bb bl _ nbp hb
    wtm_at "r"
    refine ⟨by wtm_at "sz", fun e he => ?_⟩
    have npe : p ≠ e := ne_of_none h2 he
    have hb3 := same_new (o := .lst []) he _ _ hb2
    have h3 : upd H2 e (.lst []) p = some (.lst xs2) := (upd_ne npe).trans h2
    have b3 : But p H (upd H2 e (.lst [])) := bb.trans (But.of_same (same_new he))
    refine u_eqStrs (ss := ps) (ts := []) (SqL.of hb3) (SqL.of upd_same) (fun y hy => (hps y hy).2) (fun _ h => by cases h) ?_
    wtm_at "r"
    generalize upd H2 e (.lst []) = H3 at hb3 h3 b3 ⊢
    by_cases hnil : ps = []
    · refine if_t (decide_eq_true hnil) ?_
      wtm_at "r"
      refine u_add_str (by rw [show ("/" : Str).length = 1 by decide +kernel]; wtm_at "sz") ?_
      refine k _ xs2 H3 ?_ ?_ ?_ so2 b3 h3
      · rw [hnil]
        obtain ⟨n, hn⟩ : ∃ n, tl s = List.replicate n 47 := by
          rcases hs with rfl | ⟨n, _, _, e⟩
          · exact ⟨0, by decide +kernel⟩
          · exact ⟨n, e⟩
        refine pieces_sl (n := n + 1) ?_
        rw [tl_append, hn, show tl "/" = [47] by decide +kernel, List.replicate_succ]
        rfl
      · rw [len_app, show ("/" : Str).length = 1 by decide +kernel]; omega
      · rw [len_app, show ("/" : Str).length = 1 by decide +kernel]; omega
    · refine if_f (decide_eq_false hnil) ?_
      obtain ⟨y0, r, rfl⟩ : ∃ y r, ps = y :: r := by
        cases ps with
        | nil => exact absurd rfl hnil
        | cons y r => exact ⟨y, r, rfl⟩
      have hy0 := (hps y0 List.mem_cons_self).1
      wtm_at "r"
      refine u_ixL hb3 (atI_zero _ _) ?_
      refine u_add_str (by have := hy0.2.2; wtm_at "sz") ?_
      wtm_at "r"
      refine u_slL (SqL.of hb3) fun q hq => ?_
      have npq : p ≠ q := ne_of_none h3 hq
      refine u_itL (SqL.of upd_same) ?_
      have ec : cutV ((y0 :: r).map V.str) (some 1) none = r.map V.str := by
        rw [show (some 1 : Option Int) = some ((1 : Nat) : Int) from rfl]
        unfold cutV
        rw [HT.sIx_nat, HT.sIx_none]
        simp
        exact List.take_of_length_le (by simp)
      rw [ec]
      have hq0 : upd H3 q (.lst (r.map V.str)) q = some (.lst (r.map V.str)) := upd_same
      have h4 : upd H3 q (.lst (r.map V.str)) p = some (.lst xs2) := (upd_ne npq).trans h3
      have b4 : But p H (upd H3 q (.lst (r.map V.str))) := b3.trans (But.of_same (same_new hq))
      generalize upd H3 q (.lst (r.map V.str)) = H4 at hq0 h4 b4 ⊢
      refine for_yl yl_list (fun i σ' H' => ∃ (z : Str) (xs' : List V) (v : Option V), σ' = [some (.ref bl), some (.ref p), some (.str z), v] ∧ Has z (y0 :: r.take i) ∧ z.length ≤ 23 + 23 * i ∧ StOk xs' ∧ But p H4 H' ∧ H' p = some (.lst xs'))
        ⟨_, xs2, none, rfl, by simpa using has_first hy0 hs, by rw [len_app]; have := hy0.2.2; omega, so2, fun _ _ _ h => h, h4⟩ (fun i σ' H' _ ⟨_, _, _, _, _, _, _, b, _⟩ => SqL.of (b _ _ npq.symm hq0)) ?_ ?_
      · rintro i x σ' H5 hx ⟨z, xs5, v, rfl, hz, lz, so5, b5, h5⟩
        have hil : i < r.length := by
          have := (List.getElem?_eq_some_iff.mp hx).1
          rwa [List.length_map] at this
        rw [List.getElem?_map] at hx
        obtain ⟨y, hy, rfl⟩ := Option.map_eq_some_iff.mp hx
        have hyr := mem_some hy
        have hyp := (hps y (List.mem_cons_of_mem _ hyr)).1
        wtm_at "r"
        refine u_slashes h5 so5 fun s6 xs6 H6 hs6 so6 b6 h6 => ?_
        simp only [List.length_cons] at hlen
        have l6 := hs6.len.2
        have ly := hyp.2.2
        refine u_add_str (by wtm_at "sz") ?_
        wtm_at "r"
        refine u_add_str (by rw [len_app]; wtm_at "sz") ?_
        wtm_at "r"
        refine ⟨_, xs6, _, rfl, ?_, ?_, so6, b5.trans b6, h6⟩
        · have et : r.take (i + 1) = r.take i ++ [y] := by rw [List.take_succ, hy]; rfl
          rw [et]
          refine has_more (ps := y0 :: r.take i) hz (fun y' h' => ?_) hs6 hyp
          rcases List.mem_cons.mp h' with rfl | h'
          · exact hy0
          · exact (hps y' (List.mem_cons_of_mem _ (List.mem_of_mem_take h'))).1
        · rw [len_app, len_app]; omega
      · rintro σ' H5 ⟨z, xs5, v, rfl, hz, lz, so5, b5, h5⟩
        rw [List.length_map] at lz hz
        rw [List.take_length] at hz
        simp only [List.length_cons] at hlen
        obtain ⟨e1, e2⟩ := hz.pieces fun y' h' => (hps y' h').1
        have z1 : 1 ≤ z.length := by
          have : pieces z ≠ [] := by rw [e1]; simp
          cases q : z.length with
          | zero =>
            have : tl z = [] := List.length_eq_zero_iff.mp (by rw [← len_tl, q])
            have : pieces z = [] := by unfold pieces bits scan; rw [this]; rfl
            contradiction
          | succ n => omega
        wtm_at "r"
        refine u_slashes h5 so5 fun s6 xs6 H6 hs6 so6 b6 h6 => ?_
        wtm_at "r"
        refine ⟨by wtm_at "sz", fun m hm => ?_⟩
        have npm : p ≠ m := ne_of_none h6 hm
        wtm_at "r"
        refine u_digit ((upd_ne npm).trans h6) so6 (by decide) fun d xs7 H7 d0 d1 so7 b7 h7 => ?_
        wtm_at "r"
        obtain ⟨v, hv, hm'⟩ := atI_ex (xs := [V.str "", .str "", .str s6]) d0 (by simpa using d1)
        have b7' : But p H H7 := b4.trans (b5.trans (b6.trans ((But.of_same (same_new hm)).trans b7)))
        have hm7 := b7 m _ npm.symm upd_same
        have l6 := hs6.len.2
        simp only [List.mem_cons, List.mem_singleton, List.not_mem_nil, or_false] at hm'
        have hmt : v = .str "" ∨ v = .str s6 := by
          rcases hm' with h | h | h
          · exact .inl h
          · exact .inl h
          · exact .inr h
        rcases hmt with rfl | rfl
        · refine u_ixL hm7 hv ?_
          refine u_add_str (by rw [show ("" : Str).length = 0 by decide +kernel]; wtm_at "sz") ?_
          have ez : z ++ ("" : Str) = z := ext_tl (by rw [tl_append, show tl "" = [] by decide +kernel, List.append_nil])
          rw [ez]
          exact k z xs7 H7 e1 z1 (by omega) so7 b7' h7
        · refine u_ixL hm7 hv ?_
          refine u_add_str (by wtm_at "sz") ?_
          exact k _ xs7 H7 (e2 s6 hs6) (by rw [len_app]; omega) (by rw [len_app]; omega) so7 b7' h7
theorem scan_mem : ∀ (l : List Nat) (d : List (List Nat)) (a : List Nat) (c : Nat), c ≠ 47 → (c ∈ l ∨ c ∈ a ∨ ∃ p ∈ d, c ∈ p) → ∃ p ∈ pfin (l.foldl pst (d, a)), c ∈ p
  | [], d, a, c, _, h => by
    show ∃ p ∈ (if a = [] then d else d ++ [a]), c ∈ p
    rcases h with h | h | ⟨p, hp, h⟩
    · cases h
    · rw [if_neg (fun e => by rw [e] at h; cases h)]
      exact ⟨a, by simp, h⟩
    · by_cases e : a = []
      · rw [if_pos e]; exact ⟨p, hp, h⟩
      · rw [if_neg e]; exact ⟨p, List.mem_append_left _ hp, h⟩
  | x :: r, d, a, c, hc, h => by
    rw [List.foldl_cons]
    by_cases hx : x = 47
    · have e : pst (d, a) x = (if a = [] then d else d ++ [a], []) := if_pos hx
      rw [e]
      refine scan_mem r _ _ c hc ?_
      rcases h with h | h | ⟨p, hp, h⟩
      · rcases List.mem_cons.mp h with h | h
        · exact absurd (h.trans hx) hc
        · exact .inl h
      · rw [if_neg (fun e => by rw [e] at h; cases h)]
        exact .inr (.inr ⟨a, by simp, h⟩)
      · refine .inr (.inr ⟨p, ?_, h⟩)
        by_cases e : a = []
        · rw [if_pos e]; exact hp
        · rw [if_neg e]; exact List.mem_append_left _ hp
    · have e : pst (d, a) x = (d, a ++ [x]) := if_neg hx
      rw [e]
      refine scan_mem r _ _ c hc ?_
      rcases h with h | h | h
      · rcases List.mem_cons.mp h with h | h
        · exact .inr (.inl (by rw [h]; simp))
        · exact .inl h
      · exact .inr (.inl (List.mem_append_left _ h))
      · exact .inr (.inr h)

theorem slash_mk : (slash : Str) = ⟨#[47]⟩ := by decide +kernel
theorem starts_first {z : Str} {c : Nat} (h : (tl z)[0]? = some c) : Txt.startswith z slash = decide ((⟨#[c]⟩ : Str) = slash) := by
  rw [Bool.eq_iff_iff, decide_eq_true_eq]
  unfold Txt.startswith
  rw [Bool.and_eq_true, decide_eq_true_eq, slash_mk]
  have q := StrLaws.subAt_one z 47 0
  rw [show (tl z) = z.cps.toList from rfl] at h
  rw [h] at q
  refine Iff.trans q ?_
  simp
theorem ends_last {z : Str} {c : Nat} (h : (tl z).getLast? = some c) : Txt.endswith z slash = decide ((⟨#[c]⟩ : Str) = slash) := by
  rw [Bool.eq_iff_iff, decide_eq_true_eq]
  unfold Txt.endswith
  rw [Bool.and_eq_true, decide_eq_true_eq, slash_mk]
  have q := StrLaws.subAt_one z 47 (z.length - 1)
  have hl : (tl z)[z.length - 1]? = some c := by rw [← h, List.getLast?_eq_getElem?, len_tl]
  rw [show (tl z) = z.cps.toList from rfl] at hl
  rw [hl] at q
  have z1 : 1 ≤ z.length := by
    rw [len_tl]
    cases e : tl z with
    | nil => rw [e] at h; cases h
    | cons a r => simp
  rw [show (⟨#[47]⟩ : Str).length = 1 from rfl] at q ⊢
  constructor
  · intro ⟨h1, h2⟩
    have := q.mp ⟨by omega, h2⟩
    simp at this
    rw [this]
  · intro e
    have : c = 47 := by simpa using e
    have := q.mpr (by rw [this])
    exact ⟨by omega, this.2⟩
theorem nonempty_ends {z : Str} (h : 1 ≤ z.length) : ∃ c d, (tl z)[0]? = some c ∧ (tl z).getLast? = some d := by
  rw [len_tl] at h
  cases e : tl z with
  | nil => rw [e] at h; simp at h
  | cons a r => exact ⟨a, (a :: r).getLast (by simp), rfl, by rw [List.getLast?_eq_some_getLast]⟩
theorem good_iff {z : Str} : goodPath z = true ↔ 1 ≤ z.length ∧ z.length ≤ 2000 ∧ ∀ y ∈ pieces z, isPart y = true := by
  unfold goodPath
  rw [Bool.and_eq_true, Bool.and_eq_true, decide_eq_true_eq, decide_eq_true_eq, List.all_eq_true]
theorem Has.slashes {z s : Str} {ps : List Str} {n : Nat} (h : Has z ps) (hp : ∀ y ∈ ps, Pc y) (hn : 1 ≤ n) (hs : tl s = List.replicate n 47) : LN.pieces (z ++ s) = ps := by
  obtain ⟨h1, h2⟩ := h
  obtain ⟨qs, q, rfl⟩ : ∃ qs q, ps = qs ++ [q] := ⟨ps.dropLast, ps.getLast h1, (List.dropLast_concat_getLast h1).symm⟩
  simp only [List.dropLast_concat, List.getLast?_concat, Option.map_some, Option.getD_some] at h2
  have hq : tl q ≠ [] := (hp q (by simp)).1
  have e : pfin (qs.map tl, tl q) = (qs ++ [q]).map tl := by
    unfold pfin
    rw [if_neg hq]
    simp
  unfold LN.pieces bits
  rw [tl_append, scan_app, h2, hs, scan_sl hn, e]
  exact strsOf_tl _
theorem scan_join : ∀ (ps : List Str) (d : List (List Nat)), ps ≠ [] → (∀ y ∈ ps, Pc y) → (joinL [47] (ps.map tl)).foldl pst (d, []) = (d ++ ps.dropLast.map tl, (ps.getLast?.map tl).getD [])
  | [], _, h, _ => absurd rfl h
  | [y], d, _, hp => by
    show (tl y).foldl pst (d, []) = _
    rw [scan_part (hp y (by simp)).2.1]
    simp
  | y :: x :: r, d, _, hp => by
    have hy := hp y (by simp)
    have ih := scan_join (x :: r) (d ++ [tl y]) (by simp) (fun w hw => hp w (List.mem_cons_of_mem _ hw))
    show (tl y ++ ([47] ++ joinL [47] ((x :: r).map tl))).foldl pst (d, []) = _
    rw [List.foldl_append, scan_part hy.2.1, List.foldl_append]
    have e : ([47] : List Nat).foldl pst (d, [] ++ tl y) = (d ++ [tl y], []) := by
      show pst (d, [] ++ tl y) 47 = _
      simp [pst, hy.1]
    rw [e, ih]
    simp
theorem has_join {ps : List Str} (h : ps ≠ []) (hp : ∀ y ∈ ps, Pc y) : Has (Txt.join slash ps) ps := by
  refine ⟨h, ?_⟩
  rw [join_eq, tl_join, show tl slash = [47] by decide +kernel]
  have := scan_join ps [] h hp
  rw [List.nil_append] at this
  exact this
theorem join_len (y : Str) : ∀ n : Nat, (Txt.join slash (List.replicate (n + 1) y)).length = (n + 1) * (y.length + 1) - 1 := by
  intro n
  rw [join_eq, len_tl, tl_join, show tl slash = [47] by decide +kernel]
  induction n with
  | zero => simp [joinL, len_tl]
  | succ n ih =>
    show (tl y ++ ([47] ++ joinL [47] ((List.replicate (n + 1) y).map tl))).length = _
    rw [List.length_append, List.length_append, ih, ← len_tl, List.length_singleton]
    have e : (n + 1 + 1) * (y.length + 1) = (n + 1) * (y.length + 1) + (y.length + 1) := by rw [Nat.succ_mul]
    rw [e]
    have : 1 ≤ (n + 1) * (y.length + 1) := Nat.mul_pos (by omega) (by omega)
    omega
theorem good_of {z : Str} {ps : List Str} (e : pieces z = ps) (h1 : 1 ≤ z.length) (h2 : z.length ≤ 2000) (hp : ∀ y ∈ ps, isPart y = true) : goodPath z = true := good_iff.mpr ⟨h1, h2, fun y hy => hp y (by rw [← e]; exact hy)⟩
theorem flat_one (n : Nat) (y : Str) : (List.replicate n [V.str y]).flatten = (List.replicate n y).map V.str := by
  rw [List.flatten_replicate_singleton, List.map_replicate]
theorem sum_rep (n : Nat) (y : Str) : ((List.replicate n y).map (·.length)).sum = n * y.length := by
  rw [List.map_replicate, List.sum_replicate_nat]
theorem mul_sl (n : Nat) (hn : (n : Int) < 10000) : tl (Txt.mul slash (n : Int)) = List.replicate n 47 := by
  rw [tl_mul, show tl slash = [47] by decide +kernel, List.flatten_replicate_singleton]
  rfl
theorem slash_len : ("/" : Str).length = 1 := by decide +kernel
theorem mul_sl_len (n : Nat) (hn : (n : Int) < 10000) : (Txt.mul slash (n : Int)).length = n := by
  rw [len_tl, mul_sl n hn, List.length_replicate]

theorem scan_pre : ∀ (l : List Nat) (d : List (List Nat)) (a : List Nat), l.foldl pst (d, a) = (d ++ (l.foldl pst ([], a)).1, (l.foldl pst ([], a)).2)
  | [], d, a => by simp
  | c :: r, d, a => by
    rw [List.foldl_cons, List.foldl_cons]
    by_cases hc : c = 47
    · have e : ∀ d', pst (d', a) c = (if a = [] then d' else d' ++ [a], []) := fun d' => if_pos hc
      rw [e, e, scan_pre r _ [], scan_pre r (if a = [] then [] else [] ++ [a]) []]
      by_cases ha : a = []
      · rw [if_pos ha, if_pos ha]; simp
      · rw [if_neg ha, if_neg ha]; simp
    · have e : ∀ d', pst (d', a) c = (d', a ++ [c]) := fun d' => if_neg hc
      rw [e, e]
      exact scan_pre r _ _
theorem pfin_pre (d : List (List Nat)) (x : List (List Nat) × List Nat) : pfin (d ++ x.1, x.2) = d ++ pfin x := by
  unfold pfin
  by_cases h : x.2 = []
  · rw [if_pos h, if_pos h]
  · rw [if_neg h, if_neg h, List.append_assoc]
theorem pieces_cat {z s w : Str} {n : Nat} (hn : 1 ≤ n) (hs : tl s = List.replicate n 47) : pieces (z ++ s ++ w) = pieces z ++ pieces w := by
  have e : bits (z ++ s ++ w) = bits z ++ bits w := by
    unfold bits
    rw [tl_append, tl_append, scan_app, scan_app, hs, scan_sl hn, scan_pre, pfin_pre]
    rfl
  unfold pieces
  rw [e]
  exact List.map_append
theorem slash_only {w : Str} (h : pieces w = []) : ∀ c ∈ tl w, c = 47 := fun c hc => by
  by_cases e : c = 47
  · exact e
  · obtain ⟨p, hp, _⟩ := scan_mem (tl w) [] [] c e (.inl hc)
    have : (⟨p.toArray⟩ : Str) ∈ pieces w := List.mem_map.mpr ⟨p, hp, rfl⟩
    rw [h] at this
    cases this
theorem starts_cat {z w : Str} (h : 1 ≤ z.length) : Txt.startswith (z ++ w) slash = Txt.startswith z slash := by
  obtain ⟨c, d, hc, hd⟩ := nonempty_ends h
  rw [starts_first hc, starts_first (c := c)]
  rw [tl_append, List.getElem?_append_left (by rw [← len_tl]; exact h)]
  exact hc
theorem ends_cat {z w : Str} (h : 1 ≤ w.length) : Txt.endswith (z ++ w) slash = Txt.endswith w slash := by
  obtain ⟨c, d, hc, hd⟩ := nonempty_ends h
  rw [ends_last hd, ends_last (c := d)]
  rw [tl_append, List.getLast?_append, hd]
  rfl
theorem ends_iff {z : Str} {c : Nat} (h : (tl z).getLast? = some c) : Txt.endswith z slash = true ↔ c = 47 := by
  rw [ends_last h, decide_eq_true_eq, slash_mk]
  simp
theorem parts_cat {z s w : Str} (hw : 1 ≤ w.length) (hs : Sl s) : partsOf (z ++ s ++ w) = pieces z ++ (if partsOf w = [] ∧ pieces z ≠ [] then [("." : Str)] else partsOf w) := by
  obtain ⟨n, h1, _, e⟩ := hs
  have ep := pieces_cat (z := z) (w := w) h1 e
  have ee : Txt.endswith (z ++ s ++ w) slash = Txt.endswith w slash := ends_cat hw
  have e1 : partsOf (z ++ s ++ w) = if pieces z ++ pieces w ≠ [] ∧ Txt.endswith w slash = true then pieces z ++ pieces w ++ [("." : Str)] else pieces z ++ pieces w := by unfold partsOf; rw [ep, ee]
  rw [e1]
  by_cases hp : pieces w = []
  · obtain ⟨c, d, hc, hd⟩ := nonempty_ends hw
    have ht : Txt.endswith w slash = true := (ends_iff hd).mpr (slash_only hp d (List.mem_of_getLast? hd))
    have e2 : partsOf w = [] := by unfold partsOf; rw [if_neg (fun h => h.1 hp), hp]
    rw [hp, ht, e2, List.append_nil]
    by_cases hz : pieces z = []
    · rw [hz]; simp
    · have r : (if ([] : List Str) = [] ∧ pieces z ≠ [] then [("." : Str)] else []) = [("." : Str)] := if_pos ⟨rfl, hz⟩
      rw [r, if_pos ⟨hz, rfl⟩]
  · have e3 : pieces z ++ pieces w ≠ [] := by simp [hp]
    have e4 : partsOf w ≠ [] := by
      unfold partsOf
      split
      · simp
      · exact hp
    have r : (if partsOf w = [] ∧ pieces z ≠ [] then [("." : Str)] else partsOf w) = partsOf w := if_neg (fun h => e4 h.1)
    rw [r]
    by_cases ht : Txt.endswith w slash = true
    · have a : partsOf w = pieces w ++ [("." : Str)] := by unfold partsOf; rw [if_pos ⟨hp, ht⟩]
      rw [a, if_pos ⟨e3, ht⟩, List.append_assoc]
    · have a : partsOf w = pieces w := by unfold partsOf; rw [if_neg (fun h => ht h.2)]
      rw [a, if_neg (fun h => ht h.2)]
theorem joinL_len (k : Nat) : ∀ ps : List Str, (∀ y ∈ ps, y.length ≤ k) → (joinL [47] (ps.map tl)).length ≤ ps.length * (k + 1)
  | [], _ => by simp [joinL]
  | [y], h => by
    have := h y (by simp)
    rw [len_tl] at this
    show (tl y).length ≤ _
    simp only [List.length_singleton]
    omega
  | y :: x :: r, h => by
    have ih := joinL_len k (x :: r) fun w hw => h w (List.mem_cons_of_mem _ hw)
    have := h y (by simp)
    rw [len_tl] at this
    show (tl y ++ ([47] ++ joinL [47] ((x :: r).map tl))).length ≤ _
    rw [List.length_append, List.length_append, List.length_singleton]
    have e : (y :: x :: r).length * (k + 1) = (x :: r).length * (k + 1) + (k + 1) := by rw [List.length_cons, Nat.succ_mul]
    omega
theorem join_len2 {ps : List Str} {k : Nat} (h : ∀ y ∈ ps, y.length ≤ k) : (Txt.join slash ps).length ≤ ps.length * (k + 1) := by
  rw [join_eq, len_tl, tl_join, show tl slash = [47] by decide +kernel]
  exact joinL_len k ps h
/-- the parts ps joined by slashes, and with a slash ahead -/
theorem join_path {ps : List Str} (h : ps ≠ []) (hp : ∀ y ∈ ps, isPart y = true) (hl : ps.length ≤ 200) : pathS (Txt.join slash ps) = some (false, ps) := by
  have hpc : ∀ y ∈ ps, Pc y := fun y hy => part_pc (hp y hy)
  have hj := has_join h hpc
  obtain ⟨e1, _⟩ := hj.pieces hpc
  have h8 : ∀ y ∈ ps, y.length ≤ 8 := fun y hy => (part_signs (hp y hy)).1
  have l2 := join_len2 h8
  obtain ⟨y, r, rfl⟩ : ∃ y r, ps = y :: r := by
    cases ps with
    | nil => exact absurd rfl h
    | cons y r => exact ⟨y, r, rfl⟩
  obtain ⟨n1, n2, n3⟩ := hpc y (by simp)
  obtain ⟨c, t, hc⟩ : ∃ c t, tl y = c :: t := by
    cases q : tl y with
    | nil => exact absurd q n1
    | cons c t => exact ⟨c, t, rfl⟩
  have htl : ∃ m, tl (Txt.join slash (y :: r)) = c :: m := by
    rw [join_eq, tl_join, show tl slash = [47] by decide +kernel]
    cases r with
    | nil => exact ⟨t, hc⟩
    | cons x r =>
      refine ⟨t ++ ([47] ++ joinL [47] ((x :: r).map tl)), ?_⟩
      show tl y ++ ([47] ++ joinL [47] ((x :: r).map tl)) = _
      rw [hc]; rfl
  obtain ⟨m, hm⟩ := htl
  have z1 : 1 ≤ (Txt.join slash (y :: r)).length := by rw [len_tl, hm]; simp
  have hs : Txt.startswith (Txt.join slash (y :: r)) slash = false := by
    rw [starts_first (c := c) (by rw [hm]; rfl)]
    refine decide_eq_false fun e => n2 ?_
    rw [slash_mk] at e
    have : c = 47 := by simpa using e
    rw [hc, this]; simp
  have he : Txt.endswith (Txt.join slash (y :: r)) slash = false := by
    obtain ⟨c', d, _, hd⟩ := nonempty_ends z1
    cases q : Txt.endswith (Txt.join slash (y :: r)) slash with
    | false => rfl
    | true =>
      have h47 := (ends_iff hd).mp q
      subst h47
      obtain ⟨l', hl'⟩ := List.getLast?_eq_some_iff.mp hd
      have e2 : (scan (tl (Txt.join slash (y :: r)))).2 = [] := by
        rw [hl', scan_app]
        show (pst (scan l') 47).2 = []
        simp [pst]
      rw [hj.2] at e2
      obtain ⟨q, hq⟩ : ∃ q, (y :: r).getLast? = some q := ⟨_, List.getLast?_eq_some_getLast (by simp)⟩
      rw [hq] at e2
      exact absurd e2 (hpc q (List.mem_of_getLast? hq)).1
  unfold pathS
  rw [if_pos (good_of e1 z1 (by omega) hp), hs]
  unfold partsOf
  rw [if_neg (fun h => by rw [he] at h; cases h.2), e1]
theorem join_root {ps : List Str} (hp : ∀ y ∈ ps, isPart y = true) (hl : ps.length ≤ 200) : pathS (slash ++ Txt.join slash ps) = some (true, ps) := by
  have h8 : ∀ y ∈ ps, y.length ≤ 8 := fun y hy => (part_signs (hp y hy)).1
  have l2 := join_len2 h8
  have ls : (slash : Str).length = 1 := by decide +kernel
  have hs : Txt.startswith (slash ++ Txt.join slash ps) slash = true := by rw [starts_cat (by rw [ls]; exact Nat.le_refl 1)]; decide +kernel
  by_cases h : ps = []
  · subst h
    decide +kernel
  · have hj := join_path h hp hl
    unfold pathS at hj
    split at hj
    · rename_i hg
      obtain ⟨g1, g2, g3⟩ := good_iff.mp hg
      injection hj with hj
      injection hj with hj1 hj2
      have hpc : ∀ y ∈ ps, Pc y := fun y hy => part_pc (hp y hy)
      have q : Has (slash ++ Txt.join slash ps) ps := by
        refine ⟨h, ?_⟩
        rw [tl_append, scan_app, show tl slash = [47] by decide +kernel, show scan [47] = ([], []) by decide +kernel]
        exact (has_join h hpc).2
      have e1 := (q.pieces hpc).1
      have ee : Txt.endswith (slash ++ Txt.join slash ps) slash = false := by
        rw [ends_cat g1]
        cases q2 : Txt.endswith (Txt.join slash ps) slash with
        | false => rfl
        | true =>
          have ep := ((has_join h hpc).pieces hpc).1
          unfold partsOf at hj2
          rw [ep, if_pos ⟨h, q2⟩] at hj2
          have := congrArg List.length hj2
          simp at this
      unfold pathS
      rw [if_pos (good_of e1 (by rw [len_app, ls]; omega) (by rw [len_app, ls]; omega) hp), hs]
      unfold partsOf
      rw [if_neg (fun h => by rw [ee] at h; cases h.2), e1]
    · cases hj
theorem cutV_neg1 (xs : List V) (v : V) : cutV (xs ++ [v]) none (some (-1)) = xs := by
  have e : HT.sIx (xs ++ [v]).length (xs ++ [v]).length (some (-1)) = xs.length := by
    rw [List.length_append, List.length_singleton]
    simp [HT.sIx]
    omega
  unfold cutV
  rw [e]
  show ((xs ++ [v]).drop 0).take (xs.length - 0) = xs
  simp
theorem sum_len {ps : List Str} {k : Nat} (h : ∀ y ∈ ps, y.length ≤ k) : (ps.map (·.length)).sum ≤ ps.length * k := by
  induction ps with
  | nil => simp
  | cons y r ih =>
    have := h y (by simp)
    have := ih fun w hw => h w (List.mem_cons_of_mem _ hw)
    rw [List.map_cons, List.sum_cons, List.length_cons, Nat.succ_mul]
    omega
def spLaw (K : PySem.W.Frag) : V → Hp → VK → XK → Prop := fun x H Q _ => ∃ (a : Addr) (ns : List Int), x = .ref a ∧ SqL K H a (ns.map V.int) ∧ ns.length ≤ 63 ∧ ∀ H', Q (.bl true) H'
theorem sc_law : FnScope ["_law_script", "_law_cell", "_law_state", "_law_one", "_law_other", "_law_rooted", "_law_parts_here", "_law_more", "_law_path_here"] ["_law_script"] (defScope st_law) := ⟨rfl, rfl, rfl, by decide +kernel, rfl, by decide +kernel, by decide +kernel⟩
theorem ok_law (T : Txt K mg) (B_F_parts_of : FB P w K mg base (L2.CX P w) 3 "parts_of" ["path"] [] (sp1 (pPartsOf K))) (B_F__law_slashes : FB P w K mg base (L2.CX P w) 2 "_law_slashes" ["_law_state"] [] (sp1 pSlashes)) (B_F__law_path : FB P w K mg base (L2.CX P w) 3 "_law_path" ["_law_parts_here", "_law_state"] [] (sp2 (pLPath K))) (B_F__law_parts : FB P w K mg base (L2.CX P w) 3 "_law_parts" ["_law_state", "_law_most"] [] (sp2 pLParts)) {f : Addr} {fd : FuncData} {dvs : List V} (F : FunD K "law" "law" (defArgs st_law) (defBody st_law) (defScope st_law) dvs [] f fd) : FnOk P w K mg base CX0 4 f fd ["_law_script"] (sp1 (spLaw K)) := by
  refine F.ok sc_law (fun vs H Q E h => ?_) (fun cdv A outer s H vs Q E hr h => ?_)
  · exact len1 h
  · obtain ⟨a, rfl, h⟩ := h
    have hu := hu_of hr
    have hu65 := hr.units
    refine ⟨_, PSs.nox ((pss_cons (ps_for PassesOwn.never rfl (pi_list (pe_op (op_addU (K := K)) (pe_lst (pa_cons pe_int pa_nil)) (pe_slice (sl_U (K := K)) (pv 0) po_none (po_some pe_int)))) (pg_name (i := 1) sc_law.nd rfl (by first | exact Or.inl rfl | exact Or.inr rfl)) (pss_cons (ps_set (i := 2) sc_law.nd rfl (by first | exact Or.inl rfl | exact Or.inr rfl) (pe_lst (pa_cons (pv 1) pa_nil)))
    (pss_cons (ps_set (i := 3) sc_law.nd rfl (by first | exact Or.inl rfl | exact Or.inr rfl) (pe_F B_F__law_path (hr.mono (by decide)) passE0 (pa_cons (pe_F B_F__law_parts (hr.mono (by decide)) passE0 (pa_cons (pv 2) (pa_cons pe_int pa_nil))) (pa_cons (pv 2) pa_nil))))
    (pss_cons (ps_set (i := 4) sc_law.nd rfl (by first | exact Or.inl rfl | exact Or.inr rfl) (pe_F B_F__law_path (hr.mono (by decide)) passE0 (pa_cons (pe_F B_F__law_parts (hr.mono (by decide)) passE0 (pa_cons (pv 2) (pa_cons pe_int pa_nil))) (pa_cons (pv 2) pa_nil))))
    (pss_cons (ps_asg (pe_F B_F_parts_of (hr.mono (by decide)) passE0 (pa_cons (pv 3) pa_nil)) (pg_tup rfl (pgs_cons (pg_name (i := 5) sc_law.nd rfl (by first | exact Or.inl rfl | exact Or.inr rfl)) (pgs_cons (pg_name (i := 6) sc_law.nd rfl (by first | exact Or.inl rfl | exact Or.inr rfl)) pgs_nil))))
    (Evl.pss_cut (ps_if (PW.pt (pw_and (pt_cmpR (op_neU (K := K) hu65) (pv 6) (pe_lst pa_nil) (nomark _)) (pw_and1 (pt_cmpR (op_eqU (K := K) hu65) (pe_ix (ix_U (K := K)) (pv 3) (pe_un un_neg pe_int) (fun _ _ => rfl)) pe_str (nomark _))))) (pss_one (ps_set (i := 6) sc_law.nd rfl (by first | exact Or.inl rfl | exact Or.inr rfl) (pe_slice (sl_U (K := K)) (pv 6) po_none (po_some (pe_un un_neg pe_int))))) pss_nil)
    (pss_cons (ps_set (i := 7) sc_law.nd rfl (by first | exact Or.inl rfl | exact Or.inr rfl) (pe_ix (ix_U (K := K)) (pe_F B_F_parts_of (hr.mono (by decide)) passE0 (pa_cons (pv 4) pa_nil)) pe_int (fun _ _ => rfl)))
    (Evl.pss_cut (ps_if (PW.pt (pw_and (pt_cmpR (op_eqU (K := K) hu65) (pv 7) (pe_lst pa_nil) (nomark _)) (pw_and1 (pt_cmpR (op_neU (K := K) hu65) (pv 6) (pe_lst pa_nil) (nomark _))))) (pss_one (ps_set (i := 7) sc_law.nd rfl (by first | exact Or.inl rfl | exact Or.inr rfl) (pe_lst (pa_cons pe_str pa_nil)))) pss_nil)
    (pss_cons (ps_if (pt_cmpR (op_neU (K := K) hu65) (pe_F B_F_parts_of (hr.mono (by decide)) passE0 (pa_cons (pe_op (op_addU (K := K)) (pe_op (op_addU (K := K)) (pv 3) (pe_F B_F__law_slashes (hr.mono (by decide)) passE0 (pa_cons (pv 2) pa_nil))) (pv 4)) pa_nil)) (pe_tup (pa_cons (pv 5) (pa_cons (pe_op (op_addU (K := K)) (pv 6) (pv 7)) pa_nil))) (nomark _)) (pss_one (ps_ret pe_bl)) pss_nil)
    (pss_one (ps_for PassesOwn.never rfl (pi_list (pe_lst (pa_cons (pv 3) (pa_cons (pv 4) pa_nil)))) (pg_name (i := 8) sc_law.nd rfl (by first | exact Or.inl rfl | exact Or.inr rfl)) (pss_cons (ps_asg (pe_F B_F_parts_of (hr.mono (by decide)) passE0 (pa_cons (pv 8) pa_nil)) (pg_tup rfl (pgs_cons (pg_name (i := 5) sc_law.nd rfl (by first | exact Or.inl rfl | exact Or.inr rfl)) (pgs_cons (pg_name (i := 6) sc_law.nd rfl (by first | exact Or.inl rfl | exact Or.inr rfl)) pgs_nil))))
    (Evl.pss_cut (ps_if (PW.pt (pw_and (pt_cmpR (op_neU (K := K) hu65) (pv 6) (pe_lst pa_nil) (nomark _)) (pw_and1 (pt_cmpR (op_neU (K := K) hu65) (pe_F B_F_parts_of (hr.mono (by decide)) passE0 (pa_cons (pe_m1 PySem.F.slot_str_join PySem.F.type_str_join (mt_joinN (K := K)) pe_str (pv 6)) pa_nil)) (pe_tup (pa_cons pe_bl (pa_cons (pv 6) pa_nil))) (nomark _))))) (pss_one (ps_ret pe_bl)) pss_nil)
    (pss_one (ps_if (pt_cmpR (op_neU (K := K) hu65) (pe_F B_F_parts_of (hr.mono (by decide)) passE0 (pa_cons (pe_op (op_addU (K := K)) pe_str (pe_m1 PySem.F.slot_str_join PySem.F.type_str_join (mt_joinN (K := K)) pe_str (pv 6))) pa_nil)) (pe_tup (pa_cons pe_bl (pa_cons (pv 6) pa_nil))) (nomark _)) (pss_one (ps_ret pe_bl)) pss_nil)))))))))))))))
    (pss_one (ps_ret pe_bl)))), ?_⟩
    try dsimp only [cxOf]
    rw [show L2.start ["_law_script", "_law_cell", "_law_state", "_law_one", "_law_other", "_law_rooted", "_law_parts_here", "_law_more", "_law_path_here"] [a] = [some a, none, none, none, none, none, none, none, none] from rfl]
    obtain ⟨p, ns, rfl, hS, hlen, k⟩ := h
    have hc := cutV_length (ns.map V.int) none (some 20)
    rw [List.length_map] at hc
    wtm_at "a"
    rename_i l hl m hm q hq
    have hit : ∀ x ∈ [V.int 0] ++ cutV (ns.map V.int) none (some 20), ∃ c : Int, x = .int c := fun x hx => by
      rcases List.mem_append.mp hx with h | h
      · exact ⟨0, List.mem_singleton.mp h⟩
      · obtain ⟨c, _, e⟩ := List.mem_map.mp (List.mem_of_mem_drop (List.mem_of_mem_take h))
        exact ⟨c, e.symm⟩
    generalize [V.int 0] ++ cutV (ns.map V.int) none (some 20) = cells at hit ⊢
    have hq0 : upd (upd (upd H l (.lst [V.int 0])) m (.lst (cutV (ns.map V.int) none (some 20)))) q (.lst cells) q = some (.lst cells) := upd_same
    generalize upd (upd (upd H l (.lst [V.int 0])) m (.lst (cutV (ns.map V.int) none (some 20)))) q (.lst cells) = H0 at hq0 ⊢
    refine for_yl yl_list (fun i σ' H' => ∃ v1 v2 v3 v4 v5 v6 v7 v8, σ' = [some (.ref p), v1, v2, v3, v4, v5, v6, v7, v8] ∧ Same H0 H') ⟨_, _, _, _, _, _, _, _, rfl, Same.refl _⟩ (fun i σ' H' _ ⟨_, _, _, _, _, _, _, _, _, s⟩ => SqL.of (s _ _ hq0)) ?_ ?_
    · rintro i x σ' H1 hx ⟨v1, v2, v3, v4, v5, v6, v7, v8, rfl, s1⟩
      obtain ⟨c, rfl⟩ := hit x (List.mem_of_getElem? hx)
      wtm_at "a"
      refine u_lparts (by decide) (by wtm_at "hq") (.inl ⟨c, rfl⟩) fun ps pl xs1 H2 hps hpl so1 b1 npl h1 hpp => ?_
      rename_i st hst
      have n0 : H0 st = none := s1.free hst
      have nst : pl ≠ st := fun e => by rw [e, upd_same] at npl; cases npl
      have hpl : ps.length ≤ 12 := by simpa using hpl
      wtm_at "a"
      refine u_lpath nst (part_both hps) (by omega) h1 so1 hpp fun z xs2 H3 hz z1 z2 so2 b2 h2 => ?_
      wtm_at "a"
      refine u_lparts (by decide) h2 so2 fun qs ql xs3 H4 hqs hql so3 b3 nql h3 hqq => ?_
      have nsq : ql ≠ st := fun e => by rw [e, h2] at nql; cases nql
      have hql : qs.length ≤ 12 := by simpa using hql
      wtm_at "a"
      refine u_lpath nsq (part_both hqs) (by omega) h3 so3 hqq fun w xs4 H5 hw w1 w2 so4 b4 h4 => ?_
      have gz := good_of hz z1 (by omega) hps
      have gw := good_of hw w1 (by omega) hqs
      have pz : pathV (.str z) = some (Txt.startswith z slash, partsOf z) := by show pathS z = _; unfold pathS; rw [if_pos gz]
      have pw : pathV (.str w) = some (Txt.startswith w slash, partsOf w) := by show pathS w = _; unfold pathS; rw [if_pos gw]
      have lz : z.length ≤ sizeLine := by wtm_at "sz"
      have lw : w.length ≤ sizeLine := by wtm_at "sz"
      wtm_at "a"
      refine ⟨lz, fun h => (by rw [pz] at h; cases h), fun r1 P1 e1 t1 l1 H6 s6 nt1 nl1 ht1 hl1 => ?_⟩
      obtain ⟨rfl, rfl⟩ : Txt.startswith z slash = r1 ∧ partsOf z = P1 := by rw [pz] at e1; exact Prod.mk.inj (Option.some.inj e1)
      have pz8 : ∀ y ∈ partsOf z, isPart y = true := fun y hy => by
        unfold partsOf at hy
        split at hy
        · rcases List.mem_append.mp hy with h | h
          · exact (good_iff.mp gz).2.2 y h
          · rw [List.mem_singleton.mp h]; decide +kernel
        · exact (good_iff.mp gz).2.2 y hy
      obtain ⟨c0, d0, hc0, hd0⟩ := nonempty_ends z1
      have pzs : ∀ y ∈ pieces z, isPart y = true := (good_iff.mp gz).2.2
      have lpz : (partsOf z).length ≤ 13 := by
        unfold partsOf
        split
        · simp [hz]; omega
        · rw [hz]; omega
      wtm_at "a"
      refine s_cut (fun σ' H' => ∃ l8, σ' = [some (.ref p), some (.int c), some (.ref st), some (.str z), some (.str w), some (.bl (Txt.startswith z slash)), some (.ref l8), v7, v8] ∧ l8 ≠ st ∧ Same H6 H' ∧ H' l8 = some (.lst ((pieces z).map V.str))) ?_ ?_
      · wtm_at "a"
        rename_i le hle
        refine u_neS0 (ss := partsOf z) (by wtm_at "qL") (by wtm_at "qL") (fun y hy => part_ok (pz8 y hy)) ?_
        have hl1' : upd H6 le (.lst []) l1 = some (.lst ((partsOf z).map V.str)) := by wtm_at "hq"
        have s7 : Same H6 (upd H6 le (.lst [])) := by wtm_at "sm"
        generalize upd H6 le (.lst []) = H7 at hl1' s7 ⊢
        wtm_at "a"
        refine if_2 (fun hne => ?_) (fun he => ?_)
        · have hne : partsOf z ≠ [] := by simpa using hne
          wtm_at "a"
          refine u_ixS lz (atI_neg1 _ d0 hd0) ?_
          wtm_at "a"
          rw [show (Str.ofString "/") = slash from rfl, ← ends_last hd0]
          refine if_2 (fun ht => ?_) (fun ht => ?_)
          · have hp : pieces z ≠ [] := fun e => hne (by unfold partsOf; rw [if_neg (fun h => h.1 e), e])
            have e : partsOf z = pieces z ++ [("." : Str)] := by unfold partsOf; rw [if_pos ⟨hp, ht⟩]
            rw [e] at hl1'
            wtm_at "a"
            rename_i l8 hl8
            rw [List.map_append, List.map_singleton, cutV_neg1]
            exact ⟨l8, rfl, by wtm_at "nq", by wtm_at "sm", upd_same⟩
          · have e : partsOf z = pieces z := by unfold partsOf; rw [if_neg (fun h => by rw [ht] at h; cases h.2)]
            rw [e] at hl1'
            wtm_at "a"
            exact ⟨l1, rfl, by wtm_at "nq", s7, hl1'⟩
        · have he : partsOf z = [] := by simpa using he
          have e : pieces z = partsOf z := by
            unfold partsOf at he ⊢
            split
            · rename_i h; rw [if_pos h] at he; simp at he
            · rfl
          wtm_at "a"
          exact ⟨l1, rfl, by wtm_at "nq", s7, by rw [e]; exact hl1'⟩
      · rintro σ' H7 ⟨l8, rfl, n8, s7, hl8⟩
        wtm_at "a"
        refine ⟨lw, fun h => (by rw [pw] at h; cases h), fun r2 P2 e2 t2 l2 H8 s8 nt2 nl2 ht2 hl2 => ?_⟩
        obtain ⟨rfl, rfl⟩ : Txt.startswith w slash = r2 ∧ partsOf w = P2 := by rw [pw] at e2; exact Prod.mk.inj (Option.some.inj e2)
        have pw8 : ∀ y ∈ partsOf w, isPart y = true := fun y hy => by
          unfold partsOf at hy
          split at hy
          · rcases List.mem_append.mp hy with h | h
            · exact (good_iff.mp gw).2.2 y h
            · rw [List.mem_singleton.mp h]; decide +kernel
          · exact (good_iff.mp gw).2.2 y hy
        have lpw : (partsOf w).length ≤ 13 := by
          unfold partsOf
          split
          · simp [hw]; omega
          · rw [hw]; omega
        wtm_at "a"
        refine s_cut (fun σ' H' => ∃ l9, σ' = [some (.ref p), some (.int c), some (.ref st), some (.str z), some (.str w), some (.bl (Txt.startswith z slash)), some (.ref l8), some (.ref l9), v8] ∧ l9 ≠ st ∧ Same H8 H' ∧ H' l9 = some (.lst ((if partsOf w = [] ∧ pieces z ≠ [] then [("." : Str)] else partsOf w).map V.str))) ?_ ?_
        · wtm_at "a"
          rename_i le hle
          refine u_eqS0 (ss := partsOf w) (by wtm_at "qL") (by wtm_at "qL") (fun y hy => part_ok (pw8 y hy)) ?_
          wtm_at "a"
          have h8' : upd H8 le (.lst []) l8 = some (.lst ((pieces z).map V.str)) := by wtm_at "hq"
          have h2' : upd H8 le (.lst []) l2 = some (.lst ((partsOf w).map V.str)) := by wtm_at "hq"
          have s9 : Same H8 (upd H8 le (.lst [])) := by wtm_at "sm"
          generalize upd H8 le (.lst []) = H9 at h8' h2' s9 ⊢
          refine if_2 (fun he => ?_) (fun hne => ?_)
          · have he : partsOf w = [] := by simpa using he
            wtm_at "a"
            rename_i le2 hle2
            refine u_neS0 (ss := pieces z) (by wtm_at "qL") (by wtm_at "qL") (fun y hy => part_ok (pzs y hy)) ?_
            wtm_at "a"
            refine if_2 (fun hne => ?_) (fun he2 => ?_)
            · have hne : pieces z ≠ [] := by simpa using hne
              wtm_at "a"
              rename_i l9 hl9
              refine ⟨l9, rfl, by wtm_at "nq", by wtm_at "sm", ?_⟩
              rw [if_pos ⟨he, hne⟩]
              exact upd_same
            · have he2 : pieces z = [] := by simpa using he2
              wtm_at "a"
              refine ⟨l2, rfl, by wtm_at "nq", by wtm_at "sm", ?_⟩
              rw [if_neg (fun h => h.2 he2)]
              wtm_at "hq"
          · have hne : partsOf w ≠ [] := by simpa using hne
            wtm_at "a"
            refine ⟨l2, rfl, by wtm_at "nq", by wtm_at "sm", ?_⟩
            rw [if_neg (fun h => hne h.1)]
            exact h2'
        · rintro σ' H9 ⟨l9, rfl, n9, s9, hl9⟩
          obtain ⟨R, hR⟩ : ∃ R, R = (if partsOf w = [] ∧ pieces z ≠ [] then [("." : Str)] else partsOf w) := ⟨_, rfl⟩
          rw [← hR] at hl9
          have lR : R.length ≤ 14 := by
            rw [hR]
            split
            · simp
            · omega
          have R8 : ∀ y ∈ R, isPart y = true := fun y hy => by
            rw [hR] at hy
            split at hy
            · rw [List.mem_singleton.mp hy]; decide +kernel
            · exact pw8 y hy
          have hzl : (pieces z).length ≤ 12 := by rw [hz]; exact hpl
          wtm_at "a"
          refine u_slashes (by wtm_at "hq") so4 fun s xs5 H10 hs so5 b5 h5 => ?_
          have ls := hs.len
          have pc : pathV (.str (z ++ s ++ w)) = some (Txt.startswith z slash, pieces z ++ R) := by
            show pathS _ = _
            have hg : goodPath (z ++ s ++ w) = true := by
              obtain ⟨n, n1, n2, en⟩ := id hs
              refine good_of (pieces_cat n1 en) (by rw [len_app, len_app]; omega) (by rw [len_app, len_app]; omega) (fun y hy => ?_)
              rcases List.mem_append.mp hy with h | h
              · exact pzs y h
              · exact (good_iff.mp gw).2.2 y h
            unfold pathS
            rw [if_pos hg, parts_cat w1 hs, ← hR, show z ++ s ++ w = z ++ (s ++ w) from ext_tl (by rw [tl_append, tl_append, tl_append, tl_append, List.append_assoc]), starts_cat z1]
          wtm_at "a"
          refine u_add_str (by rw [len_app]; wtm_at "sz") ?_
          wtm_at "a"
          refine ⟨by show (z ++ s ++ w).length ≤ sizeLine; rw [len_app, len_app]; wtm_at "sz", fun h => (by rw [pc] at h; cases h), fun r3 P3 e3 t3 l3 H11 s11 nt3 nl3 ht3 hl3 => ?_⟩
          obtain ⟨rfl, rfl⟩ : Txt.startswith z slash = r3 ∧ pieces z ++ R = P3 := by rw [pc] at e3; exact Prod.mk.inj (Option.some.inj e3)
          wtm_at "a"
          rename_i l12 hl12 t12 ht12
          rw [← List.map_append]
          have ok3 : ∀ y ∈ pieces z ++ R, PyData.strOk y = true := fun y hy => part_ok (by
            rcases List.mem_append.mp hy with h | h
            · exact pzs y h
            · exact R8 y h)
          refine u_neE (a := T2.mk (Txt.startswith z slash) (pieces z ++ R)) (b := T2.mk (Txt.startswith z slash) (pieces z ++ R)) (de_t2 (SqT.of (by wtm_at "hq")) (de_bl _) (de_strs (SqL.of (by wtm_at "hq")))) (de_t2 (SqT.of upd_same) (de_bl _) (de_strs (SqL.of (by wtm_at "hq")))) ⟨trivial, ok3⟩ ⟨trivial, ok3⟩ (by decide) ?_
          wtm_at "a"
          refine if_f (by simp) ?_
          wtm_at "a"
          rename_i l13 hl13
          have hb : ∀ x ∈ [V.str z, .str w], ∃ y, x = .str y ∧ y.length ≤ sizeLine ∧ pathV (.str y) = some (Txt.startswith y slash, partsOf y) ∧ (∀ q ∈ partsOf y, isPart q = true) ∧ (partsOf y).length ≤ 13 :=
            allM_cons ⟨z, rfl, lz, pz, pz8, lpz⟩ (allM_cons ⟨w, rfl, lw, pw, pw8, lpw⟩ allM_nil)
          generalize [V.str z, .str w] = bs at hb ⊢
          have h13 : upd (upd (upd H11 l12 (.lst ((pieces z ++ R).map V.str))) t12 (.tup [.bl (Txt.startswith z slash), .ref l12])) l13 (.lst bs) l13 = some (.lst bs) := upd_same
          have s13 : Same H11 (upd (upd (upd H11 l12 (.lst ((pieces z ++ R).map V.str))) t12 (.tup [.bl (Txt.startswith z slash), .ref l12])) l13 (.lst bs)) := by wtm_at "sm"
          generalize upd (upd (upd H11 l12 (.lst ((pieces z ++ R).map V.str))) t12 (.tup [.bl (Txt.startswith z slash), .ref l12])) l13 (.lst bs) = H13 at h13 s13 ⊢
          refine for_yl yl_list (fun i σ' H' => ∃ u5 u6 u8, σ' = [some (.ref p), some (.int c), some (.ref st), some (.str z), some (.str w), u5, u6, some (.ref l9), u8] ∧ Same H13 H') ⟨_, _, _, rfl, Same.refl _⟩ (fun i σ' H' _ ⟨_, _, _, _, s⟩ => SqL.of (s _ _ h13)) ?_ ?_
          · rintro i x σ' H14 hx ⟨u5, u6, u8, rfl, s14⟩
            obtain ⟨y, rfl, ly, py, py8, lpy⟩ := hb x (List.mem_of_getElem? hx)
            wtm_at "a"
            refine ⟨ly, fun h => (by rw [py] at h; cases h), fun r4 P4 e4 t4 l4 H15 s15 nt4 nl4 ht4 hl4 => ?_⟩
            obtain ⟨rfl, rfl⟩ : Txt.startswith y slash = r4 ∧ partsOf y = P4 := by rw [py] at e4; exact Prod.mk.inj (Option.some.inj e4)
            have oky : ∀ q ∈ partsOf y, PyData.strOk q = true := fun q hq => part_ok (py8 q hq)
            have sy : ((partsOf y).map (·.length)).sum + (partsOf y).length * (slash : Str).length ≤ 16777216 := by
              have := sum_len (k := 8) (fun q hq => (part_signs (py8 q hq)).1)
              rw [show (slash : Str).length = 1 from slash_len]
              omega
            have jl := join_len2 (k := 8) (fun q hq => (part_signs (py8 q hq)).1)
            wtm_at "a"
            refine s_cut (fun σ' H' => σ' = [some (.ref p), some (.int c), some (.ref st), some (.str z), some (.str w), some (.bl (Txt.startswith y slash)), some (.ref l4), some (.ref l9), some (.str y)] ∧ Same H15 H') ?_ ?_
            · wtm_at "a"
              rename_i l16 hl16
              refine u_neS0 (ss := partsOf y) (by wtm_at "qL") (by wtm_at "qL") oky ?_
              wtm_at "a"
              refine if_2 (fun hne => ?_) (fun he => ?_)
              · have hne : partsOf y ≠ [] := by simpa using hne
                have pj := join_path hne py8 (by omega)
                wtm_at "a"
                refine u_joinL (ys := partsOf y) (by wtm_at "qL") sy ?_
                wtm_at "a"
                refine ⟨by show (Txt.join slash (partsOf y)).length ≤ sizeLine; wtm_at "sz", fun h => (by rw [show pathV (.str (Txt.join slash (partsOf y))) = _ from pj] at h; cases h), fun r5 P5 e5 t5 l5 H17 s17 nt5 nl5 ht5 hl5 => ?_⟩
                obtain ⟨rfl, rfl⟩ : false = r5 ∧ partsOf y = P5 := by rw [show pathV (.str (Txt.join slash (partsOf y))) = _ from pj] at e5; exact Prod.mk.inj (Option.some.inj e5)
                wtm_at "a"
                refine u_neE (a := T2.mk false (partsOf y)) (b := T2.mk false (partsOf y)) (de_t2 (SqT.of (by wtm_at "hq")) (de_bl _) (de_strs (SqL.of (by wtm_at "hq")))) (de_t2 (SqT.of upd_same) (de_bl _) (de_strs (SqL.of (by wtm_at "hq")))) ⟨trivial, oky⟩ ⟨trivial, oky⟩ (by decide) ?_
                wtm_at "a"
                refine if_f (by simp) ?_
                wtm_at "a"
                exact ⟨rfl, by wtm_at "sm"⟩
              · wtm_at "a"
                exact ⟨rfl, by wtm_at "sm"⟩
            · rintro σ' H16 ⟨rfl, s16⟩
              have pj := join_root py8 (by omega)
              have lj : (slash ++ Txt.join slash (partsOf y)).length ≤ 500 := by rw [len_app, show (slash : Str).length = 1 from slash_len]; omega
              wtm_at "a"
              refine u_joinL (ys := partsOf y) (by wtm_at "qL") sy ?_
              refine u_add_str (by rw [show (Str.ofString "/") = slash from rfl, show (slash : Str).length = 1 from slash_len]; wtm_at "sz") ?_
              wtm_at "a"
              refine ⟨by show (slash ++ Txt.join slash (partsOf y)).length ≤ sizeLine; wtm_at "sz", fun h => (by rw [show pathV (.str (slash ++ Txt.join slash (partsOf y))) = _ from pj] at h; cases h), fun r5 P5 e5 t5 l5 H17 s17 nt5 nl5 ht5 hl5 => ?_⟩
              obtain ⟨rfl, rfl⟩ : true = r5 ∧ partsOf y = P5 := by rw [show pathV (.str (slash ++ Txt.join slash (partsOf y))) = _ from pj] at e5; exact Prod.mk.inj (Option.some.inj e5)
              wtm_at "a"
              refine u_neE (a := T2.mk true (partsOf y)) (b := T2.mk true (partsOf y)) (de_t2 (SqT.of (by wtm_at "hq")) (de_bl _) (de_strs (SqL.of (by wtm_at "hq")))) (de_t2 (SqT.of upd_same) (de_bl _) (de_strs (SqL.of (by wtm_at "hq")))) ⟨trivial, oky⟩ ⟨trivial, oky⟩ (by decide) ?_
              wtm_at "a"
              refine if_f (by simp) ?_
              wtm_at "a"
              exact ⟨_, _, _, rfl, by wtm_at "sm"⟩
          · rintro σ' H14 ⟨u5, u6, u8, rfl, s14⟩
            wtm_at "a"
            exact ⟨_, _, _, _, _, _, _, _, rfl, by wtm_at "sm"⟩
    · rintro σ' H1 ⟨v1, v2, v3, v4, v5, v6, v7, v8, rfl, s1⟩
      wtm_at "a"
      exact k _
end
def d_0 : He.DefD := ⟨("is_name", none), "is_name", "is_name", defArgs st_is_name, defBody st_is_name, defScope st_is_name, [], []⟩
def d_1 : He.DefD := ⟨("is_part", none), "is_part", "is_part", defArgs st_is_part, defBody st_is_part, defScope st_is_part, [], []⟩
def d_2 : He.DefD := ⟨("parts_of", none), "parts_of", "parts_of", defArgs st_parts_of, defBody st_parts_of, defScope st_parts_of, [], []⟩
def d_3 : He.DefD := ⟨("_law_digit", none), "_law_digit", "_law_digit", defArgs st__law_digit, defBody st__law_digit, defScope st__law_digit, [], []⟩
def d_4 : He.DefD := ⟨("_law_slashes", none), "_law_slashes", "_law_slashes", defArgs st__law_slashes, defBody st__law_slashes, defScope st__law_slashes, [], []⟩
def d_5 : He.DefD := ⟨("_law_path", none), "_law_path", "_law_path", defArgs st__law_path, defBody st__law_path, defScope st__law_path, [], []⟩
def d_6 : He.DefD := ⟨("_law_name", none), "_law_name", "_law_name", defArgs st__law_name, defBody st__law_name, defScope st__law_name, [], []⟩
def d_7 : He.DefD := ⟨("_law_parts", none), "_law_parts", "_law_parts", defArgs st__law_parts, defBody st__law_parts, defScope st__law_parts, [], []⟩
def d_8 : He.DefD := ⟨("law", none), "law", "law", defArgs st_law, defBody st_law, defScope st_law, [], []⟩
def dfs : List He.DefD := [d_0, d_1, d_2, d_3, d_4, d_5, d_6, d_7, d_8]
def fas : List Fx := [.fa (.str "LETTERS" "abcdefghijklmnopqrstuvwxyz"), .fa (.int "MOST_LETTERS" 8), .fa (.int "MOST_SIGNS" 2000), .fa (.exc "NoPath"), .fa (.glo "NoPath"), .fa (.free "all"), .fa (.free "isinstance"), .fa (.free "len"), .fa (.free "range"), .fa (.free "str"), .fa (.glo "is_name"), .fa (.glo "is_part"), .fa (.glo "parts_of"), .fa (.glo "_law_digit"), .fa (.glo "_law_slashes"), .fa (.glo "_law_path"), .fa (.glo "_law_name"), .fa (.glo "_law_parts"), .fa (.glo "law")]
abbrev R : PySem.W.OpenRow := PySem.W.OpenLaw.row PySem.Challenge.rw_leadnames_k05_whole_paths_put_together
abbrev hk : PySem.W.Hook := hookX 6 fas dfs
def ob (s : PySem.W.SharedT) : He.AlD := obsXG 6 fas dfs (HandSHeadRun.getT s)
theorem ob_eq (s : PySem.W.SharedT) : ob s = hk.obs s.abs := obsXG_eq (HandSHeadRun.getT_eq s)
set_option maxHeartbeats 0 in
theorem run (w : World) : HandSHeadRun.RunEq R (PySem.W.view R.prog [17]) hk ob 20000 ["LeadError", "NoPath", "LETTERS", "MOST_LETTERS", "MOST_SIGNS", "is_name", "is_part", "parts_of", "_law_cell_at", "_law_digit", "_law_name", "_law_parts", "_law_slashes", "_law_path"] w := by
  intro os
  kernel_rfl
theorem facts {P : Program} {w : World} {K : PySem.W.Frag} {h : Heap} {mg : Str → Option Value} {f : Addr} (X : K.In h) (G : h.Ns mainGlobals mg) (hfa : mg ("law" : Str) = some (.ref f)) (c : SaysX fas dfs K) :
    ∃ fd : FuncData, (∀ (s : Shared) (v : Value), BindsTo s fd ⟨[v], []⟩ [("_law_script", v)]) ∧ ∀ base : Heap, K.In base → base.Ns mainGlobals mg → FnOk P w K mg base CX0 4 f fd ["_law_script"] (sp1 (spLaw K)) := by
  have T : Txt K mg := { c_LETTERS := He.str_ok X G (c.fact 0 (f := .fa (.str "LETTERS" "abcdefghijklmnopqrstuvwxyz")) rfl), c_MOST_LETTERS := He.int_ok X G (c.fact 1 (f := .fa (.int "MOST_LETTERS" 8)) rfl), c_MOST_SIGNS := He.int_ok X G (c.fact 2 (f := .fa (.int "MOST_SIGNS" 2000)) rfl), e_NoPath := (let z := He.exc_ok (c.fact 3 (f := .fa (.exc "NoPath")) rfl); ⟨He.glo_ok X G (c.fact 4 (f := .fa (.glo "NoPath")) rfl), z.1, z.2.1, z.2.2.1, z.2.2.2⟩), z_all := He.free_ok X G (c.fact 5 (f := .fa (.free "all")) rfl), z_isinstance := He.free_ok X G (c.fact 6 (f := .fa (.free "isinstance")) rfl), z_len := He.free_ok X G (c.fact 7 (f := .fa (.free "len")) rfl), z_range := He.free_ok X G (c.fact 8 (f := .fa (.free "range")) rfl), z_str := He.free_ok X G (c.fact 9 (f := .fa (.free "str")) rfl) }
  obtain ⟨fd_0, F_0⟩ := c.def_ 0 (d := d_0) rfl
  obtain ⟨fd_1, F_1⟩ := c.def_ 1 (d := d_1) rfl
  obtain ⟨fd_2, F_2⟩ := c.def_ 2 (d := d_2) rfl
  obtain ⟨fd_3, F_3⟩ := c.def_ 3 (d := d_3) rfl
  obtain ⟨fd_4, F_4⟩ := c.def_ 4 (d := d_4) rfl
  obtain ⟨fd_5, F_5⟩ := c.def_ 5 (d := d_5) rfl
  obtain ⟨fd_6, F_6⟩ := c.def_ 6 (d := d_6) rfl
  obtain ⟨fd_7, F_7⟩ := c.def_ 7 (d := d_7) rfl
  obtain ⟨fd_8, F_8⟩ := c.def_ 8 (d := d_8) rfl
  have B_F_is_name : ∀ base, FB P w K mg base (L2.CX P w) 1 "is_name" ["text"] [] (spIsName K) := fun base => ⟨⟨_, _, [], (ok_is_name T  F_0), He.glo_ok X G (c.fact 10 (f := .fa (.glo "is_name")) rfl), F_0.kp, (FunD.bindsN F_0 fun _ _ _ _ _ _ us hl => match us, hl with | [_], _ => rfl), .nil⟩⟩
  have B_F_is_part : ∀ base, FB P w K mg base (L2.CX P w) 2 "is_part" ["text"] [] (sp1 (pIsPart K)) := fun base => ⟨⟨_, _, [], (ok_is_part T (B_F_is_name base) F_1), He.glo_ok X G (c.fact 11 (f := .fa (.glo "is_part")) rfl), F_1.kp, (FunD.bindsN F_1 fun _ _ _ _ _ _ us hl => match us, hl with | [_], _ => rfl), .nil⟩⟩
  have B_F_parts_of : ∀ base, FB P w K mg base (L2.CX P w) 3 "parts_of" ["path"] [] (sp1 (pPartsOf K)) := fun base => ⟨⟨_, _, [], (ok_parts_of T (B_F_is_part base) F_2), He.glo_ok X G (c.fact 12 (f := .fa (.glo "parts_of")) rfl), F_2.kp, (FunD.bindsN F_2 fun _ _ _ _ _ _ us hl => match us, hl with | [_], _ => rfl), .nil⟩⟩
  have B_F__law_digit : ∀ base, FB P w K mg base (L2.CX P w) 1 "_law_digit" ["_law_state", "_law_base"] [] spDigit := fun base => ⟨⟨_, _, [], (ok__law_digit T  F_3), He.glo_ok X G (c.fact 13 (f := .fa (.glo "_law_digit")) rfl), F_3.kp, (FunD.bindsN F_3 fun _ _ _ _ _ _ us hl => match us, hl with | [_, _], _ => rfl), .nil⟩⟩
  have B_F__law_slashes : ∀ base, FB P w K mg base (L2.CX P w) 2 "_law_slashes" ["_law_state"] [] (sp1 pSlashes) := fun base => ⟨⟨_, _, [], (ok__law_slashes T (B_F__law_digit base) F_4), He.glo_ok X G (c.fact 14 (f := .fa (.glo "_law_slashes")) rfl), F_4.kp, (FunD.bindsN F_4 fun _ _ _ _ _ _ us hl => match us, hl with | [_], _ => rfl), .nil⟩⟩
  have B_F__law_path : ∀ base, FB P w K mg base (L2.CX P w) 3 "_law_path" ["_law_parts_here", "_law_state"] [] (sp2 (pLPath K)) := fun base => ⟨⟨_, _, [], (ok__law_path T (B_F__law_slashes base) (B_F__law_digit base) F_5), He.glo_ok X G (c.fact 15 (f := .fa (.glo "_law_path")) rfl), F_5.kp, (FunD.bindsN F_5 fun _ _ _ _ _ _ us hl => match us, hl with | [_, _], _ => rfl), .nil⟩⟩
  have B_F__law_name : ∀ base, FB P w K mg base (L2.CX P w) 2 "_law_name" ["_law_state"] [] spLName := fun base => ⟨⟨_, _, [], (ok__law_name T (B_F__law_digit base) F_6), He.glo_ok X G (c.fact 16 (f := .fa (.glo "_law_name")) rfl), F_6.kp, (FunD.bindsN F_6 fun _ _ _ _ _ _ us hl => match us, hl with | [_], _ => rfl), .nil⟩⟩
  have B_F__law_parts : ∀ base, FB P w K mg base (L2.CX P w) 3 "_law_parts" ["_law_state", "_law_most"] [] (sp2 pLParts) := fun base => ⟨⟨_, _, [], (ok__law_parts T (B_F__law_digit base) (B_F__law_name base) F_7), He.glo_ok X G (c.fact 17 (f := .fa (.glo "_law_parts")) rfl), F_7.kp, (FunD.bindsN F_7 fun _ _ _ _ _ _ us hl => match us, hl with | [_, _], _ => rfl), .nil⟩⟩
  have e := hfa.symm.trans (He.glo_ok X G (c.fact 18 (f := .fa (.glo "law")) rfl))
  cases e
  have b := FunD.bindsA (ps := ["_law_script"]) F_8 fun _ _ _ _ _ _ us hl => match us, hl with | [_], _ => rfl
  exact ⟨fd_8, fun s v => b s [v] rfl, fun base _ _ => ok_law T (B_F_parts_of base) (B_F__law_slashes base) (B_F__law_path base) (B_F__law_parts base) F_8⟩
end LN
open PySem PySem.W PySem.Calls PyProof.Rows
set_option maxHeartbeats 0 in
theorem PySem.Challenge.cw_leadnames_k05_whole_paths_put_together_holds : PySem.Challenge.rw_leadnames_k05_whole_paths_put_together.Holds := by
  w_on; o_law
  refine HandSHeadRun.head_any (r := OpenLaw.row PySem.Challenge.rw_leadnames_k05_whole_paths_put_together) (q := view (OpenLaw.row PySem.Challenge.rw_leadnames_k05_whole_paths_put_together).prog [17]) (H := LN.hk) (ob := LN.ob) (M := 20000) (loose := ["LeadError", "NoPath", "LETTERS", "MOST_LETTERS", "MOST_SIGNS", "is_name", "is_part", "parts_of", "_law_cell_at", "_law_digit", "_law_name", "_law_parts", "_law_slashes", "_law_path"]) (d := HandSHeadRun.topDef (OpenLaw.row PySem.Challenge.rw_leadnames_k05_whole_paths_put_together).prog 17) (kwd := []) LN.ob_eq
    (by kernel_rfl) (fun s => by kernel_rfl) LN.run (by kernel_rfl) (by kernel_rfl) (by kernel_rfl) (by rfl) (by first | assumption | decide +kernel) (by decide +kernel) ⟨rfl, rfl, rfl, rfl, rfl, by decide +kernel⟩ ?hw ?hc
  case hw => w_witness2
  case hc =>
    refine L2.walk_ofE (l := PySem.Challenge.rw_leadnames_k05_whole_paths_put_together) (n := 63) (k := 4) (x := "_law_script") (CX := L2.CX0) rfl (by decide) (by kernel_rfl) ⟨rfl, by decide, by decide⟩ ?F (fun _ _ _ _ z => z)
    intro w mg fa h Y G hmg0
    obtain ⟨K, KX, c⟩ := Y
    have hmg : mg ("law" : PySem.Str) = some (.ref fa) := by
      have e : (HandSHeadRun.topDef (OpenLaw.row PySem.Challenge.rw_leadnames_k05_whole_paths_put_together).prog 17).name = ("law" : PySem.Str) := by kernel_rfl
      rw [← e]
      exact hmg0
    obtain ⟨fd, hb, hF⟩ := LN.facts (P := (PySem.Challenge.rw_leadnames_k05_whole_paths_put_together).prog) (w := w) KX G hmg c
    exact ⟨K, fd, LN.sp1 (LN.spLaw K), KX, hb, fun H a ns hl _ hS => ⟨_, rfl, a, ns, rfl, hS, hl, fun _ => rfl⟩, hF⟩
#print axioms PySem.Challenge.cw_leadnames_k05_whole_paths_put_together_holds
