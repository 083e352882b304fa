import PyProof.Rows.All
import Wide.All
import OpenK.AllK
import Wide.FinOn
import KE.KStateDown
import HandS.ForMost
import HandS.ForExc
import HandS.Flow
import HandS.Walk
import HandS.Deep
import HandS.IsInst
import HandS.Defaults
import HandS.Codes
import HandS.Head0
import HandS.Head1
import HandS.Head2
import HandS.HeadEnd
import HandS.HeadHook1
import HandS.HeadHook2
import KE.KExcIs
import PySem.Challenge.RW_treemounts_k02_paths_refused
set_option Elab.async false
set_option linter.all false
set_option maxRecDepth 100000
set_option maxHeartbeats 4000000
/-! own layer: one rule a reading, each takes the value in hand; calls of defs by one fact -/
namespace Tm
open PySem L2
/-- a new list, a new tuple -/
abbrev NewL (xs : List V) (H : Hp) (Q : VK) : Prop := xs.length ≤ sizeLine ∧ ∀ p, H p = none → Q (.ref p) (upd H p (.lst xs))
abbrev NewT (xs : List V) (H : Hp) (Q : VK) : Prop := xs.length ≤ sizeLine ∧ ∀ p, H p = none → Q (.ref p) (upd H p (.tup xs))
section
variable {σ : L2.St} {H : Hp} {Q : VK} {i : Nat} {v x y z : V} {ta tb tc te : TE} {t u : TT} {K : PySem.W.Frag} {r r' : R2} {D : Ends} {ts tu : TS} {g : TG}
theorem x_var (h : σ[i]? = some (some v)) (q : Q v H) : tVar i σ H Q := ⟨v, h, q⟩
theorem x_c (q : Q v H) : tC v σ H Q := q
theorem x_op (q : ta σ H fun x H1 => tb σ H1 fun y H2 => r x y H2 Q) : tOp r ta tb σ H Q := q
theorem x_un {r : V → Hp → VK → Prop} (q : ta σ H fun x H1 => r x H1 Q) : tUn r ta σ H Q := q
theorem x_I0 {f : Int → Int → V} {a b : Int} (q : Q (f a b) H) : rI0 f (.int a) (.int b) H Q := ⟨a, b, rfl, rfl, q⟩
theorem x_I {C : Int → Int → Prop} {f : Int → Int → V} {a b : Int} (c : C a b) (q : Q (f a b) H) : rI C f (.int a) (.int b) H Q := ⟨a, b, rfl, rfl, c, q⟩
theorem x_neg {n : Int} (q : Q (.int (-n)) H) : rU (fun i => .int (-i)) (.int n) H Q := ⟨n, rfl, q⟩
theorem x_eq (s : scal x y = true) (q : Q (.bl (decide (x = y))) H) : rEq x y H Q := ⟨s, q⟩
theorem x_ne (s : scal x y = true) (q : Q (.bl (!decide (x = y))) H) : rNe x y H Q := ⟨s, q⟩
theorem x_test {Q : Bool → Hp → Prop} (q : te σ H fun x H' => ∃ k, x = .bl k ∧ Q k H') : tTest te σ H Q := q
theorem x_tB {Q : Bool → Hp → Prop} (q : te σ H fun x H' => ∃ k, x = .bl k ∧ Q k H') : tB te σ H Q := q
theorem x_bl {Q : Bool → Hp → Prop} {b : Bool} (q : Q b H) : ∃ k, V.bl b = .bl k ∧ Q k H := ⟨b, rfl, q⟩
theorem x_not {Q : Bool → Hp → Prop} (q : t σ H fun c H1 => Q (!c) H1) : tNot t σ H Q := q
theorem x_and {Q : Bool → Hp → Prop} (q : t σ H fun c H1 => if c = true then u σ H1 Q else Q false H1) : tAnd t u σ H Q := q
theorem x_or {Q : Bool → Hp → Prop} (q : t σ H fun c H1 => if c = true then Q true H1 else u σ H1 Q) : tOr t u σ H Q := q
theorem x_andV (q : ta σ H fun x H1 => ∃ c, x = .bl c ∧ if c = true then tb σ H1 Q else Q (.bl false) H1) : tAndV ta tb σ H Q := q
theorem x_orV (q : ta σ H fun x H1 => ∃ c, x = .bl c ∧ if c = true then Q (.bl true) H1 else tb σ H1 Q) : tOrV ta tb σ H Q := q
theorem x_notV (q : ta σ H fun x H1 => ∃ c, x = .bl c ∧ Q (.bl (!c)) H1) : tNotV ta σ H Q := q
theorem x_blV {P : Bool → Prop} {b : Bool} (q : P b) : ∃ k, V.bl b = .bl k ∧ P k := ⟨b, rfl, q⟩
theorem x_ifx (q : t σ H fun c H1 => if c = true then ta σ H1 Q else tb σ H1 Q) : tIf t ta tb σ H Q := q
theorem x_chain (q : ta σ H fun x H1 => tb σ H1 fun y H2 => r x y H2 fun z H3 => ∃ k, z = .bl k ∧ (if k = true then tc σ H3 fun w' H4 => r' y w' H4 Q else Q (.bl false) H3)) : tChain r r' ta tb tc σ H Q := q
theorem x_nil {Q : List V → Hp → Prop} (q : Q [] H) : tNil σ H Q := q
theorem x_cons {tr : TA} {Q : List V → Hp → Prop} (q : ta σ H fun x H1 => tr σ H1 fun xs H2 => Q (x :: xs) H2) : tCons ta tr σ H Q := q
theorem x_lst {t : TA} (q : t σ H fun xs H1 => NewL xs H1 Q) : tLst t σ H Q := q
theorem x_tup {t : TA} (q : t σ H fun xs H1 => NewT xs H1 Q) : tTup t σ H Q := q
theorem x_cb {rc : List V → Hp → VK → Prop} {t : TA} (q : t σ H fun vs H1 => rc vs H1 Q) : tCB rc t σ H Q := q
theorem x_fld {f : Str} (q : ta σ H fun x H1 => ∃ a C dx fs v, x = .ref a ∧ H1 a = some (.ins C dx fs) ∧ Cls K C ∧ NoAttr K C f ∧ fs.lookup f = some v ∧ Q v H1) : tFld K ta f σ H Q := q
theorem x_fldV {f : Str} {a C dx : Addr} {fs : List (Str × V)} (h : H a = some (.ins C dx fs)) (c : Cls K C) (n : NoAttr K C f) (l : fs.lookup f = some v) (q : Q v H) :
    ∃ a' C dx fs v', V.ref a = .ref a' ∧ H a' = some (.ins C dx fs) ∧ Cls K C ∧ NoAttr K C f ∧ fs.lookup f = some v' ∧ Q v' H := ⟨a, C, dx, fs, v, rfl, h, c, n, l, q⟩
theorem x_sl {rs : V → Option Int → Option Int → Hp → VK → Prop} {tl th : TO} (q : te σ H fun x H1 => tl σ H1 fun l H2 => th σ H2 fun u H3 => rs x l u H3 Q) : tSl rs te tl th σ H Q := q
theorem x_noPart {Q : Option Int → Hp → Prop} (q : Q none H) : tNoPart σ H Q := q
theorem x_part {Q : Option Int → Hp → Prop} (q : te σ H fun x H1 => ∃ i, x = .int i ∧ Q (some i) H1) : tPart te σ H Q := q
theorem x_partI {P : Int → Prop} {n : Int} (q : P n) : ∃ i, V.int n = .int i ∧ P i := ⟨n, rfl, q⟩
theorem x_slS {a : Str} {lo hi : Option Int} (z : a.length ≤ sizeLine) (q : Q (.str (Txt.slice a lo hi)) H) : C8.rSlX (.str a) lo hi H Q := ⟨a, rfl, z, q⟩
theorem x_slL {a : Addr} {xs : List V} {lo hi : Option Int} (h : SqL K H a xs) (q : ∀ p, H p = none → Q (.ref p) (upd H p (.lst (cutV xs lo hi)))) : rSlL K (.ref a) lo hi H Q := ⟨a, xs, rfl, h, q⟩
theorem x_ixL {p : Addr} {xs : List V} {n : Int} (h : SqL K H p xs) (a : atI xs n = some v) (q : Q v H) : rIxL K (.ref p) (.int n) H Q := ⟨p, xs, n, v, rfl, rfl, h, a, q⟩
theorem x_ixT {p : Addr} {xs : List V} {n : Int} (h : SqT K H p xs) (a : atI xs n = some v) (q : Q v H) : rIxT K (.ref p) (.int n) H Q := ⟨p, xs, n, v, rfl, rfl, h, a, q⟩
theorem x_inT {p : Addr} {xs : List V} (h : SqT K H p xs) (f : flatV x = true) (a : xs.all flatV = true) (q : Q (.bl (inV x xs)) H) : rIn K false x (.ref p) H Q := ⟨p, xs, rfl, .inr h, f, a, q⟩
theorem x_inL {p : Addr} {xs : List V} (h : SqL K H p xs) (f : flatV x = true) (a : xs.all flatV = true) (q : Q (.bl (inV x xs)) H) : rIn K false x (.ref p) H Q := ⟨p, xs, rfl, .inl h, f, a, q⟩
theorem x_niT {p : Addr} {xs : List V} (h : SqT K H p xs) (f : flatV x = true) (a : xs.all flatV = true) (q : Q (.bl (!inV x xs)) H) : rIn K true x (.ref p) H Q := ⟨p, xs, rfl, .inr h, f, a, q⟩
theorem x_niL {p : Addr} {xs : List V} (h : SqL K H p xs) (f : flatV x = true) (a : xs.all flatV = true) (q : Q (.bl (!inV x xs)) H) : rIn K true x (.ref p) H Q := ⟨p, xs, rfl, .inl h, f, a, q⟩
/-! ### texts, with names of their own -/
def rCatS : R2 := fun x y H Q => ∃ i j, x = .str i ∧ y = .str j ∧ i.length + j.length ≤ sizeLine ∧ Q (.str (i ++ j)) H
theorem op_catS {X : Cx} : OpR X (binaryOp .Add) rCatS := op_add_str
theorem x_catS {a b : Str} (z : a.length + b.length ≤ sizeLine) (q : Q (.str (a ++ b)) H) : rCatS (.str a) (.str b) H Q := ⟨a, b, rfl, rfl, z, q⟩
def rSgn : R2 := fun x y H Q => ∃ c z, x = .str ⟨#[c]⟩ ∧ y = .str z ∧ Q (.bl (decide (c ∈ z.cps.toList))) H
theorem op_sgn {X : Cx} : OpR X (compareOp .In) rSgn := op_in_sign
theorem x_sgn {c : Nat} {z : Str} (q : Q (.bl (decide (c ∈ z.cps.toList))) H) : rSgn (.str ⟨#[c]⟩) (.str z) H Q := ⟨c, z, rfl, rfl, q⟩
def rIsNo : R2 := fun x y H Q => y = .non ∧ Q (.bl (decide (x = .non))) H
def rIsNt : R2 := fun x y H Q => y = .non ∧ Q (.bl (!decide (x = .non))) H
theorem op_isNo {X : Cx} : OpR X (compareOp .Is) rIsNo := op_isN
theorem op_isNt {X : Cx} : OpR X (compareOp .IsNot) rIsNt := op_notN
theorem x_isNo (q : Q (.bl (decide (x = .non))) H) : rIsNo x .non H Q := ⟨rfl, q⟩
theorem x_isNt (q : Q (.bl (!decide (x = .non))) H) : rIsNt x .non H Q := ⟨rfl, q⟩
def rLenT : List V → Hp → VK → Prop := fun xs H Q => ∃ a : Str, xs = [.str a] ∧ a.length ≤ sizeLine ∧ Q (.int a.length) H
theorem call_lenT {X : Cx} : CallR X (.builtin "len") rLenT := call_len_str
theorem x_lenT {a : Str} (z : a.length ≤ sizeLine) (q : Q (.int a.length) H) : rLenT [.str a] H Q := ⟨a, rfl, z, q⟩
def rLenQ (K : PySem.W.Frag) : List V → Hp → VK → Prop := fun xs H Q => ∃ p ys, xs = [.ref p] ∧ (SqL K H p ys ∨ SqT K H p ys) ∧ Q (.int ys.length) H
theorem call_lenQ {X : Cx} : CallR X (.builtin "len") (rLenQ X.K) := call_len_seq
theorem x_lenL {p : Addr} {ys : List V} (h : SqL K H p ys) (q : Q (.int ys.length) H) : rLenQ K [.ref p] H Q := ⟨p, ys, rfl, .inl h, q⟩
theorem x_lenU {p : Addr} {ys : List V} (h : SqT K H p ys) (q : Q (.int ys.length) H) : rLenQ K [.ref p] H Q := ⟨p, ys, rfl, .inr h, q⟩
def rMkL (K : PySem.W.Frag) : List V → Hp → VK → Prop := fun xs H Q => ∃ p ys, xs = [.ref p] ∧ (SqL K H p ys ∨ SqT K H p ys) ∧ ∀ l, H l = none → Q (.ref l) (upd H l (.lst ys))
theorem call_mkL {X : Cx} : CallR X (.type "list") (rMkL X.K) := call_list_of
theorem x_mkL {p : Addr} {ys : List V} (h : SqL K H p ys) (q : ∀ l, H l = none → Q (.ref l) (upd H l (.lst ys))) : rMkL K [.ref p] H Q := ⟨p, ys, rfl, .inl h, q⟩
theorem x_all {p : Addr} {bs : List Bool} (h : SqL K H p (bs.map V.bl)) (q : Q (.bl (bs.all id)) H) : rAll K [.ref p] H Q := ⟨p, bs, rfl, h, q⟩
theorem x_any {p : Addr} {bs : List Bool} (h : SqL K H p (bs.map V.bl)) (q : Q (.bl (bs.any id)) H) : rAny K [.ref p] H Q := ⟨p, bs, rfl, h, q⟩
theorem x_isi {c : V} {tv uv : Value} {b : Bool} (hc : ClsV c uv) (ht : TyX K H x tv) (k : PySem.W.kitOne K tv uv = some b) (q : Q (.bl b) H) : rIsi K [x, c] H Q := ⟨x, c, tv, uv, b, rfl, hc, ht, k, q⟩
theorem x_m1 {rm : V → List V → Hp → VK → Prop} (q : ta σ H fun x H1 => (∃ a, x = .str a) ∧ te σ H1 fun y H2 => rm x [y] H2 Q) : tM1 rm ta te σ H Q := q
theorem x_isS {a : Str} {P : Prop} (q : P) : (∃ b, V.str a = .str b) ∧ P := ⟨⟨a, rfl⟩, q⟩
/-! ### statements -/
theorem x_next (q : D.nx σ H) : tNext D σ H := q
theorem x_seq (q : ts { D with nx := tu D } σ H) : tSeq ts tu D σ H := q
theorem x_ret (q : te σ H D.rt) : tRet te D σ H := q
theorem x_drop (q : te σ H fun _ H1 => D.nx σ H1) : tDrop te D σ H := q
theorem x_asg (q : te σ H fun x H1 => g x σ H1 D.nx) : tAsg te g D σ H := q
theorem x_name {Q : L2.St → Hp → Prop} (q : Q (σ.set i (some v)) H) : gName i v σ H Q := q
theorem x_ifS (q : t σ H fun b H1 => if b = true then ts D σ H1 else tu D σ H1) : tIfS t ts tu D σ H := q
theorem x_sub {to ti : TE} {tset : TSet} {Q : L2.St → Hp → Prop} (q : to σ H fun o H1 => ti σ H1 fun i H2 => tset o i v H2 fun H3 => Q σ H3) : gSub to ti tset v σ H Q := q
theorem x_setL {p : Addr} {xs : List V} {k : Int} {j : Nat} {Q : Hp → Prop} (h : H p = some (.lst xs)) (a : ixN xs.length k = some j) (q : Q (upd H p (.lst (xs.set j v)))) : rSetL (.ref p) (.int k) v H Q := ⟨p, xs, k, j, rfl, rfl, h, a, q⟩
theorem x_bm {T : String} {rm : V → List V → Hp → VK → Prop} {t : TA} (q : ta σ H fun x H1 => tyV K T x H1 ∧ t σ H1 fun xs H2 => rm x xs H2 Q) : tBM K T rm ta t σ H Q := q
theorem x_bm0 {T : String} {rm : V → List V → Hp → VK → Prop} (q : ta σ H fun x H1 => tyV K T x H1 ∧ rm x [] H1 Q) : tBM0 K T rm ta σ H Q := q
theorem x_app {l : Addr} {xs : List V} (h : H l = some (.lst xs)) (n : xs.length < sizeLine) (q : Q .non (upd H l (.lst (xs ++ [y])))) : rAppend (.ref l) [y] H Q := ⟨l, xs, y, rfl, rfl, h, n, q⟩
theorem x_tyL {l : Addr} {xs : List V} {P : Prop} (h : SqL K H l xs) (q : P) : tyV K "list" (.ref l) H ∧ P := ⟨.inl ⟨rfl, _, h⟩, q⟩
/-! ### ways -/
theorem x_if {b : Bool} {A B : Prop} (h1 : b = true → A) (h2 : b = false → B) : if b = true then A else B := by
  cases b with
  | true => exact iteT (h1 rfl)
  | false => exact iteF (h2 rfl)
theorem x_ifd {p A B : Prop} [Decidable p] (h1 : p → A) (h2 : ¬ p → B) : if decide p = true then A else B := x_if (fun h => h1 (of_decide_eq_true h)) fun h => h2 (of_decide_eq_false h)
theorem x_ifn {p A B : Prop} [Decidable p] (h1 : ¬ p → A) (h2 : p → B) : if (!decide p) = true then A else B := by
  by_cases h : p
  · rw [decide_eq_true h]
    exact iteF (h2 h)
  · rw [decide_eq_false h]
    exact iteT (h1 h)
theorem x_ifY {b : Bool} {A B : Prop} (h : b = true) (q : A) : if b = true then A else B := by
  rw [h]
  exact iteT q
theorem x_ifN {b : Bool} {A B : Prop} (h : b = false) (q : B) : if b = true then A else B := by
  rw [h]
  exact iteF q
end
/-! ### heaps -/
abbrev Ex (H H' : Hp) : Prop := ∀ a o, H a = some o → H' a = some o
theorem Ex.rfl {H : Hp} : Ex H H := fun _ _ h => h
theorem Ex.tr {H H1 H2 : Hp} (a : Ex H H1) (b : Ex H1 H2) : Ex H H2 := fun x o h => b x o (a x o h)
theorem Ex.new {H : Hp} {p : Addr} {o : HO} (h : H p = none) : Ex H (upd H p o) := fun a u e => by
  rw [upd_ne (ne_of_none e h)]
  exact e
theorem ex_at {H H' : Hp} {a : Addr} {o : HO} (e : Ex H H') (h : H a = some o) : H' a = some o := e a o h
theorem ex_none {H H' : Hp} {a : Addr} (e : Ex H H') (h : H' a = none) : H a = none := by
  cases q : H a with
  | none => rfl
  | some o =>
    rw [e a o q] at h
    cases h
theorem Ex.sq {K : PySem.W.Frag} {H H' : Hp} {a : Addr} {xs : List V} (e : Ex H H') (h : SqL K H a xs) : SqL K H' a xs := by
  rcases h with (h | ⟨o, h⟩) | h
  · exact .inl (.inl (e _ _ h))
  · exact .inl (.inr ⟨o, e _ _ h⟩)
  · exact .inr h
theorem Ex.st {K : PySem.W.Frag} {H H' : Hp} {a : Addr} {xs : List V} (e : Ex H H') (h : SqT K H a xs) : SqT K H' a xs := by
  rcases h with (h | ⟨o, h⟩) | h
  · exact .inl (.inl (e _ _ h))
  · exact .inl (.inr ⟨o, e _ _ h⟩)
  · exact .inr h
/-- what stood stands, but at the places S -/
def Off (S : List Addr) (H H' : Hp) : Prop := ∀ a o, H a = some o → a ∉ S → H' a = some o
theorem Off.rfl {S : List Addr} {H : Hp} : Off S H H := fun _ _ h _ => h
theorem Off.tr {S : List Addr} {H H1 H2 : Hp} (a : Off S H H1) (b : Off S H1 H2) : Off S H H2 := fun x o h n => b x o (a x o h n) n
theorem Ex.off {S : List Addr} {H H' : Hp} (e : Ex H H') : Off S H H' := fun a o h _ => e a o h
theorem Off.new {S : List Addr} {H H' : Hp} {p : Addr} {o : HO} (e : Off S H H') (h : H p = none) : Off S H (upd H' p o) := fun a u q n => by
  rw [upd_ne (ne_of_none q h)]
  exact e a u q n
theorem Off.put {S : List Addr} {H H' : Hp} {p : Addr} {o : HO} (e : Off S H H') (h : p ∈ S) : Off S H (upd H' p o) := fun a u q n => by
  have z : a ≠ p := fun z => n (by rw [z]; exact h)
  rw [upd_ne z]
  exact e a u q n
/-! ### a def by its name -/
structure Fn (P : Program) (w : World) (K : PySem.W.Frag) (mg : Str → Option Value) (base : Heap) (k : Nat) (x : Str) (ps : List Str) (sp : Sp) : Prop where
  ex : ∃ (f : Addr) (fd : FuncData), mg x = some (.ref f) ∧ FnOk P w K mg base (L2.CX P w) k f fd ps sp ∧ Binds K fd ps [] ∧ PySem.W.keepIn K (.ref f) = true
def tFn (sp : Sp) (E : L2.St → XK) (t : TA) : TE := fun σ H Q => t σ H fun vs H1 => sp vs H1 Q (E σ)
section
variable {X : Cx} {k : Nat} {ps : List Str} {sp : Sp} {E : L2.St → XK} {x : Str} {p pos : Pos} {e : Expr} {es : List Expr} {t : TA}
theorem pe_fn (F : Fn X.prog X.w X.K X.mg X.base k x ps sp) (hr : Room k X.A) (hg : Gl X x) (hx : ∀ σ, PassesAt (L2.CX X.prog X.w) X σ (E σ)) (ha : PA X (e :: es) t)
    (hdb : (x == ("__debug__" : Str)) = false := by decide) (he : starEach (e :: es) X.env = (false, eval e X.env) :: starEach es X.env := by rfl) (hpl : (backTo pos (starEach es X.env)).any (·.1) = false := by rfl) :
    PE X (.Call (.Name x p) (e :: es) [] pos) (tFn sp E t) := by
  obtain ⟨f, fd, hm, ok, hb, hk⟩ := F.ex
  exact pe_callS ok hr hg hm hk hb hx ha hdb he hpl
theorem x_fn {σ : L2.St} {H : Hp} {Q : VK} (q : t σ H fun vs H1 => sp vs H1 Q (E σ)) : tFn sp E t σ H Q := q
/-- within a comprehension nothing is let out -/
theorem passC (hx : X.xe = fun _ _ => False) : ∀ σ, PassesAt (L2.CX X.prog X.w) X σ ((fun _ => E0) σ) := fun _ _ _ _ _ _ _ h => by
  obtain ⟨_, _, _, _, _, _, _, _, _, _, _, _, z⟩ := h
  exact z.elim
/-- in a def's own body -/
theorem passD {E : XK} {E₁ : Value → Shared → Prop} (hs : X.stack = X.env :: X.outer) (hf : X.env.frame = some X.env.locals) (hex : X.ex = [])
    (hx : X.xe = fun e s' => wpAny (model X.prog X.w) X.A (leaving X.env e) (fun _ s'' => L2.CX X.prog X.w X.outer X.H_0 X.s_0 E e s'') E₁ s') : ∀ σ, PassesAt (L2.CX X.prog X.w) X σ ((fun _ => E) σ) :=
  fun σ => passAt (W := fun cls d _ H => E cls d H) (takes_of hs hf hex hx) σ
/-- constants of the module -/
theorem pe_gint {n : Int} (hm : ∃ t, X.mg x = some (.int n t)) (hg : Gl X x) (hd : (x == ("__debug__" : Str)) = false := by decide) : PE X (.Name x pos) (tC (.int n)) := by
  obtain ⟨t, h⟩ := hm
  exact pe_glob hg h ⟨t, rfl⟩ hd
theorem pe_gstr {z : Str} (hm : ∃ t, X.mg x = some (.str z t)) (hg : Gl X x) (hd : (x == ("__debug__" : Str)) = false := by decide) : PE X (.Name x pos) (tC (.str z)) := by
  obtain ⟨t, h⟩ := hm
  exact pe_glob hg h ⟨t, rfl⟩ hd
end
theorem pe_ty {X : Cx} {x : Str} {n : String} {pos : Pos} (hm : X.mg x = none) (hv : bootBuiltins x = some (.type n)) (hg : Gl X x) (hn : x ≠ "__name__" := by decide) (hd : (x == ("__debug__" : Str)) = false := by decide) : PE X (.Name x pos) (tC (.ty n)) :=
  pe_bltn hg hm hv rfl hn hd
/-! ### a def with defaults, a def called with keywords -/
structure FnD (P : Program) (w : World) (K : PySem.W.Frag) (mg : Str → Option Value) (base : Heap) (k : Nat) (x : Str) (ps : List Str) (dvs : List V) (sp : Sp) : Prop where
  ex : ∃ (f : Addr) (fd : FuncData) (ds : List Value), mg x = some (.ref f) ∧ FnOk P w K mg base (L2.CX P w) k f fd ps sp ∧ Binds K fd ps ds ∧ Vals dvs ds ∧ PySem.W.keepIn K (.ref f) = true
structure FnK (P : Program) (w : World) (K : PySem.W.Frag) (mg : Str → Option Value) (base : Heap) (k : Nat) (x : Str) (ps : List Str) (n : Nat) (ks : List Str) (sp : Sp) : Prop where
  ex : ∃ (f : Addr) (fd : FuncData), mg x = some (.ref f) ∧ FnOk P w K mg base (L2.CX P w) k f fd ps sp ∧ KBn K fd ps n ks (fun us ws => us ++ ws) (fun vs zs => vs ++ zs) ∧ PySem.W.keepIn K (.ref f) = true
section
variable {X : Cx} {k n : Nat} {ps ks : List Str} {sp : Sp} {E : XK} {x : Str} {p pos : Pos} {e : Expr} {es : List Expr} {t tk : TA} {kws : List Keyword} {dvs : List V}
def tFnD (sp : Sp) (dvs : List V) (E : XK) (t : TA) : TE := fun σ H Q => t σ H fun vs H1 => sp (vs ++ dvs) H1 Q E
def tFnK (n m : Nat) (sp : Sp) (E : XK) (t tk : TA) : TE := fun σ H Q => t σ H fun vs H1 => tk σ H1 fun zs H2 => vs.length = n ∧ zs.length = m ∧ sp (vs ++ zs) H2 Q E
theorem passA (hx : ∀ σ, PassesAt (L2.CX X.prog X.w) X σ ((fun _ => E) σ)) : Passes (L2.CX X.prog X.w) X E := fun pins σ H s e s' I c => hx σ pins H s e s' I c
theorem pe_fnD (F : FnD X.prog X.w X.K X.mg X.base k x ps dvs sp) (hr : Room k X.A) (hg : Gl X x) (hx : ∀ σ, PassesAt (L2.CX X.prog X.w) X σ ((fun _ => E) σ)) (ha : PA X (e :: es) t)
    (hdb : (x == ("__debug__" : Str)) = false := by decide) (he : starEach (e :: es) X.env = (false, eval e X.env) :: starEach es X.env := by rfl) (hpl : (backTo pos (starEach es X.env)).any (·.1) = false := by rfl) :
    PE X (.Call (.Name x p) (e :: es) [] pos) (tFnD sp dvs E t) := by
  obtain ⟨f, fd, ds, hm, ok, hb, hv, hk⟩ := F.ex
  exact pe_call ok hr hg hm hk hb hv (passA hx) ha hdb he hpl
theorem pe_fnK (F : FnK X.prog X.w X.K X.mg X.base k x ps n ks sp) (hr : Room k X.A) (hg : Gl X x) (hx : ∀ σ, PassesAt (L2.CX X.prog X.w) X σ ((fun _ => E) σ)) (ha : PA X (e :: es) t) (hkw : PK X kws tk)
    (hall : (backToKw pos (keywordEach kws X.env)).all (·.1.isSome) = true := by rfl) (hks : (backToKw pos (keywordEach kws X.env)).filterMap (·.1) = ks := by rfl)
    (hdb : (x == ("__debug__" : Str)) = false := by decide) (he : starEach (e :: es) X.env = (false, eval e X.env) :: starEach es X.env := by rfl)
    (hpl : ((backTo pos (starEach (e :: es) X.env)).any (·.1) || (backToKw pos (keywordEach kws X.env)).any (·.1.isNone)) = false := by rfl) :
    PE X (.Call (.Name x p) (e :: es) kws pos) (tFnK n ks.length sp E t tk) := by
  obtain ⟨f, fd, hm, ok, hb, hk⟩ := F.ex
  exact pe_callN ok hr hg hm hk hb (passA hx) ha hkw hall hks hdb he hpl
theorem x_fnD {σ : L2.St} {H : Hp} {Q : VK} (q : t σ H fun vs H1 => sp (vs ++ dvs) H1 Q E) : tFnD sp dvs E t σ H Q := q
theorem x_fnK {σ : L2.St} {H : Hp} {Q : VK} {m : Nat} (q : t σ H fun vs H1 => tk σ H1 fun zs H2 => vs.length = n ∧ zs.length = m ∧ sp (vs ++ zs) H2 Q E) : tFnK n m sp E t tk σ H Q := q
end
/-- keywords for all that has a default -/
theorem kbn_of {K : PySem.W.Frag} {x qual : Str} {params : Arguments} {body : List Stmt} {scope : Scope} {dvs : List V} {kws : List (Str × V)} {f : Addr} {fd : FuncData} {ps : List Str} (F : FunD K x qual params body scope dvs kws f fd) (n : Nat) (ks : List Str) (hd : dvs ≠ [])
    (h : ∀ (T : Addr) (kV doc pm : Value) (an : Option Addr) (cdv ct : Value) (us its ws : List Value), us.length = n → its.length = dvs.length → ws.length = ks.length →
      ∃ k, bindArgs (PySem.W.fnOf x qual params body scope (.ref T) kV doc pm an cdv ct) ⟨us, ks.zip ws⟩ = seqItems? (.ref T) >>= k ∧ k (some its.toArray) = pure (ps.zip (us ++ ws))) : KBn K fd ps n ks (fun us ws => us ++ ws) (fun vs zs => vs ++ zs) := by
  obtain ⟨oc, od, dV, kV, doc, pm, an, cdv, ct, osl, rfl, lk, hcd, hD, hK⟩ := F.ex
  rcases hD with ⟨e, _⟩ | ⟨_, T, o, its, m, rfl, lT, oT, rT⟩
  · exact absurd e hd
  · refine ⟨fun s us ws X l1 l2 => ?_, fun r1 r2 => r1.append r2⟩
    obtain ⟨k, e1, e2⟩ := h T kV doc pm an cdv ct us its ws l1 rT.length.symm l2
    refine BindsTo.of_looks fun M => ?_
    rw [e1]
    exact looks_items X lT oT (.of_pure e2)
/-! ### a statement, a word between, the rest -/
def tMid (t u : TS) : TS := fun D σ H => ∃ M : L2.St → Hp → Prop, t { D with nx := M } σ H ∧ ∀ σ' H', M σ' H' → u D σ' H'
theorem pss_mid {X : Cx} {st : Stmt} {rest : List Stmt} {t u : TS} (h1 : PS X st t) (h2 : PSs X rest u) : PSs X (st :: rest) (tMid t u) := by
  refine ⟨fun pins s σ H D I h => ?_⟩
  obtain ⟨M, hm, hu⟩ := h
  refine wpAny_execs_cons (thn (h1.run pins s σ H { D with nx := M } I hm) fun f s1 q => ?_)
  cases f with
  | next =>
    obtain ⟨σ1, H1, I1, q1⟩ := q
    exact h2.run pins s1 σ1 H1 D I1 (hu σ1 H1 q1)
  | ret v => exact q
  | brk => exact q
  | cont => exact q
section
variable {t u : TS} {D : Ends} {σ : L2.St} {H : Hp}
/-- straight on -/
theorem x_thru (q : t { D with nx := u D } σ H) : tMid t u D σ H := ⟨u D, q, fun _ _ h => h⟩
/-- the slots and the heap as they are, and a word -/
theorem x_cut (M : Prop) (q : t { D with nx := fun σ' H' => σ' = σ ∧ H' = H ∧ M } σ H) (k : M → u D σ H) : tMid t u D σ H := ⟨_, q, fun _ _ h => by
  obtain ⟨rfl, rfl, m⟩ := h
  exact k m⟩
/-- the slots as they are, the heap grown -/
theorem x_cutE (M : Hp → Prop) (q : t { D with nx := fun σ' H' => σ' = σ ∧ Ex H H' ∧ M H' } σ H) (k : ∀ H', Ex H H' → M H' → u D σ H') : tMid t u D σ H := ⟨_, q, fun _ _ h => by
  obtain ⟨rfl, e, m⟩ := h
  exact k _ e m⟩
theorem x_cutM (M : L2.St → Hp → Prop) (q : t { D with nx := M } σ H) (k : ∀ σ' H', M σ' H' → u D σ' H') : tMid t u D σ H := ⟨M, q, k⟩
end
/-! ### comprehensions whose turns only make things -/
/-- over xs, the items that p keeps, f of each -/
def Cmp (xs : List V) (j : Nat) (tt : TT) (te : TE) (vs : List Nat) (σ : L2.St) (H1 : Hp) (Q : VK) : Prop :=
  (∀ x, wipe ((wipe σ vs).set j (some x)) vs = wipe σ vs) ∧ xs.length ≤ 100000 ∧ ∃ (p : V → Bool) (f : V → V),
    (∀ x ∈ xs, ∀ H', Ex H1 H' → ∀ R : Bool → Hp → Prop, (∀ H2, Ex H' H2 → R (p x) H2) → tt ((wipe σ vs).set j (some x)) H' R) ∧
    (∀ x ∈ xs, p x = true → ∀ H', Ex H1 H' → ∀ R : VK, (∀ H2, Ex H' H2 → R (f x) H2) → te ((wipe σ vs).set j (some x)) H' R) ∧
    ∀ D H', H1 D = none → Ex H1 H' → H' D = some (.lst ((xs.filter p).map f)) → Q (.ref D) H'
theorem take_snoc {α : Type} {l : List α} {i : Nat} {x : α} (h : l[i]? = some x) : l.take (i + 1) = l.take i ++ [x] := by
  rw [List.take_succ, h]
  rfl
theorem lc_cmp {J : It} {G : Hp → Prop} {xs : List V} {j : Nat} {tt : TT} {te : TE} {vs : List Nat} {σ : L2.St} {H1 : Hp} {Q : VK} (w : Walk J xs.length G (YAt xs)) (hG : ∀ H', Ex H1 H' → G H') (c : Cmp xs j tt te vs σ H1 Q) :
    ∀ D, H1 D = none → ∃ W : Nat → Nat → Hp → Prop, (∃ m, W 0 m (upd H1 D (.lst []))) ∧ ∀ i m H, W i m H →
      (J.stop i H ∧ Q (.ref D) H) ∨ (J.go i H ∧ ∃ Nx : Hp → Prop, (∀ H', Nx H' → ∃ m', m' < m ∧ W (i + 1) m' H') ∧ ∀ x H', J.yld i H x H' → (gName j) x (wipe σ vs) H' fun σ2 H2 => wipe σ2 vs = wipe σ vs ∧ tt σ2 H2 fun b H3 =>
        if b = true then te σ2 H3 fun y H4 => ∃ acc, H4 D = some (.lst acc) ∧ acc.length < sizeLine ∧ Nx (upd H4 D (.lst (acc ++ [y]))) else Nx H3) := by
  obtain ⟨hw, hz, p, f, ht, he, q⟩ := c
  intro D hD
  refine lc_it w (fun i H' => Ex H1 H' ∧ H' D = some (.lst (((xs.take i).filter p).map f))) ⟨Ex.new hD, upd_same⟩ (fun i H' _ h => hG H' h.1) ?_ (fun H' h => q D H' hD h.1 (by have := h.2; rw [List.take_length] at this; exact this))
  rintro i x H' H'' hi ⟨e, hl⟩ ⟨rfl, hx⟩
  have hm : x ∈ xs := List.mem_of_getElem? hx
  refine ⟨hw x, ht x hm H'' e _ fun H2 e2 => ?_⟩
  have et := take_snoc hx
  have hlen : (((xs.take i).filter p).map f).length < sizeLine := by
    rw [List.length_map]
    have h1 := List.length_filter_le p (xs.take i)
    have h2 : (xs.take i).length ≤ xs.length := by rw [List.length_take]; omega
    have h3 : (100000 : Nat) < sizeLine := by decide
    omega
  cases hp : p x with
  | true =>
    show te _ H2 _
    refine he x hm hp H2 (e.tr e2) _ fun H3 e3 => ⟨_, e3 D _ (e2 D _ hl), hlen, fun a o h => ?_, ?_⟩
    · have hne : a ≠ D := fun z => by rw [z, hD] at h; cases h
      rw [upd_ne hne]
      exact e3 a o (e2 a o (e a o h))
    · rw [et, List.filter_append, List.map_append, List.filter_cons, if_pos hp]
      exact upd_same
  | false =>
    show Ex H1 H2 ∧ _
    refine ⟨e.tr e2, ?_⟩
    rw [et, List.filter_append, List.filter_cons, if_neg (by rw [hp]; decide), List.filter_nil, List.append_nil]
    exact e2 D _ hl
/-- what a comprehension over J asks, from the heap on -/
def LcK (J : It) (g : TG) (tt : TT) (te : TE) (vs : List Nat) (σ : L2.St) (Q : VK) (H1 : Hp) : Prop :=
  ∀ D, H1 D = none → ∃ W : Nat → Nat → Hp → Prop, (∃ m, W 0 m (upd H1 D (.lst []))) ∧ ∀ i m H, W i m H →
    (J.stop i H ∧ Q (.ref D) H) ∨ (J.go i H ∧ ∃ Nx : Hp → Prop, (∀ H', Nx H' → ∃ m', m' < m ∧ W (i + 1) m' H') ∧ ∀ x H', J.yld i H x H' → g x (wipe σ vs) H' fun σ2 H2 => wipe σ2 vs = wipe σ vs ∧ tt σ2 H2 fun b H3 =>
      if b = true then te σ2 H3 fun y H4 => ∃ acc, H4 D = some (.lst acc) ∧ acc.length < sizeLine ∧ Nx (upd H4 D (.lst (acc ++ [y]))) else Nx H3)
section
variable {σ : L2.St} {H : Hp} {Q : VK} {te tel : TE} {ta : TA} {tt : TT} {j : Nat} {vs : List Nat} {K : PySem.W.Frag} {g : TG}
theorem x_lcS (q : te σ H fun v H1 => ∃ x : Str, v = .str x ∧ LcK (Its x) g tt tel vs σ Q H1) : tLc (iStr te) g tt tel vs σ H Q := q
theorem x_lcL (q : te σ H fun x H1 => ∃ a, x = .ref a ∧ (∃ xs, SqL K H1 a xs) ∧ LcK (Itl K a) g tt tel vs σ Q H1) : tLc (iList K te) g tt tel vs σ H Q := q
theorem x_lcR1 (q : ta σ H fun vs' H1 => ∃ n : Int, vs' = [.int n] ∧ -(2 ^ 62) ≤ n ∧ n < 2 ^ 62 ∧ LcK (Itr 0 n.toNat) g tt tel vs σ Q H1) : tLc (iRng1 ta) g tt tel vs σ H Q := q
theorem x_lcSV {z : Str} (c : Cmp (z.cps.toList.map fun c => V.str ⟨#[c]⟩) j tt tel vs σ H Q) : ∃ x : Str, V.str z = .str x ∧ LcK (Its x) (gName j) tt tel vs σ Q H := by
  refine ⟨z, rfl, lc_cmp (G := fun _ => True) ?_ (fun _ _ => trivial) c⟩
  have e : (z.cps.toList.map fun c => V.str ⟨#[c]⟩).length = z.cps.size := by simp
  rw [e]
  refine walk_str.mono (fun _ h => h) fun i H x H' _ _ h => ⟨h.1, ?_⟩
  obtain ⟨_, c, hc, rfl⟩ := h
  rw [List.getElem?_map, Array.getElem?_toList, hc]
  rfl
theorem x_lcLV {a : Addr} {xs : List V} (h : SqL K H a xs) (c : Cmp xs j tt tel vs σ H Q) : ∃ b, V.ref a = .ref b ∧ (∃ xs, SqL K H b xs) ∧ LcK (Itl K b) (gName j) tt tel vs σ Q H :=
  ⟨a, rfl, ⟨xs, h⟩, lc_cmp (G := fun H => SqL K H a xs) walk_list (fun _ e => e.sq h) c⟩
/-- a list, no test: an invariant of your own -/
theorem x_lcLI {a : Addr} {xs : List V} (Pv : Addr → Nat → Hp → Prop) (h : SqL K H a xs) (h0 : ∀ D, H D = none → Pv D 0 (upd H D (.lst []))) (hl : ∀ D i H', H D = none → Pv D i H' → SqL K H' a xs)
    (hs : ∀ D (i : Nat) x H', H D = none → xs[i]? = some x → Pv D i H' → wipe ((wipe σ vs).set j (some x)) vs = wipe σ vs ∧ tel ((wipe σ vs).set j (some x)) H' fun y H4 => ∃ acc, H4 D = some (.lst acc) ∧ acc.length < sizeLine ∧ Pv D (i + 1) (upd H4 D (.lst (acc ++ [y]))))
    (hd : ∀ D H', H D = none → Pv D xs.length H' → Q (.ref D) H') : ∃ b, V.ref a = .ref b ∧ (∃ xs, SqL K H b xs) ∧ LcK (Itl K b) (gName j) tYes tel vs σ Q H := by
  refine ⟨a, rfl, ⟨xs, h⟩, fun D hD => lc_list (xs := xs) (Pv D) (h0 D hD) (fun i H' _ p => hl D i H' hD p) (fun i x H' hi p => ?_) (fun H' p => hd D H' hD p)⟩
  obtain ⟨h1, h2⟩ := hs D i x H' hD hi p
  exact ⟨h1, h2⟩
/-- a range, the items by their number, no test: an invariant of your own -/
theorem x_lcRV {n : Int} (Pv : Addr → Nat → Hp → Prop) (hn : 0 ≤ n ∧ n ≤ 100000) (h0 : ∀ D, H D = none → Pv D 0 (upd H D (.lst [])))
    (hs : ∀ D (i : Nat) H', H D = none → (i : Int) < n → Pv D i H' → wipe ((wipe σ vs).set j (some (.int (i : Int)))) vs = wipe σ vs ∧ tel ((wipe σ vs).set j (some (.int (i : Int)))) H' fun y H4 => ∃ acc, H4 D = some (.lst acc) ∧ acc.length < sizeLine ∧ Pv D (i + 1) (upd H4 D (.lst (acc ++ [y]))))
    (hd : ∀ D H', H D = none → Pv D n.toNat H' → Q (.ref D) H') : ∃ m : Int, ([V.int n] : List V) = [.int m] ∧ -(2 ^ 62) ≤ m ∧ m < 2 ^ 62 ∧ LcK (Itr 0 m.toNat) (gName j) tYes tel vs σ Q H := by
  refine ⟨n, rfl, by omega, by omega, fun D hD => lc_range (lo := 0) (n := n.toNat) (Pv D) (h0 D hD) (fun i H' hi p => ?_) (fun H' p => hd D H' hD p)⟩
  obtain ⟨h1, h2⟩ := hs D i H' hD (by omega) p
  have e : (0 : Int) + (i : Int) = (i : Int) := Int.zero_add _
  show wipe ((wipe σ vs).set j (some (V.int ((0 : Int) + (i : Int))))) vs = wipe σ vs ∧ _
  rw [e]
  exact ⟨h1, h2⟩
end
/-! ### loops -/
/-- what a for over J asks, from the heap on -/
def ForK (J : It) (g : TG) (tb : TS) (D : Ends) (σ : L2.St) (H : Hp) : Prop := ∃ W : Nat → Nat → L2.St → Hp → Prop, (∃ m, W 0 m σ H) ∧ ∀ i m σ H, W i m σ H →
  (J.stop i H ∧ D.nx σ H) ∨ (J.go i H ∧ ∃ N : L2.St → Hp → Prop, (∀ σ' H', N σ' H' → ∃ m', m' < m ∧ W (i + 1) m' σ' H') ∧ ∀ x H', J.yld i H x H' → g x σ H' fun σ2 H2 => tb { D with nx := N, ct := N, bk := D.nx } σ2 H2)
section
variable {σ : L2.St} {H : Hp} {te : TE} {ta : TA} {j : Nat} {K : PySem.W.Frag} {g : TG} {tb : TS} {D : Ends}
theorem x_forR1 (q : ta σ H fun vs H1 => ∃ n : Int, vs = [.int n] ∧ -(2 ^ 62) ≤ n ∧ n < 2 ^ 62 ∧ ForK (Itr 0 n.toNat) g tb D σ H1) : tFor (iRng1 ta) g tb D σ H := q
theorem x_forR2 (q : ta σ H fun vs H1 => ∃ i n : Int, vs = [.int i, .int n] ∧ (-(2 ^ 62) ≤ i ∧ i < 2 ^ 62 ∧ -(2 ^ 62) ≤ n ∧ n < 2 ^ 62) ∧ ForK (Itr i (n - i).toNat) g tb D σ H1) : tFor (iRng2 ta) g tb D σ H := q
theorem x_forL (q : te σ H fun x H1 => ∃ a, x = .ref a ∧ (∃ xs, SqL K H1 a xs) ∧ ForK (Itl K a) g tb D σ H1) : tFor (iList K te) g tb D σ H := q
theorem x_forRV {n : Int} (Pv : Nat → L2.St → Hp → Prop) (hn : n ≤ 100000 ∧ -100000 ≤ n) (h0 : Pv 0 σ H)
    (hs : ∀ (i : Nat) σ' H', (i : Int) < n → Pv i σ' H' → tb { D with nx := Pv (i + 1), ct := Pv (i + 1), bk := D.nx } (σ'.set j (some (.int (i : Int)))) H') (hd : ∀ σ' H', Pv n.toNat σ' H' → D.nx σ' H') :
    ∃ m : Int, ([V.int n] : List V) = [.int m] ∧ -(2 ^ 62) ≤ m ∧ m < 2 ^ 62 ∧ ForK (Itr 0 m.toNat) (gName j) tb D σ H := by
  refine ⟨n, rfl, by omega, by omega, for_range (lo := 0) (n := n.toNat) Pv h0 (fun i σ' H' hi p => ?_) hd⟩
  have e : (0 : Int) + (i : Int) = (i : Int) := Int.zero_add _
  show tb _ (σ'.set j (some (V.int ((0 : Int) + (i : Int))))) H'
  rw [e]
  exact hs i σ' H' (by omega) p
theorem x_forR2V {lo n : Int} (Pv : Nat → L2.St → Hp → Prop) (hn : n ≤ 100000 ∧ -100000 ≤ n ∧ lo ≤ 100000 ∧ -100000 ≤ lo) (h0 : Pv 0 σ H)
    (hs : ∀ (i : Nat) σ' H', lo + (i : Int) < n → Pv i σ' H' → tb { D with nx := Pv (i + 1), ct := Pv (i + 1), bk := D.nx } (σ'.set j (some (.int (lo + (i : Int))))) H') (hd : ∀ σ' H', Pv (n - lo).toNat σ' H' → D.nx σ' H') :
    ∃ i m : Int, ([V.int lo, V.int n] : List V) = [.int i, .int m] ∧ (-(2 ^ 62) ≤ i ∧ i < 2 ^ 62 ∧ -(2 ^ 62) ≤ m ∧ m < 2 ^ 62) ∧ ForK (Itr i (m - i).toNat) (gName j) tb D σ H :=
  ⟨lo, n, rfl, by omega, for_range (lo := lo) (n := (n - lo).toNat) Pv h0 (fun i σ' H' hi p => hs i σ' H' (by omega) p) hd⟩
theorem x_forLV {a : Addr} {xs : List V} (Pv : Nat → L2.St → Hp → Prop) (h : SqL K H a xs) (h0 : Pv 0 σ H) (hl : ∀ i σ' H', i ≤ xs.length → Pv i σ' H' → SqL K H' a xs)
    (hs : ∀ i x σ' H', xs[i]? = some x → Pv i σ' H' → g x σ' H' fun σ2 H2 => tb { D with nx := Pv (i + 1), ct := Pv (i + 1), bk := D.nx } σ2 H2) (hd : ∀ σ' H', Pv xs.length σ' H' → D.nx σ' H') :
    ∃ b, V.ref a = .ref b ∧ (∃ xs, SqL K H b xs) ∧ ForK (Itl K b) g tb D σ H := ⟨a, rfl, ⟨xs, h⟩, for_list (xs := xs) Pv h0 hl hs hd⟩
end
/-! ### an own error with one text -/
structure Rz (K : PySem.W.Frag) (mg : Str → Option Value) (x : Str) (C : Addr) : Prop where
  g : mg x = some (.ref C)
  q : PySem.W.excIn K C He.veBase "ValueError.__new__" = true
  k : PySem.W.keepIn K (.ref C) = true
  b : PySem.W.subIn K (.ref C) (.type "BaseException") = some true
  t : PySem.W.typeIn K (.ref C) = some (.type "type")
theorem pmk_txt {X : Cx} {x m : Str} {C : Addr} {j : Nat} {p p2 pos : Pos} (R : Rz X.K X.mg x C) (hg : Gl X x) (hdb : (x == ("__debug__" : Str)) = false := by decide) :
    PMk X (.Call (.Name x p) [.Constant (.str m) j p2] [] pos) (fun _ H Q => Q (.ref C) none H) := pmk_own PySem.F.excBase_ValueError R.q R.g R.k (raises_own R.b R.t) hg hdb
/-! ### the end of a law -/
theorem walk_fin {l : PySem.W.OpenLaw} {n k : Nat} {q : Program} {loose : List Str} {XP : (Str → Option Value) → Heap → Prop} {YP : World → Heap → Prop} {d : DefRec} {x : Str}
    (hn : l.most = some n) (hn2 : n ≤ sizeLine) (hdf : d.params.defaults = []) (hr : Room k callerA)
    (F : ∀ (w : World) (mg : Str → Option Value) (fa : Addr) (h : Heap), YP w h → h.Ns mainGlobals mg → mg d.name = some (.ref fa) → ∃ (K : PySem.W.Frag) (sp : Sp), K.In h ∧
      (∀ (H : Hp) (a : Addr) (ns : List Int), ns.length ≤ n → SqL K H a (ns.map V.int) → sp [.ref a] H (fun v _ => v = .bl true) fun _ _ _ => False) ∧
      ∃ fd : FuncData, (∀ (s : Shared) (u : Value), BindsTo s fd ⟨[u], []⟩ [(x, u)]) ∧ ∀ base : Heap, FnOk l.prog w K mg base (L2.CX l.prog w) k fa fd [x] sp) :
    PySem.W.WalkO q loose XP YP l.row.toRowW d [] (fun f vs => PySem.call f vs) := by
  refine Att.attach_call hn hdf ?_
  intro w s0 s1 mg mb fa o pm cd doc a vs ns G Y ho hd hcd hmg hobj hints hlen hg
  obtain ⟨K, sp, KX, hsp, fd, hb, hF⟩ := F w mg fa _ Y G.T.g hmg
  refine law_call (CX := L2.CX l.prog w) KX G.T.g G.T.b G.T.builtins G.T.nolimit hg hobj hints (Nat.le_trans hlen hn2) hr (fun base _ _ => hF base) hb (fun H _ hS => hsp H a ns hlen hS) ?_
  intro H e s' h
  obtain ⟨_, _, _, _, _, _, _, _, _, _, _, _, z⟩ := h
  exact z
end Tm

namespace Tm
open PySem L2
/-! ### names, parts, paths -/
abbrev sl : Str := "/"
abbrev signs : Str := "abcdefghijklmnopqrstuvwxyz0123456789"
abbrev cs (s : Str) : List Nat := s.cps.toList
def isName (s : Str) : Bool := decide (1 ≤ s.length) && (decide (s.length ≤ 8) && (cs s).all fun c => decide (c ∈ cs signs))
def isPart (s : Str) : Bool := decide (s = ".") || (decide (s = "..") || isName s)
def goodParts (ps : List Str) : Bool := decide (ps.length ≤ 12) && ps.all isPart
def restOf (s : Str) : Str := if Txt.slice s none (some 1) = sl then Txt.slice s (some 1) none else s
def partsOf (top : Bool) (s : Str) : Option (List Str) :=
  if top = true ∧ ¬ Txt.slice s none (some 1) = sl then none
  else if restOf s = "" ∧ s = sl then some []
  else if goodParts (Txt.split (restOf s) sl) = true then some (Txt.split (restOf s) sl) else none
def pathOf (ps : List Str) : Str := sl ++ Txt.join sl ps
theorem cs_sl : cs sl = [47] := by decide +kernel
theorem cs_signs : cs signs = [97, 98, 99, 100, 101, 102, 103, 104, 105, 106, 107, 108, 109, 110, 111, 112, 113, 114, 115, 116, 117, 118, 119, 120, 121, 122, 48, 49, 50, 51, 52, 53, 54, 55, 56, 57] := by decide +kernel
theorem cs_dot : cs "." = [46] := by decide +kernel
theorem cs_dots : cs ".." = [46, 46] := by decide +kernel
theorem len_cs (s : Str) : s.length = (cs s).length := by simp [Str.length]
theorem cs_cat (a b : Str) : cs (a ++ b) = cs a ++ cs b := TL.tl_append a b
theorem ext_cs {a b : Str} (h : cs a = cs b) : a = b := TL.ext_tl h
theorem sl_S : sl = SX.S [47] := by decide +kernel
theorem S_cs (s : Str) : SX.S (cs s) = s := SX.S_tl s
/-- a name has signs, none a stroke or a dot -/
theorem name_facts {s : Str} (h : isName s = true) : cs s ≠ [] ∧ 47 ∉ cs s ∧ 46 ∉ cs s ∧ s.length ≤ 8 := by
  unfold isName at h
  simp only [Bool.and_eq_true, decide_eq_true_eq, List.all_eq_true] at h
  obtain ⟨h1, h2, h3⟩ := h
  refine ⟨fun e => ?_, fun e => ?_, fun e => ?_, h2⟩
  · rw [len_cs, e] at h1
    exact absurd h1 (by decide)
  · have := h3 _ e
    rw [cs_signs] at this
    exact absurd this (by decide)
  · have := h3 _ e
    rw [cs_signs] at this
    exact absurd this (by decide)
theorem part_facts {s : Str} (h : isPart s = true) : cs s ≠ [] ∧ 47 ∉ cs s ∧ s.length ≤ 8 := by
  unfold isPart at h
  simp only [Bool.or_eq_true, decide_eq_true_eq] at h
  rcases h with h | h | h
  · subst h
    refine ⟨?_, ?_, ?_⟩
    · rw [cs_dot]; decide
    · rw [cs_dot]; decide
    · rw [len_cs, cs_dot]; decide
  · subst h
    refine ⟨?_, ?_, ?_⟩
    · rw [cs_dots]; decide
    · rw [cs_dots]; decide
    · rw [len_cs, cs_dots]; decide
  · obtain ⟨a, b, _, d⟩ := name_facts h
    exact ⟨a, b, d⟩
theorem not_name_dot : isName "." = false := by decide +kernel
theorem not_name_dots : isName ".." = false := by decide +kernel
theorem good_all {ps : List Str} (h : goodParts ps = true) : ps.length ≤ 12 ∧ ∀ p ∈ ps, isPart p = true := by
  unfold goodParts at h
  simp only [Bool.and_eq_true, decide_eq_true_eq, List.all_eq_true] at h
  exact h
theorem good_of {ps : List Str} (h1 : ps.length ≤ 12) (h2 : ∀ p ∈ ps, isPart p = true) : goodParts ps = true := by
  unfold goodParts
  simp only [Bool.and_eq_true, decide_eq_true_eq, List.all_eq_true]
  exact ⟨h1, h2⟩
/-- joined by strokes, as signs -/
theorem cs_join (ps : List Str) : cs (Txt.join sl ps) = TL.joinL [47] (ps.map cs) := by
  have e : cs (Txt.join sl ps) = TL.joinL (cs sl) (ps.map cs) := by
    have h1 : Txt.join sl ps = Str.join sl ps := TL.join_eq sl ps
    rw [h1]
    exact TL.tl_join sl ps
  rw [cs_sl] at e
  exact e
theorem cs_path (ps : List Str) : cs (pathOf ps) = 47 :: TL.joinL [47] (ps.map cs) := by
  unfold pathOf
  rw [cs_cat, cs_sl, cs_join] <;> rfl
theorem slice1 (s : Str) : Txt.slice s none (some 1) = SX.S ((cs s).take 1) := by
  have e := SX.slice_to (a := cs s) (i := 1) (by decide)
  rw [S_cs] at e
  exact e
theorem slice1' (s : Str) : Txt.slice s (some 1) none = SX.S ((cs s).drop 1) := by
  have e := SX.slice_from (a := cs s) (i := 1) (by decide)
  rw [S_cs] at e
  exact e
theorem split_join {ps : List Str} (hne : ps ≠ []) (h : ∀ p ∈ ps, 47 ∉ cs p) : Txt.split (Txt.join sl ps) sl = ps :=
  TL.split_join (y := sl) (s := 47) (S := []) cs_sl (by decide +kernel) hne h
theorem joinL_first {c : Nat} {r : List Nat} {ls : List (List Nat)} : (TL.joinL [47] ((c :: r) :: ls)).take 1 = [c] := by
  cases ls with
  | nil => rfl
  | cons q t => rfl
theorem first_join {ps : List Str} (hne : ps ≠ []) (h : ∀ p ∈ ps, isPart p = true) : ∃ c, (cs (Txt.join sl ps)).take 1 = [c] ∧ c ≠ 47 := by
  cases ps with
  | nil => exact absurd rfl hne
  | cons p r =>
    obtain ⟨h1, h2, _⟩ := part_facts (h p (List.mem_cons_self ..))
    cases e : cs p with
    | nil => exact absurd e h1
    | cons c t =>
      refine ⟨c, ?_, fun z => h2 ?_⟩
      · rw [cs_join, List.map_cons, e]
        exact joinL_first
      · rw [e, z]
        exact List.mem_cons_self ..
theorem S_ne {a b : List Nat} (h : a ≠ b) : SX.S a ≠ SX.S b := fun e => h (SX.S_inj e)
theorem rest_path (ps : List Str) : Txt.slice (pathOf ps) none (some 1) = sl ∧ restOf (pathOf ps) = Txt.join sl ps := by
  have e : Txt.slice (pathOf ps) none (some 1) = sl := by
    rw [slice1, cs_path, sl_S] <;> rfl
  refine ⟨e, ?_⟩
  unfold restOf
  rw [if_pos e, slice1', cs_path]
  show SX.S (TL.joinL [47] (ps.map cs)) = _
  rw [← cs_join, S_cs]
theorem rest_rel {ps : List Str} (hne : ps ≠ []) (h : ∀ p ∈ ps, isPart p = true) : ¬ Txt.slice (Txt.join sl ps) none (some 1) = sl ∧ restOf (Txt.join sl ps) = Txt.join sl ps := by
  obtain ⟨c, h1, h2⟩ := first_join hne h
  have e : ¬ Txt.slice (Txt.join sl ps) none (some 1) = sl := by
    rw [slice1, h1, sl_S]
    exact S_ne fun z => h2 (by injection z)
  refine ⟨e, ?_⟩
  unfold restOf
  rw [if_neg e]
theorem join_ne {ps : List Str} (hne : ps ≠ []) (h : ∀ p ∈ ps, isPart p = true) : ¬ Txt.join sl ps = "" := fun e => by
  obtain ⟨c, h1, _⟩ := first_join hne h
  rw [e] at h1
  exact absurd h1 (by
    have z : cs "" = [] := by decide +kernel
    rw [z]
    intro q
    cases q)
theorem join_nil : Txt.join sl [] = "" := by decide +kernel
theorem path_nil : pathOf [] = sl := by decide +kernel
/-- THE READ-BACK of a path from the top -/
theorem parts_path (top : Bool) {ps : List Str} (h : goodParts ps = true) : partsOf top (pathOf ps) = some ps := by
  obtain ⟨h1, h2⟩ := good_all h
  obtain ⟨r1, r2⟩ := rest_path ps
  unfold partsOf
  rw [if_neg fun z => z.2 r1, r2]
  by_cases hne : ps = []
  · subst hne
    rw [if_pos ⟨join_nil, path_nil⟩]
  · rw [if_neg fun z => join_ne hne h2 z.1, split_join hne fun p hp => (part_facts (h2 p hp)).2.1, if_pos h]
theorem parts_rel {ps : List Str} (hne : ps ≠ []) (h : goodParts ps = true) : partsOf false (Txt.join sl ps) = some ps := by
  obtain ⟨h1, h2⟩ := good_all h
  obtain ⟨r1, r2⟩ := rest_rel hne h2
  unfold partsOf
  rw [if_neg (fun z : false = true ∧ _ => Bool.false_ne_true z.1), r2, if_neg fun z => join_ne hne h2 z.1, split_join hne fun p hp => (part_facts (h2 p hp)).2.1, if_pos h]
/-- what is told has good parts -/
theorem parts_good {top : Bool} {s : Str} {ps : List Str} (h : partsOf top s = some ps) : goodParts ps = true := by
  unfold partsOf at h
  split at h
  · cases h
  · split at h
    · cases h
      rfl
    · split at h
      · rename_i q
        cases h
        exact q
      · cases h
theorem join_short {ps : List Str} (h : goodParts ps = true) : (ps.map (·.length)).sum + ps.length * sl.length ≤ 108 := by
  obtain ⟨h1, h2⟩ := good_all h
  have e : sl.length = 1 := by decide +kernel
  rw [e, Nat.mul_one]
  have key : ∀ l : List Str, (∀ p ∈ l, isPart p = true) → (l.map (·.length)).sum ≤ 8 * l.length := by
    intro l
    induction l with
    | nil => intro _; exact Nat.le_refl _
    | cons p r ih =>
      intro hl
      have a := (part_facts (hl p (List.mem_cons_self ..))).2.2
      have b := ih fun q hq => hl q (List.mem_cons_of_mem _ hq)
      rw [List.map_cons, List.sum_cons, List.length_cons]
      omega
  have := key ps h2
  omega
theorem join_len {ps : List Str} (h : goodParts ps = true) : (Txt.join sl ps).length ≤ 108 := by
  have e : Txt.join sl ps = Str.join sl ps := TL.join_eq sl ps
  rw [e]
  exact Nat.le_trans (StrLaws.join_length_le sl ps) (join_short h)
theorem path_len {ps : List Str} (h : goodParts ps = true) : (pathOf ps).length ≤ 109 := by
  unfold pathOf
  rw [Str.length_append]
  have := join_len h
  have e : sl.length = 1 := by decide +kernel
  omega
/-! ### things asked about -/
/-- a thing whose class is, or isn't, cls -/
def Kind (K : PySem.W.Frag) (H : Hp) (v : V) (cls : String) (b : Bool) : Prop := ∃ tv, TyX K H v tv ∧ PySem.W.kitOne K tv (.type cls) = some b
theorem Kind.str {K : PySem.W.Frag} {H : Hp} {s : Str} : Kind K H (.str s) "str" true := ⟨_, .base (.str s), kit_ty (by decide +kernel)⟩
theorem tyX_ex {K : PySem.W.Frag} {H H' : Hp} {v : V} {t : Value} (e : Ex H H') (h : TyX K H v t) : TyX K H' v t := by
  cases h with
  | base h =>
    cases h with
    | non => exact .base .non
    | bl x => exact .base (.bl x)
    | int i => exact .base (.int i)
    | str x => exact .base (.str x)
    | flt x => exact .base (.flt x)
    | lst h => exact .base (.lst (e _ _ h))
    | frz h => exact .base (.frz (e _ _ h))
    | tup h => exact .base (.tup (e _ _ h))
    | dK h => exact .base (.dK (e _ _ h))
    | dT h => exact .base (.dT (e _ _ h))
    | ins h a b c d f => exact .base (.ins (e _ _ h) a b c d f)
  | byt b => exact .byt b
  | set h => exact .set (e _ _ h)
  | kList h c => exact .kList h c
  | kTuple h c => exact .kTuple h c
  | kDict h c => exact .kDict h c
  | fTuple h => exact .fTuple (e _ _ h)
  | fDict h => exact .fDict (e _ _ h)
theorem Kind.ex {K : PySem.W.Frag} {H H' : Hp} {v : V} {c : String} {b : Bool} (h : Kind K H v c b) (e : Ex H H') : Kind K H' v c b := by
  obtain ⟨tv, h1, h2⟩ := h
  exact ⟨tv, tyX_ex e h1, h2⟩
def partV : V → Bool
  | .str s => isPart s
  | _ => false
/-- a thing that may be asked whether it is a part -/
def PartOk (K : PySem.W.Frag) (H : Hp) (v : V) : Prop := (∃ s, v = .str s ∧ s.length ≤ sizeLine) ∨ (Kind K H v "str" false ∧ flatV v = true ∧ inV v [.str ".", .str ".."] = false) ∨ ∃ l xs, v = .ref l ∧ H l = some (.lst xs)
theorem PartOk.ex {K : PySem.W.Frag} {H H' : Hp} {v : V} (h : PartOk K H v) (e : Ex H H') : PartOk K H' v := by
  rcases h with h | ⟨h1, h2, h3⟩ | ⟨l, xs, h1, h2⟩
  · exact .inl h
  · exact .inr (.inl ⟨h1.ex e, h2, h3⟩)
  · exact .inr (.inr ⟨l, xs, h1, e _ _ h2⟩)
def cBadPath (K : PySem.W.Frag) : Value := .ref (He.ga K "BadPath")
theorem restOf_len (s : Str) : (restOf s).length ≤ s.length := by
  unfold restOf
  split
  · rw [slice1', SX.S_len, len_cs s, List.length_drop]
    omega
  · exact Nat.le_refl _
theorem split_small (s : Str) {p : Str} (h : p ∈ Txt.split s sl) : p.length ≤ s.length := by
  have e : Str.join sl (Txt.split s sl) = s := StrLaws.join_split s sl
  have := PySem.join_mem_le sl (Txt.split s sl) p h
  rw [e] at this
  exact this
theorem split_count (s : Str) : (Txt.split s sl).length ≤ s.length + 2 := PyProof.Rows.split_le s sl
end Tm
namespace Tm
open PySem L2
/-! ### the law's cells -/
/-- at t: [cells, draws]; at c: the cells -/
def Town (H : Hp) (t c : Addr) : Prop := ∃ (ns : List Int) (n : Int), H t = some (.lst [.ref c, .int n]) ∧ H c = some (.lst (ns.map V.int)) ∧ ns ≠ []
theorem Town.ne {H : Hp} {t c : Addr} (T : Town H t c) : t ≠ c := by
  obtain ⟨ns, n, h1, h2, h3⟩ := T
  refine ne_of h1 h2 fun z => ?_
  cases ns with
  | nil => exact h3 rfl
  | cons a r => cases z
theorem Town.ex {H H' : Hp} {t c : Addr} (T : Town H t c) (e : Ex H H') : Town H' t c := by
  obtain ⟨ns, n, h1, h2, h3⟩ := T
  exact ⟨ns, n, e _ _ h1, e _ _ h2, h3⟩
theorem Town.off {H H' : Hp} {t c : Addr} {S : List Addr} (T : Town H t c) (e : Off S H H') (h1 : t ∉ S) (h2 : c ∉ S) : Town H' t c := by
  obtain ⟨ns, n, h3, h4, h5⟩ := T
  exact ⟨ns, n, e _ _ h3 h1, e _ _ h4 h2, h5⟩
theorem Town.t {H : Hp} {t c : Addr} (T : Town H t c) : ∃ o, H t = some o := by
  obtain ⟨ns, n, h1, h2, h3⟩ := T
  exact ⟨_, h1⟩
theorem Town.c {H : Hp} {t c : Addr} (T : Town H t c) : ∃ o, H c = some o := by
  obtain ⟨ns, n, h1, h2, h3⟩ := T
  exact ⟨_, h2⟩
end Tm
namespace Tm
open PySem L2
/-! ### == of lists of numbers, of texts -/
theorem dp_ints {K : PySem.W.Frag} {H : Hp} : ∀ ns : List Int, DpAll K H (ns.map V.int) (ns.map PyData.int)
  | [] => .nil
  | n :: r => .cons (.int n) (dp_ints r)
theorem dp_strs {K : PySem.W.Frag} {H : Hp} : ∀ ss : List Str, DpAll K H (ss.map V.str) (ss.map PyData.str)
  | [] => .nil
  | n :: r => .cons (.str n) (dp_strs r)
theorem flat_depth : ∀ ds : List PyData, (∀ d ∈ ds, d.depth = 0) → PyData.depthAll ds = 0
  | [], _ => rfl
  | d :: r, h => by
    rw [PyData.depthAll, h d (List.mem_cons_self ..), flat_depth r fun x hx => h x (List.mem_cons_of_mem _ hx)] <;> rfl
theorem lay_all : ∀ ds : List PyData, (∀ d ∈ ds, d.canLay0 = true) → PyData.canLayAll0 ds = true
  | [], _ => rfl
  | d :: r, h => by
    rw [PyData.canLayAll0, h d (List.mem_cons_self ..), lay_all r fun x hx => h x (List.mem_cons_of_mem _ hx)] <;> rfl
theorem shaped_flat {ds : List PyData} (h1 : ∀ d ∈ ds, d.depth = 0) (h2 : ∀ d ∈ ds, d.canLay0 = true) : SeqAt.shaped (.list ds) = true := by
  unfold SeqAt.shaped
  rw [PyData.canLay0, lay_all ds h2, PyData.depth, flat_depth ds h1]
  rfl
theorem shaped_ints (ns : List Int) : SeqAt.shaped (.list (ns.map PyData.int)) = true := by
  refine shaped_flat (fun d h => ?_) (fun d h => ?_)
  · obtain ⟨n, _, rfl⟩ := List.mem_map.mp h
    rfl
  · obtain ⟨n, _, rfl⟩ := List.mem_map.mp h
    rfl
theorem shaped_strs {ss : List Str} (h : ∀ s ∈ ss, PyData.strOk s = true) : SeqAt.shaped (.list (ss.map PyData.str)) = true := by
  refine shaped_flat (fun d h => ?_) (fun d hd => ?_)
  · obtain ⟨n, _, rfl⟩ := List.mem_map.mp h
    rfl
  · obtain ⟨n, hn, rfl⟩ := List.mem_map.mp hd
    exact h n hn
theorem eqv_strs : ∀ a b : List Str, PyData.eqvAll (a.map PyData.str) (b.map PyData.str) = decide (a = b)
  | [], [] => rfl
  | [], _ :: _ => rfl
  | _ :: _, [] => rfl
  | x :: a, y :: b => by
    show (PyData.eqv (.str x) (.str y) && PyData.eqvAll (a.map PyData.str) (b.map PyData.str)) = _
    rw [eqv_strs a b]
    have e : PyData.eqv (.str x) (.str y) = decide (x = y) := by
      show (x == y) = decide (x = y)
      rfl
    rw [e, ← Bool.decide_and]
    congr 1
    simp
theorem eqv_list_strs (a b : List Str) : PyData.eqv (.list (a.map PyData.str)) (.list (b.map PyData.str)) = decide (a = b) := eqv_strs a b
end Tm
namespace Tm
open PySem L2
/-! ### names put together of single signs -/
abbrev nn : Str := ""
theorem cs_nn : cs nn = [] := by decide +kernel
theorem joinL_nil : ∀ ls : List (List Nat), TL.joinL [] ls = ls.flatten
  | [] => rfl
  | [p] => by
    show p = [p].flatten
    simp
  | p :: q :: r => by
    show p ++ ([] ++ TL.joinL [] (q :: r)) = _
    rw [joinL_nil (q :: r)]
    simp
theorem cs_glue (ss : List Str) : cs (Txt.join nn ss) = (ss.map cs).flatten := by
  have h1 : Txt.join nn ss = Str.join nn ss := TL.join_eq nn ss
  have h2 : cs (Str.join nn ss) = TL.joinL (cs nn) (ss.map cs) := TL.tl_join nn ss
  rw [h1, h2, cs_nn, joinL_nil]
/-- one sign of a name -/
def Sign1 (s : Str) : Prop := ∃ c, cs s = [c] ∧ c ∈ cs signs
theorem glue_facts : ∀ {ss : List Str}, (∀ s ∈ ss, Sign1 s) → ((ss.map cs).flatten).length = ss.length ∧ ∀ c ∈ (ss.map cs).flatten, c ∈ cs signs
  | [], _ => ⟨rfl, fun _ h => nomatch h⟩
  | s :: r, h => by
    obtain ⟨h1, h2⟩ := glue_facts (ss := r) fun q hq => h q (List.mem_cons_of_mem _ hq)
    obtain ⟨c, e, hc⟩ := h s (List.mem_cons_self ..)
    rw [List.map_cons, List.flatten_cons, e]
    refine ⟨by rw [List.length_append, h1, List.length_cons]; simp; omega, fun d hd => ?_⟩
    rcases List.mem_append.mp hd with z | z
    · rw [List.mem_singleton.mp z]
      exact hc
    · exact h2 d z
theorem glue_name {ss : List Str} (h : ∀ s ∈ ss, Sign1 s) (h1 : 1 ≤ ss.length) (h8 : ss.length ≤ 8) : isName (Txt.join nn ss) = true := by
  obtain ⟨e, hm⟩ := glue_facts h
  unfold isName
  rw [len_cs, cs_glue, e, decide_eq_true h1, decide_eq_true h8, Bool.true_and, Bool.true_and, List.all_eq_true]
  exact fun c hc => decide_eq_true (hm c hc)
theorem glue_short {ss : List Str} (h : ∀ s ∈ ss, Sign1 s) : (ss.map (·.length)).sum = ss.length := by
  have key : ∀ l : List Str, (∀ s ∈ l, Sign1 s) → (l.map (·.length)).sum = l.length := by
    intro l
    induction l with
    | nil => intro _; rfl
    | cons s r ih =>
      intro hl
      obtain ⟨c, e, _⟩ := hl s (List.mem_cons_self ..)
      rw [List.map_cons, List.sum_cons, ih fun q hq => hl q (List.mem_cons_of_mem _ hq), List.length_cons, len_cs, e]
      simp
      omega
  exact key ss h
theorem strOk_of {s : Str} (h : ∀ c ∈ cs s, c < 128) : PyData.strOk s = true := by
  unfold PyData.strOk
  rw [← Array.all_toList, List.all_eq_true]
  intro c hc
  have := h c hc
  exact decide_eq_true (by omega)
theorem signs_lt : ∀ c ∈ cs signs, c < 128 := by
  rw [cs_signs]
  decide
theorem name_ok {s : Str} (h : isName s = true) : PyData.strOk s = true := by
  unfold isName at h
  simp only [Bool.and_eq_true, decide_eq_true_eq, List.all_eq_true] at h
  exact strOk_of fun c hc => signs_lt c (h.2.2 c hc)
theorem part_ok {s : Str} (h : isPart s = true) : PyData.strOk s = true := by
  have h0 := h
  unfold isPart at h
  simp only [Bool.or_eq_true, decide_eq_true_eq] at h
  rcases h with h | h | h
  · subst h; decide +kernel
  · subst h; decide +kernel
  · exact name_ok h
end Tm
namespace Tm
open PySem L2
theorem map_str_inj : ∀ {a b : List Str}, a.map V.str = b.map V.str → a = b
  | [], [], _ => rfl
  | [], _ :: _, h => nomatch h
  | _ :: _, [], h => nomatch h
  | x :: a, y :: b, h => by
    rw [List.map_cons, List.map_cons] at h
    injection h with h1 h2
    rw [V.str.inj h1, map_str_inj h2]
theorem sl_len : sl.length = 1 := by decide +kernel
end Tm
namespace Tm
open PySem L2
/-! ### plain, joined, split -/
def plainStep (acc : List Str) (p : Str) : List Str := if p = ".." then acc.dropLast else if p = "." then acc else acc ++ [p]
def plain (ps : List Str) : List Str := ps.foldl plainStep []
theorem plain_snoc (ps : List Str) (p : Str) : plain (ps ++ [p]) = plainStep (plain ps) p := by
  unfold plain
  rw [List.foldl_append]
  rfl
theorem step_facts {acc : List Str} {p : Str} (h : ∀ q ∈ acc, isName q = true) (hp : isPart p = true) : (∀ q ∈ plainStep acc p, isName q = true) ∧ (plainStep acc p).length ≤ acc.length + 1 := by
  unfold plainStep
  split
  · refine ⟨fun q hq => h q (List.dropLast_subset acc hq), ?_⟩
    rw [List.length_dropLast]
    omega
  · split
    · exact ⟨h, by omega⟩
    · rename_i h1 h2
      refine ⟨fun q hq => ?_, by rw [List.length_append]; exact Nat.le_refl _⟩
      rcases List.mem_append.mp hq with z | z
      · exact h q z
      · rw [List.mem_singleton.mp z]
        unfold isPart at hp
        rw [decide_eq_false h2, decide_eq_false h1, Bool.false_or, Bool.false_or] at hp
        exact hp
theorem fold_facts : ∀ {ps acc : List Str}, (∀ q ∈ acc, isName q = true) → (∀ p ∈ ps, isPart p = true) → (∀ q ∈ ps.foldl plainStep acc, isName q = true) ∧ (ps.foldl plainStep acc).length ≤ acc.length + ps.length
  | [], acc, h, _ => ⟨h, Nat.le_refl _⟩
  | p :: r, acc, h, hp => by
    obtain ⟨h1, h2⟩ := step_facts (p := p) h (hp p (List.mem_cons_self ..))
    obtain ⟨h3, h4⟩ := fold_facts (ps := r) h1 fun q hq => hp q (List.mem_cons_of_mem _ hq)
    refine ⟨h3, ?_⟩
    rw [List.foldl_cons, List.length_cons]
    omega
theorem part_name {s : Str} (h : isName s = true) : isPart s = true := by
  unfold isPart
  rw [h, Bool.or_true, Bool.or_true]
theorem plain_facts {ps : List Str} (h : ∀ p ∈ ps, isPart p = true) : (∀ q ∈ plain ps, isName q = true) ∧ (plain ps).length ≤ ps.length := by
  obtain ⟨h1, h2⟩ := fold_facts (ps := ps) (acc := []) (fun _ h => nomatch h) h
  exact ⟨h1, by simpa [plain] using h2⟩
theorem plain_good {ps : List Str} (h : goodParts ps = true) : goodParts (plain ps) = true := by
  obtain ⟨h1, h2⟩ := good_all h
  obtain ⟨h3, h4⟩ := plain_facts h2
  exact good_of (by omega) fun p hp => part_name (h3 p hp)
/-- names alone are plain -/
theorem fold_names : ∀ {ps acc : List Str}, (∀ p ∈ ps, isName p = true) → ps.foldl plainStep acc = acc ++ ps
  | [], acc, _ => by simp
  | p :: r, acc, h => by
    have hp := h p (List.mem_cons_self ..)
    have e : plainStep acc p = acc ++ [p] := by
      unfold plainStep
      have n1 : ¬ p = ".." := fun z => by
        rw [z, not_name_dots] at hp
        cases hp
      have n2 : ¬ p = "." := fun z => by
        rw [z, not_name_dot] at hp
        cases hp
      rw [if_neg n1, if_neg n2]
    rw [List.foldl_cons, e, fold_names fun q hq => h q (List.mem_cons_of_mem _ hq), List.append_assoc]
    rfl
theorem plain_names {ps : List Str} (h : ∀ p ∈ ps, isName p = true) : plain ps = ps := by
  have := fold_names (acc := []) h
  simpa [plain] using this
theorem plain_plain {ps : List Str} (h : ∀ p ∈ ps, isPart p = true) : plain (plain ps) = plain ps := plain_names (plain_facts h).1
theorem plain_append (ps qs : List Str) : plain (ps ++ qs) = qs.foldl plainStep (plain ps) := by
  unfold plain
  rw [List.foldl_append]
theorem plain_join {ps qs : List Str} (h : ∀ p ∈ ps, isPart p = true) : plain (plain ps ++ qs) = plain (ps ++ qs) := by
  rw [plain_append, plain_append, plain_plain h]
theorem cut_last (xs : List V) : cutV xs none (some (-1)) = xs.dropLast := by
  unfold cutV
  have e1 : HT.sIx xs.length 0 none = 0 := rfl
  have e2 : HT.sIx xs.length xs.length (some (-1)) = xs.length - 1 := by
    unfold HT.sIx
    simp
    omega
  rw [e1, e2, List.drop_zero, Nat.sub_zero, List.dropLast_eq_take]
theorem cut_to {xs : List V} {i : Int} (h : 0 ≤ i) : cutV xs none (some i) = xs.take i.toNat := by
  unfold cutV
  have e1 : HT.sIx xs.length 0 none = 0 := rfl
  have e2 : HT.sIx xs.length xs.length (some i) = min i.toNat xs.length := by
    unfold HT.sIx
    simp
    omega
  rw [e1, e2, List.drop_zero, Nat.sub_zero]
  rw [← List.take_eq_take_min]
theorem cut_from {xs : List V} {i : Int} (h : 0 ≤ i) : cutV xs (some i) none = xs.drop i.toNat := by
  unfold cutV
  have e1 : HT.sIx xs.length xs.length none = xs.length := rfl
  have e2 : HT.sIx xs.length 0 (some i) = min i.toNat xs.length := by
    unfold HT.sIx
    simp
    omega
  rw [e1, e2]
  by_cases hi : i.toNat ≤ xs.length
  · rw [Nat.min_eq_left hi, List.take_of_length_le (by rw [List.length_drop]; omega)]
  · rw [Nat.min_eq_right (by omega), Nat.sub_self, List.take_zero, List.drop_eq_nil_of_le (by omega)]
end Tm
namespace Tm
open PySem L2
def sp_town (K : PySem.W.Frag) : Sp := fun vs H Q _ => ∃ (a : Addr) (ns : List Int), vs = [.ref a] ∧ SqL K H a (ns.map V.int) ∧ ns.length ≤ 63 ∧ ∀ t c H', H t = none → H c = none → Ex H H' → Town H' t c → Q (.ref t) H'
end Tm
namespace Tm
open PySem L2
def sp_draw : Sp := fun vs H Q _ => ∃ (t c : Addr) (m : Int), vs = [.ref t, .int m] ∧ 0 < m ∧ m < 1073741824 ∧ Town H t c ∧ ∀ (r : Int) (H' : Hp), 0 ≤ r → r < m → Town H' t c → Off [t, c] H H' → Q (.int r) H'
end Tm
namespace Tm
open PySem L2
def sp_pick : Sp := fun vs H Q _ => ∃ (t c l : Addr) (xs : List V), vs = [.ref t, .ref l] ∧ Town H t c ∧ H l = some (.lst xs) ∧ l ≠ t ∧ l ≠ c ∧ xs ≠ [] ∧ xs.length < 100000 ∧ ∀ (v : V) (H' : Hp), v ∈ xs → Town H' t c → Off [t, c] H H' → Q v H'
end Tm
namespace Tm
open PySem L2
theorem pick_new {H : Hp} {t c : Addr} {xs : List V} {Q : VK} {E : XK} (T : Town H t c) (hne : xs ≠ []) (hz : xs.length < 1000) (k : ∀ v H', v ∈ xs → Town H' t c → Off [t, c] H H' → Q v H') :
    xs.length ≤ sizeLine ∧ ∀ p, H p = none → sp_pick [.ref t, .ref p] (upd H p (.lst xs)) Q E := by
  refine ⟨Nat.le_of_lt (small1000 (by omega)), fun p hp => ?_⟩
  obtain ⟨o1, h1⟩ := T.t
  obtain ⟨o2, h2⟩ := T.c
  exact ⟨t, c, p, xs, rfl, T.ex (Ex.new hp), upd_same, (ne_of_none h1 hp).symm, (ne_of_none h2 hp).symm, hne, by omega, fun v H' hv T' e => k v H' hv T' fun a o h n => e a o (Ex.new hp a o h) n⟩
theorem Off.at {H H' : Hp} {t c p : Addr} {o : HO} (e : Off [t, c] H H') (h : H p = some o) (h1 : p ≠ t) (h2 : p ≠ c) : H' p = some o := e p o h (by simp [h1, h2])
theorem part_dot : isPart "." = true := by decide +kernel
theorem part_dots : isPart ".." = true := by decide +kernel
/-- the law's names -/
def lnames : List Str := ["a", "b", "c", "d0", "longname"]
def LPart (p : Str) : Prop := p = "." ∨ p = ".." ∨ p ∈ lnames
theorem lname_ok {n : Str} (h : n ∈ lnames) : isName n = true := by
  have key : ∀ m ∈ lnames, isName m = true := by decide +kernel
  exact key n h
theorem LPart.ok {p : Str} (h : LPart p) : isPart p = true := by
  rcases h with rfl | rfl | h
  · exact part_dot
  · exact part_dots
  · exact part_name (lname_ok h)
theorem lnames_all {v : V} (h : v ∈ [V.str "a", V.str "a", V.str "b", V.str "b", V.str "c", V.str "d0", V.str "longname"]) : ∃ n, v = .str n ∧ n ∈ lnames := by
  simp only [List.mem_cons, List.not_mem_nil, or_false] at h
  rcases h with rfl | rfl | rfl | rfl | rfl | rfl | rfl
  all_goals exact ⟨_, rfl, by simp [lnames]⟩
theorem get_str {ps : List Str} {i : Nat} {x : V} (h : (ps.map V.str)[i]? = some x) : ∃ q, ps[i]? = some q ∧ x = .str q := by
  rw [List.getElem?_map] at h
  cases e : ps[i]? with
  | none => rw [e] at h; cases h
  | some q => rw [e] at h; exact ⟨q, rfl, (Option.some.inj h).symm⟩
end Tm
namespace Tm
open PySem L2
theorem cs_lt {s : Str} (h : isPart s = true) : ∀ c ∈ cs s, c < 128 := by
  unfold isPart at h
  simp only [Bool.or_eq_true, decide_eq_true_eq] at h
  rcases h with h | h | h
  · subst h; rw [cs_dot]; decide
  · subst h; rw [cs_dots]; decide
  · unfold isName at h
    simp only [Bool.and_eq_true, decide_eq_true_eq, List.all_eq_true] at h
    exact fun c hc => signs_lt c (h.2.2 c hc)
theorem joinL_lt : ∀ {ls : List (List Nat)}, (∀ l ∈ ls, ∀ c ∈ l, c < 128) → ∀ c ∈ TL.joinL [47] ls, c < 128
  | [], _, _, h => nomatch h
  | [p], h, c, hc => h p (List.mem_cons_self ..) c hc
  | p :: q :: r, h, c, hc => by
    have hc : c ∈ p ++ ([47] ++ TL.joinL [47] (q :: r)) := hc
    rcases List.mem_append.mp hc with z | z
    · exact h p (List.mem_cons_self ..) c z
    · rcases List.mem_append.mp z with y | y
      · rw [List.mem_singleton.mp y]
        decide
      · exact joinL_lt (fun l hl => h l (List.mem_cons_of_mem _ hl)) c y
theorem path_ok {ps : List Str} (h : ∀ p ∈ ps, isPart p = true) : PyData.strOk (pathOf ps) = true := by
  refine strOk_of fun c hc => ?_
  rw [cs_path] at hc
  rcases List.mem_cons.mp hc with z | z
  · rw [z]
    decide
  · refine joinL_lt (fun l hl => ?_) c z
    obtain ⟨p, hp, rfl⟩ := List.mem_map.mp hl
    exact cs_lt (h p hp)
theorem shaped_pair {a b : Str} (ha : PyData.strOk a = true) (hb : PyData.strOk b = true) : SeqAt.shaped (.tuple [.str a, .str b]) = true := by
  unfold SeqAt.shaped
  simp [PyData.canLay0, PyData.canLayAll0, PyData.depth, PyData.depthAll, ha, hb]
theorem eqv_self {d : PyData} (h : SeqAt.shaped d = true) : PyData.eqv d d = true := by
  unfold SeqAt.shaped at h
  exact SeqAt.eqv_refl d (Bool.and_eq_true_iff.mp h).1
/-- == of texts as the heap has them -/
theorem dec_str (a b : Str) : decide (V.str a = V.str b) = decide (a = b) := by
  by_cases h : a = b
  · rw [h, decide_eq_true rfl, decide_eq_true rfl]
  · rw [decide_eq_false h, decide_eq_false fun z => h (V.str.inj z)]
end Tm
namespace Tm
open PySem L2
theorem ofs_join (ps : List Str) : Txt.join sl ps = Str.join sl ps := TL.join_eq sl ps
theorem join_cons (p : Str) {ps : List Str} (h : ps ≠ []) : Txt.join sl (p :: ps) = p ++ sl ++ Txt.join sl ps := by
  rw [ofs_join, ofs_join]
  cases ps with
  | nil => exact absurd rfl h
  | cons q r => rfl
theorem str_assoc (a b c : Str) : a ++ b ++ c = a ++ (b ++ c) := ext_cs (by rw [cs_cat, cs_cat, cs_cat, cs_cat, List.append_assoc])
theorem join_app : ∀ {ls ts : List Str}, ls ≠ [] → ts ≠ [] → Txt.join sl (ls ++ ts) = Txt.join sl ls ++ sl ++ Txt.join sl ts
  | [], _, h, _ => absurd rfl h
  | [p], ts, _, h => by
    show Txt.join sl (p :: ts) = _
    rw [join_cons p h]
    rfl
  | p :: q :: r, ts, _, h => by
    have ih := join_app (ls := q :: r) (ts := ts) (by simp) h
    show Txt.join sl (p :: (q :: r ++ ts)) = _
    rw [join_cons p (by simp), ih, join_cons p (by simp)]
    simp only [str_assoc]
theorem nn_cat (s : Str) : nn ++ s = s := ext_cs (by rw [cs_cat, cs_nn, List.nil_append])
theorem path_join {ps : List Str} (h : ps ≠ []) : pathOf ps = Txt.join sl (nn :: ps) := by
  rw [join_cons nn h, nn_cat]
  rfl
theorem split_path {ps : List Str} (h : ps ≠ []) (hp : ∀ p ∈ ps, isPart p = true) : Txt.split (pathOf ps) sl = nn :: ps := by
  rw [path_join h]
  refine split_join (by simp) fun p hm => ?_
  rcases List.mem_cons.mp hm with z | z
  · rw [z, cs_nn]
    simp
  · exact (part_facts (hp p z)).2.1
theorem split_sl : Txt.split sl sl = [nn, nn] := by decide +kernel
/-- the law's own reading of a path -/
def segs (s : Str) : List Str := (Txt.split s sl).filter fun p => !decide (p = nn)
theorem part_nn {p : Str} (h : isPart p = true) : p ≠ nn := fun e => by
  have := (part_facts h).1
  rw [e, cs_nn] at this
  exact this rfl
theorem filter_parts {ps : List Str} (hp : ∀ p ∈ ps, isPart p = true) : ps.filter (fun p => !decide (p = nn)) = ps :=
  List.filter_eq_self.mpr fun p h => by rw [decide_eq_false (part_nn (hp p h))]; rfl
theorem segs_path {ps : List Str} (hp : ∀ p ∈ ps, isPart p = true) : segs (pathOf ps) = ps := by
  unfold segs
  by_cases h : ps = []
  · subst h
    rw [path_nil, split_sl]
    decide +kernel
  · rw [split_path h hp, List.filter_cons, if_neg (by simp)]
    exact filter_parts hp
theorem segs_rel {ps : List Str} (h : ps ≠ []) (hp : ∀ p ∈ ps, isPart p = true) : segs (Txt.join sl ps) = ps := by
  unfold segs
  rw [split_join h fun p hm => (part_facts (hp p hm)).2.1]
  exact filter_parts hp
end Tm
namespace Tm
open PySem L2
/-- the parts of a path and another one, behind it or from the top -/
def joinOf (a b : Str) : Option (List Str) := match partsOf true a, partsOf false b with
  | some ps, some qs => if Txt.slice b none (some 1) = sl then some qs else if goodParts (ps ++ qs) = true then some (ps ++ qs) else none
  | _, _ => none
theorem joinOf_rel {ps qs : List Str} (hp : goodParts ps = true) (hne : qs ≠ []) (hq : goodParts qs = true) (hl : ps.length + qs.length ≤ 12) : joinOf (pathOf ps) (Txt.join sl qs) = some (ps ++ qs) := by
  unfold joinOf
  rw [parts_path true hp, parts_rel hne hq]
  show (if Txt.slice (Txt.join sl qs) none (some 1) = sl then some qs else if goodParts (ps ++ qs) = true then some (ps ++ qs) else none) = _
  rw [if_neg (rest_rel hne (good_all hq).2).1, if_pos]
  refine good_of (by rw [List.length_append]; exact hl) fun p h => ?_
  rcases List.mem_append.mp h with z | z
  · exact (good_all hp).2 p z
  · exact (good_all hq).2 p z
theorem joinOf_top {ps qs : List Str} (hp : goodParts ps = true) (hq : goodParts qs = true) : joinOf (pathOf ps) (pathOf qs) = some qs := by
  unfold joinOf
  rw [parts_path true hp, parts_path false hq]
  show (if Txt.slice (pathOf qs) none (some 1) = sl then some qs else if goodParts (ps ++ qs) = true then some (ps ++ qs) else none) = _
  rw [if_pos (rest_path qs).1]
end Tm

namespace Tm
open PySem PySem.Spec PyProof.Rows L2
/-! ### a caught error, kept beyond its suite -/
/-- at a: an error of the class cls, its dict at d -/
def Caught (cls : Value) (d : Option Addr) (a : Addr) : HO := .ext fun h => ∃ (oe : Obj) (vs : Array Value), h.get? a = some oe ∧ Zc cls d oe ∧ oe.data = .fields vs
theorem caught_ok {P : Program} {w : World} {H : Hp} {h : Heap} {a : Addr} {cls : Value} {d : Option Addr} {oe : Obj} {vs : Array Value} (e : h.get? a = some oe) (z : Zc cls d oe) (g : oe.data = .fields vs) : ObjOk P w H h a (Caught cls d a) :=
  ⟨⟨oe, vs, e, z, g⟩, ⟨oe, e⟩, fun _ _ ⟨o, v, q, r⟩ k => ⟨o, v, k o q, r⟩⟩
theorem adopt {X : Cx} {pins : List (Addr × Obj)} {σ : L2.St} {H : Hp} {s : Shared} {a : Addr} {oe : Obj} {vs : Array Value} {cls : Value} {d : Option Addr} (I : Inv X pins σ H s) (ha : s.heap.get? a = some oe) (hz : Zc cls d oe) (hd : oe.data = .fields vs) (na : H a = none)
    (n0 : X.s_0.heap.get? a = none) (nL : a ≠ X.env.locals) (np : ∀ p ∈ X.pn ++ pins, p.1 ≠ a) : Inv X pins σ (upd H a (Caught cls d a)) s := by
  have ne0 : ∀ b o, X.s_0.heap.get? b = some o → b ≠ a := fun b o e z => by
    rw [z, n0] at e
    cases e
  have neS : ∀ b u, H b = some u → b ≠ a := fun b u e z => by
    rw [z, na] at e
    cases e
  have neC : ∀ x c, X.env.cells.lookup x = some c → c ≠ a := fun x c e z => by
    obtain ⟨v, o, ho, hc⟩ := I.cell x c e
    rw [z, ha] at ho
    cases ho
    rw [hd] at hc
    cases hc
  constructor
  case ok => exact I.ok
  case os => exact I.os
  case bare => exact I.bare
  case loc => exact I.loc
  case cell => exact I.cell
  case len => exact I.len
  case free => rw [upd_ne nL.symm]; exact I.free
  case freeC => intro x c e; rw [upd_ne (neC x c e)]; exact I.freeC x c e
  case pin =>
    intro p hp
    obtain ⟨q1, q2, q3, q4, q5⟩ := I.pin p hp
    exact ⟨q1, by rw [upd_ne (np p hp)]; exact q2, q3, q4, q5⟩
  case base =>
    constructor
    case keep => exact I.base.keep
    case slot => exact I.base.slot
    case there => exact I.base.there
    case free => intro b o e n hx; rw [upd_ne (ne0 b o e)]; exact I.base.free b o e n hx
    case tups => intro b xs e; have q := I.base.tups b xs e; rw [upd_ne (neS b _ q)]; exact q
    case frzs => intro b o u e; have q := I.base.frzs b o u e; rw [upd_ne (neS b _ q)]; exact q
    case tbls =>
      intro b ps e
      obtain ⟨m, q⟩ := I.base.tbls b ps e
      exact ⟨m, by rw [upd_ne (neS b _ q)]; exact q⟩
  case hok =>
    intro b u e
    by_cases hb : b = a
    · subst hb
      rw [upd_same] at e
      cases e
      exact caught_ok ha hz hd
    · rw [upd_ne hb] at e
      refine (I.hok b u e).stay (fun c v _ q => q) (fun c q => ?_) (fun c xs q => ?_)
      · rw [upd_ne (neS c _ q)]
        exact q
      · rw [upd_ne (neS c _ q)]
        exact q
/-- what «try: .. except x as n: y = n» wishes of an error of the body; slot i is n's, slot j is y's -/
def wKeep (K : PySem.W.Frag) (c : Value) (i j : Nat) (Wout : WX) (D : Ends) : WX := fun cls d σ H =>
  ∃ b, PySem.W.exmOne K cls c = some b ∧ (b = true → ∀ a, H a = none → D.nx (((σ.set i (some (.ref a))).set j (some (.ref a))).set i none) (upd H a (Caught cls d a))) ∧ (b = false → Wout cls d σ H)
section
variable {X : Cx} {x n y : Str} {c : Value} {i j : Nat} {body : List Stmt} {np pos pos' py pn' apos : Pos} {tb : WX → TS} {Wout : WX}
theorem ps_keep (hs : X.stack = X.env :: X.outer) (hf : X.env.frame = some X.env.locals) (hN : X.N.Nodup) (hi : X.N[i]? = some n) (hln : X.env.kindOf n = some .local) (hj : X.N[j]? = some y) (hlj : X.env.kindOf y = some .local) (hex : X.ex = []) (hc : Names X x c) (tk : Takes X Wout)
    (hb : ∀ (W : WX) (pn : List (Addr × Obj)) (xe : Value → Shared → Prop), Takes (X.tr pn xe) W → PassesOwn (model X.prog X.w) X.A X.env xe → PSs (X.tr pn xe) body (tb W))
    (hsw : swapsWith (.Name n pn') (some (.Name y py)) apos.line X.env = pure false := by rfl) (hdn : (n == ("__debug__" : Str)) = false := by decide) (hcd : (n == ("__classdict__" : Str)) = false := by decide) :
    PS X (.Try body [.ExceptHandler (some (.Name x np)) (some n) [.Assign [.Name y py] (.Name n pn') apos] pos'] [] [] pos) (fun D σ H => tb (wKeep X.K c i j Wout D) D σ H) := by
  constructor
  intro pins s σ H D I h
  have okX := I.ok
  have fr : X.A.frames = some (X.env :: X.outer) := okX.frames.trans (congrArg some hs)
  apply wpAny_Try_except
  have B := hb (wKeep X.K c i j Wout D) (X.pn ++ pins) (fun e s1 => wpAny (model X.prog X.w) X.A (noteFrame e X.env) (fun _ s2 => wpAny (model X.prog X.w) X.A (setFlight e none)
    (fun _ s3 => wpAny (model X.prog X.w) X.A (handleBy e X.env [.ExceptHandler (some (.Name x np)) (some n) [.Assign [.Name y py] (.Name n pn') apos] pos']) (SP X pins D) X.xe s3) X.xe s2) X.xe s1)
  refine wpAny_mono ((B ?took PassesOwn.looking).run [] s σ H D (I.toTry _) h) ?ends (fun _ _ z => z)
  case ends =>
    intro f s1 q
    cases f with
    | next =>
      obtain ⟨σ1, H1, J1, q1⟩ := q
      exact wpAny_execs_nil ⟨σ1, H1, J1.ofTry okX, q1⟩
    | brk =>
      obtain ⟨σ1, H1, J1, q1⟩ := q
      exact ⟨σ1, H1, J1.ofTry okX, q1⟩
    | cont =>
      obtain ⟨σ1, H1, J1, q1⟩ := q
      exact ⟨σ1, H1, J1.ofTry okX, q1⟩
    | ret u =>
      obtain ⟨v1, σ1, H1, J1, r1, q1⟩ := q
      exact ⟨v1, σ1, H1, J1.ofTry okX, r1, q1⟩
  case took =>
    rintro u s1 ⟨a, G, sI, pq, σ1, H1, cls, d, rfl, J0, toG, up, sky, na, sos, sbare, b, hm, yes, no⟩
    have J : Inv X pins σ1 H1 sI := J0.ofTry okX
    rw [show X.stack = X.env :: X.outer from hs] at sky
    show wpAny (model X.prog X.w) X.A (noteFrame (.ref a) X.env) _ _ _
    apply Sky.land Zc.steady fr hf sky
    intro h3 f3 up3
    have J3 : Inv X pins σ1 H1 { s1 with heap := h3 } := J.landed toG f3.1 (up.trans up3) sos sbare
    obtain ⟨o3, w3, at3, z3, d3⟩ := f3.there
    have off : a ∉ frs (X.env :: X.outer) := fun hmem => by
      obtain ⟨_, o', e', nofld⟩ := f3.2.2.1.mem hmem
      rw [at3] at e'
      cases e'
      exact nofld _ d3
    have nL : a ≠ X.env.locals := fun z => off (List.mem_filterMap.mpr ⟨X.env, List.mem_cons_self, by rw [hf, z]⟩)
    have nF : a ∉ X.fs := fun hmem => by
      obtain ⟨ev, hev, q⟩ := List.mem_filterMap.mp hmem
      exact off (List.mem_filterMap.mpr ⟨ev, List.mem_cons_of_mem _ hev, q⟩)
    have nI : sI.heap.get? a = none := by
      cases q : sI.heap.get? a with
      | none => rfl
      | some ob =>
        have z := toG a ob q (by rw [show X.stack = X.env :: X.outer from hs]; exact off)
        rw [f3.2.1] at z
        cases z
    have n0 : X.s_0.heap.get? a = none := by
      cases q : X.s_0.heap.get? a with
      | none => rfl
      | some ob =>
        obtain ⟨o', e'⟩ := J.base.there a ob q (by rw [hex]; exact fun z => nomatch z)
        rw [nI] at e'
        cases e'
    have npin : ∀ p ∈ X.pn ++ pins, p.1 ≠ a := fun p hp z => by
      have q := (J.pin p hp).1
      rw [z, nI] at q
      cases q
    have S3 := J3.suite at3 d3 na nL nF
    refine wpAny_handleBy_cons (codeAny_handlers_test ?_) (fun q => by cases q)
    have seen : PySem.W.Looks (model X.prog X.w) h3 (typeOf (.ref a)) cls := fun A Q E s k q => wpAny_typeOf_ref (k _ _ at3) (by rw [z3.1]; exact q)
    have match_ := PySem.W.exm_one (M := model X.prog X.w) (J3.kIn) seen hm
    have cls_ : ∀ {Q E : Value → Shared → Prop}, Q c { s1 with heap := h3 } → wpAny (model X.prog X.w) (X.A.mark (some (.ref a))) (eval (.Name x np) X.env) Q E { s1 with heap := h3 } := fun {Q E} q => by
      obtain ⟨hg, hdb, h1 | ⟨h1, h2, h4⟩⟩ := hc
      · exact ld_glob (X := X.suite a ((a, o3) :: (X.pn ++ pins))) S3 hg h1 q hdb
      · exact ld_blt (X := X.suite a ((a, o3) :: (X.pn ++ pins))) S3 hg h1 h2 q h4 hdb
    apply cls_
    apply match_.here
    cases b with
    | false =>
      show wpAny _ X.A (handleBy (.ref a) X.env []) _ _ _
      apply wpAny_handleBy_nil
      have f3' := f3
      obtain ⟨_, _, _, o5, v5, T5, oT, t5, g1, g2, g3, g4, g5⟩ := f3'
      unfold PySem.passOn
      apply wpAny_bind
      apply wpAny_field g1 g3 g4
      rw [if_neg (show ¬ ((Value.ref T5 == Value.none) = true) by simp)]
      have away : wpAny (model X.prog X.w) X.A (setFlight (.ref a) X.env.frame) (fun _ s4 => wpAny (model X.prog X.w) X.A (throw (.ref a) : Sem Flow) (SP X pins D) X.xe s4) X.xe { s1 with heap := h3 } := by
        rw [hf]
        apply HandSPX.setFlight_upZ f3
        intro h4 hh4 up4
        apply wpAny_throw
        apply tk
        exact ⟨a, G, sI, pins, σ1, H1, cls, d, rfl, J, toG, (up.trans up3).trans up4, .inr (.inr (by rw [hs]; exact hh4)), na, sos, sbare, no rfl⟩
      first
        | exact wpAny_bind (wpAny_pure (wpAny_bind away))
        | exact wpAny_bind away
    | true =>
      apply codeAny_handlers_suite_as
      apply HandSPX.lands_againZ f3
      intro h4 f4 up4
      have J4 : Inv X pins σ1 H1 { s1 with heap := h4 } := J.landed toG f4.1 ((up.trans up3).trans up4) sos sbare
      obtain ⟨o4, w4, at4, z4, d4⟩ := f4.there
      have S4 := J4.suite at4 d4 na nL nF
      refine store_ok (X := X.suite a ((a, o4) :: (X.pn ++ pins))) (v := .ref a) S4 hN hi (.inl hln) rfl ?_ (.inr hln)
      intro s5 S5
      have one : PSs (X.suite a ((a, o4) :: (X.pn ++ pins))) [.Assign [.Name y py] (.Name n pn') apos] (tAsg (tVar i) (gName j)) :=
        pss_one (ps_set hN hj (.inl hlj) (pe_var hi (.inl hln) hdn hcd) hsw (.inr hlj))
      have len1 : i < (σ1.set i (some (V.ref a))).length := by
        have e1 := S5.len
        have e2 : i < X.N.length := (List.getElem?_eq_some_iff.mp hi).1
        rw [e1]
        exact e2
      have got : (σ1.set i (some (V.ref a)))[i]? = some (some (V.ref a)) := by
        rw [List.getElem?_set_self (by rw [List.length_set] at len1; exact len1)]
      refine wpAny_mono (one.run [] s5 _ H1 { nx := fun σ6 H6 => σ6 = (σ1.set i (some (.ref a))).set j (some (.ref a)) ∧ H6 = H1, rt := fun _ _ => False } S5 ⟨_, got, rfl, rfl⟩) ?_ (fun _ _ z => False.elim z)
      intro f s6 q6
      cases f with
      | next =>
        obtain ⟨σ6, H6, S6, rfl, rfl⟩ := q6
        apply gone_ok (X := X.suite a ((a, o4) :: (X.pn ++ pins))) S6 hN hi hln
        intro s7 S7
        have at7 := (S7.pin (a, o4) (List.mem_append_left _ List.mem_cons_self)).1
        exact ⟨_, _, adopt (S7.unsuite okX) at7 z4 d4 na n0 nL npin, yes rfl a na⟩
      | brk =>
        obtain ⟨_, _, _, z⟩ := q6
        exact z.elim
      | cont =>
        obtain ⟨_, _, _, z⟩ := q6
        exact z.elim
      | ret u =>
        obtain ⟨_, _, _, _, _, z⟩ := q6
        exact z.elim
end
end Tm

namespace Tm
open PySem PySem.Spec PyProof.Rows L2
/-! ### isinstance of a kept error -/
/-- what the written part must say of an error class, for isinstance -/
structure ExC (K : PySem.W.Frag) (C : Addr) : Prop where
  cl : (PySem.W.clsIn K C).isSome = true
  ga : PySem.W.findIn K (.ref C) "__getattribute__" = some (some (.builtin "BaseException.__getattribute__"))
  gt : PySem.W.findIn K (.ref C) "__getattr__" = some none
  sub : PySem.W.subIn K (.ref C) (.type "BaseException") = some true
  ca : PySem.W.findIn K (.ref C) "__class__" = some (some (.builtin "object.__class__"))
  ng : PySem.W.specialIn K (.builtin "object.__class__") "__get__" = some (some (.builtin "getset_descriptor.__get__"))
  tk : PySem.W.takesIn K (.builtin "object.__class__") = some true
  mr : PySem.W.mroIn K C (.type "object") = some true
def exCB (K : PySem.W.Frag) (C : Addr) : Bool := (PySem.W.clsIn K C).isSome && (decide (PySem.W.findIn K (.ref C) "__getattribute__" = some (some (.builtin "BaseException.__getattribute__"))) && (decide (PySem.W.findIn K (.ref C) "__getattr__" = some none) && (decide (PySem.W.subIn K (.ref C) (.type "BaseException") = some true) &&
  (decide (PySem.W.findIn K (.ref C) "__class__" = some (some (.builtin "object.__class__"))) && (decide (PySem.W.specialIn K (.builtin "object.__class__") "__get__" = some (some (.builtin "getset_descriptor.__get__"))) && (decide (PySem.W.takesIn K (.builtin "object.__class__") = some true) && decide (PySem.W.mroIn K C (.type "object") = some true)))))))
theorem exCB_ok {K : PySem.W.Frag} {C : Addr} (h : exCB K C = true) : ExC K C := by
  unfold exCB at h
  simp only [Bool.and_eq_true, decide_eq_true_eq] at h
  obtain ⟨h1, h2, h3, h4, h5, h6, h7, h8⟩ := h
  exact ⟨h1, h2, h3, h4, h5, h6, h7, h8⟩
/-- the dict of a kept error is none, or told -/
def Dct (H : Hp) (d : Option Addr) : Prop := d = none ∨ ∃ (dd : Addr) (fs : List (Str × V)), d = some dd ∧ H dd = some (.xd fs)
def rIsiE (K : PySem.W.Frag) : List V → Hp → VK → Prop := fun xs H Q => ∃ (a : Addr) (c : V) (C : Addr) (d : Option Addr) (u : Value) (b : Bool), xs = [.ref a, c] ∧ ClsV c u ∧ H a = some (Caught (.ref C) d a) ∧ Dct H d ∧ ExC K C ∧ PySem.W.kitOne K (.ref C) u = some b ∧ Q (.bl b) H
theorem caught_at {P : Program} {w : World} {H : Hp} {h : Heap} {a : Addr} {cls : Value} {d : Option Addr} (hok : HOk P w H h) (he : H a = some (Caught cls d a)) : ∃ (oe : Obj) (vs : Array Value), h.get? a = some oe ∧ Zc cls d oe ∧ oe.data = .fields vs := by
  have x : ObjOk P w H h a (.ext fun h => ∃ (oe : Obj) (vs : Array Value), h.get? a = some oe ∧ Zc cls d oe ∧ oe.data = .fields vs) := hok a _ he
  exact x.1
theorem caught_inst {P : Program} {w : World} {H : Hp} {h : Heap} {a C : Addr} {d : Option Addr} (hok : HOk P w H h) (he : H a = some (Caught (.ref C) d a)) (hd : Dct H d) : ∃ (oe : Obj) (od : Option Obj), PySem.W.InstAt h a oe C od := by
  obtain ⟨oe, vs, ha, hz, hf⟩ := caught_at hok he
  rcases hd with rfl | ⟨dd, fs, rfl, hx⟩
  · exact ⟨oe, none, ha, hz.1, by unfold PySem.W.notCls; rw [hf] <;> rfl, by rw [hz.2]; trivial⟩
  · have hx : ObjOk P w H h dd (.xd fs) := hok dd _ hx
    obtain ⟨mA, ⟨od, es, ep, ho, hc⟩, hr⟩ := hx
    exact ⟨oe, some od, ha, hz.1, by unfold PySem.W.notCls; rw [hf] <;> rfl, by rw [hz.2]; exact ho⟩
section
variable {X : Cx}
theorem call_isiE : CallR X (.builtin "isinstance") (rIsiE X.K) := by
  intro pins s σ H xs us Q I r h
  obtain ⟨a, c, C, d, u, b, rfl, k, ha, hd, T, e, q⟩ := h
  obtain ⟨u1, u2, rfl, r1, r2⟩ := vals2 r
  have e2 := k.eq r2
  subst e2
  cases (show u1 = Value.ref a from r1)
  obtain ⟨oe, od, J⟩ := caught_inst I.hok ha hd
  exact PySem.W.kia_one (PySem.W.kitx_exc (ox := oe) (od := od) T.cl T.ga T.gt T.sub T.ca T.ng T.tk T.mr) I.kIn J e (fun z => nomatch z) fun tk => ⟨.bl b, H, I.tok tk, rfl, q⟩
/-! ### list.count, flat items -/
def rCntF (K : PySem.W.Frag) : V → List V → Hp → VK → Prop := fun x xs H Q => ∃ (p : Addr) (ys : List V) (y : V), x = .ref p ∧ xs = [y] ∧ SqL K H p ys ∧ flatV y = true ∧ ys.all flatV = true ∧ Q (.int ((ys.countP fun z => eqV z y : Nat) : Int)) H
theorem countP_eqU {x : V} : ∀ {xs : List V} {us : List Value}, Vals xs us → xs.all flatV = true → us.countP (eqU x) = xs.countP fun y => eqV y x
  | _, _, .nil, _ => rfl
  | y :: xs, u :: us, .cons r t, f => by
    rw [List.all_cons, Bool.and_eq_true] at f
    rw [List.countP_cons, List.countP_cons, eqU_of r f.1, countP_eqU t f.2]
theorem mt_countF : MtR X "list.count" (rCntF X.K) := by
  intro pins s σ H x xs v us Q I rx rxs h
  obtain ⟨p, ys, y, rfl, rfl, hs, fy, fs, q⟩ := h
  cases rx
  obtain ⟨u, rfl, ru⟩ := rxs.one
  obtain ⟨its, rv, ⟨⟨cls, dd, data, sl⟩, n, ho, hc, hdn, hd⟩, hlen⟩ := I.list hs
  simp only at hc hd
  subst hc hd
  refine call_meets PySem.F.slot_list_count ⟨_, ho, rfl⟩ PySem.F.entry_list_count (PySem.F.args_list_count_2 _ _)
    (SeqAt.list_countAt p its.toArray n dd sl u (eqU y)) ⟨ho, fun z hz => mem_eqAt ru fy rv fs z (by simpa using hz), ?_⟩
  have ec : its.toArray.toList.countP (eqU y) = ys.countP fun z => eqV z y := countP_eqU rv fs
  refine ⟨.int ((ys.countP fun z => eqV z y : Nat) : Int), H, I.tok _, ⟨s.toks, ?_⟩, q⟩
  show Value.int ((its.toArray.toList.countP (eqU y) : Nat) : Int) s.toks = Value.int _ s.toks
  rw [ec]
/-! ### a text many times -/
def repS (a : Str) (n : Nat) : Str := ⟨(List.replicate n a.cps).foldl (· ++ ·) #[]⟩
theorem foldl_size : ∀ (n : Nat) (a b : Array Nat), ((List.replicate n a).foldl (· ++ ·) b).size = b.size + a.size * n
  | 0, a, b => by simp
  | n + 1, a, b => by
    rw [List.replicate_succ, List.foldl_cons, foldl_size n a (b ++ a), Array.size_append, Nat.mul_succ]
    omega
theorem repS_len (a : Str) (n : Nat) : (repS a n).length = a.length * n := by
  show ((List.replicate n a.cps).foldl (· ++ ·) #[]).size = a.cps.size * n
  rw [foldl_size]
  simp
def rRepS : R2 := fun x y H Q => ∃ (a : Str) (k : Int), x = .str a ∧ y = .int k ∧ 0 ≤ k ∧ k ≤ 1000 ∧ a.length ≤ 1000 ∧ Q (.str (repS a k.toNat)) H
theorem op_repS : OpR X (binaryOp .Mult) rRepS := by
  intro pins s σ H x y v u Q I rx ry h
  obtain ⟨a, k, rfl, rfl, k0, k1, ha, q⟩ := h
  obtain ⟨t, rfl⟩ := rx
  obtain ⟨t', rfl⟩ := ry
  have big : (1000 : Nat) * 1000 ≤ 16777216 := by decide
  have big2 : (16777216 : Nat) ≤ sizeLine := by decide
  have hkn : k.toNat ≤ 1000 := by omega
  have hm : a.length * k.toNat ≤ 1000 * 1000 := Nat.mul_le_mul ha hkn
  refine PySem.P.mul_str ?_ ?_ ?_ ?_
  · rw [decide_eq_false (by omega), decide_eq_false (by omega)]
    rfl
  · intro h1 _ h2
    have h3 : (0 : Int) < k := by omega
    have h4 : k ≤ 1000 := k1
    have h5 : ((2 : Int) ^ 63 - 1) / 1000 ≤ (2 ^ 63 - 1) / k := by
      refine Int.le_ediv_of_mul_le h3 ?_
      have : ((2 : Int) ^ 63 - 1) / 1000 * k ≤ ((2 : Int) ^ 63 - 1) / 1000 * 1000 := Int.mul_le_mul_of_nonneg_left h4 (by decide)
      exact Int.le_trans this (by decide)
    have h6 : (1000 : Int) < ((2 : Int) ^ 63 - 1) / 1000 := by decide
    omega
  · intro _ _
    exact PyProof.Rows.short24 (by omega)
  · have e0 : k = ((k.toNat : Nat) : Int) := by omega
    by_cases h1 : k < 1
    · rw [if_pos h1]
      refine ⟨by show (0 : Nat) ≤ _; omega, .str (repS a k.toNat), H, I.tok _, ⟨s.toks, ?_⟩, q⟩
      have : k.toNat = 0 := by omega
      rw [this]
      rfl
    · rw [if_neg h1]
      by_cases h2 : (k == 1 || a.length == 0) = true
      · rw [if_pos h2]
        have e : repS a k.toNat = a := by
          rcases Bool.or_eq_true_iff.mp h2 with z | z
          · have : k.toNat = 1 := by have := eq_of_beq z; omega
            rw [this]
            show (⟨#[] ++ a.cps⟩ : Str) = a
            rw [Array.empty_append]
          · have z1 : a.cps = #[] := Array.eq_empty_of_size_eq_zero (eq_of_beq z)
            have z2 : (repS a k.toNat).cps = #[] := Array.eq_empty_of_size_eq_zero (by
              have := repS_len a k.toNat
              have z3 : a.length = 0 := eq_of_beq z
              rw [z3, Nat.zero_mul] at this
              exact this)
            obtain ⟨ac⟩ := a
            show (⟨_⟩ : Str) = _
            exact congrArg Str.mk (z2.trans z1.symm)
        refine ⟨.str (repS a k.toNat), H, I, ⟨t, ?_⟩, q⟩
        rw [e]
      · rw [if_neg h2]
        refine ⟨?_, .str (repS a k.toNat), H, I.tok _, ⟨s.toks, rfl⟩, q⟩
        have := repS_len a k.toNat
        show (repS a k.toNat).length ≤ _
        omega
/-! ### a list is in no tuple of texts -/
def rInX (K : PySem.W.Frag) : R2 := fun x y H Q => rIn K false x y H Q ∨ ∃ (l p : Addr) (xs : List V) (ys : List Str), x = .ref l ∧ y = .ref p ∧ SqL K H l xs ∧ SqT K H p (ys.map V.str) ∧ Q (.bl false) H
theorem op_inX (hu : X.A.units + 64 < cLine) : OpR X (compareOp .In) (rInX X.K) := by
  intro pins s σ H x y v u Q I rx ry h
  rcases h with h | ⟨l, p, xs, ys, rfl, rfl, hl, hp, q⟩
  · exact op_in_seq pins s σ H x y v u Q I rx ry h
  · cases rx
    cases ry
    obtain ⟨its, r, pl, hz⟩ := I.tuple hp
    obtain ⟨its2, r2, pl2, hz2⟩ := I.list hl
    refine SeqAt.in_tupleAt (fun _ => false) pl (fun w hw => ?_) ⟨.bl false, H, I, ?_, q⟩
    · have hw : w ∈ its := by simpa using hw
      have all : ∀ {zs : List Str} {ws : List Value}, Vals (zs.map V.str) ws → ∀ w ∈ ws, ∃ z t, w = .str z t := by
        intro zs
        induction zs with
        | nil => intro ws r w hw; cases r; cases hw
        | cons z zs ih =>
          intro ws r w hw
          cases r with
          | cons r t =>
            rcases List.mem_cons.mp hw with rfl | hw
            · obtain ⟨t, rfl⟩ := r
              exact ⟨z, t, rfl⟩
            · exact ih t w hw
      obtain ⟨z, t, rfl⟩ := all r w hw
      exact SeqAt.EqAt.str_list z t pl2.isList (by show X.A.units + 1 < cLine; omega)
    · show Value.bool _ = Value.bool false
      congr 1
      simp
end
/-! ### the errors of the program -/
def errNames : List Str := ["BadPath", "BadText", "BadRights", "NoUser", "NoRight", "NoName", "NotRoom", "NotLeaf", "NotHint", "Taken", "TooDeep", "Busy", "BadMove"]
def errWords : List Str := ["path", "text", "rights", "user", "right", "name", "room", "leaf", "hint", "taken", "deep", "busy", "move"]
def errC (K : PySem.W.Frag) (i : Nat) : Addr := He.ga K (errNames.getD i "")
structure ErrK (K : PySem.W.Frag) : Prop where
  ex : ∀ i, i < 13 → ExC K (errC K i)
  is : ∀ i j, i < 13 → j < 13 → PySem.W.kitOne K (.ref (errC K i)) (.ref (errC K j)) = some (decide (i = j))
  we : ∀ i, i < 13 → PySem.W.kitOne K (.ref (errC K i)) (.ref (He.ga K "WorldError")) = some true
  ve : ∀ i, i < 13 → PySem.W.kitOne K (.ref (errC K i)) (.type "ValueError") = some true
  xm : ∀ i, i < 13 → PySem.W.exmOne K (.ref (errC K i)) (.ref (He.ga K "WorldError")) = some true
def errB1 (K : PySem.W.Frag) (i : Nat) : Bool := exCB K (errC K i) && ((List.range 13).all (fun j => decide (PySem.W.kitOne K (.ref (errC K i)) (.ref (errC K j)) = some (decide (i = j)))) && (decide (PySem.W.kitOne K (.ref (errC K i)) (.ref (He.ga K "WorldError")) = some true) &&
  (decide (PySem.W.kitOne K (.ref (errC K i)) (.type "ValueError") = some true) && decide (PySem.W.exmOne K (.ref (errC K i)) (.ref (He.ga K "WorldError")) = some true))))
def errB (K : PySem.W.Frag) : Bool := (List.range 13).all (errB1 K)
theorem errB_ok {K : PySem.W.Frag} (h : errB K = true) : ErrK K := by
  have h1 : ∀ i, i < 13 → errB1 K i = true := fun i hi => List.all_eq_true.mp h i (List.mem_range.mpr hi)
  have h2 : ∀ i, i < 13 → _ := fun i hi => by
    have := h1 i hi
    unfold errB1 at this
    simp only [Bool.and_eq_true, decide_eq_true_eq, List.all_eq_true, List.mem_range] at this
    exact this
  exact ⟨fun i hi => exCB_ok (h2 i hi).1, fun i j hi hj => (h2 i hi).2.1 j hj, fun i hi => (h2 i hi).2.2.1, fun i hi => (h2 i hi).2.2.2.1, fun i hi => (h2 i hi).2.2.2.2⟩
/-- a class by its name -/
theorem pe_cls {X : Cx} {x : Str} {C : Addr} {pos : Pos} (hg : Gl X x) (hm : X.mg x = some (.ref C)) (hd : (x == ("__debug__" : Str)) = false := by decide) : PE X (.Name x pos) (tC (.ref C)) := pe_glob (v := .ref C) hg hm rfl hd
/-- a conditional at which the walk stops -/
def tIfC (t : TT) (ta tb : TE) : TE := fun σ H Q => tIf t ta tb σ H Q
theorem pe_ifC {X : Cx} {t a b : Expr} {tt : TT} {ta tb : TE} {pos : Pos} (ht : PT X t tt) (ha : PE X a ta) (hb : PE X b tb) : PE X (.IfExp t a b pos) (tIfC tt ta tb) := ⟨(pe_ifExp ht ha hb).run⟩
/-! ### texts, or things that are none -/
/-- a text, or a thing that is none -/
def TextOk (K : PySem.W.Frag) (H : Hp) (v : V) : Prop := (∃ s, v = .str s ∧ s.length + 2 ≤ sizeLine) ∨ Kind K H v "str" false
theorem not_text {K : PySem.W.Frag} {H : Hp} {s : Str} (h : Kind K H (.str s) "str" false) : False := by
  obtain ⟨tv, h1, h2⟩ := h
  cases h1 with
  | base h1 =>
    cases h1
    have h3 : PySem.W.kitOne K (.type "str") (.type "str") = some true := kit_ty (by decide +kernel)
    rw [h3] at h2
    cases h2
theorem textOk_lit {K : PySem.W.Frag} {H : Hp} {s : Str} (h : s.length ≤ 1000) : TextOk K H (.str s) := .inl ⟨s, rfl, Nat.le_trans (Nat.add_le_add_right h 2) (by decide)⟩
theorem TextOk.ex {K : PySem.W.Frag} {H H' : Hp} {v : V} (h : TextOk K H v) (e : Ex H H') : TextOk K H' v := by
  rcases h with h | h
  · exact .inl h
  · exact .inr (h.ex e)
/-! ### readings -/
section
variable {σ : L2.St} {H : Hp} {Q : VK} {K : PySem.W.Frag}
theorem x_ifC {t : TT} {ta tb : TE} (q : tIf t ta tb σ H Q) : tIfC t ta tb σ H Q := q
/-- a word of the value, and on -/
theorem x_gen {te : TE} (P : VK) (h : ∀ R : VK, (∀ v H', P v H' → R v H') → te σ H R) (k : ∀ v H', P v H' → Q v H') : te σ H Q := h Q k
theorem x_repS {a : Str} {k : Int} (hk : 0 ≤ k ∧ k ≤ 1000) (ha : a.length ≤ 1000) (q : Q (.str (repS a k.toNat)) H) : rRepS (.str a) (.int k) H Q := ⟨a, k, rfl, rfl, hk.1, hk.2, ha, q⟩
theorem x_rep {l : Addr} {k : Int} {xs : List V} (h : H l = some (.lst xs)) (hk : 0 ≤ k ∧ k ≤ 1000) (hx : xs.length ≤ 1000) (q : ∀ p, H p = none → Q (.ref p) (upd H p (.lst (List.replicate k.toNat xs).flatten))) : rRep (.ref l) (.int k) H Q :=
  ⟨l, k, xs, rfl, rfl, h, by omega, by omega, Nat.le_trans (Nat.mul_le_mul hx (show k.toNat ≤ 1000 by omega)) (by decide), q⟩
/-- two lists of the same texts -/
theorem x_neS {a b : Addr} {xs ys : List Str} (ha : H a = some (.lst (xs.map V.str))) (hb : H b = some (.lst (ys.map V.str))) (e : xs = ys) (o : ∀ s ∈ ys, PyData.strOk s = true) (q : Q (.bl false) H) : rNeD K (.ref a) (.ref b) H Q := by
  subst e
  refine ⟨_, _, .lst (SqL.of ha) (dp_strs _), .lst (SqL.of hb) (dp_strs _), shaped_strs o, shaped_strs o, ?_⟩
  rw [eqv_list_strs, decide_eq_true rfl]
  exact q
theorem x_eqS {a b : Addr} {xs ys : List Str} (ha : H a = some (.lst (xs.map V.str))) (hb : H b = some (.lst (ys.map V.str))) (e : xs = ys) (o : ∀ s ∈ ys, PyData.strOk s = true) (q : Q (.bl true) H) : rEqD K (.ref a) (.ref b) H Q := by
  subst e
  refine ⟨_, _, .lst (SqL.of ha) (dp_strs _), .lst (SqL.of hb) (dp_strs _), shaped_strs o, shaped_strs o, ?_⟩
  rw [eqv_list_strs, decide_eq_true rfl]
  exact q
theorem x_dnewK (q : ∀ p H1, H p = none → Ex H H1 → H1 p = some (.dK []) → Q (.ref p) H1) : tDNewK σ H Q := fun p hp => q p _ hp (Ex.new hp) upd_same
theorem x_repE {l : Addr} {k : Int} {xs : List V} (h : H l = some (.lst xs)) (hk : 0 ≤ k ∧ k ≤ 1000) (hx : xs.length ≤ 1000) (q : ∀ p H1, H p = none → Ex H H1 → H1 p = some (.lst (List.replicate k.toNat xs).flatten) → Q (.ref p) H1) : rRep (.ref l) (.int k) H Q :=
  x_rep h hk hx fun p hp => q p _ hp (Ex.new hp) upd_same
theorem x_tupE {p : Addr} {ys : List V} (h : SqL K H p ys) (q : ∀ l H1, H l = none → Ex H H1 → H1 l = some (.tup ys) → Q (.ref l) H1) : ∃ p' ys', ([V.ref p] : List V) = [.ref p'] ∧ ((SqL K H p' ys' ∧ ∀ l, H l = none → Q (.ref l) (upd H l (.tup ys'))) ∨ (SqT K H p' ys' ∧ Q (.ref p') H)) :=
  ⟨p, ys, rfl, .inl ⟨h, fun l hl => q l _ hl (Ex.new hl) upd_same⟩⟩
theorem x_slE {a : Addr} {xs : List V} {lo hi : Option Int} (h : SqL K H a xs) (q : ∀ p H1, H p = none → Ex H H1 → H1 p = some (.lst (cutV xs lo hi)) → Q (.ref p) H1) : rSlL K (.ref a) lo hi H Q := x_slL h fun p hp => q p _ hp (Ex.new hp) upd_same
theorem x_keep {D : Ends} {i j n : Nat} {Wout : WX} {d : Option Addr} (EK : ErrK K) (hn : n < 13) (q : ∀ a H1, H a = none → Ex H H1 → H1 a = some (Caught (.ref (errC K n)) d a) → D.nx (((σ.set i (some (.ref a))).set j (some (.ref a))).set i none) H1) :
    wKeep K (.ref (He.ga K "WorldError")) i j Wout D (.ref (errC K n)) d σ H := ⟨true, EK.xm n hn, fun _ a ha => q a _ ha (Ex.new ha) upd_same, fun z => nomatch z⟩
theorem x_newL {xs : List V} (q : ∀ p H1, H p = none → Ex H H1 → H1 p = some (.lst xs) → Q (.ref p) H1) (hz : xs.length ≤ 100000 := by simp) : NewL xs H Q :=
  ⟨Nat.le_trans hz (by decide), fun p hp => q p _ hp (Ex.new hp) upd_same⟩
theorem x_newT {xs : List V} (q : ∀ p H1, H p = none → Ex H H1 → H1 p = some (.tup xs) → Q (.ref p) H1) (hz : xs.length ≤ 100000 := by simp) : NewT xs H Q :=
  ⟨Nat.le_trans hz (by decide), fun p hp => q p _ hp (Ex.new hp) upd_same⟩
theorem x_cat {a b : Addr} {xs ys : List V} (ha : H a = some (.lst xs)) (hb : H b = some (.lst ys)) (hz : xs.length + ys.length ≤ 100000) (q : ∀ p H1, H p = none → Ex H H1 → H1 p = some (.lst (xs ++ ys)) → Q (.ref p) H1) : rCat (.ref a) (.ref b) H Q :=
  ⟨a, b, xs, ys, rfl, rfl, ha, hb, Nat.le_trans hz (by decide), fun p hp => q p _ hp (Ex.new hp) upd_same⟩
theorem x_isiE {a C : Addr} {c : V} {d : Option Addr} {u : Value} {b : Bool} (hc : ClsV c u) (ha : H a = some (Caught (.ref C) d a)) (hd : Dct H d) (T : ExC K C) (k : PySem.W.kitOne K (.ref C) u = some b) (q : Q (.bl b) H) : rIsiE K [.ref a, c] H Q := ⟨a, c, C, d, u, b, rfl, hc, ha, hd, T, k, q⟩
theorem x_cntF {p : Addr} {ys : List V} {y : V} (h : SqL K H p ys) (fy : flatV y = true) (fs : ys.all flatV = true) (q : Q (.int ((ys.countP fun z => eqV z y : Nat) : Int)) H) : rCntF K (.ref p) [y] H Q := ⟨p, ys, y, rfl, rfl, h, fy, fs, q⟩
theorem x_inX0 {x y : V} (q : rIn K false x y H Q) : rInX K x y H Q := .inl q
theorem x_inX {l p : Addr} {xs : List V} {ys : List Str} (h1 : SqL K H l xs) (h2 : SqT K H p (ys.map V.str)) (q : Q (.bl false) H) : rInX K (.ref l) (.ref p) H Q := .inr ⟨l, p, xs, ys, rfl, rfl, h1, h2, q⟩
end
end Tm

/-! the head: the kit's facts and one Bool more -/
namespace Tm
open PySem L2
abbrev AlE : Type := He.AlD × Bool
def obsE (fa : List He.Fa) (fn : List He.DefD) (ex : PySem.W.Frag → Bool) (K : PySem.W.Frag) : AlE := (He.obsD fa fn K, ex K)
def obsEG (n : Nat) (fa : List He.Fa) (fn : List He.DefD) (ex : PySem.W.Frag → Bool) (g : Addr → Option Obj) : AlE := obsE fa fn ex (He.frG g (He.asD g n))
def hookE (n : Nat) (fa : List He.Fa) (fn : List He.DefD) (ex : PySem.W.Frag → Bool) : PySem.W.Hook where
  α := AlE
  obs := fun s => obsEG n fa fn ex s.heap.get?
  val := fun _ => (He.valD fn, true)
  says := fun _ h => ∃ K : PySem.W.Frag, K.In h ∧ He.SaysD fa fn K ∧ ex K = true
  of := fun _ _ e => ⟨_, He.frG_in, congrArg (fun z : AlE => z.1) e, congrArg (fun z : AlE => z.2) e⟩
  keeps := fun _ _ _ ⟨K, hK, c⟩ k => ⟨K, PySem.W.Frag.In.keeps hK k, c⟩
theorem obsEG_eq {n : Nat} {fa : List He.Fa} {fn : List He.DefD} {ex : PySem.W.Frag → Bool} {g : Addr → Option Obj} {s : Shared} (h : ∀ a, g a = s.heap.get? a) : obsEG n fa fn ex g = (hookE n fa fn ex).obs s := by
  have e : g = s.heap.get? := funext h
  rw [e] <;> rfl
end Tm

open Tm in
local macro_rules | `(tactic| walk_at "x1") => `(tactic| first
  | ((with_reducible refine' x_var ?h1 ?_); (case h1 => exact rfl)) | with_reducible refine x_c ?_ | with_reducible refine x_op ?_ | with_reducible refine x_un ?_ | with_reducible refine x_I0 ?_ | with_reducible refine x_neg ?_
  | with_reducible refine x_test ?_ | with_reducible refine x_tB ?_ | with_reducible refine x_bl ?_ | with_reducible refine x_not ?_ | with_reducible refine x_and ?_ | with_reducible refine x_or ?_
  | with_reducible refine x_andV ?_ | with_reducible refine x_orV ?_ | with_reducible refine x_notV ?_ | with_reducible refine x_blV ?_ | with_reducible refine x_ifx ?_ | with_reducible refine x_chain ?_
  | with_reducible refine x_nil ?_ | with_reducible refine x_cons ?_ | with_reducible refine x_lst ?_ | with_reducible refine x_tup ?_ | with_reducible refine x_cb ?_ | with_reducible refine x_fld ?_
  | with_reducible refine x_sl ?_ | with_reducible refine x_noPart ?_ | with_reducible refine x_part ?_ | with_reducible refine x_partI ?_ | with_reducible refine x_m1 ?_ | with_reducible refine x_isS ?_
  | with_reducible refine x_next ?_ | with_reducible refine x_seq ?_ | with_reducible refine x_ret ?_ | with_reducible refine x_drop ?_ | with_reducible refine x_asg ?_ | with_reducible refine x_name ?_
  | with_reducible refine x_ifS ?_ | with_reducible refine x_sub ?_ | with_reducible refine x_bm ?_ | with_reducible refine x_bm0 ?_ | with_reducible refine x_fn ?_ | with_reducible refine x_fnD ?_ | with_reducible refine x_fnK ?_
  | ((with_reducible refine x_eq ?h1 ?_); (case h1 => exact rfl)) | ((with_reducible refine x_ne ?h1 ?_); (case h1 => exact rfl)) | with_reducible refine x_isNo ?_ | with_reducible refine x_isNt ?_ | with_reducible refine x_sgn ?_
  | with_reducible refine x_lcS ?_ | with_reducible refine x_lcL ?_ | with_reducible refine x_lcR1 ?_
  | with_reducible refine x_forR1 ?_ | with_reducible refine x_forR2 ?_ | with_reducible refine x_forL ?_)
local macro_rules | `(tactic| walk_at "x") => `(tactic| (repeat walk_at "x1"))
local macro_rules | `(tactic| walk_at "if") => `(tactic| (refine Tm.x_thru ?_; walk_at "x"))
local macro_rules | `(tactic| walk_at "ne") => `(tactic| first
  | assumption | exact Ne.symm (by assumption) | exact ne_of_none (by first | assumption | walk_at "hp") (by assumption) | exact (ne_of_none (by first | assumption | walk_at "hp") (by assumption)).symm
  | exact ne_of (by walk_at "hp") (by walk_at "hp") (by intro z; cases z))
open Tm L2 in
local macro_rules | `(tactic| walk_at "hp") => `(tactic| first
  | assumption | exact upd_same
  | ((with_reducible refine' Eq.trans (upd_ne ?h1) ?h2); (case h1 => walk_at "ne"); (case h2 => walk_at "hp"))
  | ((with_reducible refine' ex_at ?h1 ?h2); (case h1 => assumption); (case h2 => walk_at "hp")))
namespace Tm
open PySem L2
def top (i : Nat) : Stmt := PySem.Challenge.pw_treemounts_k02_paths_refused.main.body.getD i (.Pass ⟨0, 0, 0, 0⟩)
def sp_is_name (K : PySem.W.Frag) : Sp := fun vs H Q _ => ∃ v, vs = [v] ∧ ((∃ s, v = .str s ∧ s.length ≤ sizeLine ∧ ∀ H', Ex H H' → Q (.bl (isName s)) H') ∨ (Kind K H v "str" false ∧ ∀ H', Ex H H' → Q (.bl false) H'))
def sp_is_part (K : PySem.W.Frag) : Sp := fun vs H Q _ => ∃ v, vs = [v] ∧ PartOk K H v ∧ ∀ H', Ex H H' → Q (.bl (partV v)) H'
def sp_parts_of (K : PySem.W.Frag) : Sp := fun vs H Q E => ∃ (v : V) (b : Bool), vs = [v, .bl b] ∧
  ((∃ s, v = .str s ∧ s.length + 2 ≤ sizeLine ∧ (∀ ps, partsOf b s = some ps → ∀ p H', H p = none → Ex H H' → H' p = some (.lst (ps.map V.str)) → Q (.ref p) H') ∧ (partsOf b s = none → ∀ H', Ex H H' → E (cBadPath K) none H')) ∨
    (Kind K H v "str" false ∧ ∀ H', Ex H H' → E (cBadPath K) none H'))
/-- the things of a list, asked part by part -/
def goodVs (xs : List V) : Bool := decide (xs.length ≤ 12) && xs.all partV
def sp_path_of (K : PySem.W.Frag) : Sp := fun vs H Q E => ∃ v : V, vs = [v] ∧
  ((∃ a xs, v = .ref a ∧ H a = some (.lst xs) ∧ xs.length ≤ 100000 ∧ (∀ x ∈ xs, PartOk K H x) ∧ (∀ ps : List Str, xs = ps.map V.str → goodParts ps = true → ∀ H', Ex H H' → Q (.str (pathOf ps)) H') ∧ (goodVs xs = false → ∀ H', Ex H H' → E (cBadPath K) none H')) ∨
    (Kind K H v "list" false ∧ ∀ H', Ex H H' → E (cBadPath K) none H'))
def sp_joined (K : PySem.W.Frag) : Sp := fun vs H Q E => ∃ v u : V, vs = [v, u] ∧ TextOk K H v ∧ TextOk K H u ∧
  (∀ a b, v = .str a → u = .str b → ∀ qs, joinOf a b = some qs → ∀ H', Ex H H' → Q (.str (pathOf qs)) H') ∧ ((∀ a b, v = .str a → u = .str b → joinOf a b = none) → ∀ H', Ex H H' → E (cBadPath K) none H')
def sp_plain (K : PySem.W.Frag) : Sp := fun vs H Q E => ∃ v : V, vs = [v] ∧
  ((∃ s, v = .str s ∧ s.length + 2 ≤ sizeLine ∧ (∀ ps, partsOf true s = some ps → ∀ H', Ex H H' → Q (.str (pathOf (plain ps))) H') ∧ (partsOf true s = none → ∀ H', Ex H H' → E (cBadPath K) none H')) ∨
    (Kind K H v "str" false ∧ ∀ H', Ex H H' → E (cBadPath K) none H'))
/-- the parts ahead, and the name at the end -/
def splitOf (s : Str) : Option (List Str × Str) := match partsOf true s with
  | none => none
  | some ps => match ps.getLast? with
    | none => none
    | some n => if isName n = true then some (ps.dropLast, n) else none
def sp_split (K : PySem.W.Frag) : Sp := fun vs H Q E => ∃ v : V, vs = [v] ∧
  ((∃ s, v = .str s ∧ s.length + 2 ≤ sizeLine ∧ (∀ ps n, splitOf s = some (ps, n) → ∀ p H', H p = none → Ex H H' → H' p = some (.tup [.str (pathOf ps), .str n]) → Q (.ref p) H') ∧ (splitOf s = none → ∀ H', Ex H H' → E (cBadPath K) none H')) ∨
    (Kind K H v "str" false ∧ ∀ H', Ex H H' → E (cBadPath K) none H'))
def told (kind : Int) (s : Str) : Bool := if kind = 0 then (partsOf true s).isSome else if kind = 1 then (partsOf false s).isSome else if kind = 2 then (partsOf true s).isSome else if kind = 3 then (splitOf s).isSome else if kind = 4 then (joinOf s "a").isSome else (joinOf "/a" s).isSome
def sp_did (K : PySem.W.Frag) : Sp := fun vs H Q E => ∃ (kind : Int) (v : V), vs = [.int kind, v] ∧ TextOk K H v ∧ (∀ s, v = .str s → told kind s = true → ∀ x H', Ex H H' → Q x H') ∧ ((∀ s, v = .str s → told kind s = false) → ∀ H', Ex H H' → E (cBadPath K) none H')
def sp_refusal (K : PySem.W.Frag) : Sp := fun vs H Q _ => ∃ (a : Addr) (i : Nat) (d : Option Addr), vs = [.ref a] ∧ i < 13 ∧ H a = some (Caught (.ref (errC K i)) d a) ∧ Dct H d ∧ ∀ H', Ex H H' → Q (.str (errWords.getD i "")) H'
def askedV (kind : Int) (v : V) : Str := match v with
  | .str s => if told kind s = true then "told" else "path"
  | _ => "path"
def sp_asked (K : PySem.W.Frag) : Sp := fun vs H Q _ => ∃ (kind : Int) (v : V), vs = [.int kind, v] ∧ TextOk K H v ∧ ∀ H', Ex H H' → Q (.str (askedV kind v)) H'
-- in TmP: def sp_draw
-- in TmP: def sp_pick
def sp_name : Sp := fun vs H Q _ => ∃ t c : Addr, vs = [.ref t] ∧ Town H t c ∧ ∀ (n : Str) (H' : Hp), n ∈ lnames → Town H' t c → Off [t, c] H H' → Q (.str n) H'
/-- what path_of tells of a thing -/
def partsV (H : Hp) (v : V) : Str := match v with
  | .ref a => match H a with
    | some (.lst xs) => if goodVs xs = true then "told" else "path"
    | _ => "path"
  | _ => "path"
def sp_parts (K : PySem.W.Frag) : Sp := fun vs H Q _ => ∃ v : V, vs = [v] ∧ ((∃ a xs, v = .ref a ∧ H a = some (.lst xs) ∧ xs.length ≤ 100000 ∧ ∀ x ∈ xs, PartOk K H x) ∨ (Kind K H v "list" false ∧ partsV H v = "path")) ∧ ∀ H', Ex H H' → Q (.str (partsV H v)) H'
-- in TmP: def sp_town (K : PySem.W.Frag)
def sp_law (K : PySem.W.Frag) : Sp := fun vs H Q _ => ∃ (a : Addr) (ns : List Int), vs = [.ref a] ∧ SqL K H a (ns.map V.int) ∧ ns.length ≤ 63 ∧ ∀ H', Q (.bl true) H'

abbrev s_is_name : Stmt := top 21
abbrev N_is_name : List Str := ["thing", "sign"]
theorem sc_is_name : FnScope N_is_name ["thing"] (defScope s_is_name) := ⟨rfl, rfl, rfl, by decide +kernel, rfl, by decide +kernel, by decide +kernel⟩
theorem ok_is_name {P : Program} {w : World} {K : PySem.W.Frag} {mg : Str → Option Value} {base : Heap} {f : Addr} {fd : FuncData} (F : FunD K "is_name" "is_name" (defArgs s_is_name) (defBody s_is_name) (defScope s_is_name) [] [] f fd)
    (b_isinstance : mg "isinstance" = none) (b_str : mg "str" = none) (b_len : mg "len" = none) (c_MOST_NAME : ∃ t, mg "MOST_NAME" = some (.int 8 t)) (b_all : mg "all" = none) (c_SIGNS : ∃ t, mg "SIGNS" = some (.str "abcdefghijklmnopqrstuvwxyz0123456789" t))  : FnOk P w K mg base (L2.CX P w) 1 f fd ["thing"] (sp_is_name K) := by
  have nd := sc_is_name.nd
  refine F.ok (k := 0) sc_is_name (fun vs H Q E h => ?_) (fun cdv A outer s H vs Q E hr h => ?_)
  · obtain ⟨_, rfl, _⟩ := h
    rfl
  have hu := hu_of hr
  refine ⟨_, (pss_mid (ps_if (PW.pt (pw_or (pt_not (pt_val (pe_callB call_isi (by rfl) b_isinstance (by decide +kernel) (pa_cons (pv 0) (pa_cons (pe_ty (n := "str") b_str (by decide +kernel) (by rfl)) pa_nil))))) (pw_or1 (pt_not (pt_chain op_le op_le pe_int (pe_callB call_lenT (by rfl) b_len (by decide +kernel) (pa_cons (pv 0) pa_nil)) (pe_gint c_MOST_NAME (by rfl))))))) (pss_one (ps_ret pe_bl))
      pss_nil)
      (pss_one (ps_ret (pe_callB (cr_all rfl) (by rfl) b_all (by decide +kernel) (pa_cons (pe_lc (own := [("sign", 1)]) (g := gName 1) (by rfl) nd (pi_str (pv 0)) (blkOk_by (own := [("sign", 1)]) (N := N_is_name) (sc := defScope s_is_name) (by decide +kernel)) (fun _ _ _ _ _ => (pg_name (i := 1) nd rfl (Or.inl rfl))) (fun _ _ _ _ _ => pts_nil) (fun _ _ _ _ _ => (pe_cmpR op_sgn (pv 1) (pe_gstr c_SIGNS (by rfl)) rfl))) pa_nil))))), ?_⟩
  obtain ⟨v, rfl, ⟨s, rfl, hz, k⟩ | ⟨⟨tv, ht, hk⟩, k⟩⟩ := h
  · walk_at "if"
    refine x_isi (b := true) (.ty _) (.base (.str s)) (kit_ty (by decide +kernel)) ?_
    walk_at "x"
    refine iteF ?_
    walk_at "x"
    refine x_lenT hz ?_
    walk_at "x"
    have no : isName s = false → Q (.bl false) H := fun e => by
      have := k H Ex.rfl
      rw [e] at this
      exact this
    refine x_ifd (fun h1 => ?_) (fun h1 => ?_)
    · walk_at "x"
      refine x_ifn (fun h2 => ?_) (fun h2 => ?_)
      · walk_at "x"
        refine no ?_
        unfold isName
        rw [decide_eq_false (show ¬ s.length ≤ 8 by omega), Bool.false_and, Bool.and_false]
      · walk_at "x"
        refine x_lcSV ⟨fun _ => rfl, ?_, fun _ => true, fun v => match v with | .str a => .bl (match (cs a)[0]? with | some c => decide (c ∈ cs signs) | none => true) | _ => .non, fun x hx H' e R k => k H' Ex.rfl, fun x hx _ H' e R k => ?_, fun D H' hD e hl => ?_⟩
        · rw [List.length_map, ← len_cs]
          omega
        · obtain ⟨c, hc, rfl⟩ := List.mem_map.mp hx
          walk_at "x"
          exact k H' Ex.rfl
        · walk_at "x"
          refine x_all (bs := (cs s).map fun c => decide (c ∈ cs signs)) (.inl (.inl ?_)) ?_
          · rw [hl]
            congr 2
            rw [List.filter_eq_self.mpr (fun _ _ => rfl), List.map_map, List.map_map]
            rfl
          · have e2 : ((cs s).map fun c => decide (c ∈ cs signs)).all id = isName s := by
              unfold isName
              rw [decide_eq_true (show 1 ≤ s.length by omega), decide_eq_true (show s.length ≤ 8 by omega), Bool.true_and, Bool.true_and, List.all_map]
              rfl
            rw [e2]
            exact k H' e
    · walk_at "x"
      refine iteT ?_
      walk_at "x"
      refine no ?_
      unfold isName
      rw [decide_eq_false (show ¬ 1 ≤ s.length by omega), Bool.false_and]
  · walk_at "if"
    refine x_isi (.ty _) ht hk ?_
    walk_at "x"
    refine iteT ?_
    refine iteT ?_
    walk_at "x"
    exact k H Ex.rfl
abbrev s_is_part : Stmt := top 22
abbrev N_is_part : List Str := ["thing"]
theorem sc_is_part : FnScope N_is_part ["thing"] (defScope s_is_part) := ⟨rfl, rfl, rfl, by decide +kernel, rfl, by decide +kernel, by decide +kernel⟩
theorem ok_is_part {P : Program} {w : World} {K : PySem.W.Frag} {mg : Str → Option Value} {base : Heap} {f : Addr} {fd : FuncData} (F : FunD K "is_part" "is_part" (defArgs s_is_part) (defBody s_is_part) (defScope s_is_part) [] [] f fd)
    (c_ABOVE : ∃ t, mg "ABOVE" = some (.str ".." t)) (c_HERE : ∃ t, mg "HERE" = some (.str "." t)) (F_is_name : Fn P w K mg base 1 "is_name" ["thing"] (sp_is_name K))  : FnOk P w K mg base (L2.CX P w) 2 f fd ["thing"] (sp_is_part K) := by
  have nd := sc_is_part.nd
  refine F.ok (k := 1) sc_is_part (fun vs H Q E h => ?_) (fun cdv A outer s H vs Q E hr h => ?_)
  · obtain ⟨_, rfl, _⟩ := h
    rfl
  have hu := hu_of hr
  refine ⟨_, (pss_one (ps_ret (pe_or (pe_cmpR (op_inX hr.units) (pv 0) (pe_tup (pa_cons (pe_gstr c_HERE (by rfl)) (pa_cons (pe_gstr c_ABOVE (by rfl)) pa_nil))) (by rfl)) (pe_one (pe_fn F_is_name (hr.mono (by decide)) (by rfl) (passD rfl rfl rfl rfl) (pa_cons (pv 0) pa_nil)))))), ?_⟩
  obtain ⟨v, rfl, ⟨s, rfl, hz⟩ | ⟨ht, hf, hi⟩ | ⟨l, xs, rfl, hl⟩, k⟩ := h
  · walk_at "x"
    refine ⟨by show 2 ≤ sizeLine; decide, fun p hp => ?_⟩
    refine x_inX0 (x_inT (SqT.of upd_same) rfl rfl ?_)
    walk_at "x"
    have k : ∀ H', Ex H H' → Q (.bl (isPart s)) H' := k
    have e : inV (.str s) [.str ".", .str ".."] = (decide (s = ".") || decide (s = "..")) := by
      show (decide (("." : Str) = s) || (decide ((".." : Str) = s) || false)) = _
      rw [Bool.or_false, decide_eq_decide.mpr (eq_comm (a := ("." : Str)) (b := s)), decide_eq_decide.mpr (eq_comm (a := (".." : Str)) (b := s))]
    rw [e]
    refine x_if (fun h1 => ?_) (fun h1 => ?_)
    · have e2 : isPart s = true := by
        unfold isPart
        rw [← Bool.or_assoc, h1, Bool.true_or]
      have := k _ (Ex.new (o := .tup [.str ".", .str ".."]) hp)
      rw [e2] at this
      exact this
    · walk_at "x"
      refine ⟨.str s, rfl, .inl ⟨s, rfl, hz, fun H' e1 => ?_⟩⟩
      have e2 : isPart s = isName s := by
        unfold isPart
        rw [← Bool.or_assoc, h1, Bool.false_or]
      rw [← e2]
      exact k H' ((Ex.new hp).tr e1)
  · walk_at "x"
    refine ⟨by show 2 ≤ sizeLine; decide, fun p hp => ?_⟩
    refine x_inX0 (x_inT (SqT.of upd_same) hf rfl ?_)
    rw [hi]
    walk_at "x"
    refine iteF ?_
    walk_at "x"
    refine ⟨v, rfl, .inr ⟨ht.ex (Ex.new hp), fun H' e1 => ?_⟩⟩
    have e2 : partV v = false := by
      cases v with
      | str s =>
        obtain ⟨tv, h1, h2⟩ := ht
        cases h1 with
        | base h1 =>
          cases h1
          have h3 : PySem.W.kitOne K (.type "str") (.type "str") = some true := kit_ty (by decide +kernel)
          rw [h3] at h2
          cases h2
      | _ => rfl
    have := k H' ((Ex.new hp).tr e1)
    rw [e2] at this
    exact this
  · walk_at "x"
    refine ⟨by show 2 ≤ sizeLine; decide, fun p hp => ?_⟩
    refine x_inX (ys := [".", ".."]) (SqL.of ((Ex.new hp) _ _ hl)) (SqT.of upd_same) ?_
    walk_at "x"
    refine iteF ?_
    walk_at "x"
    refine ⟨_, rfl, .inr ⟨⟨_, .base (.lst ((Ex.new hp) _ _ hl)), kit_ty (by decide +kernel)⟩, fun H' e1 => ?_⟩⟩
    exact k H' ((Ex.new hp).tr e1)
abbrev s_parts_of : Stmt := top 23
abbrev N_parts_of : List Str := ["path", "from_top", "rest", "parts", "part"]
theorem sc_parts_of : FnScope N_parts_of ["path", "from_top"] (defScope s_parts_of) := ⟨rfl, rfl, rfl, by decide +kernel, rfl, by decide +kernel, by decide +kernel⟩
theorem ok_parts_of {P : Program} {w : World} {K : PySem.W.Frag} {mg : Str → Option Value} {base : Heap} {f : Addr} {fd : FuncData} (F : FunD K "parts_of" "parts_of" (defArgs s_parts_of) (defBody s_parts_of) (defScope s_parts_of) [.bl true] [] f fd)
    (b_isinstance : mg "isinstance" = none) (b_str : mg "str" = none) (R_BadPath : Rz K mg "BadPath" (He.ga K "BadPath")) (b_len : mg "len" = none) (c_MOST_PARTS : ∃ t, mg "MOST_PARTS" = some (.int 12 t)) (b_all : mg "all" = none) (F_is_part : Fn P w K mg base 2 "is_part" ["thing"] (sp_is_part K))  : FnOk P w K mg base (L2.CX P w) 3 f fd ["path", "from_top"] (sp_parts_of K) := by
  have nd := sc_parts_of.nd
  refine F.ok (k := 2) sc_parts_of (fun vs H Q E h => ?_) (fun cdv A outer s H vs Q E hr h => ?_)
  · obtain ⟨_, _, rfl, _⟩ := h
    rfl
  have hu := hu_of hr
  refine ⟨_, (pss_mid (ps_if (pt_not (pt_val (pe_callB call_isi (by rfl) b_isinstance (by decide +kernel) (pa_cons (pv 0) (pa_cons (pe_ty (n := "str") b_str (by decide +kernel) (by rfl)) pa_nil))))) (pss_one (ps_raise rfl (takes_of rfl rfl rfl rfl) (pmk_txt R_BadPath (by rfl))))
      pss_nil)
      (pss_mid (ps_if (PW.pt (pw_and (pt_val (pv 1)) (pw_and1 (pt_cmpR op_ne (pe_slice C8.sl_txt (pv 0) po_none (po_some pe_int)) pe_str (nomark _))))) (pss_one (ps_raise rfl (takes_of rfl rfl rfl rfl) (pmk_txt R_BadPath (by rfl))))
      pss_nil)
      (pss_mid (ps_set (i := 2) nd rfl (Or.inl rfl) (pe_ifExp (pt_cmpR op_eq (pe_slice C8.sl_txt (pv 0) po_none (po_some pe_int)) pe_str (nomark _)) (pe_slice C8.sl_txt (pv 0) (po_some pe_int) po_none) (pv 0)))
      (pss_mid (ps_if (PW.pt (pw_and (pt_cmpR op_eq (pv 2) pe_str (nomark _)) (pw_and1 (pt_cmpR op_eq (pv 0) pe_str (nomark _))))) (pss_one (ps_ret (pe_lst pa_nil)))
      pss_nil)
      (pss_cons (ps_set (i := 3) nd rfl (Or.inl rfl) (pe_split (pv 2) pe_str))
      (pss_mid (ps_if (PW.pt (pw_or (pt_cmpR op_gt (pe_callB call_lenQ (by rfl) b_len (by decide +kernel) (pa_cons (pv 3) pa_nil)) (pe_gint c_MOST_PARTS (by rfl)) (nomark _)) (pw_or1 (pt_not (pt_val (pe_callB (cr_all rfl) (by rfl) b_all (by decide +kernel) (pa_cons (pe_lc (own := [("part", 4)]) (g := gName 4) (by rfl) nd (pi_list (pv 3)) (blkOk_by (own := [("part", 4)]) (N := N_parts_of) (sc := defScope s_parts_of) (by decide +kernel)) (fun _ _ _ _ _ => (pg_name (i := 4) nd rfl (Or.inl rfl))) (fun _ _ _ _ _ => pts_nil) (fun _ _ _ _ _ => (pe_fn F_is_part (hr.mono (by decide)) (by rfl) (passC rfl) (pa_cons (pv 4) pa_nil)))) pa_nil))))))) (pss_one (ps_raise rfl (takes_of rfl rfl rfl rfl) (pmk_txt R_BadPath (by rfl))))
      pss_nil)
      (pss_one (ps_ret (pv 3))))))))), ?_⟩
  obtain ⟨v, b, rfl, ⟨s, rfl, hz, kS, kN⟩ | ⟨⟨tv, ht, hk⟩, k⟩⟩ := h
  · walk_at "if"
    refine x_isi (b := true) (.ty _) (.base (.str s)) (kit_ty (by decide +kernel)) ?_
    walk_at "x"
    refine iteF ?_
    walk_at "x"
    have hz1 : s.length ≤ sizeLine := by omega
    refine x_cut (¬ (b = true ∧ ¬ Txt.slice s none (some 1) = sl)) ?_ (fun h0 => ?_)
    · walk_at "x"
      refine x_if (fun h1 => ?_) (fun h1 => ?_)
      · walk_at "x"
        refine x_slS hz1 ?_
        walk_at "x"
        refine x_ifn (fun h2 => ?_) (fun h2 => ?_)
        · refine kN ?_ H Ex.rfl
          unfold partsOf
          rw [if_pos ⟨h1, fun z => h2 (by rw [z])⟩]
        · walk_at "x"
          exact ⟨rfl, rfl, fun z => z.2 (V.str.inj h2)⟩
      · refine iteF ?_
        walk_at "x"
        exact ⟨rfl, rfl, fun z => by rw [h1] at z; cases z.1⟩
    · have z0 : partsOf b s = if restOf s = "" ∧ s = sl then some [] else if goodParts (Txt.split (restOf s) sl) = true then some (Txt.split (restOf s) sl) else none := by
        unfold partsOf
        rw [if_neg h0]
      have hr1 := restOf_len s
      refine x_cutM (fun σ' H' => σ' = [some (.str s), some (.bl b), some (.str (restOf s)), none, none] ∧ H' = H) ?_ ?_
      · walk_at "x"
        refine x_slS hz1 ?_
        walk_at "x"
        refine x_ifd (fun h1 => ?_) (fun h1 => ?_)
        · walk_at "x"
          refine x_slS hz1 ?_
          walk_at "x"
          refine ⟨?_, rfl⟩
          unfold restOf
          rw [if_pos (V.str.inj h1)]
          rfl
        · walk_at "x"
          refine ⟨?_, rfl⟩
          unfold restOf
          rw [if_neg fun z => h1 (by rw [z])]
          rfl
      rintro σ' H' ⟨rfl, rfl⟩
      refine x_cut (¬ (restOf s = "" ∧ s = sl)) ?_ (fun h1 => ?_)
      · walk_at "x"
        refine x_ifd (fun h1 => ?_) (fun h1 => ?_)
        · walk_at "x"
          refine x_ifd (fun h2 => ?_) (fun h2 => ?_)
          · walk_at "x"
            refine ⟨Nat.zero_le _, fun p hp => ?_⟩
            exact kS [] (by rw [z0, if_pos ⟨V.str.inj h1, V.str.inj h2⟩]) p _ hp (Ex.new hp) upd_same
          · walk_at "x"
            exact ⟨rfl, rfl, fun z => h2 (by rw [z.2])⟩
        · walk_at "x"
          exact ⟨rfl, rfl, fun z => h1 (by rw [z.1])⟩
      rw [if_neg h1] at z0
      walk_at "x"
      refine ⟨_, _, rfl, rfl, by decide +kernel, by omega, fun p hp => ?_⟩
      walk_at "x"
      have e1 : Ex H' (upd H' p (.lst ((Txt.split (restOf s) sl).map V.str))) := Ex.new hp
      have l1 : (upd H' p (.lst ((Txt.split (restOf s) sl).map V.str))) p = some (.lst ((Txt.split (restOf s) sl).map V.str)) := upd_same
      generalize hG : upd H' p (.lst ((Txt.split (restOf s) sl).map V.str)) = H1 at e1 l1
      refine x_cutE (fun _ => goodParts (Txt.split (restOf s) sl) = true) ?_ (fun H2 e2 h2 => ?_)
      · walk_at "x"
        refine x_lenL (SqL.of l1) ?_
        walk_at "x"
        refine x_ifd (fun h2 => ?_) (fun h2 => ?_)
        · refine iteT ?_
          refine kN ?_ H1 e1
          rw [z0, if_neg fun z => ?_]
          have := (good_all z).1
          rw [List.length_map] at h2
          omega
        · walk_at "x"
          have l12 : (Txt.split (restOf s) sl).length ≤ 12 := by
            rw [List.length_map] at h2
            omega
          refine x_lcLV (SqL.of l1) ⟨fun _ => rfl, by rw [List.length_map]; omega, fun _ => true, fun v => .bl (partV v), fun x hx H' e R k => k H' Ex.rfl, fun x hx _ H' e R k => ?_, fun D H' hD e hl => ?_⟩
          · obtain ⟨c, hc, rfl⟩ := List.mem_map.mp hx
            walk_at "x"
            have := split_small _ hc
            exact ⟨_, rfl, .inl ⟨c, rfl, by omega⟩, fun H' e => k H' e⟩
          · walk_at "x"
            refine x_all (bs := (Txt.split (restOf s) sl).map isPart) (.inl (.inl ?_)) ?_
            · rw [hl]
              congr 2
              rw [List.filter_eq_self.mpr (fun _ _ => rfl), List.map_map, List.map_map]
              rfl
            · walk_at "x"
              rw [List.all_map]
              refine x_if (fun h3 => ?_) (fun h3 => ?_)
              · refine kN ?_ H' (e1.tr e)
                rw [z0, if_neg fun z => ?_]
                have h4 : (!(Txt.split (restOf s) sl).all isPart) = true := h3
                rw [List.all_eq_true.mpr (good_all z).2] at h4
                cases h4
              · walk_at "x"
                refine ⟨rfl, e, good_of l12 ?_⟩
                have h4 : (!(Txt.split (restOf s) sl).all isPart) = false := h3
                rw [Bool.not_eq_false'] at h4
                exact List.all_eq_true.mp h4
      · walk_at "x"
        exact kS _ (by rw [z0, if_pos h2]) p H2 hp (e1.tr e2) (e2 _ _ l1)
  · walk_at "if"
    refine x_isi (.ty _) ht hk ?_
    walk_at "x"
    refine iteT ?_
    exact k H Ex.rfl
theorem goodVs_strs : ∀ {xs : List V}, xs.all partV = true → ∃ ps : List Str, xs = ps.map V.str ∧ ∀ p ∈ ps, isPart p = true
  | [], _ => ⟨[], rfl, fun _ h => nomatch h⟩
  | x :: r, h => by
    rw [List.all_cons, Bool.and_eq_true] at h
    obtain ⟨ps, e, hp⟩ := goodVs_strs h.2
    cases x with
    | str s =>
      refine ⟨s :: ps, by rw [e]; rfl, fun p hm => ?_⟩
      rcases List.mem_cons.mp hm with z | z
      · rw [z]
        exact h.1
      · exact hp p z
    | _ => cases h.1
abbrev s_path_of : Stmt := top 24
abbrev N_path_of : List Str := ["parts", "part"]
theorem sc_path_of : FnScope N_path_of ["parts"] (defScope s_path_of) := ⟨rfl, rfl, rfl, by decide +kernel, rfl, by decide +kernel, by decide +kernel⟩
theorem ok_path_of {P : Program} {w : World} {K : PySem.W.Frag} {mg : Str → Option Value} {base : Heap} {f : Addr} {fd : FuncData} (F : FunD K "path_of" "path_of" (defArgs s_path_of) (defBody s_path_of) (defScope s_path_of) [] [] f fd)
    (b_isinstance : mg "isinstance" = none) (b_list : mg "list" = none) (b_len : mg "len" = none) (c_MOST_PARTS : ∃ t, mg "MOST_PARTS" = some (.int 12 t)) (b_all : mg "all" = none) (F_is_part : Fn P w K mg base 2 "is_part" ["thing"] (sp_is_part K)) (R_BadPath : Rz K mg "BadPath" (He.ga K "BadPath"))  : FnOk P w K mg base (L2.CX P w) 3 f fd ["parts"] (sp_path_of K) := by
  have nd := sc_path_of.nd
  refine F.ok (k := 2) sc_path_of (fun vs H Q E h => ?_) (fun cdv A outer s H vs Q E hr h => ?_)
  · obtain ⟨_, rfl, _⟩ := h
    rfl
  have hu := hu_of hr
  refine ⟨_, (pss_mid (ps_if (PW.pt (pw_or (pt_not (pt_val (pe_callB call_isi (by rfl) b_isinstance (by decide +kernel) (pa_cons (pv 0) (pa_cons (pe_ty (n := "list") b_list (by decide +kernel) (by rfl)) pa_nil))))) (pw_or (pt_cmpR op_gt (pe_callB call_lenQ (by rfl) b_len (by decide +kernel) (pa_cons (pv 0) pa_nil)) (pe_gint c_MOST_PARTS (by rfl)) (nomark _)) (pw_or1 (pt_not (pt_val (pe_callB (cr_all rfl) (by rfl) b_all (by decide +kernel) (pa_cons (pe_lc (own := [("part", 1)]) (g := gName 1) (by rfl) nd (pi_list (pv 0)) (blkOk_by (own := [("part", 1)]) (N := N_path_of) (sc := defScope s_path_of) (by decide +kernel)) (fun _ _ _ _ _ => (pg_name (i := 1) nd rfl (Or.inl rfl))) (fun _ _ _ _ _ => pts_nil) (fun _ _ _ _ _ => (pe_fn F_is_part (hr.mono (by decide)) (by rfl) (passC rfl) (pa_cons (pv 1) pa_nil)))) pa_nil)))))))) (pss_one (ps_raise rfl (takes_of rfl rfl rfl rfl) (pmk_txt R_BadPath (by rfl))))
      pss_nil)
      (pss_one (ps_ret (pe_op op_catS pe_str (pe_join pe_str (pv 0)))))), ?_⟩
  obtain ⟨v, rfl, ⟨a, xs, rfl, ha, hz, hx, kS, kN⟩ | ⟨⟨tv, ht, hk⟩, k⟩⟩ := h
  · refine x_cutE (fun _ => goodVs xs = true) ?_ (fun H2 e2 h2 => ?_)
    · walk_at "x"
      refine x_isi (b := true) (.ty _) (.base (.lst ha)) (kit_ty (by decide +kernel)) ?_
      walk_at "x"
      refine iteF ?_
      walk_at "x"
      refine x_lenL (SqL.of ha) ?_
      walk_at "x"
      refine x_ifd (fun h2 => ?_) (fun h2 => ?_)
      · refine iteT ?_
        refine kN ?_ H Ex.rfl
        unfold goodVs
        rw [decide_eq_false (by omega), Bool.false_and]
      · walk_at "x"
        refine x_lcLV (SqL.of ha) ⟨fun _ => rfl, hz, fun _ => true, fun v => .bl (partV v), fun x hx H' e R k => k H' Ex.rfl, fun x hm _ H' e R k => ?_, fun D H' hD e hl => ?_⟩
        · walk_at "x"
          exact ⟨_, rfl, (hx x hm).ex e, fun H' e => k H' e⟩
        · walk_at "x"
          refine x_all (bs := xs.map partV) (.inl (.inl ?_)) ?_
          · rw [hl]
            congr 2
            rw [List.filter_eq_self.mpr (fun _ _ => rfl), List.map_map]
            rfl
          · walk_at "x"
            rw [List.all_map]
            refine x_if (fun h3 => ?_) (fun h3 => ?_)
            · refine kN ?_ H' e
              have h4 : (!xs.all partV) = true := h3
              unfold goodVs
              rw [Bool.not_eq_true'] at h4
              rw [h4, Bool.and_false]
            · walk_at "x"
              refine ⟨rfl, e, ?_⟩
              have h4 : (!xs.all partV) = false := h3
              unfold goodVs
              rw [Bool.not_eq_false'] at h4
              rw [h4, Bool.and_true]
              exact decide_eq_true (by omega)
    · unfold goodVs at h2
      rw [Bool.and_eq_true, decide_eq_true_eq] at h2
      obtain ⟨ps, rfl, hp⟩ := goodVs_strs h2.2
      rw [List.length_map] at h2
      have g := good_of h2.1 hp
      have js := join_short g
      have jl := join_len g
      walk_at "x"
      refine ⟨sl, a, ps, rfl, rfl, .inl (SqL.of (e2 _ _ ha)), by omega, ?_⟩
      refine x_catS ?_ ?_
      · have z : (108 : Nat) + 1 ≤ sizeLine := by decide
        have z1 : ("/" : Str).length = 1 := by decide +kernel
        omega
      · exact kS ps rfl g H2 e2
  · refine x_thru ?_
    walk_at "x"
    refine x_isi (.ty _) ht hk ?_
    walk_at "x"
    refine iteT ?_
    refine iteT ?_
    exact k H Ex.rfl
abbrev s_joined : Stmt := top 26
abbrev N_joined : List Str := ["path", "more", "first", "last"]
theorem sc_joined : FnScope N_joined ["path", "more"] (defScope s_joined) := ⟨rfl, rfl, rfl, by decide +kernel, rfl, by decide +kernel, by decide +kernel⟩
theorem ok_joined {P : Program} {w : World} {K : PySem.W.Frag} {mg : Str → Option Value} {base : Heap} {f : Addr} {fd : FuncData} (F : FunD K "joined" "joined" (defArgs s_joined) (defBody s_joined) (defScope s_joined) [] [] f fd)
    (F_parts_ofD : FnD P w K mg base 3 "parts_of" ["path", "from_top"] [.bl true] (sp_parts_of K)) (F_parts_ofK : FnK P w K mg base 3 "parts_of" ["path", "from_top"] 1 ["from_top"] (sp_parts_of K)) (F_path_of : Fn P w K mg base 3 "path_of" ["parts"] (sp_path_of K))  : FnOk P w K mg base (L2.CX P w) 4 f fd ["path", "more"] (sp_joined K) := by
  have nd := sc_joined.nd
  refine F.ok (k := 3) sc_joined (fun vs H Q E h => ?_) (fun cdv A outer s H vs Q E hr h => ?_)
  · obtain ⟨_, _, rfl, _⟩ := h
    rfl
  have hu := hu_of hr
  refine ⟨_, (pss_cons (ps_set (i := 2) nd rfl (Or.inl rfl) (pe_fnD F_parts_ofD (hr.mono (by decide)) (by rfl) (passD rfl rfl rfl rfl) (pa_cons (pv 0) pa_nil)))
      (pss_cons (ps_set (i := 3) nd rfl (Or.inl rfl) (pe_fnK F_parts_ofK (hr.mono (by decide)) (by rfl) (passD rfl rfl rfl rfl) (pa_cons (pv 1) pa_nil) (pk_cons pe_bl pk_nil)))
      (pss_one (ps_ret (pe_fn F_path_of (hr.mono (by decide)) (by rfl) (passD rfl rfl rfl rfl) (pa_cons (pe_ifExp (pt_cmpR op_eq (pe_slice C8.sl_txt (pv 1) po_none (po_some pe_int)) pe_str (nomark _)) (pv 3) (pe_op op_cat (pv 2) (pv 3))) pa_nil)))))), ?_⟩
  obtain ⟨v, u, rfl, hv, hu', kS, kN⟩ := h
  have big : (1000 : Nat) ≤ sizeLine := by decide
  walk_at "x"
  rcases hv with ⟨a, rfl, ha⟩ | hv
  · refine ⟨_, _, rfl, .inl ⟨a, rfl, ha, fun ps hps p H1 hp e1 h1 => ?_, fun hn H1 e1 => kN (fun a' b' e _ => by cases e; unfold joinOf; rw [hn]) H1 e1⟩⟩
    walk_at "x"
    rcases hu' with ⟨b, rfl, hb⟩ | hu'
    · refine ⟨rfl, rfl, _, _, rfl, .inl ⟨b, rfl, hb, fun qs hqs q H2 hq e2 h2 => ?_, fun hn H2 e2 => kN (fun a' b' e e' => by cases e; cases e'; unfold joinOf; rw [hps, hn]) H2 (e1.tr e2)⟩⟩
      have gp := good_all (parts_good hps)
      have gq := good_all (parts_good hqs)
      walk_at "x"
      refine x_slS (by omega) ?_
      walk_at "x"
      have jo : joinOf a b = if Txt.slice b none (some 1) = sl then some qs else if goodParts (ps ++ qs) = true then some (ps ++ qs) else none := by
        unfold joinOf
        rw [hps, hqs]
      have fin : ∀ (l : Addr) (rs : List Str) (H3 : Hp), Ex H2 H3 → H3 l = some (.lst (rs.map V.str)) → (∀ r ∈ rs, isPart r = true) → rs.length ≤ 1000 → (goodParts rs = true → joinOf a b = some rs) → (goodParts rs = false → joinOf a b = none) → sp_path_of K [.ref l] H3 Q E := fun l rs H3 e3 h3 hr hz y n => by
        refine ⟨_, rfl, .inl ⟨l, _, rfl, h3, by rw [List.length_map]; omega, fun x hx => ?_, fun rs' eq' g' H4 e4 => ?_, fun hb H4 e4 => ?_⟩⟩
        · obtain ⟨z, hz, rfl⟩ := List.mem_map.mp hx
          have := (part_facts (hr z hz)).2.2
          exact .inl ⟨z, rfl, by omega⟩
        · have e8 : rs = rs' := map_str_inj eq'
          subst e8
          exact kS a b rfl rfl rs (y g') H4 ((e1.tr (e2.tr e3)).tr e4)
        · refine kN (fun a' b' ea eb => ?_) H4 ((e1.tr (e2.tr e3)).tr e4)
          cases ea
          cases eb
          refine n ?_
          cases hg : goodParts rs with
          | false => rfl
          | true =>
            have g := good_all hg
            have hg' : goodVs (rs.map V.str) = true := by
              unfold goodVs
              rw [List.length_map, decide_eq_true g.1, List.all_map, Bool.true_and, List.all_eq_true]
              exact fun s h => g.2 s h
            rw [hg'] at hb
            cases hb
      refine x_ifd (fun h3 => ?_) (fun h3 => ?_)
      · walk_at "x"
        refine fin q qs H2 Ex.rfl h2 gq.2 (by omega) (fun _ => by rw [jo, if_pos (V.str.inj h3)]) (fun z => ?_)
        rw [parts_good hqs] at z
        cases z
      · walk_at "x"
        refine ⟨p, q, ps.map V.str, qs.map V.str, rfl, rfl, e2 _ _ h1, h2, by rw [List.length_map, List.length_map]; omega, fun l hl => ?_⟩
        walk_at "x"
        refine fin l (ps ++ qs) _ (Ex.new hl) (by rw [upd_same, List.map_append]) (fun r hr => ?_) (by rw [List.length_append]; omega) (fun z => ?_) (fun z => ?_)
        · rcases List.mem_append.mp hr with z | z
          · exact gp.2 r z
          · exact gq.2 r z
        · rw [jo, if_neg fun y => h3 (by rw [y]), if_pos z]
        · rw [jo, if_neg fun y => h3 (by rw [y]), if_neg (by rw [z]; decide)]
    · exact ⟨rfl, rfl, _, _, rfl, .inr ⟨hu'.ex e1, fun H2 e2 => kN (fun a' b' _ e => by
        cases e
        obtain ⟨tv, h1, h2⟩ := hu'
        cases h1 with
        | base h1 =>
          cases h1
          have h3 : PySem.W.kitOne K (.type "str") (.type "str") = some true := kit_ty (by decide +kernel)
          rw [h3] at h2
          cases h2) H2 (e1.tr e2)⟩⟩
  · exact ⟨_, _, rfl, .inr ⟨hv, fun H1 e1 => kN (fun a' b' e _ => by
        cases e
        obtain ⟨tv, h1, h2⟩ := hv
        cases h1 with
        | base h1 =>
          cases h1
          have h3 : PySem.W.kitOne K (.type "str") (.type "str") = some true := kit_ty (by decide +kernel)
          rw [h3] at h2
          cases h2) H1 e1⟩⟩
abbrev s_plain_path : Stmt := top 25
abbrev N_plain_path : List Str := ["path", "found", "part"]
theorem sc_plain_path : FnScope N_plain_path ["path"] (defScope s_plain_path) := ⟨rfl, rfl, rfl, by decide +kernel, rfl, by decide +kernel, by decide +kernel⟩
theorem ok_plain_path {P : Program} {w : World} {K : PySem.W.Frag} {mg : Str → Option Value} {base : Heap} {f : Addr} {fd : FuncData} (F : FunD K "plain_path" "plain_path" (defArgs s_plain_path) (defBody s_plain_path) (defScope s_plain_path) [] [] f fd)
    (F_parts_ofD : FnD P w K mg base 3 "parts_of" ["path", "from_top"] [.bl true] (sp_parts_of K)) (c_ABOVE : ∃ t, mg "ABOVE" = some (.str ".." t)) (c_HERE : ∃ t, mg "HERE" = some (.str "." t)) (F_path_of : Fn P w K mg base 3 "path_of" ["parts"] (sp_path_of K))  : FnOk P w K mg base (L2.CX P w) 4 f fd ["path"] (sp_plain K) := by
  have nd := sc_plain_path.nd
  refine F.ok (k := 3) sc_plain_path (fun vs H Q E h => ?_) (fun cdv A outer s H vs Q E hr h => ?_)
  · obtain ⟨_, rfl, _⟩ := h
    rfl
  have hu := hu_of hr
  refine ⟨_, (pss_cons (ps_set (i := 1) nd rfl (Or.inl rfl) (pe_lst pa_nil))
      (pss_cons (ps_for (passes_of rfl) rfl (pi_list (pe_fnD F_parts_ofD (hr.mono (by decide)) (by rfl) (passD rfl rfl rfl rfl) (pa_cons (pv 0) pa_nil))) (pg_name (i := 2) nd rfl (Or.inl rfl))
      (pss_one (ps_if (pt_cmpR op_eq (pv 2) (pe_gstr c_ABOVE (by rfl)) (nomark _)) (pss_one (ps_set (i := 1) nd rfl (Or.inl rfl) (pe_slice sl_list (pv 1) po_none (po_some (pe_un un_neg pe_int)))))
      (pss_one (ps_if (pt_cmpR op_ne (pv 2) (pe_gstr c_HERE (by rfl)) (nomark _)) (pss_one (ps_expr (pe_bm PySem.F.plainAttrs_list PySem.F.slot_list_append PySem.F.type_list_append mt_append (pv 1) (pa_cons (pv 2) pa_nil))))
      pss_nil)))))
      (pss_one (ps_ret (pe_fn F_path_of (hr.mono (by decide)) (by rfl) (passD rfl rfl rfl rfl) (pa_cons (pv 1) pa_nil)))))), ?_⟩
  obtain ⟨v, rfl, ⟨s, rfl, hz, kS, kN⟩ | ⟨ht, k⟩⟩ := h
  · walk_at "x"
    refine ⟨by decide, fun l hl => ?_⟩
    walk_at "x"
    refine ⟨_, _, rfl, .inl ⟨s, rfl, hz, fun ps hps p H1 hp e1 h1 => ?_, fun hn H1 e1 => kN hn H1 ((Ex.new hl).tr e1)⟩⟩
    have g := parts_good hps
    obtain ⟨g1, g2⟩ := good_all g
    have l1 := e1 _ _ (upd_same (H := H) (a := l) (o := .lst []))
    refine x_forLV (fun i σ' H' => ∃ (f : Addr) (x : Option V), σ' = [some (.str s), some (.ref f), x] ∧ H f = none ∧ f ≠ p ∧ Ex H H' ∧ H' p = some (.lst (ps.map V.str)) ∧ H' f = some (.lst ((plain (ps.take i)).map V.str)))
      (SqL.of h1) ⟨l, none, rfl, hl, ne_of_none upd_same hp, (Ex.new hl).tr e1, h1, l1⟩ (fun i σ' H' _ ⟨_, _, _, _, _, _, q, _⟩ => SqL.of q) ?_ ?_
    · rintro i x σ' H2 hx ⟨f, x0, rfl, hf, nfp, e2, p2, f2⟩
      obtain ⟨q, hq, rfl⟩ : ∃ q, ps[i]? = some q ∧ x = .str q := by
        rw [List.getElem?_map] at hx
        cases e : ps[i]? with
        | none => rw [e] at hx; cases hx
        | some q => rw [e] at hx; exact ⟨q, rfl, (Option.some.inj hx).symm⟩
      have hi : i < ps.length := (List.getElem?_eq_some_iff.mp hq).1
      have et : plain (ps.take (i + 1)) = plainStep (plain (ps.take i)) q := by rw [take_snoc hq, plain_snoc]
      have hlen : (plain (ps.take i)).length ≤ 12 := by
        have := (plain_facts (ps := ps.take i) fun p hp => g2 p (List.mem_of_mem_take hp)).2
        rw [List.length_take] at this
        omega
      walk_at "x"
      refine x_ifd (fun h3 => ?_) (fun h3 => ?_)
      · walk_at "x"
        refine x_slL (SqL.of f2) fun f' hf' => ?_
        walk_at "x"
        refine ⟨f', _, rfl, ex_none e2 hf', (ne_of_none p2 hf').symm, e2.tr (Ex.new hf'), Ex.new hf' _ _ p2, ?_⟩
        rw [upd_same, cut_last, et]
        unfold plainStep
        rw [if_pos (V.str.inj h3), List.map_dropLast]
      · walk_at "x"
        refine x_ifn (fun h4 => ?_) (fun h4 => ?_)
        · walk_at "x"
          refine x_tyL (SqL.of f2) ?_
          walk_at "x"
          refine x_app f2 (by rw [List.length_map]; exact small1000 (by omega)) ?_
          refine ⟨f, _, rfl, hf, nfp, fun a o h => ?_, by rw [upd_ne nfp.symm]; exact p2, ?_⟩
          · rw [upd_ne (ne_of_none h hf)]
            exact e2 a o h
          · rw [upd_same, et]
            unfold plainStep
            rw [if_neg fun z => h3 (by rw [z]), if_neg fun z => h4 (by rw [z]), List.map_append]
            rfl
        · walk_at "x"
          refine ⟨f, _, rfl, hf, nfp, e2, p2, ?_⟩
          rw [f2, et]
          unfold plainStep
          rw [if_neg fun z => h3 (by rw [z]), if_pos (V.str.inj h4)]
    · rintro σ' H2 ⟨f, x0, rfl, hf, nfp, e2, p2, f2⟩
      rw [List.length_map, List.take_length] at f2
      have pg := plain_good g
      obtain ⟨pg1, pg2⟩ := good_all pg
      walk_at "x"
      refine ⟨_, rfl, .inl ⟨f, _, rfl, f2, by rw [List.length_map]; omega, fun x hx => ?_, fun ps' eq' g' H3 e3 => ?_, fun hb => ?_⟩⟩
      · obtain ⟨q, hq, rfl⟩ := List.mem_map.mp hx
        have := (part_facts (pg2 q hq)).2.2
        have big : (1000 : Nat) ≤ sizeLine := by decide
        exact .inl ⟨q, rfl, by omega⟩
      · have e8 : plain ps = ps' := map_str_inj eq'
        subst e8
        exact kS ps hps H3 (e2.tr e3)
      · have hg : goodVs ((plain ps).map V.str) = true := by
          unfold goodVs
          rw [List.length_map, decide_eq_true pg1, List.all_map, Bool.true_and, List.all_eq_true]
          exact fun s h => pg2 s h
        rw [hg] at hb
        cases hb
  · walk_at "x"
    refine ⟨by decide, fun l hl => ?_⟩
    walk_at "x"
    exact ⟨_, _, rfl, .inr ⟨ht.ex (Ex.new hl), fun H1 e1 => k H1 ((Ex.new hl).tr e1)⟩⟩
abbrev s_split_last : Stmt := top 27
abbrev N_split_last : List Str := ["path", "parts"]
theorem sc_split_last : FnScope N_split_last ["path"] (defScope s_split_last) := ⟨rfl, rfl, rfl, by decide +kernel, rfl, by decide +kernel, by decide +kernel⟩
theorem ok_split_last {P : Program} {w : World} {K : PySem.W.Frag} {mg : Str → Option Value} {base : Heap} {f : Addr} {fd : FuncData} (F : FunD K "split_last" "split_last" (defArgs s_split_last) (defBody s_split_last) (defScope s_split_last) [] [] f fd)
    (F_parts_ofD : FnD P w K mg base 3 "parts_of" ["path", "from_top"] [.bl true] (sp_parts_of K)) (F_is_name : Fn P w K mg base 1 "is_name" ["thing"] (sp_is_name K)) (R_BadPath : Rz K mg "BadPath" (He.ga K "BadPath")) (F_path_of : Fn P w K mg base 3 "path_of" ["parts"] (sp_path_of K))  : FnOk P w K mg base (L2.CX P w) 4 f fd ["path"] (sp_split K) := by
  have nd := sc_split_last.nd
  refine F.ok (k := 3) sc_split_last (fun vs H Q E h => ?_) (fun cdv A outer s H vs Q E hr h => ?_)
  · obtain ⟨_, rfl, _⟩ := h
    rfl
  have hu := hu_of hr
  refine ⟨_, (pss_cons (ps_set (i := 1) nd rfl (Or.inl rfl) (pe_fnD F_parts_ofD (hr.mono (by decide)) (by rfl) (passD rfl rfl rfl rfl) (pa_cons (pv 0) pa_nil)))
      (pss_mid (ps_if (PW.pt (pw_or (pt_cmpR (op_eqD hr.units) (pv 1) (pe_lst pa_nil) (nomark _)) (pw_or1 (pt_not (pt_val (pe_fn F_is_name (hr.mono (by decide)) (by rfl) (passD rfl rfl rfl rfl) (pa_cons (pe_ix ix_list (pv 1) (pe_un un_neg pe_int) (fun _ _ => rfl)) pa_nil))))))) (pss_one (ps_raise rfl (takes_of rfl rfl rfl rfl) (pmk_txt R_BadPath (by rfl))))
      pss_nil)
      (pss_one (ps_ret (pe_tup (pa_cons (pe_fn F_path_of (hr.mono (by decide)) (by rfl) (passD rfl rfl rfl rfl) (pa_cons (pe_slice sl_list (pv 1) po_none (po_some (pe_un un_neg pe_int))) pa_nil)) (pa_cons (pe_ix ix_list (pv 1) (pe_un un_neg pe_int) (fun _ _ => rfl)) pa_nil))))))), ?_⟩
  obtain ⟨v, rfl, ⟨s, rfl, hz, kS, kN⟩ | ⟨ht, k⟩⟩ := h
  · have big : (1000 : Nat) ≤ sizeLine := by decide
    walk_at "x"
    refine ⟨_, _, rfl, .inl ⟨s, rfl, hz, fun ps hps p H1 hp e1 h1 => ?_, fun hn H1 e1 => kN (by unfold splitOf; rw [hn]) H1 e1⟩⟩
    have g := parts_good hps
    obtain ⟨g1, g2⟩ := good_all g
    have shp : SeqAt.shaped (.list (ps.map PyData.str)) = true := shaped_strs fun s h => part_ok (g2 s h)
    walk_at "x"
    have at_ : ∀ n, ps.getLast? = some n → atI (ps.map V.str) (-1) = some (.str n) := fun n hn => by
      have hl : 0 < ps.length := by
        cases ps with
        | nil => cases hn
        | cons a r => exact Nat.succ_pos _
      unfold atI
      have : ixN (ps.map V.str).length (-1) = some (ps.length - 1) := by
        unfold ixN
        rw [List.length_map, if_neg (by decide), if_pos (by omega)]
        congr 1
        omega
      rw [this]
      show (ps.map V.str)[ps.length - 1]? = _
      rw [List.getElem?_map, ← List.getLast?_eq_getElem?, hn]
      rfl
    refine x_cutE (fun _ => ∃ n, ps.getLast? = some n ∧ isName n = true) ?_ (fun H2 e2 hn => ?_)
    · walk_at "x"
      refine ⟨by decide, fun z hz => ?_⟩
      refine ⟨_, _, .lst (SqL.of (Ex.new hz _ _ h1)) (dp_strs _), .lst (SqL.of upd_same) (dp_strs []), shp, rfl, ?_⟩
      walk_at "x"
      rw [eqv_list_strs]
      refine x_ifd (fun h3 => ?_) (fun h3 => ?_)
      · refine iteT ?_
        refine kN ?_ _ (e1.tr (Ex.new hz))
        unfold splitOf
        rw [hps, h3]
        rfl
      · walk_at "x"
        obtain ⟨n, hn⟩ : ∃ n, ps.getLast? = some n := by
          cases e : ps.getLast? with
          | none => exact absurd (List.getLast?_eq_none_iff.mp e) h3
          | some n => exact ⟨n, rfl⟩
        refine x_ixL (SqL.of (Ex.new hz _ _ h1)) (at_ n hn) ?_
        walk_at "x"
        have hm : n ∈ ps := List.mem_of_getLast? hn
        have l8 := (part_facts (g2 n hm)).2.2
        refine ⟨_, rfl, .inl ⟨n, rfl, by omega, fun H3 e3 => ?_⟩⟩
        walk_at "x"
        refine x_if (fun h4 => ?_) (fun h4 => ?_)
        · refine kN ?_ _ ((e1.tr (Ex.new hz)).tr e3)
          rw [Bool.not_eq_true'] at h4
          unfold splitOf
          rw [hps]
          show (match ps.getLast? with | none => none | some n => if isName n = true then some (ps.dropLast, n) else none) = none
          rw [hn]
          show (if isName n = true then some (ps.dropLast, n) else none) = none
          rw [if_neg (by rw [h4]; decide)]
        · rw [Bool.not_eq_false'] at h4
          walk_at "x"
          exact ⟨rfl, (Ex.new hz).tr e3, n, hn, h4⟩
    · obtain ⟨n, hn, hN⟩ := hn
      have so : splitOf s = some (ps.dropLast, n) := by
        unfold splitOf
        rw [hps]
        show (match ps.getLast? with | none => none | some n => if isName n = true then some (ps.dropLast, n) else none) = _
        rw [hn]
        show (if isName n = true then some (ps.dropLast, n) else none) = _
        rw [if_pos hN]
      have gd : goodParts ps.dropLast = true := good_of (by rw [List.length_dropLast]; omega) fun q hq => g2 q (List.dropLast_subset ps hq)
      obtain ⟨gd1, gd2⟩ := good_all gd
      have h2 := e2 _ _ h1
      walk_at "x"
      refine x_slL (SqL.of h2) fun q hq => ?_
      rw [show cutV (ps.map V.str) none (some (-1)) = ps.dropLast.map V.str by rw [cut_last, List.map_dropLast]]
      walk_at "x"
      refine ⟨_, rfl, .inl ⟨q, _, rfl, upd_same, by rw [List.length_map]; omega, fun x hx => ?_, fun ps' eq' g' H3 e3 => ?_, fun hb => ?_⟩⟩
      · obtain ⟨y, hy, rfl⟩ := List.mem_map.mp hx
        have := (part_facts (gd2 y hy)).2.2
        exact .inl ⟨y, rfl, by omega⟩
      · have e8 : ps.dropLast = ps' := map_str_inj eq'
        subst e8
        walk_at "x"
        refine x_ixL (SqL.of (e3 _ _ (Ex.new hq _ _ h2))) (at_ n hn) ?_
        walk_at "x"
        refine ⟨by show 2 ≤ sizeLine; decide, fun y hy => ?_⟩
        have ea := e1.tr (e2.tr ((Ex.new hq).tr e3))
        exact kS _ _ so y _ (ex_none ea hy) (ea.tr (Ex.new hy)) upd_same
      · have hg : goodVs (ps.dropLast.map V.str) = true := by
          unfold goodVs
          rw [List.length_map, decide_eq_true gd1, List.all_map, Bool.true_and, List.all_eq_true]
          exact fun s h => gd2 s h
        rw [hg] at hb
        cases hb
  · walk_at "x"
    exact ⟨_, _, rfl, .inr ⟨ht, fun H1 e1 => k H1 e1⟩⟩
abbrev s_law_did : Stmt := top 34
abbrev N_law_did : List Str := ["kind", "thing"]
theorem sc_law_did : FnScope N_law_did ["kind", "thing"] (defScope s_law_did) := ⟨rfl, rfl, rfl, by decide +kernel, rfl, by decide +kernel, by decide +kernel⟩
theorem ok_law_did {P : Program} {w : World} {K : PySem.W.Frag} {mg : Str → Option Value} {base : Heap} {f : Addr} {fd : FuncData} (F : FunD K "_law_did" "_law_did" (defArgs s_law_did) (defBody s_law_did) (defScope s_law_did) [] [] f fd)
    (F_parts_ofD : FnD P w K mg base 3 "parts_of" ["path", "from_top"] [.bl true] (sp_parts_of K)) (F_parts_ofK : FnK P w K mg base 3 "parts_of" ["path", "from_top"] 1 ["from_top"] (sp_parts_of K)) (F_plain_path : Fn P w K mg base 4 "plain_path" ["path"] (sp_plain K)) (F_split_last : Fn P w K mg base 4 "split_last" ["path"] (sp_split K)) (F_joined : Fn P w K mg base 4 "joined" ["path", "more"] (sp_joined K))  : FnOk P w K mg base (L2.CX P w) 5 f fd ["kind", "thing"] (sp_did K) := by
  have nd := sc_law_did.nd
  refine F.ok (k := 4) sc_law_did (fun vs H Q E h => ?_) (fun cdv A outer s H vs Q E hr h => ?_)
  · obtain ⟨_, _, rfl, _⟩ := h
    rfl
  have hu := hu_of hr
  refine ⟨_, (pss_mid (ps_if (pt_cmpR op_eq (pv 0) pe_int (nomark _)) (pss_one (ps_ret (pe_fnD F_parts_ofD (hr.mono (by decide)) (by rfl) (passD rfl rfl rfl rfl) (pa_cons (pv 1) pa_nil))))
      pss_nil)
      (pss_mid (ps_if (pt_cmpR op_eq (pv 0) pe_int (nomark _)) (pss_one (ps_ret (pe_fnK F_parts_ofK (hr.mono (by decide)) (by rfl) (passD rfl rfl rfl rfl) (pa_cons (pv 1) pa_nil) (pk_cons pe_bl pk_nil))))
      pss_nil)
      (pss_mid (ps_if (pt_cmpR op_eq (pv 0) pe_int (nomark _)) (pss_one (ps_ret (pe_fn F_plain_path (hr.mono (by decide)) (by rfl) (passD rfl rfl rfl rfl) (pa_cons (pv 1) pa_nil))))
      pss_nil)
      (pss_mid (ps_if (pt_cmpR op_eq (pv 0) pe_int (nomark _)) (pss_one (ps_ret (pe_fn F_split_last (hr.mono (by decide)) (by rfl) (passD rfl rfl rfl rfl) (pa_cons (pv 1) pa_nil))))
      pss_nil)
      (pss_one (ps_ret (pe_ifExp (pt_cmpR op_eq (pv 0) pe_int (nomark _)) (pe_fn F_joined (hr.mono (by decide)) (by rfl) (passD rfl rfl rfl rfl) (pa_cons (pv 1) (pa_cons pe_str pa_nil))) (pe_fn F_joined (hr.mono (by decide)) (by rfl) (passD rfl rfl rfl rfl) (pa_cons pe_str (pa_cons (pv 1) pa_nil)))))))))), ?_⟩
  obtain ⟨kind, v, rfl, hv, kS, kN⟩ := h
  have no : Kind K H v "str" false → ∀ H', Ex H H' → E (cBadPath K) none H' := fun z => kN fun s e => by
    subst e
    exact (not_text z).elim
  walk_at "if"
  refine x_ifd (fun h0 => ?_) (fun h0 => ?_)
  · cases h0
    walk_at "x"
    rcases hv with ⟨s, rfl, hz⟩ | hv
    · refine ⟨_, _, rfl, .inl ⟨s, rfl, hz, fun ps hps p H1 hp e1 h1 => ?_, fun hn H1 e1 => ?_⟩⟩
      · exact kS s rfl (by unfold told; simp [hps]) _ H1 e1
      · exact kN (fun s' e => by cases e; unfold told; simp [hn]) H1 e1
    · exact ⟨_, _, rfl, .inr ⟨hv, no hv⟩⟩
  walk_at "if"
  refine x_ifd (fun h1 => ?_) (fun h1 => ?_)
  · cases h1
    walk_at "x"
    rcases hv with ⟨s, rfl, hz⟩ | hv
    · refine ⟨rfl, rfl, _, _, rfl, .inl ⟨s, rfl, hz, fun ps hps p H1 hp e1 h1 => ?_, fun hn H1 e1 => ?_⟩⟩
      · exact kS s rfl (by unfold told; simp [hps]) _ H1 e1
      · exact kN (fun s' e => by cases e; unfold told; simp [hn]) H1 e1
    · exact ⟨rfl, rfl, _, _, rfl, .inr ⟨hv, no hv⟩⟩
  walk_at "if"
  refine x_ifd (fun h2 => ?_) (fun h2 => ?_)
  · cases h2
    walk_at "x"
    rcases hv with ⟨s, rfl, hz⟩ | hv
    · refine ⟨_, rfl, .inl ⟨s, rfl, hz, fun ps hps H1 e1 => ?_, fun hn H1 e1 => ?_⟩⟩
      · exact kS s rfl (by unfold told; simp [hps]) _ H1 e1
      · exact kN (fun s' e => by cases e; unfold told; simp [hn]) H1 e1
    · exact ⟨_, rfl, .inr ⟨hv, no hv⟩⟩
  walk_at "if"
  refine x_ifd (fun h3 => ?_) (fun h3 => ?_)
  · cases h3
    walk_at "x"
    rcases hv with ⟨s, rfl, hz⟩ | hv
    · refine ⟨_, rfl, .inl ⟨s, rfl, hz, fun ps n hps p H1 hp e1 h1 => ?_, fun hn H1 e1 => ?_⟩⟩
      · exact kS s rfl (by unfold told; simp [hps]) _ H1 e1
      · exact kN (fun s' e => by cases e; unfold told; simp [hn]) H1 e1
    · exact ⟨_, rfl, .inr ⟨hv, no hv⟩⟩
  walk_at "x"
  have n0 : kind ≠ 0 := fun z => h0 (by rw [z])
  have n1 : kind ≠ 1 := fun z => h1 (by rw [z])
  have n2 : kind ≠ 2 := fun z => h2 (by rw [z])
  have n3 : kind ≠ 3 := fun z => h3 (by rw [z])
  refine x_ifd (fun h4 => ?_) (fun h4 => ?_)
  · cases h4
    walk_at "x"
    refine ⟨v, _, rfl, hv, textOk_lit (by decide +kernel), fun a b ea eb qs hq H1 e1 => ?_, fun hn H1 e1 => ?_⟩
    · cases eb
      exact kS a ea (by unfold told; simp; rw [hq]; rfl) _ H1 e1
    · refine kN (fun s es => ?_) H1 e1
      have := hn s "a" es rfl
      unfold told
      simp
      exact this
  · have n4 : kind ≠ 4 := fun z => h4 (by rw [z])
    walk_at "x"
    refine ⟨_, v, rfl, textOk_lit (by decide +kernel), hv, fun a b ea eb qs hq H1 e1 => ?_, fun hn H1 e1 => ?_⟩
    · cases ea
      refine kS b eb ?_ _ H1 e1
      unfold told
      rw [if_neg n0, if_neg n1, if_neg n2, if_neg n3, if_neg n4, hq]
      rfl
    · refine kN (fun s es => ?_) H1 e1
      have := hn "/a" s rfl es
      unfold told
      rw [if_neg n0, if_neg n1, if_neg n2, if_neg n3, if_neg n4, this]
      rfl
theorem Dct.ex {H H' : Hp} {d : Option Addr} (h : Dct H d) (e : Ex H H') : Dct H' d := by
  rcases h with h | ⟨dd, fs, h1, h2⟩
  · exact .inl h
  · exact .inr ⟨dd, fs, h1, e _ _ h2⟩
theorem x_isE {K : PySem.W.Frag} {H : Hp} {Q : VK} {a : Addr} {i j : Nat} {d : Option Addr} (EK : ErrK K) (hi : i < 13) (hj : j < 13) (ha : H a = some (Caught (.ref (errC K i)) d a)) (hd : Dct H d) (q : Q (.bl (decide (i = j))) H) : rIsiE K [.ref a, .ref (errC K j)] H Q :=
  x_isiE (.own _) ha hd (EK.ex i hi) (EK.is i j hi hj) q
/-- which of the thirteen -/
def kindV (i : Nat) : List V := (List.range 13).map fun j => .bl (decide (i = j))
theorem kindV_count : ∀ i, i < 13 → ((kindV i).countP fun z => eqV z (.bl true)) = 1 := by decide +kernel
theorem kindV_flat : ∀ i, i < 13 → (kindV i).all flatV = true := by decide +kernel
theorem kindV_at : ∀ i, i < 13 → (kindV i)[i]? = some (.bl true) := by decide +kernel
theorem kindV_no : ∀ i, i < 13 → ∀ m, m < i → ∀ z, (kindV i)[m]? = some z → eqV z (.bl true) = false := by
  intro i hi m hm z hz
  unfold kindV at hz
  rw [List.getElem?_map, List.getElem?_range (by omega)] at hz
  cases hz
  show eqV (.bl (decide (i = m))) (.bl true) = false
  rw [decide_eq_false (by omega)]
  rfl
theorem words_at : ∀ i, i < 13 → atI (errWords.map V.str) ((i : Nat) : Int) = some (.str (errWords.getD i "")) := by decide +kernel
abbrev s_law_refusal : Stmt := top 32
abbrev N_law_refusal : List Str := ["caught", "kinds", "words"]
theorem sc_law_refusal : FnScope N_law_refusal ["caught"] (defScope s_law_refusal) := ⟨rfl, rfl, rfl, by decide +kernel, rfl, by decide +kernel, by decide +kernel⟩
theorem ok_law_refusal {P : Program} {w : World} {K : PySem.W.Frag} {mg : Str → Option Value} {base : Heap} {f : Addr} {fd : FuncData} (F : FunD K "_law_refusal" "_law_refusal" (defArgs s_law_refusal) (defBody s_law_refusal) (defScope s_law_refusal) [] [] f fd)
    (b_isinstance : mg "isinstance" = none) (g_BadPath : mg "BadPath" = some (.ref (He.ga K "BadPath"))) (EK : ErrK K) (g_BadText : mg "BadText" = some (.ref (He.ga K "BadText"))) (g_BadRights : mg "BadRights" = some (.ref (He.ga K "BadRights"))) (g_NoUser : mg "NoUser" = some (.ref (He.ga K "NoUser"))) (g_NoRight : mg "NoRight" = some (.ref (He.ga K "NoRight"))) (g_NoName : mg "NoName" = some (.ref (He.ga K "NoName"))) (g_NotRoom : mg "NotRoom" = some (.ref (He.ga K "NotRoom"))) (g_NotLeaf : mg "NotLeaf" = some (.ref (He.ga K "NotLeaf"))) (g_NotHint : mg "NotHint" = some (.ref (He.ga K "NotHint"))) (g_Taken : mg "Taken" = some (.ref (He.ga K "Taken"))) (g_TooDeep : mg "TooDeep" = some (.ref (He.ga K "TooDeep"))) (g_Busy : mg "Busy" = some (.ref (He.ga K "Busy"))) (g_BadMove : mg "BadMove" = some (.ref (He.ga K "BadMove"))) (g_WorldError : mg "WorldError" = some (.ref (He.ga K "WorldError"))) (b_ValueError : mg "ValueError" = none)  : FnOk P w K mg base (L2.CX P w) 1 f fd ["caught"] (sp_refusal K) := by
  have nd := sc_law_refusal.nd
  refine F.ok (k := 0) sc_law_refusal (fun vs H Q E h => ?_) (fun cdv A outer s H vs Q E hr h => ?_)
  · obtain ⟨_, _, _, rfl, _⟩ := h
    rfl
  have hu := hu_of hr
  refine ⟨_, (pss_cons (ps_set (i := 1) nd rfl (Or.inl rfl) (pe_lst (pa_cons (pe_callB call_isiE (by rfl) b_isinstance (by decide +kernel) (pa_cons (pv 0) (pa_cons (pe_cls (by rfl) g_BadPath) pa_nil))) (pa_cons (pe_callB call_isiE (by rfl) b_isinstance (by decide +kernel) (pa_cons (pv 0) (pa_cons (pe_cls (by rfl) g_BadText) pa_nil))) (pa_cons (pe_callB call_isiE (by rfl) b_isinstance (by decide +kernel) (pa_cons (pv 0) (pa_cons (pe_cls (by rfl) g_BadRights) pa_nil))) pa_nil)))))
      (pss_cons (ps_set (i := 1) nd rfl (Or.inl rfl) (pe_op op_cat (pv 1) (pe_lst (pa_cons (pe_callB call_isiE (by rfl) b_isinstance (by decide +kernel) (pa_cons (pv 0) (pa_cons (pe_cls (by rfl) g_NoUser) pa_nil))) (pa_cons (pe_callB call_isiE (by rfl) b_isinstance (by decide +kernel) (pa_cons (pv 0) (pa_cons (pe_cls (by rfl) g_NoRight) pa_nil))) (pa_cons (pe_callB call_isiE (by rfl) b_isinstance (by decide +kernel) (pa_cons (pv 0) (pa_cons (pe_cls (by rfl) g_NoName) pa_nil))) pa_nil))))))
      (pss_cons (ps_set (i := 1) nd rfl (Or.inl rfl) (pe_op op_cat (pv 1) (pe_lst (pa_cons (pe_callB call_isiE (by rfl) b_isinstance (by decide +kernel) (pa_cons (pv 0) (pa_cons (pe_cls (by rfl) g_NotRoom) pa_nil))) (pa_cons (pe_callB call_isiE (by rfl) b_isinstance (by decide +kernel) (pa_cons (pv 0) (pa_cons (pe_cls (by rfl) g_NotLeaf) pa_nil))) (pa_cons (pe_callB call_isiE (by rfl) b_isinstance (by decide +kernel) (pa_cons (pv 0) (pa_cons (pe_cls (by rfl) g_NotHint) pa_nil))) pa_nil))))))
      (pss_cons (ps_set (i := 1) nd rfl (Or.inl rfl) (pe_op op_cat (pv 1) (pe_lst (pa_cons (pe_callB call_isiE (by rfl) b_isinstance (by decide +kernel) (pa_cons (pv 0) (pa_cons (pe_cls (by rfl) g_Taken) pa_nil))) (pa_cons (pe_callB call_isiE (by rfl) b_isinstance (by decide +kernel) (pa_cons (pv 0) (pa_cons (pe_cls (by rfl) g_TooDeep) pa_nil))) (pa_cons (pe_callB call_isiE (by rfl) b_isinstance (by decide +kernel) (pa_cons (pv 0) (pa_cons (pe_cls (by rfl) g_Busy) pa_nil))) pa_nil))))))
      (pss_cons (ps_set (i := 1) nd rfl (Or.inl rfl) (pe_op op_cat (pv 1) (pe_lst (pa_cons (pe_callB call_isiE (by rfl) b_isinstance (by decide +kernel) (pa_cons (pv 0) (pa_cons (pe_cls (by rfl) g_BadMove) pa_nil))) pa_nil))))
      (pss_mid (ps_if (PW.pt (pw_or (pt_cmpR op_ne (pe_bm PySem.F.plainAttrs_list PySem.F.slot_list_count PySem.F.type_list_count mt_countF (pv 1) (pa_cons pe_bl pa_nil)) pe_int (nomark _)) (pw_or (pt_not (pt_val (pe_callB call_isiE (by rfl) b_isinstance (by decide +kernel) (pa_cons (pv 0) (pa_cons (pe_cls (by rfl) g_WorldError) pa_nil))))) (pw_or1 (pt_not (pt_val (pe_callB call_isiE (by rfl) b_isinstance (by decide +kernel) (pa_cons (pv 0) (pa_cons (pe_ty (n := "ValueError") b_ValueError (by decide +kernel) (by rfl)) pa_nil))))))))) (pss_one (ps_ret pe_str))
      pss_nil)
      (pss_cons (ps_set (i := 2) nd rfl (Or.inl rfl) (pe_lst (pa_cons pe_str (pa_cons pe_str (pa_cons pe_str (pa_cons pe_str (pa_cons pe_str (pa_cons pe_str (pa_cons pe_str (pa_cons pe_str (pa_cons pe_str (pa_cons pe_str (pa_cons pe_str (pa_cons pe_str (pa_cons pe_str pa_nil)))))))))))))))
      (pss_one (ps_ret (pe_ix ix_list (pv 2) (pe_bm PySem.F.plainAttrs_list PySem.F.slot_list_index PySem.F.type_list_index mt_index (pv 1) (pa_cons pe_bl pa_nil)) (fun _ _ => rfl))))))))))), ?_⟩
  obtain ⟨a, i, d, rfl, hi, ha, hd, k⟩ := h
  walk_at "x"
  refine x_isE (j := 0) EK hi (by decide) (Ex.rfl _ _ ha) (hd.ex Ex.rfl) ?_
  walk_at "x"
  refine x_isE (j := 1) EK hi (by decide) (Ex.rfl _ _ ha) (hd.ex Ex.rfl) ?_
  walk_at "x"
  refine x_isE (j := 2) EK hi (by decide) (Ex.rfl _ _ ha) (hd.ex Ex.rfl) ?_
  walk_at "x"
  refine x_newL fun p1 H1 hp1 e1 h1 => ?_
  walk_at "x"
  refine x_isE (j := 3) EK hi (by decide) (e1 _ _ ha) (hd.ex e1) ?_
  walk_at "x"
  refine x_isE (j := 4) EK hi (by decide) (e1 _ _ ha) (hd.ex e1) ?_
  walk_at "x"
  refine x_isE (j := 5) EK hi (by decide) (e1 _ _ ha) (hd.ex e1) ?_
  walk_at "x"
  refine x_newL fun p2 H2 hp2 e2 h2 => ?_
  walk_at "x"
  refine x_cat (e2 _ _ h1) h2 (by simp) fun p3 H3 hp3 e3 h3 => ?_
  walk_at "x"
  refine x_isE (j := 6) EK hi (by decide) (((e1.tr e2).tr e3) _ _ ha) (hd.ex ((e1.tr e2).tr e3)) ?_
  walk_at "x"
  refine x_isE (j := 7) EK hi (by decide) (((e1.tr e2).tr e3) _ _ ha) (hd.ex ((e1.tr e2).tr e3)) ?_
  walk_at "x"
  refine x_isE (j := 8) EK hi (by decide) (((e1.tr e2).tr e3) _ _ ha) (hd.ex ((e1.tr e2).tr e3)) ?_
  walk_at "x"
  refine x_newL fun p4 H4 hp4 e4 h4 => ?_
  walk_at "x"
  refine x_cat (e4 _ _ h3) h4 (by simp) fun p5 H5 hp5 e5 h5 => ?_
  walk_at "x"
  refine x_isE (j := 9) EK hi (by decide) (((((e1.tr e2).tr e3).tr e4).tr e5) _ _ ha) (hd.ex ((((e1.tr e2).tr e3).tr e4).tr e5)) ?_
  walk_at "x"
  refine x_isE (j := 10) EK hi (by decide) (((((e1.tr e2).tr e3).tr e4).tr e5) _ _ ha) (hd.ex ((((e1.tr e2).tr e3).tr e4).tr e5)) ?_
  walk_at "x"
  refine x_isE (j := 11) EK hi (by decide) (((((e1.tr e2).tr e3).tr e4).tr e5) _ _ ha) (hd.ex ((((e1.tr e2).tr e3).tr e4).tr e5)) ?_
  walk_at "x"
  refine x_newL fun p6 H6 hp6 e6 h6 => ?_
  walk_at "x"
  refine x_cat (e6 _ _ h5) h6 (by simp) fun p7 H7 hp7 e7 h7 => ?_
  walk_at "x"
  refine x_isE (j := 12) EK hi (by decide) (((((((e1.tr e2).tr e3).tr e4).tr e5).tr e6).tr e7) _ _ ha) (hd.ex ((((((e1.tr e2).tr e3).tr e4).tr e5).tr e6).tr e7)) ?_
  walk_at "x"
  refine x_newL fun p8 H8 hp8 e8 h8 => ?_
  walk_at "x"
  refine x_cat (e8 _ _ h7) h8 (by simp) fun p9 H9 hp9 e9 h9 => ?_
  replace h9 : H9 p9 = some (.lst (kindV i)) := h9
  have E : Ex H H9 := ((((((((e1.tr e2).tr e3).tr e4).tr e5).tr e6).tr e7).tr e8).tr e9)
  walk_at "if"
  refine x_tyL (SqL.of h9) ?_
  walk_at "x"
  refine x_cntF (y := .bl true) (SqL.of h9) rfl (kindV_flat i hi) ?_
  rw [kindV_count i hi]
  walk_at "x"
  refine iteF ?_
  walk_at "x"
  refine x_isiE (.own _) (E _ _ ha) (hd.ex E) (EK.ex i hi) (EK.we i hi) ?_
  walk_at "x"
  refine iteF ?_
  walk_at "x"
  refine x_isiE (.ty _) (E _ _ ha) (hd.ex E) (EK.ex i hi) (EK.ve i hi) ?_
  walk_at "x"
  refine iteF ?_
  walk_at "x"
  refine x_newL fun pw Hw hpw ew hw => ?_
  walk_at "x"
  refine x_tyL (SqL.of (ew _ _ h9)) ?_
  walk_at "x"
  refine ⟨p9, kindV i, .bl true, i, .bl true, rfl, rfl, SqL.of (ew _ _ h9), rfl, kindV_flat i hi, kindV_at i hi, rfl, fun m z hm hz => kindV_no i hi m hm z hz, ?_⟩
  replace hw : Hw pw = some (.lst (errWords.map V.str)) := hw
  refine x_ixL (SqL.of hw) (words_at i hi) ?_
  exact k Hw (E.tr ew)
abbrev s_law_asked : Stmt := top 35
abbrev N_law_asked : List Str := ["kind", "thing", "caught", "e"]
theorem sc_law_asked : FnScope N_law_asked ["kind", "thing"] (defScope s_law_asked) := ⟨rfl, rfl, rfl, by decide +kernel, rfl, by decide +kernel, by decide +kernel⟩
theorem ok_law_asked {P : Program} {w : World} {K : PySem.W.Frag} {mg : Str → Option Value} {base : Heap} {f : Addr} {fd : FuncData} (F : FunD K "_law_asked" "_law_asked" (defArgs s_law_asked) (defBody s_law_asked) (defScope s_law_asked) [] [] f fd)
    (F_law_did : Fn P w K mg base 5 "_law_did" ["kind", "thing"] (sp_did K)) (g_WorldError : mg "WorldError" = some (.ref (He.ga K "WorldError"))) (EK : ErrK K) (F_law_refusal : Fn P w K mg base 1 "_law_refusal" ["caught"] (sp_refusal K))  : FnOk P w K mg base (L2.CX P w) 6 f fd ["kind", "thing"] (sp_asked K) := by
  have nd := sc_law_asked.nd
  refine F.ok (k := 5) sc_law_asked (fun vs H Q E h => ?_) (fun cdv A outer s H vs Q E hr h => ?_)
  · obtain ⟨_, _, rfl, _⟩ := h
    rfl
  have hu := hu_of hr
  refine ⟨_, (pss_cons (ps_set (i := 2) nd rfl (Or.inl rfl) pe_non)
      (pss_mid (ps_keep (i := 3) (j := 2) rfl rfl nd rfl rfl rfl rfl rfl ⟨rfl, by decide, .inl g_WorldError⟩ (takes_of rfl rfl rfl rfl)
      (fun W pn xe tk _ => (pss_one (ps_expr (pe_fn F_law_did (hr.mono (by decide)) (by rfl) (fun σ => passAt tk σ) (pa_cons (pv 0) (pa_cons (pv 1) pa_nil)))))))
      (pss_one (ps_ret (pe_ifExp (pt_cmpR op_isNo (pv 2) pe_non (nomark _)) pe_str (pe_fn F_law_refusal (hr.mono (by decide)) (by rfl) (passD rfl rfl rfl rfl) (pa_cons (pv 2) pa_nil))))))), ?_⟩
  obtain ⟨kind, v, rfl, hv, k⟩ := h
  walk_at "x"
  dsimp only
  refine x_cutM (fun σ' H' => ∃ u, σ' = [some (.int kind), some v, some u, none] ∧ Ex H H' ∧ ((u = .non ∧ askedV kind v = "told") ∨ ∃ a, u = .ref a ∧ askedV kind v = "path" ∧ H' a = some (Caught (.ref (errC K 0)) none a))) ?_ ?_
  · walk_at "x"
    refine ⟨kind, v, rfl, hv, fun s hs ht x H1 e1 => ?_, fun hn H1 e1 => ?_⟩
    · walk_at "x"
      refine ⟨_, rfl, e1, .inl ⟨rfl, ?_⟩⟩
      subst hs
      show (if told kind s = true then _ else _) = _
      rw [if_pos ht]
    · refine x_keep (n := 0) EK (by decide) fun a H2 ha e2 h2 => ?_
      refine ⟨_, rfl, e1.tr e2, .inr ⟨a, rfl, ?_, h2⟩⟩
      cases v with
      | str s =>
        show (if told kind s = true then _ else _) = _
        rw [if_neg (by rw [hn s rfl]; decide)]
      | _ => rfl
  rintro σ' H1 ⟨u, rfl, e1, ⟨rfl, ht⟩ | ⟨a, rfl, ht, h1⟩⟩
  · walk_at "x"
    refine iteT ?_
    rw [← ht]
    exact k H1 e1
  · walk_at "x"
    refine iteF ?_
    walk_at "x"
    refine ⟨a, 0, none, rfl, by decide, h1, .inl rfl, fun H2 e2 => ?_⟩
    have := k H2 (e1.tr e2)
    rw [ht] at this
    exact this
theorem atI_mod {ns : List Int} {n : Int} (h : 0 < (ns.length : Int)) : ∃ z, atI (ns.map V.int) (n % (ns.length : Int)) = some (.int z) ∧ ixN (ns.map V.int).length (n % (ns.length : Int)) = some (n % (ns.length : Int)).toNat := by
  have h1 := Int.emod_nonneg n (show (ns.length : Int) ≠ 0 by omega)
  have h2 := Int.emod_lt_of_pos n h
  have e : ixN (ns.map V.int).length (n % (ns.length : Int)) = some (n % (ns.length : Int)).toNat := by
    unfold ixN
    rw [List.length_map, if_pos h1, if_pos h2]
  have l : (n % (ns.length : Int)).toNat < ns.length := by omega
  refine ⟨ns[(n % (ns.length : Int)).toNat], ?_, e⟩
  unfold atI
  rw [e]
  show (ns.map V.int)[(n % (ns.length : Int)).toNat]? = _
  rw [List.getElem?_map, List.getElem?_eq_getElem l] <;> rfl
abbrev s_law_draw : Stmt := top 30
abbrev N_law_draw : List Str := ["town", "many", "cells", "at", "cell", "mixed"]
theorem sc_law_draw : FnScope N_law_draw ["town", "many"] (defScope s_law_draw) := ⟨rfl, rfl, rfl, by decide +kernel, rfl, by decide +kernel, by decide +kernel⟩
theorem ok_law_draw {P : Program} {w : World} {K : PySem.W.Frag} {mg : Str → Option Value} {base : Heap} {f : Addr} {fd : FuncData} (F : FunD K "_law_draw" "_law_draw" (defArgs s_law_draw) (defBody s_law_draw) (defScope s_law_draw) [] [] f fd)
    (b_len : mg "len" = none)  : FnOk P w K mg base (L2.CX P w) 1 f fd ["town", "many"] sp_draw := by
  have nd := sc_law_draw.nd
  refine F.ok (k := 0) sc_law_draw (fun vs H Q E h => ?_) (fun cdv A outer s H vs Q E hr h => ?_)
  · obtain ⟨_, _, _, rfl, _⟩ := h
    rfl
  have hu := hu_of hr
  refine ⟨_, (pss_cons (ps_set (i := 2) nd rfl (Or.inl rfl) (pe_ix ix_list (pv 0) pe_int (fun _ _ => rfl)))
      (pss_cons (ps_asg (pe_op op_add (pe_ix ix_list (pv 0) pe_int (fun _ _ => rfl)) pe_int) (pg_sub (pv 0) pe_int set_list))
      (pss_cons (ps_set (i := 3) nd rfl (Or.inl rfl) (pe_op op_mod (pe_ix ix_list (pv 0) pe_int (fun _ _ => rfl)) (pe_callB call_lenQ (by rfl) b_len (by decide +kernel) (pa_cons (pv 2) pa_nil))))
      (pss_cons (ps_set (i := 4) nd rfl (Or.inl rfl) (pe_ix ix_list (pv 2) (pv 3) (fun _ _ => rfl)))
      (pss_mid (ps_if (pt_cmpR op_ge (pv 4) pe_int (nomark _)) (pss_cons (ps_asg (pe_op op_fdiv (pv 4) (pv 1)) (pg_sub (pv 2) (pv 3) set_list))
      (pss_one (ps_ret (pe_op op_mod (pv 4) (pv 1)))))
      pss_nil)
      (pss_cons (ps_set (i := 5) nd rfl (Or.inl rfl) (pe_op op_mod (pe_op op_add (pv 4) (pe_op op_mul pe_int (pe_ix ix_list (pv 0) pe_int (fun _ _ => rfl)))) pe_int))
      (pss_cons (ps_set (i := 5) nd rfl (Or.inl rfl) (pe_op op_mod (pe_op op_pow (pv 5) pe_int) pe_int))
      (pss_one (ps_ret (pe_op op_mod (pe_op op_fdiv (pe_op op_mod (pe_op op_add (pe_op op_mul (pe_op op_fdiv (pv 5) pe_int) pe_int) (pv 5)) pe_int) pe_int) (pv 1))))))))))), ?_⟩
  obtain ⟨t, c, m, rfl, m0, m1, T, k⟩ := h
  have ntc := T.ne
  obtain ⟨ns, n, ht, hc, hne⟩ := T
  walk_at "x"
  refine x_ixL (v := .ref c) (SqL.of ht) rfl ?_
  walk_at "x"
  refine x_ixL (v := .int n) (SqL.of ht) rfl ?_
  walk_at "x"
  refine x_setL (j := 1) ht rfl ?_
  have e1 : Off [t, c] H (upd H t (.lst [.ref c, .int (n + 1)])) := Off.put Off.rfl (by simp)
  have t1 : (upd H t (.lst [.ref c, .int (n + 1)])) t = some (.lst [.ref c, .int (n + 1)]) := upd_same
  have c1 : (upd H t (.lst [.ref c, .int (n + 1)])) c = some (.lst (ns.map V.int)) := by rw [upd_ne ntc.symm]; exact hc
  show tSeq _ _ _ _ (upd H t (.lst [.ref c, .int (n + 1)]))
  generalize upd H t (.lst [.ref c, .int (n + 1)]) = H1 at e1 t1 c1
  walk_at "x"
  refine x_ixL (v := .int (n + 1)) (SqL.of t1) rfl ?_
  walk_at "x"
  refine x_lenL (SqL.of c1) ?_
  have hl : (0 : Int) < (ns.length : Int) := by
    have := List.length_pos_iff.mpr hne
    omega
  rw [List.length_map]
  refine x_I hl ?_
  walk_at "x"
  obtain ⟨z, ha, hi⟩ := atI_mod (n := n + 1) hl
  refine x_ixL (SqL.of c1) ha ?_
  walk_at "x"
  refine x_thru ?_
  walk_at "x"
  refine x_ifd (fun h1 => ?_) (fun h1 => ?_)
  · walk_at "x"
    refine x_I ⟨m0, m1⟩ ?_
    walk_at "x"
    refine x_setL c1 hi ?_
    walk_at "x"
    refine x_I m0 ?_
    have es : (ns.map V.int).set (((n + 1) % (ns.length : Int)).toNat) (V.int (z / m)) = (ns.set (((n + 1) % (ns.length : Int)).toNat) (z / m)).map V.int := (List.map_set ..).symm
    rw [es]
    refine k _ _ (Int.emod_nonneg _ (by omega)) (Int.emod_lt_of_pos _ m0) ⟨_, _, by rw [upd_ne ntc]; exact t1, upd_same, fun z => hne ?_⟩ (e1.put (by simp))
    have := congrArg List.length z
    rw [List.length_set] at this
    exact List.length_eq_zero_iff.mp this
  · walk_at "x"
    refine x_ixL (v := .int (n + 1)) (SqL.of t1) rfl ?_
    refine x_I (.inl ⟨by decide, by decide⟩) ?_
    walk_at "x"
    refine x_I (by show (0 : Int) < 4294967291; decide) ?_
    walk_at "x"
    have q0 := Int.emod_nonneg (z + 104729 * (n + 1)) (show (4294967291 : Int) ≠ 0 by decide)
    have q1 := Int.emod_lt_of_pos (z + 104729 * (n + 1)) (show (0 : Int) < 4294967291 by decide)
    generalize (z + 104729 * (n + 1)) % 4294967291 = y at q0 q1
    refine x_I ⟨by decide, by decide, by have : (2 : Nat) ^ 64 = 18446744073709551616 := rfl; omega⟩ ?_
    walk_at "x"
    refine x_I (by show (0 : Int) < 4294967279; decide) ?_
    walk_at "x"
    generalize (y ^ (5 : Int).toNat) % 4294967279 = y2
    refine x_I ⟨by decide, by decide⟩ ?_
    walk_at "x"
    refine x_I (.inr ⟨by decide, by decide⟩) ?_
    walk_at "x"
    refine x_I (by show (0 : Int) < 4294967231; decide) ?_
    walk_at "x"
    refine x_I ⟨by decide, by decide⟩ ?_
    walk_at "x"
    refine x_I m0 ?_
    exact k _ _ (Int.emod_nonneg _ (by omega)) (Int.emod_lt_of_pos _ m0) ⟨_, _, t1, c1, hne⟩ e1
abbrev s_law_pick : Stmt := top 31
abbrev N_law_pick : List Str := ["town", "some"]
theorem sc_law_pick : FnScope N_law_pick ["town", "some"] (defScope s_law_pick) := ⟨rfl, rfl, rfl, by decide +kernel, rfl, by decide +kernel, by decide +kernel⟩
theorem ok_law_pick {P : Program} {w : World} {K : PySem.W.Frag} {mg : Str → Option Value} {base : Heap} {f : Addr} {fd : FuncData} (F : FunD K "_law_pick" "_law_pick" (defArgs s_law_pick) (defBody s_law_pick) (defScope s_law_pick) [] [] f fd)
    (F_law_draw : Fn P w K mg base 1 "_law_draw" ["town", "many"] sp_draw) (b_len : mg "len" = none)  : FnOk P w K mg base (L2.CX P w) 2 f fd ["town", "some"] sp_pick := by
  have nd := sc_law_pick.nd
  refine F.ok (k := 1) sc_law_pick (fun vs H Q E h => ?_) (fun cdv A outer s H vs Q E hr h => ?_)
  · obtain ⟨_, _, _, _, rfl, _⟩ := h
    rfl
  have hu := hu_of hr
  refine ⟨_, (pss_one (ps_ret (pe_ix ix_list (pv 1) (pe_fn F_law_draw (hr.mono (by decide)) (by rfl) (passD rfl rfl rfl rfl) (pa_cons (pv 0) (pa_cons (pe_callB call_lenQ (by rfl) b_len (by decide +kernel) (pa_cons (pv 1) pa_nil)) pa_nil))) (fun _ _ => rfl)))), ?_⟩
  obtain ⟨t, c, l, xs, rfl, T, hl, n1, n2, hne, hz, k⟩ := h
  walk_at "x"
  refine x_lenL (SqL.of hl) ?_
  have hp := List.length_pos_iff.mpr hne
  refine ⟨t, c, _, rfl, by omega, by omega, T, fun r H' r0 r1 T' e => ?_⟩
  have h2 : r.toNat < xs.length := by omega
  refine x_ixL (SqL.of (e _ _ hl (by simp [n1, n2]))) (v := xs[r.toNat]) ?_ (k _ H' (List.getElem_mem h2) T' e)
  exact at_of (j := r.toNat) (by omega) (List.getElem?_eq_getElem h2)
abbrev s_law_name : Stmt := top 33
abbrev N_law_name : List Str := ["town"]
theorem sc_law_name : FnScope N_law_name ["town"] (defScope s_law_name) := ⟨rfl, rfl, rfl, by decide +kernel, rfl, by decide +kernel, by decide +kernel⟩
theorem ok_law_name {P : Program} {w : World} {K : PySem.W.Frag} {mg : Str → Option Value} {base : Heap} {f : Addr} {fd : FuncData} (F : FunD K "_law_name" "_law_name" (defArgs s_law_name) (defBody s_law_name) (defScope s_law_name) [] [] f fd)
    (F_law_pick : Fn P w K mg base 2 "_law_pick" ["town", "some"] sp_pick)  : FnOk P w K mg base (L2.CX P w) 3 f fd ["town"] sp_name := by
  have nd := sc_law_name.nd
  refine F.ok (k := 2) sc_law_name (fun vs H Q E h => ?_) (fun cdv A outer s H vs Q E hr h => ?_)
  · obtain ⟨_, _, rfl, _⟩ := h
    rfl
  have hu := hu_of hr
  refine ⟨_, (pss_one (ps_ret (pe_fn F_law_pick (hr.mono (by decide)) (by rfl) (passD rfl rfl rfl rfl) (pa_cons (pv 0) (pa_cons (pe_lst (pa_cons pe_str (pa_cons pe_str (pa_cons pe_str (pa_cons pe_str (pa_cons pe_str (pa_cons pe_str (pa_cons pe_str pa_nil)))))))) pa_nil))))), ?_⟩
  obtain ⟨t, c, rfl, T, k⟩ := h
  walk_at "x"
  refine pick_new (E := E) T (by simp) (by show 7 < 1000; decide) fun v H' hv T' e => ?_
  obtain ⟨n, rfl, hn⟩ := lnames_all hv
  exact k n H' hn T' e
abbrev s_law_parts : Stmt := top 36
abbrev N_law_parts : List Str := ["thing", "caught", "e"]
theorem sc_law_parts : FnScope N_law_parts ["thing"] (defScope s_law_parts) := ⟨rfl, rfl, rfl, by decide +kernel, rfl, by decide +kernel, by decide +kernel⟩
theorem ok_law_parts {P : Program} {w : World} {K : PySem.W.Frag} {mg : Str → Option Value} {base : Heap} {f : Addr} {fd : FuncData} (F : FunD K "_law_parts" "_law_parts" (defArgs s_law_parts) (defBody s_law_parts) (defScope s_law_parts) [] [] f fd)
    (F_path_of : Fn P w K mg base 3 "path_of" ["parts"] (sp_path_of K)) (g_WorldError : mg "WorldError" = some (.ref (He.ga K "WorldError"))) (EK : ErrK K) (F_law_refusal : Fn P w K mg base 1 "_law_refusal" ["caught"] (sp_refusal K))  : FnOk P w K mg base (L2.CX P w) 4 f fd ["thing"] (sp_parts K) := by
  have nd := sc_law_parts.nd
  refine F.ok (k := 3) sc_law_parts (fun vs H Q E h => ?_) (fun cdv A outer s H vs Q E hr h => ?_)
  · obtain ⟨_, rfl, _⟩ := h
    rfl
  have hu := hu_of hr
  refine ⟨_, (pss_cons (ps_set (i := 1) nd rfl (Or.inl rfl) pe_non)
      (pss_mid (ps_keep (i := 2) (j := 1) rfl rfl nd rfl rfl rfl rfl rfl ⟨rfl, by decide, .inl g_WorldError⟩ (takes_of rfl rfl rfl rfl)
      (fun W pn xe tk _ => (pss_one (ps_expr (pe_fn F_path_of (hr.mono (by decide)) (by rfl) (fun σ => passAt tk σ) (pa_cons (pv 0) pa_nil))))))
      (pss_one (ps_ret (pe_ifExp (pt_cmpR op_isNo (pv 1) pe_non (nomark _)) pe_str (pe_fn F_law_refusal (hr.mono (by decide)) (by rfl) (passD rfl rfl rfl rfl) (pa_cons (pv 1) pa_nil))))))), ?_⟩
  obtain ⟨v, rfl, hv, k⟩ := h
  walk_at "x"
  dsimp only
  refine x_cutM (fun σ' H' => ∃ u, σ' = [some v, some u, none] ∧ Ex H H' ∧ ((u = .non ∧ partsV H v = "told") ∨ ∃ a, u = .ref a ∧ partsV H v = "path" ∧ H' a = some (Caught (.ref (errC K 0)) none a))) ?_ ?_
  · walk_at "x"
    rcases hv with ⟨a, xs, rfl, ha, hz, hx⟩ | ⟨hk, hp⟩
    · refine ⟨_, rfl, .inl ⟨a, xs, rfl, ha, hz, hx, fun ps hps hg H1 e1 => ?_, fun hb H1 e1 => ?_⟩⟩
      · walk_at "x"
        refine ⟨_, rfl, e1, .inl ⟨rfl, ?_⟩⟩
        have hg' : goodVs xs = true := by
          subst hps
          have g := good_all hg
          unfold goodVs
          rw [List.length_map, decide_eq_true g.1, List.all_map, Bool.true_and, List.all_eq_true]
          exact fun s h => g.2 s h
        unfold partsV
        simp only [ha, hg', if_true]
      · refine x_keep (n := 0) EK (by decide) fun b H2 hb2 e2 h2 => ?_
        refine ⟨_, rfl, e1.tr e2, .inr ⟨b, rfl, ?_, h2⟩⟩
        unfold partsV
        simp [ha, hb]
    · refine ⟨_, rfl, .inr ⟨hk, fun H1 e1 => ?_⟩⟩
      refine x_keep (n := 0) EK (by decide) fun b H2 hb2 e2 h2 => ?_
      exact ⟨_, rfl, e1.tr e2, .inr ⟨b, rfl, hp, h2⟩⟩
  rintro σ' H1 ⟨u, rfl, e1, ⟨rfl, ht⟩ | ⟨a, rfl, ht, h1⟩⟩
  · walk_at "x"
    refine iteT ?_
    rw [← ht]
    exact k H1 e1
  · walk_at "x"
    refine iteF ?_
    walk_at "x"
    refine ⟨a, 0, none, rfl, by decide, h1, .inl rfl, fun H2 e2 => ?_⟩
    have := k H2 (e1.tr e2)
    rw [ht] at this
    exact this
abbrev s_law_town : Stmt := top 29
abbrev N_law_town : List Str := ["script"]
theorem sc_law_town : FnScope N_law_town ["script"] (defScope s_law_town) := ⟨rfl, rfl, rfl, by decide +kernel, rfl, by decide +kernel, by decide +kernel⟩
theorem ok_law_town {P : Program} {w : World} {K : PySem.W.Frag} {mg : Str → Option Value} {base : Heap} {f : Addr} {fd : FuncData} (F : FunD K "_law_town" "_law_town" (defArgs s_law_town) (defBody s_law_town) (defScope s_law_town) [] [] f fd)
    (b_list : mg "list" = none)  : FnOk P w K mg base (L2.CX P w) 1 f fd ["script"] (sp_town K) := by
  have nd := sc_law_town.nd
  refine F.ok (k := 0) sc_law_town (fun vs H Q E h => ?_) (fun cdv A outer s H vs Q E hr h => ?_)
  · obtain ⟨_, _, rfl, _⟩ := h
    rfl
  have hu := hu_of hr
  refine ⟨_, (pss_one (ps_ret (pe_lst (pa_cons (pe_ifExp (pt_cmpR (op_neD hr.units) (pv 0) (pe_lst pa_nil) (nomark _)) (pe_callTy call_mkL (by rfl) b_list (by decide +kernel) (pa_cons (pv 0) pa_nil)) (pe_lst (pa_cons pe_int pa_nil))) (pa_cons pe_int pa_nil))))), ?_⟩
  obtain ⟨a, ns, rfl, hs, hl, k⟩ := h
  walk_at "x"
  refine ⟨by decide, fun p hp => ?_⟩
  refine ⟨_, .list [], .lst ((Ex.new hp).sq hs) (dp_ints ns), .lst (SqL.of upd_same) .nil, shaped_ints ns, rfl, ?_⟩
  walk_at "x"
  have fin : ∀ (c : Addr) (H1 : Hp) (l : List Int), H c = none → Ex H H1 → H1 c = some (.lst (l.map V.int)) → l ≠ [] → ∀ t, H1 t = none → Q (.ref t) (upd H1 t (.lst [.ref c, .int 0])) := fun c H1 l hc e h1 h2 t ht => by
    have ne : c ≠ t := ne_of_none h1 ht
    exact k t c _ (ex_none e ht) hc (e.tr (Ex.new ht)) ⟨l, 0, upd_same, by rw [upd_ne ne]; exact h1, h2⟩
  cases ns with
  | nil =>
    refine iteF ?_
    walk_at "x"
    refine ⟨by decide, fun c hc => ?_⟩
    walk_at "x"
    have hc0 : H c = none := ex_none (Ex.new hp) hc
    exact ⟨by show 2 ≤ sizeLine; decide, fun t ht => fin c _ [0] hc0 ((Ex.new hp).tr (Ex.new hc)) upd_same (by simp) t ht⟩
  | cons n r =>
    refine iteT ?_
    walk_at "x"
    refine x_mkL ((Ex.new hp).sq hs) fun c hc => ?_
    walk_at "x"
    have hc0 : H c = none := ex_none (Ex.new hp) hc
    exact ⟨by show 2 ≤ sizeLine; decide, fun t ht => fin c _ (n :: r) hc0 ((Ex.new hp).tr (Ex.new hc)) upd_same (by simp) t ht⟩
theorem askedV_ok (k : Int) (v : V) : PyData.strOk (askedV k v) = true := by
  unfold askedV
  split
  · split
    · decide +kernel
    · decide +kernel
  · decide +kernel
theorem lc_asked {K : PySem.W.Frag} {E : L2.St → XK} {H : Hp} {σ : L2.St} {Q : VK} {tv : TE} {v : V} {n : Int} (htv : ∀ x H' (R : VK), R v H' → tv ((wipe σ [9]).set 9 (some x)) H' R) (h9 : ∀ x, ((wipe σ [9]).set 9 (some x))[9]? = some (some x)) (hw : ∀ x, wipe ((wipe σ [9]).set 9 (some x)) [9] = wipe σ [9]) (hv : TextOk K H v) (hn : 0 ≤ n ∧ n ≤ 100)
    (q : ∀ D H', H D = none → Ex H H' → H' D = some (.lst (((List.range n.toNat).map fun (k : Nat) => askedV k v).map V.str)) → Q (.ref D) H') :
    ∃ m : Int, ([V.int n] : List V) = [.int m] ∧ -(2 ^ 62) ≤ m ∧ m < 2 ^ 62 ∧ LcK (Itr 0 m.toNat) (gName 9) tYes (tFn (sp_asked K) E (tCons (tVar 9) (tCons tv tNil))) [9] σ Q H := by
  refine x_lcRV (fun D i H' => Ex H H' ∧ H' D = some (.lst (((List.range i).map fun (k : Nat) => askedV k v).map V.str))) (by omega) ?_ ?_ ?_
  · intro D hD
    exact ⟨Ex.new hD, upd_same⟩
  · rintro D i H' hD hi ⟨e, hl⟩
    refine ⟨hw _, ?_⟩
    refine x_fn (x_cons (x_var (h9 _) (x_cons (htv _ _ _ (x_nil ?_)))))
    refine ⟨_, v, rfl, hv.ex e, fun H2 e2 => ?_⟩
    refine ⟨_, e2 _ _ hl, ?_, ?_, ?_⟩
    · simp
      have : (1000 : Nat) ≤ sizeLine := by decide
      omega
    · intro b o hb
      have hne : b ≠ D := fun z => by rw [z, hD] at hb; cases hb
      rw [upd_ne hne]
      exact e2 _ _ (e _ _ hb)
    · rw [upd_same, List.range_succ, List.map_append, List.map_append]
      rfl
  · rintro D H' hD ⟨e, hl⟩
    exact q D H' hD e hl
/-- refused by each -/
def Refused (s : Str) : Prop := partsOf true s = none ∧ partsOf false s = none
theorem Refused.no {s : Str} (h : Refused s) (k : Int) : told k s = false := by
  unfold told splitOf joinOf
  rw [h.1, h.2]
  simp
def bads : List Str := ["", "A", "a b", "longnames", "...", "a-b", "-", " ", "_"]
theorem bads_ok : ∀ b ∈ bads, isPart b = false ∧ 47 ∉ cs b ∧ b.length ≤ 9 := by decide +kernel
theorem bads_path {ps : List Str} {b : Str} (hb : b ∈ bads) (hm : b ∈ ps) (hp : ∀ p ∈ ps, 47 ∉ cs p) (hne : ¬ ps = [Str.ofString ""]) : Refused (pathOf ps) := by
  obtain ⟨r1, r2⟩ := rest_path ps
  have h0 : ps ≠ [] := fun z => by rw [z] at hm; cases hm
  have sj := split_join h0 hp
  have key : ∀ top, partsOf top (pathOf ps) = none := fun top => by
    unfold partsOf
    rw [if_neg fun z => z.2 r1, r2, sj]
    have n1 : ¬ (Txt.join sl ps = "" ∧ pathOf ps = sl) := fun z => hne (by
      rw [z.1] at sj
      rw [← sj]
      decide +kernel)
    rw [if_neg n1, if_neg]
    intro z
    have := (good_all z).2 b hm
    rw [(bads_ok b hb).1] at this
    cases this
  exact ⟨key true, key false⟩
theorem sum_nine : ∀ l : List Str, (∀ p ∈ l, p.length ≤ 9) → (l.map (·.length)).sum ≤ 9 * l.length
  | [], _ => Nat.le_refl _
  | p :: r, h => by
    have a := h p (List.mem_cons_self ..)
    have b := sum_nine r fun q hq => h q (List.mem_cons_of_mem _ hq)
    rw [List.map_cons, List.sum_cons, List.length_cons]
    omega
theorem all_path {v : V} (h : ∀ k : Int, askedV k v = "path") (n : Nat) : ((List.range n).map fun (k : Nat) => askedV k v) = List.replicate n ("path" : Str) := by
  refine List.eq_replicate_iff.mpr ⟨by simp, fun b hb => ?_⟩
  obtain ⟨k, _, rfl⟩ := List.mem_map.mp hb
  exact h k
theorem Refused.path {s : Str} (h : Refused s) (k : Int) : askedV k (.str s) = "path" := by
  show (if told k s = true then _ else _) = _
  rw [if_neg (by rw [h.no k]; decide)]
theorem refused_lits : Refused "//" ∧ Refused "/a/" ∧ Refused "" ∧ Refused (Str.ofString "/" ++ repS "a/" 12 ++ Str.ofString "a") := by
  unfold Refused
  decide +kernel
theorem told_ab : ((List.range 6).map fun (k : Nat) => askedV k (.str "a/b")) = ([("path" : Str), "told", "path", "path", "path", "told"] : List Str) := by decide +kernel
abbrev s_law : Stmt := top 37
abbrev N_law : List Str := ["script", "town", "bad", "parts", "at", "worse", "thing", "odd", "k", "kind"]
theorem sc_law : FnScope N_law ["script"] (defScope s_law) := ⟨rfl, rfl, rfl, by decide +kernel, rfl, by decide +kernel, by decide +kernel⟩
theorem ok_law {P : Program} {w : World} {K : PySem.W.Frag} {mg : Str → Option Value} {base : Heap} {f : Addr} {fd : FuncData} (F : FunD K "law" "law" (defArgs s_law) (defBody s_law) (defScope s_law) [] [] f fd)
    (F_law_town : Fn P w K mg base 1 "_law_town" ["script"] (sp_town K)) (F_law_pick : Fn P w K mg base 2 "_law_pick" ["town", "some"] sp_pick) (b_range : mg "range" = none) (F_law_draw : Fn P w K mg base 1 "_law_draw" ["town", "many"] sp_draw) (F_law_name : Fn P w K mg base 3 "_law_name" ["town"] sp_name) (b_len : mg "len" = none) (F_law_asked : Fn P w K mg base 6 "_law_asked" ["kind", "thing"] (sp_asked K)) (b_tuple : mg "tuple" = none) (F_law_parts : Fn P w K mg base 4 "_law_parts" ["thing"] (sp_parts K))  : FnOk P w K mg base (L2.CX P w) 7 f fd ["script"] (sp_law K) := by
  have nd := sc_law.nd
  refine F.ok (k := 6) sc_law (fun vs H Q E h => ?_) (fun cdv A outer s H vs Q E hr h => ?_)
  · obtain ⟨_, _, rfl, _⟩ := h
    rfl
  have hu := hu_of hr
  refine ⟨_, (pss_cons (ps_set (i := 1) nd rfl (Or.inr rfl) (pe_fn F_law_town (hr.mono (by decide)) (by rfl) (passD rfl rfl rfl rfl) (pa_cons (pv 0) pa_nil)))
      (pss_cons (ps_set (i := 2) nd rfl (Or.inl rfl) (pe_fn F_law_pick (hr.mono (by decide)) (by rfl) (passD rfl rfl rfl rfl) (pa_cons (pv 1) (pa_cons (pe_lst (pa_cons pe_str (pa_cons pe_str (pa_cons pe_str (pa_cons pe_str (pa_cons pe_str (pa_cons pe_str (pa_cons pe_str (pa_cons pe_str (pa_cons pe_str pa_nil)))))))))) pa_nil))))
      (pss_cons (ps_setLc (i := 3) (own := [("k", 8)]) (g := gName 8) (by rfl) nd rfl rfl (sw_true rfl rfl rfl (by decide +kernel)) (pi_range1 (by rfl) b_range (pa_cons (pe_fn F_law_draw (hr.mono (by decide)) (by rfl) (passD rfl rfl rfl rfl) (pa_cons (pv 1) (pa_cons pe_int pa_nil))) pa_nil)) (blkOk_by (own := [("k", 8)]) (N := N_law) (sc := defScope s_law) (by decide +kernel)) (fun _ _ _ _ _ => (pg_name (i := 8) nd rfl (Or.inl rfl))) (fun _ _ _ _ _ => pts_nil) (fun _ _ _ _ _ => (pe_fn F_law_name (hr.mono (by decide)) (by rfl) (passC rfl) (pa_cons (pv 1) pa_nil))))
      (pss_cons (ps_set (i := 4) nd rfl (Or.inl rfl) (pe_fn F_law_draw (hr.mono (by decide)) (by rfl) (passD rfl rfl rfl rfl) (pa_cons (pv 1) (pa_cons (pe_op op_add (pe_callB call_lenQ (by rfl) b_len (by decide +kernel) (pa_cons (pv 3) pa_nil)) pe_int) pa_nil))))
      (pss_cons (ps_set (i := 5) nd rfl (Or.inl rfl) (pe_op op_cat (pe_op op_cat (pe_slice sl_list (pv 3) po_none (po_some (pv 4))) (pe_lst (pa_cons (pv 2) pa_nil))) (pe_slice sl_list (pv 3) (po_some (pv 4)) po_none)))
      (pss_cons (ps_for (passes_of rfl) rfl (pi_list (pe_lst (pa_cons (pe_ifC (PW.pt (pw_or (pt_cmpR op_ne (pv 2) pe_str (nomark _)) (pw_or1 (pt_cmpR op_gt (pe_callB call_lenQ (by rfl) b_len (by decide +kernel) (pa_cons (pv 5) pa_nil)) pe_int (nomark _))))) (pe_op op_catS pe_str (pe_join pe_str (pv 5))) pe_str) (pa_cons pe_str (pa_cons pe_str (pa_cons (pe_op op_catS (pe_op op_catS pe_str (pe_op op_repS pe_str pe_int)) pe_str) pa_nil)))))) (pg_name (i := 6) nd rfl (Or.inr rfl))
      (pss_one (ps_if (pt_cmpR (op_neD hr.units) (pe_lc (own := [("kind", 9)]) (g := gName 9) (by rfl) nd (pi_range1 (by rfl) b_range (pa_cons pe_int pa_nil)) (blkOk_by (own := [("kind", 9)]) (N := N_law) (sc := defScope s_law) (by decide +kernel)) (fun _ _ _ _ _ => (pg_name (i := 9) nd rfl (Or.inl rfl))) (fun _ _ _ _ _ => pts_nil) (fun _ _ _ _ _ => (pe_fn F_law_asked (hr.mono (by decide)) (by rfl) (passC rfl) (pa_cons (pv 9) (pa_cons (pv 6) pa_nil))))) (pe_op op_rep (pe_lst (pa_cons pe_str pa_nil)) pe_int) (nomark _)) (pss_one (ps_ret pe_bl))
      pss_nil)))
      (pss_cons (ps_for (passes_of rfl) rfl (pi_list (pe_lst (pa_cons pe_non (pa_cons pe_int (pa_cons (pe_lst (pa_cons pe_str pa_nil)) (pa_cons pe_bl (pa_cons pe_dnewK (pa_cons (pe_tup (pa_cons pe_str pa_nil)) (pa_cons pe_str pa_nil))))))))) (pg_name (i := 6) nd rfl (Or.inr rfl))
      (pss_one (ps_if (pt_cmpR (op_neD hr.units) (pe_lc (own := [("kind", 9)]) (g := gName 9) (by rfl) nd (pi_range1 (by rfl) b_range (pa_cons pe_int pa_nil)) (blkOk_by (own := [("kind", 9)]) (N := N_law) (sc := defScope s_law) (by decide +kernel)) (fun _ _ _ _ _ => (pg_name (i := 9) nd rfl (Or.inl rfl))) (fun _ _ _ _ _ => pts_nil) (fun _ _ _ _ _ => (pe_fn F_law_asked (hr.mono (by decide)) (by rfl) (passC rfl) (pa_cons (pv 9) (pa_cons (pv 6) pa_nil))))) (pe_op op_rep (pe_lst (pa_cons pe_str pa_nil)) pe_int) (nomark _)) (pss_one (ps_ret pe_bl))
      pss_nil)))
      (pss_mid (ps_if (pt_cmpR (op_neD hr.units) (pe_lc (own := [("kind", 9)]) (g := gName 9) (by rfl) nd (pi_range1 (by rfl) b_range (pa_cons pe_int pa_nil)) (blkOk_by (own := [("kind", 9)]) (N := N_law) (sc := defScope s_law) (by decide +kernel)) (fun _ _ _ _ _ => (pg_name (i := 9) nd rfl (Or.inl rfl))) (fun _ _ _ _ _ => pts_nil) (fun _ _ _ _ _ => (pe_fn F_law_asked (hr.mono (by decide)) (by rfl) (passC rfl) (pa_cons (pv 9) (pa_cons pe_str pa_nil))))) (pe_lst (pa_cons pe_str (pa_cons pe_str (pa_cons pe_str (pa_cons pe_str (pa_cons pe_str (pa_cons pe_str pa_nil))))))) (nomark _)) (pss_one (ps_ret pe_bl))
      pss_nil)
      (pss_cons (ps_for (passes_of rfl) rfl (pi_list (pe_lst (pa_cons pe_str (pa_cons pe_str (pa_cons pe_str (pa_cons pe_str pa_nil)))))) (pg_name (i := 6) nd rfl (Or.inr rfl))
      (pss_one (ps_if (PW.pt (pw_or (pt_cmpR op_ne (pe_fn F_law_asked (hr.mono (by decide)) (by rfl) (passD rfl rfl rfl rfl) (pa_cons pe_int (pa_cons (pv 6) pa_nil))) pe_str (nomark _)) (pw_or1 (pt_cmpR (op_neD hr.units) (pe_lc (own := [("kind", 9)]) (g := gName 9) (by rfl) nd (pi_list (pe_lst (pa_cons pe_int (pa_cons pe_int (pa_cons pe_int (pa_cons pe_int (pa_cons pe_int pa_nil))))))) (blkOk_by (own := [("kind", 9)]) (N := N_law) (sc := defScope s_law) (by decide +kernel)) (fun _ _ _ _ _ => (pg_name (i := 9) nd rfl (Or.inl rfl))) (fun _ _ _ _ _ => pts_nil) (fun _ _ _ _ _ => (pe_fn F_law_asked (hr.mono (by decide)) (by rfl) (passC rfl) (pa_cons (pv 9) (pa_cons (pv 6) pa_nil))))) (pe_op op_rep (pe_lst (pa_cons pe_str pa_nil)) pe_int) (nomark _))))) (pss_one (ps_ret pe_bl))
      pss_nil)))
      (pss_mid (ps_if (PW.pt (pw_or (pt_cmpR op_ne (pe_fn F_law_asked (hr.mono (by decide)) (by rfl) (passD rfl rfl rfl rfl) (pa_cons pe_int (pa_cons (pe_op op_catS (pe_op op_repS pe_str pe_int) pe_str) pa_nil))) pe_str (nomark _)) (pw_or1 (pt_cmpR op_ne (pe_fn F_law_asked (hr.mono (by decide)) (by rfl) (passD rfl rfl rfl rfl) (pa_cons pe_int (pa_cons (pe_op op_catS (pe_op op_catS pe_str (pe_op op_repS pe_str pe_int)) pe_str) pa_nil))) pe_str (nomark _))))) (pss_one (ps_ret pe_bl))
      pss_nil)
      (pss_cons (ps_set (i := 7) nd rfl (Or.inl rfl) (pe_fn F_law_pick (hr.mono (by decide)) (by rfl) (passD rfl rfl rfl rfl) (pa_cons (pv 1) (pa_cons (pe_lst (pa_cons pe_non (pa_cons pe_int (pa_cons pe_str (pa_cons pe_str (pa_cons (pe_lst (pa_cons pe_str pa_nil)) pa_nil)))))) pa_nil))))
      (pss_cons (ps_for (passes_of rfl) rfl (pi_list (pe_lst (pa_cons (pv 5) (pa_cons (pe_op op_cat (pv 3) (pe_lst (pa_cons (pv 7) pa_nil))) (pa_cons (pe_callTy call_tuple_of (by rfl) b_tuple (by decide +kernel) (pa_cons (pv 3) pa_nil)) (pa_cons pe_non (pa_cons pe_str (pa_cons (pe_op op_rep (pe_lst (pa_cons pe_str pa_nil)) pe_int) pa_nil)))))))) (pg_name (i := 6) nd rfl (Or.inr rfl))
      (pss_one (ps_if (pt_cmpR op_ne (pe_fn F_law_parts (hr.mono (by decide)) (by rfl) (passD rfl rfl rfl rfl) (pa_cons (pv 6) pa_nil)) pe_str (nomark _)) (pss_one (ps_ret pe_bl))
      pss_nil)))
      (pss_one (ps_ret (pe_and (pe_cmpR op_eq (pe_fn F_law_parts (hr.mono (by decide)) (by rfl) (passD rfl rfl rfl rfl) (pa_cons (pe_op op_rep (pe_lst (pa_cons pe_str pa_nil)) pe_int) pa_nil)) pe_str (nomark _)) (pe_one (pe_cmpR op_eq (pe_fn F_law_asked (hr.mono (by decide)) (by rfl) (passD rfl rfl rfl rfl) (pa_cons pe_int (pa_cons (pe_op op_catS (pe_op op_catS pe_str (pe_op op_repS pe_str pe_int)) pe_str) pa_nil))) pe_str (nomark _)))))))))))))))))), ?_⟩
  obtain ⟨a, ns, rfl, hs, hlen, k⟩ := h
  have big : (1000 : Nat) ≤ sizeLine := by decide
  have sl1 : (Str.ofString "/").length = 1 := sl_len
  walk_at "x"
  refine ⟨a, ns, rfl, hs, hlen, fun t c H1 ht0 hc0 e1 T1 => ?_⟩
  walk_at "x"
  refine pick_new (E := E0) T1 (by simp) (by show 9 < 1000; decide) fun bv H2 hbv T2 e2 => ?_
  obtain ⟨bad, rfl, hbad⟩ : ∃ bad, bv = .str bad ∧ bad ∈ bads := by
    have hbv : bv ∈ bads.map V.str := hbv
    obtain ⟨b, h1, h2⟩ := List.mem_map.mp hbv
    exact ⟨b, h2.symm, h1⟩
  obtain ⟨bad1, bad2, bad3⟩ := bads_ok bad hbad
  walk_at "x"
  refine ⟨t, c, 4, rfl, by decide, by decide, T2, fun r H3 r0 r1 T3 e3 => ?_⟩
  walk_at "x"
  refine x_lcRV (fun D i H' => Town H' t c ∧ ∃ ss : List Str, H' D = some (.lst (ss.map V.str)) ∧ ss.length = i ∧ ∀ s ∈ ss, s ∈ lnames) (by omega) ?_ ?_ ?_
  · intro D hD
    exact ⟨T3.ex (Ex.new hD), [], upd_same, rfl, fun _ h => nomatch h⟩
  · rintro D i H4 hD hi ⟨T4, ss, hD4, hl4, hs4⟩
    refine ⟨rfl, ?_⟩
    have nDt : D ≠ t := by obtain ⟨o, h⟩ := T3.t; exact (ne_of_none h hD).symm
    have nDc : D ≠ c := by obtain ⟨o, h⟩ := T3.c; exact (ne_of_none h hD).symm
    walk_at "x"
    refine ⟨t, c, rfl, T4, fun n1 H5 hn1 T5 e5 => ?_⟩
    refine ⟨_, e5.at hD4 nDt nDc, by rw [List.length_map]; exact small1000 (by omega), ?_, ss ++ [n1], ?_, ?_, ?_⟩
    · exact T5.off (S := [D]) (Off.put Off.rfl (by simp)) (by simp [nDt.symm]) (by simp [nDc.symm])
    · rw [upd_same, List.map_append]
      rfl
    · rw [List.length_append, hl4]
      rfl
    · intro z hz
      rcases List.mem_append.mp hz with y | y
      · exact hs4 z y
      · rw [List.mem_singleton.mp y]
        exact hn1
  rintro p H4 hp ⟨T4, ps, hp4, hpl, hps⟩
  have hpl3 : ps.length ≤ 3 := by omega
  have npt : p ≠ t := by obtain ⟨o, h⟩ := T3.t; exact (ne_of_none h hp).symm
  have npc : p ≠ c := by obtain ⟨o, h⟩ := T3.c; exact (ne_of_none h hp).symm
  walk_at "x"
  refine x_lenL (SqL.of hp4) ?_
  walk_at "x"
  refine ⟨t, c, _, rfl, by rw [List.length_map]; omega, by rw [List.length_map]; omega, T4, fun at_ H5 at0 at1 T5 e5 => ?_⟩
  rw [List.length_map] at at1
  have hp5 := e5.at hp4 npt npc
  walk_at "x"
  refine x_slE (SqL.of hp5) fun l1 H6 hl1 e6 h6 => ?_
  rw [cut_to at0, ← List.map_take] at h6
  walk_at "x"
  refine x_newL fun l2 H7 hl2 e7 h7 => ?_
  walk_at "x"
  refine x_cat (e7 _ _ h6) h7 (by simp; omega) fun l3 H8 hl3 e8 h8 => ?_
  walk_at "x"
  have e58 : Ex H5 H8 := (e6.tr e7).tr e8
  refine x_slE (SqL.of (e58 _ _ hp5)) fun l4 H9 hl4 e9 h9 => ?_
  rw [cut_from at0, ← List.map_drop] at h9
  walk_at "x"
  refine x_cat (e9 _ _ h8) h9 (by simp; omega) fun w0 H10 hw0 e10 h10 => ?_
  obtain ⟨ws, hws⟩ : ∃ ws, ws = ps.take at_.toNat ++ [bad] ++ ps.drop at_.toNat := ⟨_, rfl⟩
  replace h10 : H10 w0 = some (.lst (ws.map V.str)) := by
    rw [h10, hws]
    simp
  have e510 : Ex H5 H10 := (e58.tr e9).tr e10
  have hp10 := e510 _ _ hp5
  have T10 : Town H10 t c := T5.ex e510
  have wlen : ws.length = ps.length + 1 := by
    rw [hws]
    simp
    omega
  have wbad : bad ∈ ws := by
    rw [hws]
    simp
  have wsub : ∀ z ∈ ws, z = bad ∨ z ∈ ps := by
    intro z hz
    rw [hws] at hz
    simp only [List.mem_append, List.mem_singleton] at hz
    rcases hz with (hz | hz) | hz
    · exact .inr (List.mem_of_mem_take hz)
    · exact .inl hz
    · exact .inr (List.mem_of_mem_drop hz)
  have w9 : ∀ z ∈ ws, z.length ≤ 9 ∧ 47 ∉ cs z := fun z hz => by
    rcases wsub z hz with rfl | hz
    · exact ⟨bad3, bad2⟩
    · have := part_facts (part_name (lname_ok (hps z hz)))
      exact ⟨by have := this.2.2; omega, this.2.1⟩
  have wsum := sum_nine ws fun z hz => (w9 z hz).1
  have wj : (Txt.join sl ws).length ≤ 60 := by
    have e : Txt.join sl ws = Str.join sl ws := TL.join_eq sl ws
    have := StrLaws.join_length_le sl ws
    rw [← e, sl_len] at this
    omega
  walk_at "x"
  refine x_gen (fun v H' => ∃ s, v = .str s ∧ s.length ≤ 100 ∧ H10 = H' ∧ Refused s) (fun R hR => x_ifC ?_) ?_
  · have sl1' : (Str.ofString "/").length = 1 := sl_len
    walk_at "x"
    refine x_ifn (fun h1 => ?_) (fun h1 => ?_)
    · refine iteT ?_
      walk_at "x"
      refine ⟨sl, w0, ws, rfl, rfl, .inl (SqL.of h10), by rw [sl_len]; omega, ?_⟩
      refine x_catS (by rw [sl_len]; omega) ?_
      refine hR _ _ ⟨pathOf ws, rfl, ?_, rfl, bads_path hbad wbad (fun z hz => (w9 z hz).2) fun z => ?_⟩
      · unfold pathOf
        rw [Str.length_append, sl_len]
        omega
      · rw [z] at wbad
        exact h1 (by rw [List.mem_singleton.mp wbad])
    · walk_at "x"
      refine x_lenL (SqL.of h10) ?_
      walk_at "x"
      refine x_ifd (fun h2 => ?_) (fun h2 => ?_)
      · walk_at "x"
        refine ⟨sl, w0, ws, rfl, rfl, .inl (SqL.of h10), by rw [sl_len]; omega, ?_⟩
        refine x_catS (by rw [sl_len]; omega) ?_
        refine hR _ _ ⟨pathOf ws, rfl, ?_, rfl, bads_path hbad wbad (fun z hz => (w9 z hz).2) fun z => ?_⟩
        · unfold pathOf
          rw [Str.length_append, sl_len]
          omega
        · rw [z] at h2
          simp at h2
      · walk_at "x"
        exact hR _ _ ⟨_, rfl, by decide +kernel, rfl, refused_lits.1⟩
  rintro v H' ⟨s1, rfl, hs1, rfl, rf1⟩
  walk_at "x"
  refine x_repS (by decide) (by decide +kernel) ?_
  walk_at "x"
  refine x_catS (by decide +kernel) ?_
  walk_at "x"
  refine x_catS (by decide +kernel) ?_
  walk_at "x"
  refine x_newL fun l5 H11 hl5 e11 h11 => ?_
  walk_at "x"
  refine x_forLV (fun i σ' H' => ∃ x : Option V, σ' = [some (.ref a), some (.ref t), some (.str bad), some (.ref p), some (.int at_), some (.ref w0), x, none, none, none] ∧ Ex H11 H') (SqL.of h11) ⟨none, rfl, Ex.rfl⟩ (fun i σ' H' _ ⟨_, _, e⟩ => SqL.of (e _ _ h11)) ?_ ?_
  · rintro i x σ' H12 hx ⟨x0, rfl, e12⟩
    obtain ⟨s2, rfl, hs2, rf2⟩ : ∃ s2, x = .str s2 ∧ s2.length ≤ 1000 ∧ Refused s2 := by
      have hm := List.mem_of_getElem? hx
      simp only [List.mem_cons, List.not_mem_nil, or_false] at hm
      obtain ⟨r1, r2, r3, r4⟩ := refused_lits
      rcases hm with rfl | rfl | rfl | rfl
      · exact ⟨_, rfl, by omega, rf1⟩
      · exact ⟨_, rfl, by decide +kernel, r2⟩
      · exact ⟨_, rfl, by decide +kernel, r1⟩
      · exact ⟨_, rfl, by decide +kernel, r4⟩
    walk_at "x"
    refine lc_asked (v := .str s2) (fun _ _ R q => x_var rfl q) (fun _ => rfl) (fun _ => rfl) (textOk_lit hs2) (by decide) fun D H13 hD e13 h13 => ?_
    walk_at "x"
    refine x_newL fun l6 H14 hl6 e14 h14 => ?_
    walk_at "x"
    refine x_repE h14 (by decide) (by simp) fun l7 H15 hl7 e15 h15 => ?_
    refine x_neS (e15 _ _ (e14 _ _ h13)) (ys := List.replicate 6 "path") h15 (all_path (fun k => rf2.path k) 6) (by decide +kernel) ?_
    walk_at "x"
    refine iteF ?_
    walk_at "x"
    exact ⟨_, rfl, ((e12.tr e13).tr e14).tr e15⟩
  rintro σ' H12 ⟨x0, rfl, e12⟩
  walk_at "x"
  refine x_newL fun q1 H13 hq1 e13 h13 => ?_
  walk_at "x"
  refine x_dnewK fun q2 H14 hq2 e14 h14 => ?_
  walk_at "x"
  refine x_newT fun q3 H15 hq3 e15 h15 => ?_
  walk_at "x"
  refine x_newL fun q4 H16 hq4 e16 h16 => ?_
  walk_at "x"
  refine x_forLV (fun i σ' H' => ∃ x : Option V, σ' = [some (.ref a), some (.ref t), some (.str bad), some (.ref p), some (.int at_), some (.ref w0), x, none, none, none] ∧ Ex H16 H') (SqL.of h16) ⟨_, rfl, Ex.rfl⟩ (fun i σ' H' _ ⟨_, _, e⟩ => SqL.of (e _ _ h16)) ?_ ?_
  · rintro i x σ' H17 hx ⟨x0', rfl, e17⟩
    obtain ⟨tx, px⟩ : TextOk K H17 x ∧ ∀ k : Int, askedV k x = "path" := by
      have hm := List.mem_of_getElem? hx
      simp only [List.mem_cons, List.not_mem_nil, or_false] at hm
      obtain ⟨r1, r2, r3, r4⟩ := refused_lits
      have u1 := e17 _ _ (e16 _ _ (e15 _ _ (e14 _ _ h13)))
      have u2 := e17 _ _ (e16 _ _ (e15 _ _ h14))
      have u3 := e17 _ _ (e16 _ _ h15)
      rcases hm with rfl | rfl | rfl | rfl | rfl | rfl | rfl
      · exact ⟨.inr ⟨_, .base .non, kit_ty (by decide +kernel)⟩, fun _ => rfl⟩
      · exact ⟨.inr ⟨_, .base (.int 5), kit_ty (by decide +kernel)⟩, fun _ => rfl⟩
      · exact ⟨.inr ⟨_, .base (.lst u1), kit_ty (by decide +kernel)⟩, fun _ => rfl⟩
      · exact ⟨.inr ⟨_, .base (.bl true), kit_ty (by decide +kernel)⟩, fun _ => rfl⟩
      · exact ⟨.inr ⟨_, .base (.dK u2), kit_ty (by decide +kernel)⟩, fun _ => rfl⟩
      · exact ⟨.inr ⟨_, .base (.tup u3), kit_ty (by decide +kernel)⟩, fun _ => rfl⟩
      · exact ⟨textOk_lit (by decide +kernel), r3.path⟩
    walk_at "x"
    refine lc_asked (v := x) (fun _ _ R q => x_var rfl q) (fun _ => rfl) (fun _ => rfl) tx (by decide) fun D H18 hD e18 h18 => ?_
    walk_at "x"
    refine x_newL fun l6 H19 hl6 e19 h19 => ?_
    walk_at "x"
    refine x_repE h19 (by decide) (by simp) fun l7 H20 hl7 e20 h20 => ?_
    refine x_neS (e20 _ _ (e19 _ _ h18)) (ys := List.replicate 6 "path") h20 (all_path px 6) (by decide +kernel) ?_
    walk_at "x"
    refine iteF ?_
    walk_at "x"
    exact ⟨_, rfl, ((e17.tr e18).tr e19).tr e20⟩
  rintro σ' H17 ⟨x1, rfl, e17⟩
  dsimp only
  refine x_cutE (fun _ => True) ?_ (fun H21 e21 _ => ?_)
  · walk_at "x"
    refine lc_asked (v := .str "a/b") (fun _ _ R q => q) (fun _ => rfl) (fun _ => rfl) (textOk_lit (by decide +kernel)) (by decide) fun D H18 hD e18 h18 => ?_
    walk_at "x"
    refine x_newL fun l6 H19 hl6 e19 h19 => ?_
    refine x_neS (e19 _ _ h18) (ys := ["path", "told", "path", "path", "path", "told"]) h19 told_ab (by decide +kernel) ?_
    walk_at "x"
    refine iteF ?_
    walk_at "x"
    exact ⟨rfl, e18.tr e19, trivial⟩
  walk_at "x"
  refine x_newL fun q5 H22 hq5 e22 h22 => ?_
  walk_at "x"
  refine x_forLV (fun i σ' H' => ∃ x : Option V, σ' = [some (.ref a), some (.ref t), some (.str bad), some (.ref p), some (.int at_), some (.ref w0), x, none, none, none] ∧ Ex H22 H') (SqL.of h22) ⟨_, rfl, Ex.rfl⟩ (fun i σ' H' _ ⟨_, _, e⟩ => SqL.of (e _ _ h22)) ?_ ?_
  · rintro i x σ' H23 hx ⟨x0', rfl, e23⟩
    obtain ⟨s2, rfl, hs2, b3, bt⟩ : ∃ s2, x = .str s2 ∧ s2.length ≤ 1000 ∧ askedV 3 (.str s2) = "path" ∧ ([0, 1, 2, 4, 5].map fun k => askedV k (.str s2)) = List.replicate 5 ("told" : Str) := by
      have hm := List.mem_of_getElem? hx
      simp only [List.mem_cons, List.not_mem_nil, or_false] at hm
      rcases hm with rfl | rfl | rfl | rfl
      · exact ⟨_, rfl, by decide +kernel, by decide +kernel, by decide +kernel⟩
      · exact ⟨_, rfl, by decide +kernel, by decide +kernel, by decide +kernel⟩
      · exact ⟨_, rfl, by decide +kernel, by decide +kernel, by decide +kernel⟩
      · exact ⟨_, rfl, by decide +kernel, by decide +kernel, by decide +kernel⟩
    walk_at "x"
    refine ⟨3, _, rfl, textOk_lit hs2, fun H24 e24 => ?_⟩
    rw [b3]
    walk_at "x"
    refine iteNS rfl ?_
    walk_at "x"
    refine x_newL fun l8 H25 hl8 e25 h25 => ?_
    walk_at "x"
    refine x_lcLV (SqL.of h25) ⟨fun _ => rfl, by simp, fun _ => true, fun v => match v with | .int k => .str (askedV k (.str s2)) | _ => .non, fun x hx H' e R k => k H' Ex.rfl, fun x hx _ H' e R k => ?_, fun D H26 hD e26 h26 => ?_⟩
    · obtain ⟨kk, rfl⟩ : ∃ kk : Int, x = .int kk := by
        simp only [List.mem_cons, List.not_mem_nil, or_false] at hx
        rcases hx with rfl | rfl | rfl | rfl | rfl <;> exact ⟨_, rfl⟩
      walk_at "x"
      exact ⟨kk, _, rfl, textOk_lit hs2, fun H' e => k H' e⟩
    replace h26 : H26 D = some (.lst (([0, 1, 2, 4, 5].map fun k => askedV k (.str s2)).map V.str)) := h26
    walk_at "x"
    refine x_newL fun l6 H27 hl6 e27 h27 => ?_
    walk_at "x"
    refine x_repE h27 (by decide) (by simp) fun l7 H28 hl7 e28 h28 => ?_
    refine x_neS (e28 _ _ (e27 _ _ h26)) (ys := List.replicate 5 "told") h28 bt (by decide +kernel) ?_
    walk_at "x"
    refine iteF ?_
    walk_at "x"
    exact ⟨_, rfl, ((((e23.tr e24).tr e25).tr e26).tr e27).tr e28⟩
  rintro σ' H29 ⟨x2, rfl, e29⟩
  have w11 : askedV 5 (.str (repS "a/" (Int.toNat 11) ++ Str.ofString "a")) = "path" ∧ askedV 5 (.str (Str.ofString "/" ++ repS "a/" (Int.toNat 11) ++ Str.ofString "a")) = "told" ∧ askedV 0 (.str (Str.ofString "/" ++ repS "a/" (Int.toNat 11) ++ Str.ofString "a")) = "told" := by decide +kernel
  dsimp only
  refine x_cutE (fun _ => True) ?_ (fun H30 e30 _ => ?_)
  · walk_at "x"
    refine x_repS (by decide) (by decide +kernel) ?_
    walk_at "x"
    refine x_catS (by decide +kernel) ?_
    walk_at "x"
    refine ⟨5, _, rfl, textOk_lit (by decide +kernel), fun H31 e31 => ?_⟩
    rw [w11.1]
    walk_at "x"
    refine iteNS rfl ?_
    walk_at "x"
    refine x_repS (by decide) (by decide +kernel) ?_
    walk_at "x"
    refine x_catS (by decide +kernel) ?_
    walk_at "x"
    refine x_catS (by decide +kernel) ?_
    walk_at "x"
    refine ⟨5, _, rfl, textOk_lit (by decide +kernel), fun H32 e32 => ?_⟩
    rw [w11.2.1]
    walk_at "x"
    refine iteNS rfl ?_
    walk_at "x"
    exact ⟨rfl, e31.tr e32, trivial⟩
  have E30 : Ex H10 H30 := ((((((((e11.tr e12).tr e13).tr e14).tr e15).tr e16).tr e17).tr e21).tr e22).tr (e29.tr e30)
  have T30 := T10.ex E30
  walk_at "x"
  refine x_newL fun oa H31 hoa e31 h31 => ?_
  walk_at "x"
  refine pick_new (E := E0) (T30.ex e31) (by simp) (by show 5 < 1000; decide) fun ov H32 hov T32 e32 => ?_
  have e32a : ∀ {z : Addr} {o : HO}, H30 z = some o → z ≠ t → z ≠ c → H32 z = some o := fun h h1 h2 => e32.at (e31 _ _ h) h1 h2
  have w32 : H32 w0 = some (.lst (ws.map V.str)) := e32a (E30 _ _ h10) (by obtain ⟨o, h⟩ := T5.t; exact (ne_of_none (((e58.tr e9) _ _ h)) hw0).symm) (by obtain ⟨o, h⟩ := T5.c; exact (ne_of_none (((e58.tr e9) _ _ h)) hw0).symm)
  have p32 : H32 p = some (.lst (ps.map V.str)) := e32a (E30 _ _ hp10) npt npc
  have o32 : H32 oa = some (.lst [.str "a"]) := e32.at h31 (by obtain ⟨o, h⟩ := T30.t; exact (ne_of_none h hoa).symm) (by obtain ⟨o, h⟩ := T30.c; exact (ne_of_none h hoa).symm)
  obtain ⟨ov1, ov2⟩ : PartOk K H32 ov ∧ partV ov = false := by
    simp only [List.mem_cons, List.not_mem_nil, or_false] at hov
    rcases hov with rfl | rfl | rfl | rfl | rfl
    · exact ⟨.inr (.inl ⟨⟨_, .base .non, kit_ty (by decide +kernel)⟩, rfl, rfl⟩), rfl⟩
    · exact ⟨.inr (.inl ⟨⟨_, .base (.int 5), kit_ty (by decide +kernel)⟩, rfl, rfl⟩), rfl⟩
    · exact ⟨.inl ⟨_, rfl, by decide +kernel⟩, by decide +kernel⟩
    · exact ⟨.inl ⟨_, rfl, by decide +kernel⟩, by decide +kernel⟩
    · exact ⟨.inr (.inr ⟨oa, _, rfl, o32⟩), rfl⟩
  walk_at "x"
  refine x_newL fun u1 H33 hu1 e33 h33 => ?_
  walk_at "x"
  refine x_cat (e33 _ _ p32) h33 (by simp; omega) fun u2 H34 hu2 e34 h34 => ?_
  walk_at "x"
  have e324 := e33.tr e34
  refine ⟨p, _, rfl, .inl ⟨SqL.of (e324 _ _ p32), fun u3 hu3 => ?_⟩⟩
  have e35 : Ex H34 (upd H34 u3 (.tup (ps.map V.str))) := Ex.new hu3
  have h35 : upd H34 u3 (.tup (ps.map V.str)) u3 = some (.tup (ps.map V.str)) := upd_same
  generalize upd H34 u3 (.tup (ps.map V.str)) = H35 at e35 h35 ⊢
  walk_at "x"
  refine x_newL fun u4 H36 hu4 e36 h36 => ?_
  walk_at "x"
  refine x_repE h36 (by decide) (by simp) fun u5 H37 hu5 e37 h37 => ?_
  walk_at "x"
  refine x_newL fun u6 H38 hu6 e38 h38 => ?_
  walk_at "x"
  have E38 : Ex H34 H38 := ((e35.tr e36).tr e37).tr e38
  refine x_forLV (fun i σ' H' => ∃ x : Option V, σ' = [some (.ref a), some (.ref t), some (.str bad), some (.ref p), some (.int at_), some (.ref w0), x, some ov, none, none] ∧ Ex H38 H') (SqL.of h38) ⟨_, rfl, Ex.rfl⟩ (fun i σ' H' _ ⟨_, _, e⟩ => SqL.of (e _ _ h38)) ?_ ?_
  · rintro i x σ' H39 hx ⟨x0', rfl, e39⟩
    have key : ∀ (l : Addr) (xs : List V), H39 l = some (.lst xs) → xs.length ≤ 100 → (∀ z ∈ xs, PartOk K H39 z) → goodVs xs = false → (∃ a xs, V.ref l = .ref a ∧ H39 a = some (.lst xs) ∧ xs.length ≤ 100000 ∧ ∀ x ∈ xs, PartOk K H39 x) ∧ partsV H39 (.ref l) = "path" := fun l xs h1 h2 h3 h4 => by
      refine ⟨⟨l, xs, rfl, h1, by omega, h3⟩, ?_⟩
      unfold partsV
      simp [h1, h4]
    have sp : ∀ {z : Str}, z.length ≤ 1000 → PartOk K H39 (.str z) := fun h => .inl ⟨_, rfl, by omega⟩
    have pnm : ∀ z ∈ ps, z.length ≤ 1000 := fun z hz => by
      have := (part_facts (part_name (lname_ok (hps z hz)))).2.2
      omega
    obtain ⟨tx, px⟩ : ((∃ a xs, x = .ref a ∧ H39 a = some (.lst xs) ∧ xs.length ≤ 100000 ∧ ∀ x ∈ xs, PartOk K H39 x) ∨ (Kind K H39 x "list" false ∧ partsV H39 x = "path")) ∧ partsV H39 x = "path" := by
      have hm := List.mem_of_getElem? hx
      simp only [List.mem_cons, List.not_mem_nil, or_false] at hm
      rcases hm with rfl | rfl | rfl | rfl | rfl | rfl
      · obtain ⟨h1, h2⟩ := key w0 _ (e39 _ _ (E38 _ _ (e324 _ _ w32))) (by simp; omega) (fun z hz => by
          obtain ⟨y, hy, rfl⟩ := List.mem_map.mp hz
          exact sp (by have := (w9 y hy).1; omega)) (by
          unfold goodVs
          rw [Bool.and_eq_false_iff]
          refine .inr (List.all_eq_false.mpr ⟨_, List.mem_map.mpr ⟨bad, wbad, rfl⟩, ?_⟩)
          show ¬ isPart bad = true
          rw [bad1]
          decide)
        exact ⟨.inl h1, h2⟩
      · obtain ⟨h1, h2⟩ := key u2 _ (e39 _ _ (E38 _ _ h34)) (by simp; omega) (fun z hz => by
          rcases List.mem_append.mp hz with hz | hz
          · obtain ⟨y, hy, rfl⟩ := List.mem_map.mp hz
            exact sp (pnm y hy)
          · rw [List.mem_singleton.mp hz]
            exact ov1.ex (e324.tr (E38.tr e39))) (by
          unfold goodVs
          rw [Bool.and_eq_false_iff]
          refine .inr (List.all_eq_false.mpr ⟨ov, by simp, ?_⟩)
          rw [ov2]
          decide)
        exact ⟨.inl h1, h2⟩
      · have h5 := e39 _ _ (e38 _ _ (e37 _ _ (e36 _ _ h35)))
        have h6 : partsV H39 (.ref u3) = "path" := by
          unfold partsV
          simp [h5]
        exact ⟨.inr ⟨⟨_, .base (.tup h5), kit_ty (by decide +kernel)⟩, h6⟩, h6⟩
      · exact ⟨.inr ⟨⟨_, .base .non, kit_ty (by decide +kernel)⟩, rfl⟩, rfl⟩
      · exact ⟨.inr ⟨⟨_, .base (.str _), kit_ty (by decide +kernel)⟩, rfl⟩, rfl⟩
      · obtain ⟨h1, h2⟩ := key u5 _ (e39 _ _ (e38 _ _ h37)) (by decide +kernel) (fun z hz => by
          have hz : z ∈ List.replicate 13 (V.str "a") := hz
          rw [List.eq_of_mem_replicate hz]
          exact sp (by decide +kernel)) (by decide +kernel)
        exact ⟨.inl h1, h2⟩
    walk_at "x"
    refine ⟨x, rfl, tx, fun H40 e40 => ?_⟩
    rw [px]
    walk_at "x"
    refine iteF ?_
    walk_at "x"
    exact ⟨_, rfl, e39.tr e40⟩
  rintro σ' H39 ⟨x3, rfl, e39⟩
  walk_at "x"
  refine x_newL fun u7 H40 hu7 e40 h40 => ?_
  walk_at "x"
  refine x_repE h40 (by decide) (by simp) fun u8 H41 hu8 e41 h41 => ?_
  walk_at "x"
  refine ⟨_, rfl, .inl ⟨u8, _, rfl, h41, by decide +kernel, fun z hz => ?_⟩, fun H42 e42 => ?_⟩
  · have hz : z ∈ List.replicate 12 (V.str "a") := hz
    rw [List.eq_of_mem_replicate hz]
    exact .inl ⟨_, rfl, by decide +kernel⟩
  have pv : partsV H41 (.ref u8) = "told" := by
    have g : goodVs (List.replicate (Int.toNat 12) [V.str (Str.ofString "a")]).flatten = true := by decide +kernel
    unfold partsV
    simp only [h41]
    rw [if_pos g]
  rw [pv]
  walk_at "x"
  refine iteT ?_
  walk_at "x"
  refine x_repS (by decide) (by decide +kernel) ?_
  walk_at "x"
  refine x_catS (by decide +kernel) ?_
  walk_at "x"
  refine x_catS (by decide +kernel) ?_
  walk_at "x"
  refine ⟨0, _, rfl, textOk_lit (by decide +kernel), fun H43 e43 => ?_⟩
  rw [w11.2.2]
  walk_at "x"
  exact k _
def d_is_name : He.DefD := ⟨("is_name", none), "is_name", "is_name", defArgs s_is_name, defBody s_is_name, defScope s_is_name, [], []⟩
def d_is_part : He.DefD := ⟨("is_part", none), "is_part", "is_part", defArgs s_is_part, defBody s_is_part, defScope s_is_part, [], []⟩
def d_parts_of : He.DefD := ⟨("parts_of", none), "parts_of", "parts_of", defArgs s_parts_of, defBody s_parts_of, defScope s_parts_of, [.bl true], []⟩
def d_path_of : He.DefD := ⟨("path_of", none), "path_of", "path_of", defArgs s_path_of, defBody s_path_of, defScope s_path_of, [], []⟩
def d_joined : He.DefD := ⟨("joined", none), "joined", "joined", defArgs s_joined, defBody s_joined, defScope s_joined, [], []⟩
def d_plain_path : He.DefD := ⟨("plain_path", none), "plain_path", "plain_path", defArgs s_plain_path, defBody s_plain_path, defScope s_plain_path, [], []⟩
def d_split_last : He.DefD := ⟨("split_last", none), "split_last", "split_last", defArgs s_split_last, defBody s_split_last, defScope s_split_last, [], []⟩
def d_law_did : He.DefD := ⟨("_law_did", none), "_law_did", "_law_did", defArgs s_law_did, defBody s_law_did, defScope s_law_did, [], []⟩
def d_law_refusal : He.DefD := ⟨("_law_refusal", none), "_law_refusal", "_law_refusal", defArgs s_law_refusal, defBody s_law_refusal, defScope s_law_refusal, [], []⟩
def d_law_asked : He.DefD := ⟨("_law_asked", none), "_law_asked", "_law_asked", defArgs s_law_asked, defBody s_law_asked, defScope s_law_asked, [], []⟩
def d_law_draw : He.DefD := ⟨("_law_draw", none), "_law_draw", "_law_draw", defArgs s_law_draw, defBody s_law_draw, defScope s_law_draw, [], []⟩
def d_law_pick : He.DefD := ⟨("_law_pick", none), "_law_pick", "_law_pick", defArgs s_law_pick, defBody s_law_pick, defScope s_law_pick, [], []⟩
def d_law_name : He.DefD := ⟨("_law_name", none), "_law_name", "_law_name", defArgs s_law_name, defBody s_law_name, defScope s_law_name, [], []⟩
def d_law_parts : He.DefD := ⟨("_law_parts", none), "_law_parts", "_law_parts", defArgs s_law_parts, defBody s_law_parts, defScope s_law_parts, [], []⟩
def d_law_town : He.DefD := ⟨("_law_town", none), "_law_town", "_law_town", defArgs s_law_town, defBody s_law_town, defScope s_law_town, [], []⟩
def d_law : He.DefD := ⟨("law", none), "law", "law", defArgs s_law, defBody s_law, defScope s_law, [], []⟩
def fn0 : List He.DefD := [d_is_name, d_is_part, d_parts_of, d_path_of, d_joined, d_plain_path, d_split_last, d_law_did, d_law_refusal, d_law_asked, d_law_draw, d_law_pick, d_law_name, d_law_parts, d_law_town, d_law]
def fn : List He.DefD := fn0
def fa0 : List He.Fa := [.free "isinstance", .free "str", .free "len", .int "MOST_NAME" 8, .free "all", .str "SIGNS" "abcdefghijklmnopqrstuvwxyz0123456789", .glo "is_name", .str "ABOVE" "..", .str "HERE" ".", .glo "is_part", .glo "BadPath", .exc "BadPath", .int "MOST_PARTS" 12, .glo "parts_of", .free "list", .glo "path_of", .glo "joined", .glo "plain_path", .glo "split_last", .glo "_law_did"]
def fa1 : List He.Fa := [.glo "BadText", .glo "BadRights", .glo "NoUser", .glo "NoRight", .glo "NoName", .glo "NotRoom", .glo "NotLeaf", .glo "NotHint", .glo "Taken", .glo "TooDeep", .glo "Busy", .glo "BadMove", .glo "WorldError", .free "ValueError", .glo "_law_refusal", .glo "_law_asked", .glo "_law_draw", .glo "_law_pick", .glo "_law_name", .glo "_law_parts"]
def fa2 : List He.Fa := [.glo "_law_town", .free "range", .free "tuple", .glo "law"]
def fa : List He.Fa := fa0 ++ fa1 ++ fa2
def names0 : List PySem.Str := ["WorldError", "BadPath", "BadText", "BadRights", "NoUser", "NoRight", "NoName", "NotRoom", "NotLeaf", "NotHint", "Taken", "TooDeep", "Busy", "BadMove", "MOST_PARTS", "MOST_NAME", "SIGNS", "HERE", "ABOVE", "is_name"]
def names1 : List PySem.Str := ["is_part", "parts_of", "path_of", "plain_path", "joined", "split_last", "_law_town", "_law_draw", "_law_pick", "_law_refusal", "_law_name", "_law_did", "_law_asked", "_law_parts"]
def names : List PySem.Str := names0 ++ names1
theorem rz_of {K : PySem.W.Frag} {h : Heap} {mg : Str → Option Value} (X : K.In h) (G : h.Ns mainGlobals mg) {x : Str} (c1 : (He.Fa.glo x).ok K = true) (c2 : (He.Fa.exc x).ok K = true) : Rz K mg x (He.ga K x) := by
  obtain ⟨h1, h2, h3, h4⟩ := He.exc_ok c2
  exact ⟨He.glo_ok X G c1, h1, h2, h3, h4⟩
def more (K : PySem.W.Frag) : Bool := errB K
abbrev R : PySem.W.OpenRow := PySem.W.OpenLaw.row PySem.Challenge.rw_treemounts_k02_paths_refused
abbrev hk : PySem.W.Hook := hookE 4 fa fn more
def ob (s : PySem.W.SharedT) : AlE := obsEG 4 fa fn more (HandSHeadRun.getT s)
theorem ob_eq (s : PySem.W.SharedT) : ob s = hk.obs s.abs := obsEG_eq (HandSHeadRun.getT_eq s)
theorem run (w : World) : HandSHeadRun.RunEq R (PySem.W.view R.prog [37]) hk ob 20000 names w := by
  intro os
  kernel_rfl
theorem facts {P : Program} {w : World} {K : PySem.W.Frag} {h : Heap} {mg : Str → Option Value} {f : Addr} (X : K.In h) (G : h.Ns mainGlobals mg) (hfa : mg ("law" : Str) = some (.ref f)) (c : He.SaysD fa fn K) (more_ok : more K = true) :
    ∃ fd : FuncData, (∀ (s : Shared) (v : Value), BindsTo s fd ⟨[v], []⟩ [("script", v)]) ∧ ∀ base : Heap, FnOk P w K mg base (L2.CX P w) 7 f fd ["script"] (sp_law K) := by
  have EK : ErrK K := errB_ok more_ok
  obtain ⟨fd_is_name, D_is_name⟩ := c.def_ 0 (d := d_is_name) rfl
  obtain ⟨fd_is_part, D_is_part⟩ := c.def_ 1 (d := d_is_part) rfl
  obtain ⟨fd_parts_of, D_parts_of⟩ := c.def_ 2 (d := d_parts_of) rfl
  obtain ⟨fd_path_of, D_path_of⟩ := c.def_ 3 (d := d_path_of) rfl
  obtain ⟨fd_joined, D_joined⟩ := c.def_ 4 (d := d_joined) rfl
  obtain ⟨fd_plain_path, D_plain_path⟩ := c.def_ 5 (d := d_plain_path) rfl
  obtain ⟨fd_split_last, D_split_last⟩ := c.def_ 6 (d := d_split_last) rfl
  obtain ⟨fd_law_did, D_law_did⟩ := c.def_ 7 (d := d_law_did) rfl
  obtain ⟨fd_law_refusal, D_law_refusal⟩ := c.def_ 8 (d := d_law_refusal) rfl
  obtain ⟨fd_law_asked, D_law_asked⟩ := c.def_ 9 (d := d_law_asked) rfl
  obtain ⟨fd_law_draw, D_law_draw⟩ := c.def_ 10 (d := d_law_draw) rfl
  obtain ⟨fd_law_pick, D_law_pick⟩ := c.def_ 11 (d := d_law_pick) rfl
  obtain ⟨fd_law_name, D_law_name⟩ := c.def_ 12 (d := d_law_name) rfl
  obtain ⟨fd_law_parts, D_law_parts⟩ := c.def_ 13 (d := d_law_parts) rfl
  obtain ⟨fd_law_town, D_law_town⟩ := c.def_ 14 (d := d_law_town) rfl
  obtain ⟨fd_law, D_law⟩ := c.def_ 15 (d := d_law) rfl
  have e := hfa.symm.trans (He.glo_ok X G (c.fact 43 rfl))
  cases e
  refine ⟨fd_law, fun s v => FunD.bindsA (ps := ["script"]) D_law (fun _ _ _ _ _ _ us hl => match us, hl with | [_], _ => rfl) s [v] rfl, fun base => ?_⟩
  have K_is_name := ok_is_name (P := P) (w := w) (mg := mg) (base := base) D_is_name (b_isinstance := (He.free_ok X G (c.fact 0 rfl))) (b_str := (He.free_ok X G (c.fact 1 rfl))) (b_len := (He.free_ok X G (c.fact 2 rfl))) (c_MOST_NAME := (He.int_ok X G (c.fact 3 rfl))) (b_all := (He.free_ok X G (c.fact 4 rfl))) (c_SIGNS := (He.str_ok X G (c.fact 5 rfl)))
  have F_is_name : Fn P w K mg base 1 "is_name" ["thing"] (sp_is_name K) := ⟨⟨_, fd_is_name, (He.glo_ok X G (c.fact 6 rfl)), K_is_name, D_is_name.bindsN fun _ _ _ _ _ _ us hl => match us, hl with | [_], _ => rfl, D_is_name.kp⟩⟩
  have K_is_part := ok_is_part (P := P) (w := w) (mg := mg) (base := base) D_is_part (c_ABOVE := (He.str_ok X G (c.fact 7 rfl))) (c_HERE := (He.str_ok X G (c.fact 8 rfl))) (F_is_name := F_is_name)
  have F_is_part : Fn P w K mg base 2 "is_part" ["thing"] (sp_is_part K) := ⟨⟨_, fd_is_part, (He.glo_ok X G (c.fact 9 rfl)), K_is_part, D_is_part.bindsN fun _ _ _ _ _ _ us hl => match us, hl with | [_], _ => rfl, D_is_part.kp⟩⟩
  have K_parts_of := ok_parts_of (P := P) (w := w) (mg := mg) (base := base) D_parts_of (b_isinstance := (He.free_ok X G (c.fact 0 rfl))) (b_str := (He.free_ok X G (c.fact 1 rfl))) (R_BadPath := (rz_of X G (c.fact 10 rfl) (c.fact 11 rfl))) (b_len := (He.free_ok X G (c.fact 2 rfl))) (c_MOST_PARTS := (He.int_ok X G (c.fact 12 rfl))) (b_all := (He.free_ok X G (c.fact 4 rfl))) (F_is_part := F_is_part)
  have F_parts_ofD : FnD P w K mg base 3 "parts_of" ["path", "from_top"] [.bl true] (sp_parts_of K) := by
    obtain ⟨ds, hv, hb⟩ := D_parts_of.binds1 (ps := ["path", "from_top"]) 1 0 (by simp [He.DefD.dvs, d_parts_of]) (by rfl) (fun T kV doc pm an cdv ct us its hu hi => match us, its, hu, hi with | [_], [_], _, _ => ⟨_, rfl, rfl⟩)
    exact ⟨⟨_, fd_parts_of, ds, (He.glo_ok X G (c.fact 13 rfl)), K_parts_of, hb, hv, D_parts_of.kp⟩⟩
  have F_parts_ofK : FnK P w K mg base 3 "parts_of" ["path", "from_top"] 1 ["from_top"] (sp_parts_of K) := ⟨⟨_, fd_parts_of, (He.glo_ok X G (c.fact 13 rfl)), K_parts_of, kbn_of D_parts_of 1 ["from_top"] (by simp [He.DefD.dvs, d_parts_of]) (fun T kV doc pm an cdv ct us its ws hu hi hw => match us, its, ws, hu, hi, hw with | [_], [_], [_], _, _, _ => ⟨_, rfl, rfl⟩), D_parts_of.kp⟩⟩
  have K_path_of := ok_path_of (P := P) (w := w) (mg := mg) (base := base) D_path_of (b_isinstance := (He.free_ok X G (c.fact 0 rfl))) (b_list := (He.free_ok X G (c.fact 14 rfl))) (b_len := (He.free_ok X G (c.fact 2 rfl))) (c_MOST_PARTS := (He.int_ok X G (c.fact 12 rfl))) (b_all := (He.free_ok X G (c.fact 4 rfl))) (F_is_part := F_is_part) (R_BadPath := (rz_of X G (c.fact 10 rfl) (c.fact 11 rfl)))
  have F_path_of : Fn P w K mg base 3 "path_of" ["parts"] (sp_path_of K) := ⟨⟨_, fd_path_of, (He.glo_ok X G (c.fact 15 rfl)), K_path_of, D_path_of.bindsN fun _ _ _ _ _ _ us hl => match us, hl with | [_], _ => rfl, D_path_of.kp⟩⟩
  have K_joined := ok_joined (P := P) (w := w) (mg := mg) (base := base) D_joined (F_parts_ofD := F_parts_ofD) (F_parts_ofK := F_parts_ofK) (F_path_of := F_path_of)
  have F_joined : Fn P w K mg base 4 "joined" ["path", "more"] (sp_joined K) := ⟨⟨_, fd_joined, (He.glo_ok X G (c.fact 16 rfl)), K_joined, D_joined.bindsN fun _ _ _ _ _ _ us hl => match us, hl with | [_, _], _ => rfl, D_joined.kp⟩⟩
  have K_plain_path := ok_plain_path (P := P) (w := w) (mg := mg) (base := base) D_plain_path (F_parts_ofD := F_parts_ofD) (c_ABOVE := (He.str_ok X G (c.fact 7 rfl))) (c_HERE := (He.str_ok X G (c.fact 8 rfl))) (F_path_of := F_path_of)
  have F_plain_path : Fn P w K mg base 4 "plain_path" ["path"] (sp_plain K) := ⟨⟨_, fd_plain_path, (He.glo_ok X G (c.fact 17 rfl)), K_plain_path, D_plain_path.bindsN fun _ _ _ _ _ _ us hl => match us, hl with | [_], _ => rfl, D_plain_path.kp⟩⟩
  have K_split_last := ok_split_last (P := P) (w := w) (mg := mg) (base := base) D_split_last (F_parts_ofD := F_parts_ofD) (F_is_name := F_is_name) (R_BadPath := (rz_of X G (c.fact 10 rfl) (c.fact 11 rfl))) (F_path_of := F_path_of)
  have F_split_last : Fn P w K mg base 4 "split_last" ["path"] (sp_split K) := ⟨⟨_, fd_split_last, (He.glo_ok X G (c.fact 18 rfl)), K_split_last, D_split_last.bindsN fun _ _ _ _ _ _ us hl => match us, hl with | [_], _ => rfl, D_split_last.kp⟩⟩
  have K_law_did := ok_law_did (P := P) (w := w) (mg := mg) (base := base) D_law_did (F_parts_ofD := F_parts_ofD) (F_parts_ofK := F_parts_ofK) (F_plain_path := F_plain_path) (F_split_last := F_split_last) (F_joined := F_joined)
  have F_law_did : Fn P w K mg base 5 "_law_did" ["kind", "thing"] (sp_did K) := ⟨⟨_, fd_law_did, (He.glo_ok X G (c.fact 19 rfl)), K_law_did, D_law_did.bindsN fun _ _ _ _ _ _ us hl => match us, hl with | [_, _], _ => rfl, D_law_did.kp⟩⟩
  have K_law_refusal := ok_law_refusal (P := P) (w := w) (mg := mg) (base := base) D_law_refusal (b_isinstance := (He.free_ok X G (c.fact 0 rfl))) (g_BadPath := (He.glo_ok X G (c.fact 10 rfl))) (EK := EK) (g_BadText := (He.glo_ok X G (c.fact 20 rfl))) (g_BadRights := (He.glo_ok X G (c.fact 21 rfl))) (g_NoUser := (He.glo_ok X G (c.fact 22 rfl))) (g_NoRight := (He.glo_ok X G (c.fact 23 rfl))) (g_NoName := (He.glo_ok X G (c.fact 24 rfl))) (g_NotRoom := (He.glo_ok X G (c.fact 25 rfl))) (g_NotLeaf := (He.glo_ok X G (c.fact 26 rfl))) (g_NotHint := (He.glo_ok X G (c.fact 27 rfl))) (g_Taken := (He.glo_ok X G (c.fact 28 rfl))) (g_TooDeep := (He.glo_ok X G (c.fact 29 rfl))) (g_Busy := (He.glo_ok X G (c.fact 30 rfl))) (g_BadMove := (He.glo_ok X G (c.fact 31 rfl))) (g_WorldError := (He.glo_ok X G (c.fact 32 rfl))) (b_ValueError := (He.free_ok X G (c.fact 33 rfl)))
  have F_law_refusal : Fn P w K mg base 1 "_law_refusal" ["caught"] (sp_refusal K) := ⟨⟨_, fd_law_refusal, (He.glo_ok X G (c.fact 34 rfl)), K_law_refusal, D_law_refusal.bindsN fun _ _ _ _ _ _ us hl => match us, hl with | [_], _ => rfl, D_law_refusal.kp⟩⟩
  have K_law_asked := ok_law_asked (P := P) (w := w) (mg := mg) (base := base) D_law_asked (F_law_did := F_law_did) (g_WorldError := (He.glo_ok X G (c.fact 32 rfl))) (EK := EK) (F_law_refusal := F_law_refusal)
  have F_law_asked : Fn P w K mg base 6 "_law_asked" ["kind", "thing"] (sp_asked K) := ⟨⟨_, fd_law_asked, (He.glo_ok X G (c.fact 35 rfl)), K_law_asked, D_law_asked.bindsN fun _ _ _ _ _ _ us hl => match us, hl with | [_, _], _ => rfl, D_law_asked.kp⟩⟩
  have K_law_draw := ok_law_draw (P := P) (w := w) (mg := mg) (base := base) D_law_draw (b_len := (He.free_ok X G (c.fact 2 rfl)))
  have F_law_draw : Fn P w K mg base 1 "_law_draw" ["town", "many"] sp_draw := ⟨⟨_, fd_law_draw, (He.glo_ok X G (c.fact 36 rfl)), K_law_draw, D_law_draw.bindsN fun _ _ _ _ _ _ us hl => match us, hl with | [_, _], _ => rfl, D_law_draw.kp⟩⟩
  have K_law_pick := ok_law_pick (P := P) (w := w) (mg := mg) (base := base) D_law_pick (F_law_draw := F_law_draw) (b_len := (He.free_ok X G (c.fact 2 rfl)))
  have F_law_pick : Fn P w K mg base 2 "_law_pick" ["town", "some"] sp_pick := ⟨⟨_, fd_law_pick, (He.glo_ok X G (c.fact 37 rfl)), K_law_pick, D_law_pick.bindsN fun _ _ _ _ _ _ us hl => match us, hl with | [_, _], _ => rfl, D_law_pick.kp⟩⟩
  have K_law_name := ok_law_name (P := P) (w := w) (mg := mg) (base := base) D_law_name (F_law_pick := F_law_pick)
  have F_law_name : Fn P w K mg base 3 "_law_name" ["town"] sp_name := ⟨⟨_, fd_law_name, (He.glo_ok X G (c.fact 38 rfl)), K_law_name, D_law_name.bindsN fun _ _ _ _ _ _ us hl => match us, hl with | [_], _ => rfl, D_law_name.kp⟩⟩
  have K_law_parts := ok_law_parts (P := P) (w := w) (mg := mg) (base := base) D_law_parts (F_path_of := F_path_of) (g_WorldError := (He.glo_ok X G (c.fact 32 rfl))) (EK := EK) (F_law_refusal := F_law_refusal)
  have F_law_parts : Fn P w K mg base 4 "_law_parts" ["thing"] (sp_parts K) := ⟨⟨_, fd_law_parts, (He.glo_ok X G (c.fact 39 rfl)), K_law_parts, D_law_parts.bindsN fun _ _ _ _ _ _ us hl => match us, hl with | [_], _ => rfl, D_law_parts.kp⟩⟩
  have K_law_town := ok_law_town (P := P) (w := w) (mg := mg) (base := base) D_law_town (b_list := (He.free_ok X G (c.fact 14 rfl)))
  have F_law_town : Fn P w K mg base 1 "_law_town" ["script"] (sp_town K) := ⟨⟨_, fd_law_town, (He.glo_ok X G (c.fact 40 rfl)), K_law_town, D_law_town.bindsN fun _ _ _ _ _ _ us hl => match us, hl with | [_], _ => rfl, D_law_town.kp⟩⟩
  exact ok_law D_law (F_law_town := F_law_town) (F_law_pick := F_law_pick) (b_range := (He.free_ok X G (c.fact 41 rfl))) (F_law_draw := F_law_draw) (F_law_name := F_law_name) (b_len := (He.free_ok X G (c.fact 2 rfl))) (F_law_asked := F_law_asked) (b_tuple := (He.free_ok X G (c.fact 42 rfl))) (F_law_parts := F_law_parts)
end Tm
open PySem PySem.W PySem.Calls PyProof.Rows
theorem PySem.Challenge.cw_treemounts_k02_paths_refused_holds : PySem.Challenge.rw_treemounts_k02_paths_refused.Holds := by
  w_on; o_law
  refine HandSHeadRun.head_any (r := OpenLaw.row PySem.Challenge.rw_treemounts_k02_paths_refused) (q := view (OpenLaw.row PySem.Challenge.rw_treemounts_k02_paths_refused).prog [37]) (H := Tm.hk) (ob := Tm.ob) (M := 20000) (loose := Tm.names) (d := HandSHeadRun.topDef (OpenLaw.row PySem.Challenge.rw_treemounts_k02_paths_refused).prog 37) (kwd := []) Tm.ob_eq
    (by kernel_rfl) (fun s => by kernel_rfl) Tm.run (by kernel_rfl) (by kernel_rfl) (by kernel_rfl) (by rfl) (by first | assumption | decide +kernel) (by decide +kernel) ⟨rfl, rfl, rfl, rfl, rfl, by decide +kernel⟩ ?hw ?hc
  case hw => w_witness2
  case hc =>
    refine Tm.walk_fin (l := PySem.Challenge.rw_treemounts_k02_paths_refused) (n := 63) (k := 7) (x := "script") rfl (by decide) (by kernel_rfl) ⟨rfl, by decide, by decide⟩ ?F
    intro w mg fa h Y G hmg0
    obtain ⟨K, KX, c, cm⟩ := Y
    have hmg : mg ("law" : PySem.Str) = some (.ref fa) := by
      have e : (HandSHeadRun.topDef (OpenLaw.row PySem.Challenge.rw_treemounts_k02_paths_refused).prog 37).name = ("law" : PySem.Str) := by kernel_rfl
      rw [← e]
      exact hmg0
    exact ⟨K, Tm.sp_law K, KX, fun H a ns hl hS => ⟨a, ns, rfl, hS, hl, fun _ => rfl⟩, Tm.facts KX G hmg c cm⟩
#print axioms PySem.Challenge.cw_treemounts_k02_paths_refused_holds
