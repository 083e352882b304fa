import PyProof.Rows.All
import Wide.All
import OpenK.AllK
import Wide.FinOn
import KE.KStateDown
import HandS.ForMost
import HandS.ForExc
import HandS.Flow
import HandS.Walk
import HandS.Deep
import HandS.IsInst
import HandS.Defaults
import HandS.Codes
import HandS.Head0
import HandS.Head1
import HandS.Head2
import HandS.HeadEnd
import HandS.HeadHook1
import HandS.HeadHook2
import PySem.Challenge.RW_treemounts_k04_whole_joined
set_option Elab.async false
set_option linter.all false
set_option maxRecDepth 100000
set_option maxHeartbeats 4000000
/-! own layer: one rule a reading, each takes the value in hand; calls of defs by one fact -/
namespace Tm
open PySem L2
section
variable {σ : L2.St} {H : Hp} {Q : VK} {i : Nat} {v x y z : V} {ta tb tc te : TE} {t u : TT} {K : PySem.W.Frag} {r r' : R2} {D : Ends} {ts tu : TS} {g : TG}
theorem x_var (h : σ[i]? = some (some v)) (q : Q v H) : tVar i σ H Q := ⟨v, h, q⟩
theorem x_c (q : Q v H) : tC v σ H Q := q
theorem x_op (q : ta σ H fun x H1 => tb σ H1 fun y H2 => r x y H2 Q) : tOp r ta tb σ H Q := q
theorem x_un {r : V → Hp → VK → Prop} (q : ta σ H fun x H1 => r x H1 Q) : tUn r ta σ H Q := q
theorem x_I0 {f : Int → Int → V} {a b : Int} (q : Q (f a b) H) : rI0 f (.int a) (.int b) H Q := ⟨a, b, rfl, rfl, q⟩
theorem x_I {C : Int → Int → Prop} {f : Int → Int → V} {a b : Int} (c : C a b) (q : Q (f a b) H) : rI C f (.int a) (.int b) H Q := ⟨a, b, rfl, rfl, c, q⟩
theorem x_neg {n : Int} (q : Q (.int (-n)) H) : rU (fun i => .int (-i)) (.int n) H Q := ⟨n, rfl, q⟩
theorem x_eq (s : scal x y = true) (q : Q (.bl (decide (x = y))) H) : rEq x y H Q := ⟨s, q⟩
theorem x_ne (s : scal x y = true) (q : Q (.bl (!decide (x = y))) H) : rNe x y H Q := ⟨s, q⟩
theorem x_test {Q : Bool → Hp → Prop} (q : te σ H fun x H' => ∃ k, x = .bl k ∧ Q k H') : tTest te σ H Q := q
theorem x_tB {Q : Bool → Hp → Prop} (q : te σ H fun x H' => ∃ k, x = .bl k ∧ Q k H') : tB te σ H Q := q
theorem x_bl {Q : Bool → Hp → Prop} {b : Bool} (q : Q b H) : ∃ k, V.bl b = .bl k ∧ Q k H := ⟨b, rfl, q⟩
theorem x_not {Q : Bool → Hp → Prop} (q : t σ H fun c H1 => Q (!c) H1) : tNot t σ H Q := q
theorem x_and {Q : Bool → Hp → Prop} (q : t σ H fun c H1 => if c = true then u σ H1 Q else Q false H1) : tAnd t u σ H Q := q
theorem x_or {Q : Bool → Hp → Prop} (q : t σ H fun c H1 => if c = true then Q true H1 else u σ H1 Q) : tOr t u σ H Q := q
theorem x_andV (q : ta σ H fun x H1 => ∃ c, x = .bl c ∧ if c = true then tb σ H1 Q else Q (.bl false) H1) : tAndV ta tb σ H Q := q
theorem x_orV (q : ta σ H fun x H1 => ∃ c, x = .bl c ∧ if c = true then Q (.bl true) H1 else tb σ H1 Q) : tOrV ta tb σ H Q := q
theorem x_notV (q : ta σ H fun x H1 => ∃ c, x = .bl c ∧ Q (.bl (!c)) H1) : tNotV ta σ H Q := q
theorem x_blV {P : Bool → Prop} {b : Bool} (q : P b) : ∃ k, V.bl b = .bl k ∧ P k := ⟨b, rfl, q⟩
theorem x_ifx (q : t σ H fun c H1 => if c = true then ta σ H1 Q else tb σ H1 Q) : tIf t ta tb σ H Q := q
theorem x_chain (q : ta σ H fun x H1 => tb σ H1 fun y H2 => r x y H2 fun z H3 => ∃ k, z = .bl k ∧ (if k = true then tc σ H3 fun w' H4 => r' y w' H4 Q else Q (.bl false) H3)) : tChain r r' ta tb tc σ H Q := q
theorem x_nil {Q : List V → Hp → Prop} (q : Q [] H) : tNil σ H Q := q
theorem x_cons {tr : TA} {Q : List V → Hp → Prop} (q : ta σ H fun x H1 => tr σ H1 fun xs H2 => Q (x :: xs) H2) : tCons ta tr σ H Q := q
theorem x_lst {t : TA} (q : t σ H fun xs H1 => xs.length ≤ sizeLine ∧ ∀ p, H1 p = none → Q (.ref p) (upd H1 p (.lst xs))) : tLst t σ H Q := q
theorem x_tup {t : TA} (q : t σ H fun xs H1 => xs.length ≤ sizeLine ∧ ∀ p, H1 p = none → Q (.ref p) (upd H1 p (.tup xs))) : tTup t σ H Q := q
theorem x_cb {rc : List V → Hp → VK → Prop} {t : TA} (q : t σ H fun vs H1 => rc vs H1 Q) : tCB rc t σ H Q := q
theorem x_fld {f : Str} (q : ta σ H fun x H1 => ∃ a C dx fs v, x = .ref a ∧ H1 a = some (.ins C dx fs) ∧ Cls K C ∧ NoAttr K C f ∧ fs.lookup f = some v ∧ Q v H1) : tFld K ta f σ H Q := q
theorem x_fldV {f : Str} {a C dx : Addr} {fs : List (Str × V)} (h : H a = some (.ins C dx fs)) (c : Cls K C) (n : NoAttr K C f) (l : fs.lookup f = some v) (q : Q v H) :
    ∃ a' C dx fs v', V.ref a = .ref a' ∧ H a' = some (.ins C dx fs) ∧ Cls K C ∧ NoAttr K C f ∧ fs.lookup f = some v' ∧ Q v' H := ⟨a, C, dx, fs, v, rfl, h, c, n, l, q⟩
theorem x_sl {rs : V → Option Int → Option Int → Hp → VK → Prop} {tl th : TO} (q : te σ H fun x H1 => tl σ H1 fun l H2 => th σ H2 fun u H3 => rs x l u H3 Q) : tSl rs te tl th σ H Q := q
theorem x_noPart {Q : Option Int → Hp → Prop} (q : Q none H) : tNoPart σ H Q := q
theorem x_part {Q : Option Int → Hp → Prop} (q : te σ H fun x H1 => ∃ i, x = .int i ∧ Q (some i) H1) : tPart te σ H Q := q
theorem x_partI {P : Int → Prop} {n : Int} (q : P n) : ∃ i, V.int n = .int i ∧ P i := ⟨n, rfl, q⟩
theorem x_slS {a : Str} {lo hi : Option Int} (z : a.length ≤ sizeLine) (q : Q (.str (Txt.slice a lo hi)) H) : C8.rSlX (.str a) lo hi H Q := ⟨a, rfl, z, q⟩
theorem x_slL {a : Addr} {xs : List V} {lo hi : Option Int} (h : SqL K H a xs) (q : ∀ p, H p = none → Q (.ref p) (upd H p (.lst (cutV xs lo hi)))) : rSlL K (.ref a) lo hi H Q := ⟨a, xs, rfl, h, q⟩
theorem x_ixL {p : Addr} {xs : List V} {n : Int} (h : SqL K H p xs) (a : atI xs n = some v) (q : Q v H) : rIxL K (.ref p) (.int n) H Q := ⟨p, xs, n, v, rfl, rfl, h, a, q⟩
theorem x_ixT {p : Addr} {xs : List V} {n : Int} (h : SqT K H p xs) (a : atI xs n = some v) (q : Q v H) : rIxT K (.ref p) (.int n) H Q := ⟨p, xs, n, v, rfl, rfl, h, a, q⟩
theorem x_inT {p : Addr} {xs : List V} (h : SqT K H p xs) (f : flatV x = true) (a : xs.all flatV = true) (q : Q (.bl (inV x xs)) H) : rIn K false x (.ref p) H Q := ⟨p, xs, rfl, .inr h, f, a, q⟩
theorem x_inL {p : Addr} {xs : List V} (h : SqL K H p xs) (f : flatV x = true) (a : xs.all flatV = true) (q : Q (.bl (inV x xs)) H) : rIn K false x (.ref p) H Q := ⟨p, xs, rfl, .inl h, f, a, q⟩
theorem x_niT {p : Addr} {xs : List V} (h : SqT K H p xs) (f : flatV x = true) (a : xs.all flatV = true) (q : Q (.bl (!inV x xs)) H) : rIn K true x (.ref p) H Q := ⟨p, xs, rfl, .inr h, f, a, q⟩
theorem x_niL {p : Addr} {xs : List V} (h : SqL K H p xs) (f : flatV x = true) (a : xs.all flatV = true) (q : Q (.bl (!inV x xs)) H) : rIn K true x (.ref p) H Q := ⟨p, xs, rfl, .inl h, f, a, q⟩
/-! ### texts, with names of their own -/
def rCatS : R2 := fun x y H Q => ∃ i j, x = .str i ∧ y = .str j ∧ i.length + j.length ≤ sizeLine ∧ Q (.str (i ++ j)) H
theorem op_catS {X : Cx} : OpR X (binaryOp .Add) rCatS := op_add_str
theorem x_catS {a b : Str} (z : a.length + b.length ≤ sizeLine) (q : Q (.str (a ++ b)) H) : rCatS (.str a) (.str b) H Q := ⟨a, b, rfl, rfl, z, q⟩
def rSgn : R2 := fun x y H Q => ∃ c z, x = .str ⟨#[c]⟩ ∧ y = .str z ∧ Q (.bl (decide (c ∈ z.cps.toList))) H
theorem op_sgn {X : Cx} : OpR X (compareOp .In) rSgn := op_in_sign
theorem x_sgn {c : Nat} {z : Str} (q : Q (.bl (decide (c ∈ z.cps.toList))) H) : rSgn (.str ⟨#[c]⟩) (.str z) H Q := ⟨c, z, rfl, rfl, q⟩
def rIsNo : R2 := fun x y H Q => y = .non ∧ Q (.bl (decide (x = .non))) H
def rIsNt : R2 := fun x y H Q => y = .non ∧ Q (.bl (!decide (x = .non))) H
theorem op_isNo {X : Cx} : OpR X (compareOp .Is) rIsNo := op_isN
theorem op_isNt {X : Cx} : OpR X (compareOp .IsNot) rIsNt := op_notN
theorem x_isNo (q : Q (.bl (decide (x = .non))) H) : rIsNo x .non H Q := ⟨rfl, q⟩
theorem x_isNt (q : Q (.bl (!decide (x = .non))) H) : rIsNt x .non H Q := ⟨rfl, q⟩
def rLenT : List V → Hp → VK → Prop := fun xs H Q => ∃ a : Str, xs = [.str a] ∧ a.length ≤ sizeLine ∧ Q (.int a.length) H
theorem call_lenT {X : Cx} : CallR X (.builtin "len") rLenT := call_len_str
theorem x_lenT {a : Str} (z : a.length ≤ sizeLine) (q : Q (.int a.length) H) : rLenT [.str a] H Q := ⟨a, rfl, z, q⟩
def rLenQ (K : PySem.W.Frag) : List V → Hp → VK → Prop := fun xs H Q => ∃ p ys, xs = [.ref p] ∧ (SqL K H p ys ∨ SqT K H p ys) ∧ Q (.int ys.length) H
theorem call_lenQ {X : Cx} : CallR X (.builtin "len") (rLenQ X.K) := call_len_seq
theorem x_lenL {p : Addr} {ys : List V} (h : SqL K H p ys) (q : Q (.int ys.length) H) : rLenQ K [.ref p] H Q := ⟨p, ys, rfl, .inl h, q⟩
theorem x_lenU {p : Addr} {ys : List V} (h : SqT K H p ys) (q : Q (.int ys.length) H) : rLenQ K [.ref p] H Q := ⟨p, ys, rfl, .inr h, q⟩
def rMkL (K : PySem.W.Frag) : List V → Hp → VK → Prop := fun xs H Q => ∃ p ys, xs = [.ref p] ∧ (SqL K H p ys ∨ SqT K H p ys) ∧ ∀ l, H l = none → Q (.ref l) (upd H l (.lst ys))
theorem call_mkL {X : Cx} : CallR X (.type "list") (rMkL X.K) := call_list_of
theorem x_mkL {p : Addr} {ys : List V} (h : SqL K H p ys) (q : ∀ l, H l = none → Q (.ref l) (upd H l (.lst ys))) : rMkL K [.ref p] H Q := ⟨p, ys, rfl, .inl h, q⟩
theorem x_all {p : Addr} {bs : List Bool} (h : SqL K H p (bs.map V.bl)) (q : Q (.bl (bs.all id)) H) : rAll K [.ref p] H Q := ⟨p, bs, rfl, h, q⟩
theorem x_any {p : Addr} {bs : List Bool} (h : SqL K H p (bs.map V.bl)) (q : Q (.bl (bs.any id)) H) : rAny K [.ref p] H Q := ⟨p, bs, rfl, h, q⟩
theorem x_isi {c : V} {tv uv : Value} {b : Bool} (hc : ClsV c uv) (ht : TyX K H x tv) (k : PySem.W.kitOne K tv uv = some b) (q : Q (.bl b) H) : rIsi K [x, c] H Q := ⟨x, c, tv, uv, b, rfl, hc, ht, k, q⟩
theorem x_m1 {rm : V → List V → Hp → VK → Prop} (q : ta σ H fun x H1 => (∃ a, x = .str a) ∧ te σ H1 fun y H2 => rm x [y] H2 Q) : tM1 rm ta te σ H Q := q
theorem x_isS {a : Str} {P : Prop} (q : P) : (∃ b, V.str a = .str b) ∧ P := ⟨⟨a, rfl⟩, q⟩
/-! ### statements -/
theorem x_next (q : D.nx σ H) : tNext D σ H := q
theorem x_seq (q : ts { D with nx := tu D } σ H) : tSeq ts tu D σ H := q
theorem x_ret (q : te σ H D.rt) : tRet te D σ H := q
theorem x_drop (q : te σ H fun _ H1 => D.nx σ H1) : tDrop te D σ H := q
theorem x_asg (q : te σ H fun x H1 => g x σ H1 D.nx) : tAsg te g D σ H := q
theorem x_name {Q : L2.St → Hp → Prop} (q : Q (σ.set i (some v)) H) : gName i v σ H Q := q
theorem x_ifS (q : t σ H fun b H1 => if b = true then ts D σ H1 else tu D σ H1) : tIfS t ts tu D σ H := q
theorem x_sub {to ti : TE} {tset : TSet} {Q : L2.St → Hp → Prop} (q : to σ H fun o H1 => ti σ H1 fun i H2 => tset o i v H2 fun H3 => Q σ H3) : gSub to ti tset v σ H Q := q
theorem x_setL {p : Addr} {xs : List V} {k : Int} {j : Nat} {Q : Hp → Prop} (h : H p = some (.lst xs)) (a : ixN xs.length k = some j) (q : Q (upd H p (.lst (xs.set j v)))) : rSetL (.ref p) (.int k) v H Q := ⟨p, xs, k, j, rfl, rfl, h, a, q⟩
theorem x_bm {T : String} {rm : V → List V → Hp → VK → Prop} {t : TA} (q : ta σ H fun x H1 => tyV K T x H1 ∧ t σ H1 fun xs H2 => rm x xs H2 Q) : tBM K T rm ta t σ H Q := q
theorem x_bm0 {T : String} {rm : V → List V → Hp → VK → Prop} (q : ta σ H fun x H1 => tyV K T x H1 ∧ rm x [] H1 Q) : tBM0 K T rm ta σ H Q := q
theorem x_app {l : Addr} {xs : List V} (h : H l = some (.lst xs)) (n : xs.length < sizeLine) (q : Q .non (upd H l (.lst (xs ++ [y])))) : rAppend (.ref l) [y] H Q := ⟨l, xs, y, rfl, rfl, h, n, q⟩
theorem x_tyL {l : Addr} {xs : List V} {P : Prop} (h : SqL K H l xs) (q : P) : tyV K "list" (.ref l) H ∧ P := ⟨.inl ⟨rfl, _, h⟩, q⟩
/-! ### ways -/
theorem x_if {b : Bool} {A B : Prop} (h1 : b = true → A) (h2 : b = false → B) : if b = true then A else B := by
  cases b with
  | true => exact iteT (h1 rfl)
  | false => exact iteF (h2 rfl)
theorem x_ifd {p A B : Prop} [Decidable p] (h1 : p → A) (h2 : ¬ p → B) : if decide p = true then A else B := x_if (fun h => h1 (of_decide_eq_true h)) fun h => h2 (of_decide_eq_false h)
theorem x_ifn {p A B : Prop} [Decidable p] (h1 : ¬ p → A) (h2 : p → B) : if (!decide p) = true then A else B := by
  by_cases h : p
  · rw [decide_eq_true h]
    exact iteF (h2 h)
  · rw [decide_eq_false h]
    exact iteT (h1 h)
theorem x_ifY {b : Bool} {A B : Prop} (h : b = true) (q : A) : if b = true then A else B := by
  rw [h]
  exact iteT q
theorem x_ifN {b : Bool} {A B : Prop} (h : b = false) (q : B) : if b = true then A else B := by
  rw [h]
  exact iteF q
end
/-! ### heaps -/
abbrev Ex (H H' : Hp) : Prop := ∀ a o, H a = some o → H' a = some o
theorem Ex.rfl {H : Hp} : Ex H H := fun _ _ h => h
theorem Ex.tr {H H1 H2 : Hp} (a : Ex H H1) (b : Ex H1 H2) : Ex H H2 := fun x o h => b x o (a x o h)
theorem Ex.new {H : Hp} {p : Addr} {o : HO} (h : H p = none) : Ex H (upd H p o) := fun a u e => by
  rw [upd_ne (ne_of_none e h)]
  exact e
theorem ex_at {H H' : Hp} {a : Addr} {o : HO} (e : Ex H H') (h : H a = some o) : H' a = some o := e a o h
theorem ex_none {H H' : Hp} {a : Addr} (e : Ex H H') (h : H' a = none) : H a = none := by
  cases q : H a with
  | none => rfl
  | some o =>
    rw [e a o q] at h
    cases h
theorem Ex.sq {K : PySem.W.Frag} {H H' : Hp} {a : Addr} {xs : List V} (e : Ex H H') (h : SqL K H a xs) : SqL K H' a xs := by
  rcases h with (h | ⟨o, h⟩) | h
  · exact .inl (.inl (e _ _ h))
  · exact .inl (.inr ⟨o, e _ _ h⟩)
  · exact .inr h
theorem Ex.st {K : PySem.W.Frag} {H H' : Hp} {a : Addr} {xs : List V} (e : Ex H H') (h : SqT K H a xs) : SqT K H' a xs := by
  rcases h with (h | ⟨o, h⟩) | h
  · exact .inl (.inl (e _ _ h))
  · exact .inl (.inr ⟨o, e _ _ h⟩)
  · exact .inr h
/-- what stood stands, but at the places S -/
def Off (S : List Addr) (H H' : Hp) : Prop := ∀ a o, H a = some o → a ∉ S → H' a = some o
theorem Off.rfl {S : List Addr} {H : Hp} : Off S H H := fun _ _ h _ => h
theorem Off.tr {S : List Addr} {H H1 H2 : Hp} (a : Off S H H1) (b : Off S H1 H2) : Off S H H2 := fun x o h n => b x o (a x o h n) n
theorem Ex.off {S : List Addr} {H H' : Hp} (e : Ex H H') : Off S H H' := fun a o h _ => e a o h
theorem Off.new {S : List Addr} {H H' : Hp} {p : Addr} {o : HO} (e : Off S H H') (h : H p = none) : Off S H (upd H' p o) := fun a u q n => by
  rw [upd_ne (ne_of_none q h)]
  exact e a u q n
theorem Off.put {S : List Addr} {H H' : Hp} {p : Addr} {o : HO} (e : Off S H H') (h : p ∈ S) : Off S H (upd H' p o) := fun a u q n => by
  have z : a ≠ p := fun z => n (by rw [z]; exact h)
  rw [upd_ne z]
  exact e a u q n
/-! ### a def by its name -/
structure Fn (P : Program) (w : World) (K : PySem.W.Frag) (mg : Str → Option Value) (base : Heap) (k : Nat) (x : Str) (ps : List Str) (sp : Sp) : Prop where
  ex : ∃ (f : Addr) (fd : FuncData), mg x = some (.ref f) ∧ FnOk P w K mg base (L2.CX P w) k f fd ps sp ∧ Binds K fd ps [] ∧ PySem.W.keepIn K (.ref f) = true
def tFn (sp : Sp) (E : L2.St → XK) (t : TA) : TE := fun σ H Q => t σ H fun vs H1 => sp vs H1 Q (E σ)
section
variable {X : Cx} {k : Nat} {ps : List Str} {sp : Sp} {E : L2.St → XK} {x : Str} {p pos : Pos} {e : Expr} {es : List Expr} {t : TA}
theorem pe_fn (F : Fn X.prog X.w X.K X.mg X.base k x ps sp) (hr : Room k X.A) (hg : Gl X x) (hx : ∀ σ, PassesAt (L2.CX X.prog X.w) X σ (E σ)) (ha : PA X (e :: es) t)
    (hdb : (x == ("__debug__" : Str)) = false := by decide) (he : starEach (e :: es) X.env = (false, eval e X.env) :: starEach es X.env := by rfl) (hpl : (backTo pos (starEach es X.env)).any (·.1) = false := by rfl) :
    PE X (.Call (.Name x p) (e :: es) [] pos) (tFn sp E t) := by
  obtain ⟨f, fd, hm, ok, hb, hk⟩ := F.ex
  exact pe_callS ok hr hg hm hk hb hx ha hdb he hpl
theorem x_fn {σ : L2.St} {H : Hp} {Q : VK} (q : t σ H fun vs H1 => sp vs H1 Q (E σ)) : tFn sp E t σ H Q := q
/-- within a comprehension nothing is let out -/
theorem passC (hx : X.xe = fun _ _ => False) : ∀ σ, PassesAt (L2.CX X.prog X.w) X σ ((fun _ => E0) σ) := fun _ _ _ _ _ _ _ h => by
  obtain ⟨_, _, _, _, _, _, _, _, _, _, _, _, z⟩ := h
  exact z.elim
/-- in a def's own body -/
theorem passD {E : XK} {E₁ : Value → Shared → Prop} (hs : X.stack = X.env :: X.outer) (hf : X.env.frame = some X.env.locals) (hex : X.ex = [])
    (hx : X.xe = fun e s' => wpAny (model X.prog X.w) X.A (leaving X.env e) (fun _ s'' => L2.CX X.prog X.w X.outer X.H_0 X.s_0 E e s'') E₁ s') : ∀ σ, PassesAt (L2.CX X.prog X.w) X σ ((fun _ => E) σ) :=
  fun σ => passAt (W := fun cls d _ H => E cls d H) (takes_of hs hf hex hx) σ
/-- constants of the module -/
theorem pe_gint {n : Int} (hm : ∃ t, X.mg x = some (.int n t)) (hg : Gl X x) (hd : (x == ("__debug__" : Str)) = false := by decide) : PE X (.Name x pos) (tC (.int n)) := by
  obtain ⟨t, h⟩ := hm
  exact pe_glob hg h ⟨t, rfl⟩ hd
theorem pe_gstr {z : Str} (hm : ∃ t, X.mg x = some (.str z t)) (hg : Gl X x) (hd : (x == ("__debug__" : Str)) = false := by decide) : PE X (.Name x pos) (tC (.str z)) := by
  obtain ⟨t, h⟩ := hm
  exact pe_glob hg h ⟨t, rfl⟩ hd
end
theorem pe_ty {X : Cx} {x : Str} {n : String} {pos : Pos} (hm : X.mg x = none) (hv : bootBuiltins x = some (.type n)) (hg : Gl X x) (hn : x ≠ "__name__" := by decide) (hd : (x == ("__debug__" : Str)) = false := by decide) : PE X (.Name x pos) (tC (.ty n)) :=
  pe_bltn hg hm hv rfl hn hd
/-! ### a def with defaults, a def called with keywords -/
structure FnD (P : Program) (w : World) (K : PySem.W.Frag) (mg : Str → Option Value) (base : Heap) (k : Nat) (x : Str) (ps : List Str) (dvs : List V) (sp : Sp) : Prop where
  ex : ∃ (f : Addr) (fd : FuncData) (ds : List Value), mg x = some (.ref f) ∧ FnOk P w K mg base (L2.CX P w) k f fd ps sp ∧ Binds K fd ps ds ∧ Vals dvs ds ∧ PySem.W.keepIn K (.ref f) = true
structure FnK (P : Program) (w : World) (K : PySem.W.Frag) (mg : Str → Option Value) (base : Heap) (k : Nat) (x : Str) (ps : List Str) (n : Nat) (ks : List Str) (sp : Sp) : Prop where
  ex : ∃ (f : Addr) (fd : FuncData), mg x = some (.ref f) ∧ FnOk P w K mg base (L2.CX P w) k f fd ps sp ∧ KBn K fd ps n ks (fun us ws => us ++ ws) (fun vs zs => vs ++ zs) ∧ PySem.W.keepIn K (.ref f) = true
section
variable {X : Cx} {k n : Nat} {ps ks : List Str} {sp : Sp} {E : XK} {x : Str} {p pos : Pos} {e : Expr} {es : List Expr} {t tk : TA} {kws : List Keyword} {dvs : List V}
def tFnD (sp : Sp) (dvs : List V) (E : XK) (t : TA) : TE := fun σ H Q => t σ H fun vs H1 => sp (vs ++ dvs) H1 Q E
def tFnK (n m : Nat) (sp : Sp) (E : XK) (t tk : TA) : TE := fun σ H Q => t σ H fun vs H1 => tk σ H1 fun zs H2 => vs.length = n ∧ zs.length = m ∧ sp (vs ++ zs) H2 Q E
theorem passA (hx : ∀ σ, PassesAt (L2.CX X.prog X.w) X σ ((fun _ => E) σ)) : Passes (L2.CX X.prog X.w) X E := fun pins σ H s e s' I c => hx σ pins H s e s' I c
theorem pe_fnD (F : FnD X.prog X.w X.K X.mg X.base k x ps dvs sp) (hr : Room k X.A) (hg : Gl X x) (hx : ∀ σ, PassesAt (L2.CX X.prog X.w) X σ ((fun _ => E) σ)) (ha : PA X (e :: es) t)
    (hdb : (x == ("__debug__" : Str)) = false := by decide) (he : starEach (e :: es) X.env = (false, eval e X.env) :: starEach es X.env := by rfl) (hpl : (backTo pos (starEach es X.env)).any (·.1) = false := by rfl) :
    PE X (.Call (.Name x p) (e :: es) [] pos) (tFnD sp dvs E t) := by
  obtain ⟨f, fd, ds, hm, ok, hb, hv, hk⟩ := F.ex
  exact pe_call ok hr hg hm hk hb hv (passA hx) ha hdb he hpl
theorem pe_fnK (F : FnK X.prog X.w X.K X.mg X.base k x ps n ks sp) (hr : Room k X.A) (hg : Gl X x) (hx : ∀ σ, PassesAt (L2.CX X.prog X.w) X σ ((fun _ => E) σ)) (ha : PA X (e :: es) t) (hkw : PK X kws tk)
    (hall : (backToKw pos (keywordEach kws X.env)).all (·.1.isSome) = true := by rfl) (hks : (backToKw pos (keywordEach kws X.env)).filterMap (·.1) = ks := by rfl)
    (hdb : (x == ("__debug__" : Str)) = false := by decide) (he : starEach (e :: es) X.env = (false, eval e X.env) :: starEach es X.env := by rfl)
    (hpl : ((backTo pos (starEach (e :: es) X.env)).any (·.1) || (backToKw pos (keywordEach kws X.env)).any (·.1.isNone)) = false := by rfl) :
    PE X (.Call (.Name x p) (e :: es) kws pos) (tFnK n ks.length sp E t tk) := by
  obtain ⟨f, fd, hm, ok, hb, hk⟩ := F.ex
  exact pe_callN ok hr hg hm hk hb (passA hx) ha hkw hall hks hdb he hpl
theorem x_fnD {σ : L2.St} {H : Hp} {Q : VK} (q : t σ H fun vs H1 => sp (vs ++ dvs) H1 Q E) : tFnD sp dvs E t σ H Q := q
theorem x_fnK {σ : L2.St} {H : Hp} {Q : VK} {m : Nat} (q : t σ H fun vs H1 => tk σ H1 fun zs H2 => vs.length = n ∧ zs.length = m ∧ sp (vs ++ zs) H2 Q E) : tFnK n m sp E t tk σ H Q := q
end
/-- keywords for all that has a default -/
theorem kbn_of {K : PySem.W.Frag} {x qual : Str} {params : Arguments} {body : List Stmt} {scope : Scope} {dvs : List V} {kws : List (Str × V)} {f : Addr} {fd : FuncData} {ps : List Str} (F : FunD K x qual params body scope dvs kws f fd) (n : Nat) (ks : List Str) (hd : dvs ≠ [])
    (h : ∀ (T : Addr) (kV doc pm : Value) (an : Option Addr) (cdv ct : Value) (us its ws : List Value), us.length = n → its.length = dvs.length → ws.length = ks.length →
      ∃ k, bindArgs (PySem.W.fnOf x qual params body scope (.ref T) kV doc pm an cdv ct) ⟨us, ks.zip ws⟩ = seqItems? (.ref T) >>= k ∧ k (some its.toArray) = pure (ps.zip (us ++ ws))) : KBn K fd ps n ks (fun us ws => us ++ ws) (fun vs zs => vs ++ zs) := by
  obtain ⟨oc, od, dV, kV, doc, pm, an, cdv, ct, osl, rfl, lk, hcd, hD, hK⟩ := F.ex
  rcases hD with ⟨e, _⟩ | ⟨_, T, o, its, m, rfl, lT, oT, rT⟩
  · exact absurd e hd
  · refine ⟨fun s us ws X l1 l2 => ?_, fun r1 r2 => r1.append r2⟩
    obtain ⟨k, e1, e2⟩ := h T kV doc pm an cdv ct us its ws l1 rT.length.symm l2
    refine BindsTo.of_looks fun M => ?_
    rw [e1]
    exact looks_items X lT oT (.of_pure e2)
/-! ### a statement, a word between, the rest -/
def tMid (t u : TS) : TS := fun D σ H => ∃ M : L2.St → Hp → Prop, t { D with nx := M } σ H ∧ ∀ σ' H', M σ' H' → u D σ' H'
theorem pss_mid {X : Cx} {st : Stmt} {rest : List Stmt} {t u : TS} (h1 : PS X st t) (h2 : PSs X rest u) : PSs X (st :: rest) (tMid t u) := by
  refine ⟨fun pins s σ H D I h => ?_⟩
  obtain ⟨M, hm, hu⟩ := h
  refine wpAny_execs_cons (thn (h1.run pins s σ H { D with nx := M } I hm) fun f s1 q => ?_)
  cases f with
  | next =>
    obtain ⟨σ1, H1, I1, q1⟩ := q
    exact h2.run pins s1 σ1 H1 D I1 (hu σ1 H1 q1)
  | ret v => exact q
  | brk => exact q
  | cont => exact q
section
variable {t u : TS} {D : Ends} {σ : L2.St} {H : Hp}
/-- straight on -/
theorem x_thru (q : t { D with nx := u D } σ H) : tMid t u D σ H := ⟨u D, q, fun _ _ h => h⟩
/-- the slots and the heap as they are, and a word -/
theorem x_cut (M : Prop) (q : t { D with nx := fun σ' H' => σ' = σ ∧ H' = H ∧ M } σ H) (k : M → u D σ H) : tMid t u D σ H := ⟨_, q, fun _ _ h => by
  obtain ⟨rfl, rfl, m⟩ := h
  exact k m⟩
/-- the slots as they are, the heap grown -/
theorem x_cutE (M : Hp → Prop) (q : t { D with nx := fun σ' H' => σ' = σ ∧ Ex H H' ∧ M H' } σ H) (k : ∀ H', Ex H H' → M H' → u D σ H') : tMid t u D σ H := ⟨_, q, fun _ _ h => by
  obtain ⟨rfl, e, m⟩ := h
  exact k _ e m⟩
theorem x_cutM (M : L2.St → Hp → Prop) (q : t { D with nx := M } σ H) (k : ∀ σ' H', M σ' H' → u D σ' H') : tMid t u D σ H := ⟨M, q, k⟩
end
/-! ### comprehensions whose turns only make things -/
/-- over xs, the items that p keeps, f of each -/
def Cmp (xs : List V) (j : Nat) (tt : TT) (te : TE) (vs : List Nat) (σ : L2.St) (H1 : Hp) (Q : VK) : Prop :=
  (∀ x, wipe ((wipe σ vs).set j (some x)) vs = wipe σ vs) ∧ xs.length ≤ 100000 ∧ ∃ (p : V → Bool) (f : V → V),
    (∀ x ∈ xs, ∀ H', Ex H1 H' → ∀ R : Bool → Hp → Prop, (∀ H2, Ex H' H2 → R (p x) H2) → tt ((wipe σ vs).set j (some x)) H' R) ∧
    (∀ x ∈ xs, p x = true → ∀ H', Ex H1 H' → ∀ R : VK, (∀ H2, Ex H' H2 → R (f x) H2) → te ((wipe σ vs).set j (some x)) H' R) ∧
    ∀ D H', H1 D = none → Ex H1 H' → H' D = some (.lst ((xs.filter p).map f)) → Q (.ref D) H'
theorem take_snoc {α : Type} {l : List α} {i : Nat} {x : α} (h : l[i]? = some x) : l.take (i + 1) = l.take i ++ [x] := by
  rw [List.take_succ, h]
  rfl
theorem lc_cmp {J : It} {G : Hp → Prop} {xs : List V} {j : Nat} {tt : TT} {te : TE} {vs : List Nat} {σ : L2.St} {H1 : Hp} {Q : VK} (w : Walk J xs.length G (YAt xs)) (hG : ∀ H', Ex H1 H' → G H') (c : Cmp xs j tt te vs σ H1 Q) :
    ∀ D, H1 D = none → ∃ W : Nat → Nat → Hp → Prop, (∃ m, W 0 m (upd H1 D (.lst []))) ∧ ∀ i m H, W i m H →
      (J.stop i H ∧ Q (.ref D) H) ∨ (J.go i H ∧ ∃ Nx : Hp → Prop, (∀ H', Nx H' → ∃ m', m' < m ∧ W (i + 1) m' H') ∧ ∀ x H', J.yld i H x H' → (gName j) x (wipe σ vs) H' fun σ2 H2 => wipe σ2 vs = wipe σ vs ∧ tt σ2 H2 fun b H3 =>
        if b = true then te σ2 H3 fun y H4 => ∃ acc, H4 D = some (.lst acc) ∧ acc.length < sizeLine ∧ Nx (upd H4 D (.lst (acc ++ [y]))) else Nx H3) := by
  obtain ⟨hw, hz, p, f, ht, he, q⟩ := c
  intro D hD
  refine lc_it w (fun i H' => Ex H1 H' ∧ H' D = some (.lst (((xs.take i).filter p).map f))) ⟨Ex.new hD, upd_same⟩ (fun i H' _ h => hG H' h.1) ?_ (fun H' h => q D H' hD h.1 (by have := h.2; rw [List.take_length] at this; exact this))
  rintro i x H' H'' hi ⟨e, hl⟩ ⟨rfl, hx⟩
  have hm : x ∈ xs := List.mem_of_getElem? hx
  refine ⟨hw x, ht x hm H'' e _ fun H2 e2 => ?_⟩
  have et := take_snoc hx
  have hlen : (((xs.take i).filter p).map f).length < sizeLine := by
    rw [List.length_map]
    have h1 := List.length_filter_le p (xs.take i)
    have h2 : (xs.take i).length ≤ xs.length := by rw [List.length_take]; omega
    have h3 : (100000 : Nat) < sizeLine := by decide
    omega
  cases hp : p x with
  | true =>
    show te _ H2 _
    refine he x hm hp H2 (e.tr e2) _ fun H3 e3 => ⟨_, e3 D _ (e2 D _ hl), hlen, fun a o h => ?_, ?_⟩
    · have hne : a ≠ D := fun z => by rw [z, hD] at h; cases h
      rw [upd_ne hne]
      exact e3 a o (e2 a o (e a o h))
    · rw [et, List.filter_append, List.map_append, List.filter_cons, if_pos hp]
      exact upd_same
  | false =>
    show Ex H1 H2 ∧ _
    refine ⟨e.tr e2, ?_⟩
    rw [et, List.filter_append, List.filter_cons, if_neg (by rw [hp]; decide), List.filter_nil, List.append_nil]
    exact e2 D _ hl
/-- what a comprehension over J asks, from the heap on -/
def LcK (J : It) (g : TG) (tt : TT) (te : TE) (vs : List Nat) (σ : L2.St) (Q : VK) (H1 : Hp) : Prop :=
  ∀ D, H1 D = none → ∃ W : Nat → Nat → Hp → Prop, (∃ m, W 0 m (upd H1 D (.lst []))) ∧ ∀ i m H, W i m H →
    (J.stop i H ∧ Q (.ref D) H) ∨ (J.go i H ∧ ∃ Nx : Hp → Prop, (∀ H', Nx H' → ∃ m', m' < m ∧ W (i + 1) m' H') ∧ ∀ x H', J.yld i H x H' → g x (wipe σ vs) H' fun σ2 H2 => wipe σ2 vs = wipe σ vs ∧ tt σ2 H2 fun b H3 =>
      if b = true then te σ2 H3 fun y H4 => ∃ acc, H4 D = some (.lst acc) ∧ acc.length < sizeLine ∧ Nx (upd H4 D (.lst (acc ++ [y]))) else Nx H3)
section
variable {σ : L2.St} {H : Hp} {Q : VK} {te tel : TE} {ta : TA} {tt : TT} {j : Nat} {vs : List Nat} {K : PySem.W.Frag} {g : TG}
theorem x_lcS (q : te σ H fun v H1 => ∃ x : Str, v = .str x ∧ LcK (Its x) g tt tel vs σ Q H1) : tLc (iStr te) g tt tel vs σ H Q := q
theorem x_lcL (q : te σ H fun x H1 => ∃ a, x = .ref a ∧ (∃ xs, SqL K H1 a xs) ∧ LcK (Itl K a) g tt tel vs σ Q H1) : tLc (iList K te) g tt tel vs σ H Q := q
theorem x_lcR1 (q : ta σ H fun vs' H1 => ∃ n : Int, vs' = [.int n] ∧ -(2 ^ 62) ≤ n ∧ n < 2 ^ 62 ∧ LcK (Itr 0 n.toNat) g tt tel vs σ Q H1) : tLc (iRng1 ta) g tt tel vs σ H Q := q
theorem x_lcSV {z : Str} (c : Cmp (z.cps.toList.map fun c => V.str ⟨#[c]⟩) j tt tel vs σ H Q) : ∃ x : Str, V.str z = .str x ∧ LcK (Its x) (gName j) tt tel vs σ Q H := by
  refine ⟨z, rfl, lc_cmp (G := fun _ => True) ?_ (fun _ _ => trivial) c⟩
  have e : (z.cps.toList.map fun c => V.str ⟨#[c]⟩).length = z.cps.size := by simp
  rw [e]
  refine walk_str.mono (fun _ h => h) fun i H x H' _ _ h => ⟨h.1, ?_⟩
  obtain ⟨_, c, hc, rfl⟩ := h
  rw [List.getElem?_map, Array.getElem?_toList, hc]
  rfl
theorem x_lcLV {a : Addr} {xs : List V} (h : SqL K H a xs) (c : Cmp xs j tt tel vs σ H Q) : ∃ b, V.ref a = .ref b ∧ (∃ xs, SqL K H b xs) ∧ LcK (Itl K b) (gName j) tt tel vs σ Q H :=
  ⟨a, rfl, ⟨xs, h⟩, lc_cmp (G := fun H => SqL K H a xs) walk_list (fun _ e => e.sq h) c⟩
/-- a list, no test: an invariant of your own -/
theorem x_lcLI {a : Addr} {xs : List V} (Pv : Addr → Nat → Hp → Prop) (h : SqL K H a xs) (h0 : ∀ D, H D = none → Pv D 0 (upd H D (.lst []))) (hl : ∀ D i H', H D = none → Pv D i H' → SqL K H' a xs)
    (hs : ∀ D (i : Nat) x H', H D = none → xs[i]? = some x → Pv D i H' → wipe ((wipe σ vs).set j (some x)) vs = wipe σ vs ∧ tel ((wipe σ vs).set j (some x)) H' fun y H4 => ∃ acc, H4 D = some (.lst acc) ∧ acc.length < sizeLine ∧ Pv D (i + 1) (upd H4 D (.lst (acc ++ [y]))))
    (hd : ∀ D H', H D = none → Pv D xs.length H' → Q (.ref D) H') : ∃ b, V.ref a = .ref b ∧ (∃ xs, SqL K H b xs) ∧ LcK (Itl K b) (gName j) tYes tel vs σ Q H := by
  refine ⟨a, rfl, ⟨xs, h⟩, fun D hD => lc_list (xs := xs) (Pv D) (h0 D hD) (fun i H' _ p => hl D i H' hD p) (fun i x H' hi p => ?_) (fun H' p => hd D H' hD p)⟩
  obtain ⟨h1, h2⟩ := hs D i x H' hD hi p
  exact ⟨h1, h2⟩
/-- a range, the items by their number, no test: an invariant of your own -/
theorem x_lcRV {n : Int} (Pv : Addr → Nat → Hp → Prop) (hn : 0 ≤ n ∧ n ≤ 100000) (h0 : ∀ D, H D = none → Pv D 0 (upd H D (.lst [])))
    (hs : ∀ D (i : Nat) H', H D = none → (i : Int) < n → Pv D i H' → wipe ((wipe σ vs).set j (some (.int (i : Int)))) vs = wipe σ vs ∧ tel ((wipe σ vs).set j (some (.int (i : Int)))) H' fun y H4 => ∃ acc, H4 D = some (.lst acc) ∧ acc.length < sizeLine ∧ Pv D (i + 1) (upd H4 D (.lst (acc ++ [y]))))
    (hd : ∀ D H', H D = none → Pv D n.toNat H' → Q (.ref D) H') : ∃ m : Int, ([V.int n] : List V) = [.int m] ∧ -(2 ^ 62) ≤ m ∧ m < 2 ^ 62 ∧ LcK (Itr 0 m.toNat) (gName j) tYes tel vs σ Q H := by
  refine ⟨n, rfl, by omega, by omega, fun D hD => lc_range (lo := 0) (n := n.toNat) (Pv D) (h0 D hD) (fun i H' hi p => ?_) (fun H' p => hd D H' hD p)⟩
  obtain ⟨h1, h2⟩ := hs D i H' hD (by omega) p
  have e : (0 : Int) + (i : Int) = (i : Int) := Int.zero_add _
  show wipe ((wipe σ vs).set j (some (V.int ((0 : Int) + (i : Int))))) vs = wipe σ vs ∧ _
  rw [e]
  exact ⟨h1, h2⟩
end
/-! ### loops -/
/-- what a for over J asks, from the heap on -/
def ForK (J : It) (g : TG) (tb : TS) (D : Ends) (σ : L2.St) (H : Hp) : Prop := ∃ W : Nat → Nat → L2.St → Hp → Prop, (∃ m, W 0 m σ H) ∧ ∀ i m σ H, W i m σ H →
  (J.stop i H ∧ D.nx σ H) ∨ (J.go i H ∧ ∃ N : L2.St → Hp → Prop, (∀ σ' H', N σ' H' → ∃ m', m' < m ∧ W (i + 1) m' σ' H') ∧ ∀ x H', J.yld i H x H' → g x σ H' fun σ2 H2 => tb { D with nx := N, ct := N, bk := D.nx } σ2 H2)
section
variable {σ : L2.St} {H : Hp} {te : TE} {ta : TA} {j : Nat} {K : PySem.W.Frag} {g : TG} {tb : TS} {D : Ends}
theorem x_forR1 (q : ta σ H fun vs H1 => ∃ n : Int, vs = [.int n] ∧ -(2 ^ 62) ≤ n ∧ n < 2 ^ 62 ∧ ForK (Itr 0 n.toNat) g tb D σ H1) : tFor (iRng1 ta) g tb D σ H := q
theorem x_forR2 (q : ta σ H fun vs H1 => ∃ i n : Int, vs = [.int i, .int n] ∧ (-(2 ^ 62) ≤ i ∧ i < 2 ^ 62 ∧ -(2 ^ 62) ≤ n ∧ n < 2 ^ 62) ∧ ForK (Itr i (n - i).toNat) g tb D σ H1) : tFor (iRng2 ta) g tb D σ H := q
theorem x_forL (q : te σ H fun x H1 => ∃ a, x = .ref a ∧ (∃ xs, SqL K H1 a xs) ∧ ForK (Itl K a) g tb D σ H1) : tFor (iList K te) g tb D σ H := q
theorem x_forRV {n : Int} (Pv : Nat → L2.St → Hp → Prop) (hn : n ≤ 100000 ∧ -100000 ≤ n) (h0 : Pv 0 σ H)
    (hs : ∀ (i : Nat) σ' H', (i : Int) < n → Pv i σ' H' → tb { D with nx := Pv (i + 1), ct := Pv (i + 1), bk := D.nx } (σ'.set j (some (.int (i : Int)))) H') (hd : ∀ σ' H', Pv n.toNat σ' H' → D.nx σ' H') :
    ∃ m : Int, ([V.int n] : List V) = [.int m] ∧ -(2 ^ 62) ≤ m ∧ m < 2 ^ 62 ∧ ForK (Itr 0 m.toNat) (gName j) tb D σ H := by
  refine ⟨n, rfl, by omega, by omega, for_range (lo := 0) (n := n.toNat) Pv h0 (fun i σ' H' hi p => ?_) hd⟩
  have e : (0 : Int) + (i : Int) = (i : Int) := Int.zero_add _
  show tb _ (σ'.set j (some (V.int ((0 : Int) + (i : Int))))) H'
  rw [e]
  exact hs i σ' H' (by omega) p
theorem x_forR2V {lo n : Int} (Pv : Nat → L2.St → Hp → Prop) (hn : n ≤ 100000 ∧ -100000 ≤ n ∧ lo ≤ 100000 ∧ -100000 ≤ lo) (h0 : Pv 0 σ H)
    (hs : ∀ (i : Nat) σ' H', lo + (i : Int) < n → Pv i σ' H' → tb { D with nx := Pv (i + 1), ct := Pv (i + 1), bk := D.nx } (σ'.set j (some (.int (lo + (i : Int))))) H') (hd : ∀ σ' H', Pv (n - lo).toNat σ' H' → D.nx σ' H') :
    ∃ i m : Int, ([V.int lo, V.int n] : List V) = [.int i, .int m] ∧ (-(2 ^ 62) ≤ i ∧ i < 2 ^ 62 ∧ -(2 ^ 62) ≤ m ∧ m < 2 ^ 62) ∧ ForK (Itr i (m - i).toNat) (gName j) tb D σ H :=
  ⟨lo, n, rfl, by omega, for_range (lo := lo) (n := (n - lo).toNat) Pv h0 (fun i σ' H' hi p => hs i σ' H' (by omega) p) hd⟩
theorem x_forLV {a : Addr} {xs : List V} (Pv : Nat → L2.St → Hp → Prop) (h : SqL K H a xs) (h0 : Pv 0 σ H) (hl : ∀ i σ' H', i ≤ xs.length → Pv i σ' H' → SqL K H' a xs)
    (hs : ∀ i x σ' H', xs[i]? = some x → Pv i σ' H' → g x σ' H' fun σ2 H2 => tb { D with nx := Pv (i + 1), ct := Pv (i + 1), bk := D.nx } σ2 H2) (hd : ∀ σ' H', Pv xs.length σ' H' → D.nx σ' H') :
    ∃ b, V.ref a = .ref b ∧ (∃ xs, SqL K H b xs) ∧ ForK (Itl K b) g tb D σ H := ⟨a, rfl, ⟨xs, h⟩, for_list (xs := xs) Pv h0 hl hs hd⟩
end
/-! ### an own error with one text -/
structure Rz (K : PySem.W.Frag) (mg : Str → Option Value) (x : Str) (C : Addr) : Prop where
  g : mg x = some (.ref C)
  q : PySem.W.excIn K C He.veBase "ValueError.__new__" = true
  k : PySem.W.keepIn K (.ref C) = true
  b : PySem.W.subIn K (.ref C) (.type "BaseException") = some true
  t : PySem.W.typeIn K (.ref C) = some (.type "type")
theorem pmk_txt {X : Cx} {x m : Str} {C : Addr} {j : Nat} {p p2 pos : Pos} (R : Rz X.K X.mg x C) (hg : Gl X x) (hdb : (x == ("__debug__" : Str)) = false := by decide) :
    PMk X (.Call (.Name x p) [.Constant (.str m) j p2] [] pos) (fun _ H Q => Q (.ref C) none H) := pmk_own PySem.F.excBase_ValueError R.q R.g R.k (raises_own R.b R.t) hg hdb
/-! ### the end of a law -/
theorem walk_fin {l : PySem.W.OpenLaw} {n k : Nat} {q : Program} {loose : List Str} {XP : (Str → Option Value) → Heap → Prop} {YP : World → Heap → Prop} {d : DefRec} {x : Str}
    (hn : l.most = some n) (hn2 : n ≤ sizeLine) (hdf : d.params.defaults = []) (hr : Room k callerA)
    (F : ∀ (w : World) (mg : Str → Option Value) (fa : Addr) (h : Heap), YP w h → h.Ns mainGlobals mg → mg d.name = some (.ref fa) → ∃ (K : PySem.W.Frag) (sp : Sp), K.In h ∧
      (∀ (H : Hp) (a : Addr) (ns : List Int), ns.length ≤ n → SqL K H a (ns.map V.int) → sp [.ref a] H (fun v _ => v = .bl true) fun _ _ _ => False) ∧
      ∃ fd : FuncData, (∀ (s : Shared) (u : Value), BindsTo s fd ⟨[u], []⟩ [(x, u)]) ∧ ∀ base : Heap, FnOk l.prog w K mg base (L2.CX l.prog w) k fa fd [x] sp) :
    PySem.W.WalkO q loose XP YP l.row.toRowW d [] (fun f vs => PySem.call f vs) := by
  refine Att.attach_call hn hdf ?_
  intro w s0 s1 mg mb fa o pm cd doc a vs ns G Y ho hd hcd hmg hobj hints hlen hg
  obtain ⟨K, sp, KX, hsp, fd, hb, hF⟩ := F w mg fa _ Y G.T.g hmg
  refine law_call (CX := L2.CX l.prog w) KX G.T.g G.T.b G.T.builtins G.T.nolimit hg hobj hints (Nat.le_trans hlen hn2) hr (fun base _ _ => hF base) hb (fun H _ hS => hsp H a ns hlen hS) ?_
  intro H e s' h
  obtain ⟨_, _, _, _, _, _, _, _, _, _, _, _, z⟩ := h
  exact z
end Tm

namespace Tm
open PySem L2
/-! ### names, parts, paths -/
abbrev sl : Str := "/"
abbrev signs : Str := "abcdefghijklmnopqrstuvwxyz0123456789"
abbrev cs (s : Str) : List Nat := s.cps.toList
def isName (s : Str) : Bool := decide (1 ≤ s.length) && (decide (s.length ≤ 8) && (cs s).all fun c => decide (c ∈ cs signs))
def isPart (s : Str) : Bool := decide (s = ".") || (decide (s = "..") || isName s)
def goodParts (ps : List Str) : Bool := decide (ps.length ≤ 12) && ps.all isPart
def restOf (s : Str) : Str := if Txt.slice s none (some 1) = sl then Txt.slice s (some 1) none else s
def partsOf (top : Bool) (s : Str) : Option (List Str) :=
  if top = true ∧ ¬ Txt.slice s none (some 1) = sl then none
  else if restOf s = "" ∧ s = sl then some []
  else if goodParts (Txt.split (restOf s) sl) = true then some (Txt.split (restOf s) sl) else none
def pathOf (ps : List Str) : Str := sl ++ Txt.join sl ps
theorem cs_sl : cs sl = [47] := by decide +kernel
theorem cs_signs : cs signs = [97, 98, 99, 100, 101, 102, 103, 104, 105, 106, 107, 108, 109, 110, 111, 112, 113, 114, 115, 116, 117, 118, 119, 120, 121, 122, 48, 49, 50, 51, 52, 53, 54, 55, 56, 57] := by decide +kernel
theorem cs_dot : cs "." = [46] := by decide +kernel
theorem cs_dots : cs ".." = [46, 46] := by decide +kernel
theorem len_cs (s : Str) : s.length = (cs s).length := by simp [Str.length]
theorem cs_cat (a b : Str) : cs (a ++ b) = cs a ++ cs b := TL.tl_append a b
theorem ext_cs {a b : Str} (h : cs a = cs b) : a = b := TL.ext_tl h
theorem sl_S : sl = SX.S [47] := by decide +kernel
theorem S_cs (s : Str) : SX.S (cs s) = s := SX.S_tl s
/-- a name has signs, none a stroke or a dot -/
theorem name_facts {s : Str} (h : isName s = true) : cs s ≠ [] ∧ 47 ∉ cs s ∧ 46 ∉ cs s ∧ s.length ≤ 8 := by
  unfold isName at h
  simp only [Bool.and_eq_true, decide_eq_true_eq, List.all_eq_true] at h
  obtain ⟨h1, h2, h3⟩ := h
  refine ⟨fun e => ?_, fun e => ?_, fun e => ?_, h2⟩
  · rw [len_cs, e] at h1
    exact absurd h1 (by decide)
  · have := h3 _ e
    rw [cs_signs] at this
    exact absurd this (by decide)
  · have := h3 _ e
    rw [cs_signs] at this
    exact absurd this (by decide)
theorem part_facts {s : Str} (h : isPart s = true) : cs s ≠ [] ∧ 47 ∉ cs s ∧ s.length ≤ 8 := by
  unfold isPart at h
  simp only [Bool.or_eq_true, decide_eq_true_eq] at h
  rcases h with h | h | h
  · subst h
    refine ⟨?_, ?_, ?_⟩
    · rw [cs_dot]; decide
    · rw [cs_dot]; decide
    · rw [len_cs, cs_dot]; decide
  · subst h
    refine ⟨?_, ?_, ?_⟩
    · rw [cs_dots]; decide
    · rw [cs_dots]; decide
    · rw [len_cs, cs_dots]; decide
  · obtain ⟨a, b, _, d⟩ := name_facts h
    exact ⟨a, b, d⟩
theorem not_name_dot : isName "." = false := by decide +kernel
theorem not_name_dots : isName ".." = false := by decide +kernel
theorem good_all {ps : List Str} (h : goodParts ps = true) : ps.length ≤ 12 ∧ ∀ p ∈ ps, isPart p = true := by
  unfold goodParts at h
  simp only [Bool.and_eq_true, decide_eq_true_eq, List.all_eq_true] at h
  exact h
theorem good_of {ps : List Str} (h1 : ps.length ≤ 12) (h2 : ∀ p ∈ ps, isPart p = true) : goodParts ps = true := by
  unfold goodParts
  simp only [Bool.and_eq_true, decide_eq_true_eq, List.all_eq_true]
  exact ⟨h1, h2⟩
/-- joined by strokes, as signs -/
theorem cs_join (ps : List Str) : cs (Txt.join sl ps) = TL.joinL [47] (ps.map cs) := by
  have e : cs (Txt.join sl ps) = TL.joinL (cs sl) (ps.map cs) := by
    have h1 : Txt.join sl ps = Str.join sl ps := TL.join_eq sl ps
    rw [h1]
    exact TL.tl_join sl ps
  rw [cs_sl] at e
  exact e
theorem cs_path (ps : List Str) : cs (pathOf ps) = 47 :: TL.joinL [47] (ps.map cs) := by
  unfold pathOf
  rw [cs_cat, cs_sl, cs_join] <;> rfl
theorem slice1 (s : Str) : Txt.slice s none (some 1) = SX.S ((cs s).take 1) := by
  have e := SX.slice_to (a := cs s) (i := 1) (by decide)
  rw [S_cs] at e
  exact e
theorem slice1' (s : Str) : Txt.slice s (some 1) none = SX.S ((cs s).drop 1) := by
  have e := SX.slice_from (a := cs s) (i := 1) (by decide)
  rw [S_cs] at e
  exact e
theorem split_join {ps : List Str} (hne : ps ≠ []) (h : ∀ p ∈ ps, 47 ∉ cs p) : Txt.split (Txt.join sl ps) sl = ps :=
  TL.split_join (y := sl) (s := 47) (S := []) cs_sl (by decide +kernel) hne h
theorem joinL_first {c : Nat} {r : List Nat} {ls : List (List Nat)} : (TL.joinL [47] ((c :: r) :: ls)).take 1 = [c] := by
  cases ls with
  | nil => rfl
  | cons q t => rfl
theorem first_join {ps : List Str} (hne : ps ≠ []) (h : ∀ p ∈ ps, isPart p = true) : ∃ c, (cs (Txt.join sl ps)).take 1 = [c] ∧ c ≠ 47 := by
  cases ps with
  | nil => exact absurd rfl hne
  | cons p r =>
    obtain ⟨h1, h2, _⟩ := part_facts (h p (List.mem_cons_self ..))
    cases e : cs p with
    | nil => exact absurd e h1
    | cons c t =>
      refine ⟨c, ?_, fun z => h2 ?_⟩
      · rw [cs_join, List.map_cons, e]
        exact joinL_first
      · rw [e, z]
        exact List.mem_cons_self ..
theorem S_ne {a b : List Nat} (h : a ≠ b) : SX.S a ≠ SX.S b := fun e => h (SX.S_inj e)
theorem rest_path (ps : List Str) : Txt.slice (pathOf ps) none (some 1) = sl ∧ restOf (pathOf ps) = Txt.join sl ps := by
  have e : Txt.slice (pathOf ps) none (some 1) = sl := by
    rw [slice1, cs_path, sl_S] <;> rfl
  refine ⟨e, ?_⟩
  unfold restOf
  rw [if_pos e, slice1', cs_path]
  show SX.S (TL.joinL [47] (ps.map cs)) = _
  rw [← cs_join, S_cs]
theorem rest_rel {ps : List Str} (hne : ps ≠ []) (h : ∀ p ∈ ps, isPart p = true) : ¬ Txt.slice (Txt.join sl ps) none (some 1) = sl ∧ restOf (Txt.join sl ps) = Txt.join sl ps := by
  obtain ⟨c, h1, h2⟩ := first_join hne h
  have e : ¬ Txt.slice (Txt.join sl ps) none (some 1) = sl := by
    rw [slice1, h1, sl_S]
    exact S_ne fun z => h2 (by injection z)
  refine ⟨e, ?_⟩
  unfold restOf
  rw [if_neg e]
theorem join_ne {ps : List Str} (hne : ps ≠ []) (h : ∀ p ∈ ps, isPart p = true) : ¬ Txt.join sl ps = "" := fun e => by
  obtain ⟨c, h1, _⟩ := first_join hne h
  rw [e] at h1
  exact absurd h1 (by
    have z : cs "" = [] := by decide +kernel
    rw [z]
    intro q
    cases q)
theorem join_nil : Txt.join sl [] = "" := by decide +kernel
theorem path_nil : pathOf [] = sl := by decide +kernel
/-- THE READ-BACK of a path from the top -/
theorem parts_path (top : Bool) {ps : List Str} (h : goodParts ps = true) : partsOf top (pathOf ps) = some ps := by
  obtain ⟨h1, h2⟩ := good_all h
  obtain ⟨r1, r2⟩ := rest_path ps
  unfold partsOf
  rw [if_neg fun z => z.2 r1, r2]
  by_cases hne : ps = []
  · subst hne
    rw [if_pos ⟨join_nil, path_nil⟩]
  · rw [if_neg fun z => join_ne hne h2 z.1, split_join hne fun p hp => (part_facts (h2 p hp)).2.1, if_pos h]
theorem parts_rel {ps : List Str} (hne : ps ≠ []) (h : goodParts ps = true) : partsOf false (Txt.join sl ps) = some ps := by
  obtain ⟨h1, h2⟩ := good_all h
  obtain ⟨r1, r2⟩ := rest_rel hne h2
  unfold partsOf
  rw [if_neg (fun z : false = true ∧ _ => Bool.false_ne_true z.1), r2, if_neg fun z => join_ne hne h2 z.1, split_join hne fun p hp => (part_facts (h2 p hp)).2.1, if_pos h]
/-- what is told has good parts -/
theorem parts_good {top : Bool} {s : Str} {ps : List Str} (h : partsOf top s = some ps) : goodParts ps = true := by
  unfold partsOf at h
  split at h
  · cases h
  · split at h
    · cases h
      rfl
    · split at h
      · rename_i q
        cases h
        exact q
      · cases h
theorem join_short {ps : List Str} (h : goodParts ps = true) : (ps.map (·.length)).sum + ps.length * sl.length ≤ 108 := by
  obtain ⟨h1, h2⟩ := good_all h
  have e : sl.length = 1 := by decide +kernel
  rw [e, Nat.mul_one]
  have key : ∀ l : List Str, (∀ p ∈ l, isPart p = true) → (l.map (·.length)).sum ≤ 8 * l.length := by
    intro l
    induction l with
    | nil => intro _; exact Nat.le_refl _
    | cons p r ih =>
      intro hl
      have a := (part_facts (hl p (List.mem_cons_self ..))).2.2
      have b := ih fun q hq => hl q (List.mem_cons_of_mem _ hq)
      rw [List.map_cons, List.sum_cons, List.length_cons]
      omega
  have := key ps h2
  omega
theorem join_len {ps : List Str} (h : goodParts ps = true) : (Txt.join sl ps).length ≤ 108 := by
  have e : Txt.join sl ps = Str.join sl ps := TL.join_eq sl ps
  rw [e]
  exact Nat.le_trans (StrLaws.join_length_le sl ps) (join_short h)
theorem path_len {ps : List Str} (h : goodParts ps = true) : (pathOf ps).length ≤ 109 := by
  unfold pathOf
  rw [Str.length_append]
  have := join_len h
  have e : sl.length = 1 := by decide +kernel
  omega
/-! ### things asked about -/
/-- a thing whose class is, or isn't, cls -/
def Kind (K : PySem.W.Frag) (H : Hp) (v : V) (cls : String) (b : Bool) : Prop := ∃ tv, TyX K H v tv ∧ PySem.W.kitOne K tv (.type cls) = some b
theorem Kind.str {K : PySem.W.Frag} {H : Hp} {s : Str} : Kind K H (.str s) "str" true := ⟨_, .base (.str s), kit_ty (by decide +kernel)⟩
theorem tyX_ex {K : PySem.W.Frag} {H H' : Hp} {v : V} {t : Value} (e : Ex H H') (h : TyX K H v t) : TyX K H' v t := by
  cases h with
  | base h =>
    cases h with
    | non => exact .base .non
    | bl x => exact .base (.bl x)
    | int i => exact .base (.int i)
    | str x => exact .base (.str x)
    | flt x => exact .base (.flt x)
    | lst h => exact .base (.lst (e _ _ h))
    | frz h => exact .base (.frz (e _ _ h))
    | tup h => exact .base (.tup (e _ _ h))
    | dK h => exact .base (.dK (e _ _ h))
    | dT h => exact .base (.dT (e _ _ h))
    | ins h a b c d f => exact .base (.ins (e _ _ h) a b c d f)
  | byt b => exact .byt b
  | set h => exact .set (e _ _ h)
  | kList h c => exact .kList h c
  | kTuple h c => exact .kTuple h c
  | kDict h c => exact .kDict h c
  | fTuple h => exact .fTuple (e _ _ h)
  | fDict h => exact .fDict (e _ _ h)
theorem Kind.ex {K : PySem.W.Frag} {H H' : Hp} {v : V} {c : String} {b : Bool} (h : Kind K H v c b) (e : Ex H H') : Kind K H' v c b := by
  obtain ⟨tv, h1, h2⟩ := h
  exact ⟨tv, tyX_ex e h1, h2⟩
def partV : V → Bool
  | .str s => isPart s
  | _ => false
/-- a thing that may be asked whether it is a part -/
def PartOk (K : PySem.W.Frag) (H : Hp) (v : V) : Prop := (∃ s, v = .str s ∧ s.length ≤ sizeLine) ∨ (Kind K H v "str" false ∧ flatV v = true ∧ inV v [.str ".", .str ".."] = false)
theorem PartOk.ex {K : PySem.W.Frag} {H H' : Hp} {v : V} (h : PartOk K H v) (e : Ex H H') : PartOk K H' v := by
  rcases h with h | ⟨h1, h2, h3⟩
  · exact .inl h
  · exact .inr ⟨h1.ex e, h2, h3⟩
def cBadPath (K : PySem.W.Frag) : Value := .ref (He.ga K "BadPath")
theorem restOf_len (s : Str) : (restOf s).length ≤ s.length := by
  unfold restOf
  split
  · rw [slice1', SX.S_len, len_cs s, List.length_drop]
    omega
  · exact Nat.le_refl _
theorem split_small (s : Str) {p : Str} (h : p ∈ Txt.split s sl) : p.length ≤ s.length := by
  have e : Str.join sl (Txt.split s sl) = s := StrLaws.join_split s sl
  have := PySem.join_mem_le sl (Txt.split s sl) p h
  rw [e] at this
  exact this
theorem split_count (s : Str) : (Txt.split s sl).length ≤ s.length + 2 := PyProof.Rows.split_le s sl
end Tm
namespace Tm
open PySem L2
/-! ### the law's cells -/
/-- at t: [cells, draws]; at c: the cells -/
def Town (H : Hp) (t c : Addr) : Prop := ∃ (ns : List Int) (n : Int), H t = some (.lst [.ref c, .int n]) ∧ H c = some (.lst (ns.map V.int)) ∧ ns ≠ []
theorem Town.ne {H : Hp} {t c : Addr} (T : Town H t c) : t ≠ c := by
  obtain ⟨ns, n, h1, h2, h3⟩ := T
  refine ne_of h1 h2 fun z => ?_
  cases ns with
  | nil => exact h3 rfl
  | cons a r => cases z
theorem Town.ex {H H' : Hp} {t c : Addr} (T : Town H t c) (e : Ex H H') : Town H' t c := by
  obtain ⟨ns, n, h1, h2, h3⟩ := T
  exact ⟨ns, n, e _ _ h1, e _ _ h2, h3⟩
theorem Town.off {H H' : Hp} {t c : Addr} {S : List Addr} (T : Town H t c) (e : Off S H H') (h1 : t ∉ S) (h2 : c ∉ S) : Town H' t c := by
  obtain ⟨ns, n, h3, h4, h5⟩ := T
  exact ⟨ns, n, e _ _ h3 h1, e _ _ h4 h2, h5⟩
theorem Town.t {H : Hp} {t c : Addr} (T : Town H t c) : ∃ o, H t = some o := by
  obtain ⟨ns, n, h1, h2, h3⟩ := T
  exact ⟨_, h1⟩
theorem Town.c {H : Hp} {t c : Addr} (T : Town H t c) : ∃ o, H c = some o := by
  obtain ⟨ns, n, h1, h2, h3⟩ := T
  exact ⟨_, h2⟩
end Tm
namespace Tm
open PySem L2
/-! ### == of lists of numbers, of texts -/
theorem dp_ints {K : PySem.W.Frag} {H : Hp} : ∀ ns : List Int, DpAll K H (ns.map V.int) (ns.map PyData.int)
  | [] => .nil
  | n :: r => .cons (.int n) (dp_ints r)
theorem dp_strs {K : PySem.W.Frag} {H : Hp} : ∀ ss : List Str, DpAll K H (ss.map V.str) (ss.map PyData.str)
  | [] => .nil
  | n :: r => .cons (.str n) (dp_strs r)
theorem flat_depth : ∀ ds : List PyData, (∀ d ∈ ds, d.depth = 0) → PyData.depthAll ds = 0
  | [], _ => rfl
  | d :: r, h => by
    rw [PyData.depthAll, h d (List.mem_cons_self ..), flat_depth r fun x hx => h x (List.mem_cons_of_mem _ hx)] <;> rfl
theorem lay_all : ∀ ds : List PyData, (∀ d ∈ ds, d.canLay0 = true) → PyData.canLayAll0 ds = true
  | [], _ => rfl
  | d :: r, h => by
    rw [PyData.canLayAll0, h d (List.mem_cons_self ..), lay_all r fun x hx => h x (List.mem_cons_of_mem _ hx)] <;> rfl
theorem shaped_flat {ds : List PyData} (h1 : ∀ d ∈ ds, d.depth = 0) (h2 : ∀ d ∈ ds, d.canLay0 = true) : SeqAt.shaped (.list ds) = true := by
  unfold SeqAt.shaped
  rw [PyData.canLay0, lay_all ds h2, PyData.depth, flat_depth ds h1]
  rfl
theorem shaped_ints (ns : List Int) : SeqAt.shaped (.list (ns.map PyData.int)) = true := by
  refine shaped_flat (fun d h => ?_) (fun d h => ?_)
  · obtain ⟨n, _, rfl⟩ := List.mem_map.mp h
    rfl
  · obtain ⟨n, _, rfl⟩ := List.mem_map.mp h
    rfl
theorem shaped_strs {ss : List Str} (h : ∀ s ∈ ss, PyData.strOk s = true) : SeqAt.shaped (.list (ss.map PyData.str)) = true := by
  refine shaped_flat (fun d h => ?_) (fun d hd => ?_)
  · obtain ⟨n, _, rfl⟩ := List.mem_map.mp h
    rfl
  · obtain ⟨n, hn, rfl⟩ := List.mem_map.mp hd
    exact h n hn
theorem eqv_strs : ∀ a b : List Str, PyData.eqvAll (a.map PyData.str) (b.map PyData.str) = decide (a = b)
  | [], [] => rfl
  | [], _ :: _ => rfl
  | _ :: _, [] => rfl
  | x :: a, y :: b => by
    show (PyData.eqv (.str x) (.str y) && PyData.eqvAll (a.map PyData.str) (b.map PyData.str)) = _
    rw [eqv_strs a b]
    have e : PyData.eqv (.str x) (.str y) = decide (x = y) := by
      show (x == y) = decide (x = y)
      rfl
    rw [e, ← Bool.decide_and]
    congr 1
    simp
theorem eqv_list_strs (a b : List Str) : PyData.eqv (.list (a.map PyData.str)) (.list (b.map PyData.str)) = decide (a = b) := eqv_strs a b
end Tm
namespace Tm
open PySem L2
/-! ### names put together of single signs -/
abbrev nn : Str := ""
theorem cs_nn : cs nn = [] := by decide +kernel
theorem joinL_nil : ∀ ls : List (List Nat), TL.joinL [] ls = ls.flatten
  | [] => rfl
  | [p] => by
    show p = [p].flatten
    simp
  | p :: q :: r => by
    show p ++ ([] ++ TL.joinL [] (q :: r)) = _
    rw [joinL_nil (q :: r)]
    simp
theorem cs_glue (ss : List Str) : cs (Txt.join nn ss) = (ss.map cs).flatten := by
  have h1 : Txt.join nn ss = Str.join nn ss := TL.join_eq nn ss
  have h2 : cs (Str.join nn ss) = TL.joinL (cs nn) (ss.map cs) := TL.tl_join nn ss
  rw [h1, h2, cs_nn, joinL_nil]
/-- one sign of a name -/
def Sign1 (s : Str) : Prop := ∃ c, cs s = [c] ∧ c ∈ cs signs
theorem glue_facts : ∀ {ss : List Str}, (∀ s ∈ ss, Sign1 s) → ((ss.map cs).flatten).length = ss.length ∧ ∀ c ∈ (ss.map cs).flatten, c ∈ cs signs
  | [], _ => ⟨rfl, fun _ h => nomatch h⟩
  | s :: r, h => by
    obtain ⟨h1, h2⟩ := glue_facts (ss := r) fun q hq => h q (List.mem_cons_of_mem _ hq)
    obtain ⟨c, e, hc⟩ := h s (List.mem_cons_self ..)
    rw [List.map_cons, List.flatten_cons, e]
    refine ⟨by rw [List.length_append, h1, List.length_cons]; simp; omega, fun d hd => ?_⟩
    rcases List.mem_append.mp hd with z | z
    · rw [List.mem_singleton.mp z]
      exact hc
    · exact h2 d z
theorem glue_name {ss : List Str} (h : ∀ s ∈ ss, Sign1 s) (h1 : 1 ≤ ss.length) (h8 : ss.length ≤ 8) : isName (Txt.join nn ss) = true := by
  obtain ⟨e, hm⟩ := glue_facts h
  unfold isName
  rw [len_cs, cs_glue, e, decide_eq_true h1, decide_eq_true h8, Bool.true_and, Bool.true_and, List.all_eq_true]
  exact fun c hc => decide_eq_true (hm c hc)
theorem glue_short {ss : List Str} (h : ∀ s ∈ ss, Sign1 s) : (ss.map (·.length)).sum = ss.length := by
  have key : ∀ l : List Str, (∀ s ∈ l, Sign1 s) → (l.map (·.length)).sum = l.length := by
    intro l
    induction l with
    | nil => intro _; rfl
    | cons s r ih =>
      intro hl
      obtain ⟨c, e, _⟩ := hl s (List.mem_cons_self ..)
      rw [List.map_cons, List.sum_cons, ih fun q hq => hl q (List.mem_cons_of_mem _ hq), List.length_cons, len_cs, e]
      simp
      omega
  exact key ss h
theorem strOk_of {s : Str} (h : ∀ c ∈ cs s, c < 128) : PyData.strOk s = true := by
  unfold PyData.strOk
  rw [← Array.all_toList, List.all_eq_true]
  intro c hc
  have := h c hc
  exact decide_eq_true (by omega)
theorem signs_lt : ∀ c ∈ cs signs, c < 128 := by
  rw [cs_signs]
  decide
theorem name_ok {s : Str} (h : isName s = true) : PyData.strOk s = true := by
  unfold isName at h
  simp only [Bool.and_eq_true, decide_eq_true_eq, List.all_eq_true] at h
  exact strOk_of fun c hc => signs_lt c (h.2.2 c hc)
theorem part_ok {s : Str} (h : isPart s = true) : PyData.strOk s = true := by
  have h0 := h
  unfold isPart at h
  simp only [Bool.or_eq_true, decide_eq_true_eq] at h
  rcases h with h | h | h
  · subst h; decide +kernel
  · subst h; decide +kernel
  · exact name_ok h
end Tm
namespace Tm
open PySem L2
theorem map_str_inj : ∀ {a b : List Str}, a.map V.str = b.map V.str → a = b
  | [], [], _ => rfl
  | [], _ :: _, h => nomatch h
  | _ :: _, [], h => nomatch h
  | x :: a, y :: b, h => by
    rw [List.map_cons, List.map_cons] at h
    injection h with h1 h2
    rw [V.str.inj h1, map_str_inj h2]
theorem sl_len : sl.length = 1 := by decide +kernel
end Tm
namespace Tm
open PySem L2
/-! ### plain, joined, split -/
def plainStep (acc : List Str) (p : Str) : List Str := if p = ".." then acc.dropLast else if p = "." then acc else acc ++ [p]
def plain (ps : List Str) : List Str := ps.foldl plainStep []
theorem plain_snoc (ps : List Str) (p : Str) : plain (ps ++ [p]) = plainStep (plain ps) p := by
  unfold plain
  rw [List.foldl_append]
  rfl
theorem step_facts {acc : List Str} {p : Str} (h : ∀ q ∈ acc, isName q = true) (hp : isPart p = true) : (∀ q ∈ plainStep acc p, isName q = true) ∧ (plainStep acc p).length ≤ acc.length + 1 := by
  unfold plainStep
  split
  · refine ⟨fun q hq => h q (List.dropLast_subset acc hq), ?_⟩
    rw [List.length_dropLast]
    omega
  · split
    · exact ⟨h, by omega⟩
    · rename_i h1 h2
      refine ⟨fun q hq => ?_, by rw [List.length_append]; exact Nat.le_refl _⟩
      rcases List.mem_append.mp hq with z | z
      · exact h q z
      · rw [List.mem_singleton.mp z]
        unfold isPart at hp
        rw [decide_eq_false h2, decide_eq_false h1, Bool.false_or, Bool.false_or] at hp
        exact hp
theorem fold_facts : ∀ {ps acc : List Str}, (∀ q ∈ acc, isName q = true) → (∀ p ∈ ps, isPart p = true) → (∀ q ∈ ps.foldl plainStep acc, isName q = true) ∧ (ps.foldl plainStep acc).length ≤ acc.length + ps.length
  | [], acc, h, _ => ⟨h, Nat.le_refl _⟩
  | p :: r, acc, h, hp => by
    obtain ⟨h1, h2⟩ := step_facts (p := p) h (hp p (List.mem_cons_self ..))
    obtain ⟨h3, h4⟩ := fold_facts (ps := r) h1 fun q hq => hp q (List.mem_cons_of_mem _ hq)
    refine ⟨h3, ?_⟩
    rw [List.foldl_cons, List.length_cons]
    omega
theorem part_name {s : Str} (h : isName s = true) : isPart s = true := by
  unfold isPart
  rw [h, Bool.or_true, Bool.or_true]
theorem plain_facts {ps : List Str} (h : ∀ p ∈ ps, isPart p = true) : (∀ q ∈ plain ps, isName q = true) ∧ (plain ps).length ≤ ps.length := by
  obtain ⟨h1, h2⟩ := fold_facts (ps := ps) (acc := []) (fun _ h => nomatch h) h
  exact ⟨h1, by simpa [plain] using h2⟩
theorem plain_good {ps : List Str} (h : goodParts ps = true) : goodParts (plain ps) = true := by
  obtain ⟨h1, h2⟩ := good_all h
  obtain ⟨h3, h4⟩ := plain_facts h2
  exact good_of (by omega) fun p hp => part_name (h3 p hp)
/-- names alone are plain -/
theorem fold_names : ∀ {ps acc : List Str}, (∀ p ∈ ps, isName p = true) → ps.foldl plainStep acc = acc ++ ps
  | [], acc, _ => by simp
  | p :: r, acc, h => by
    have hp := h p (List.mem_cons_self ..)
    have e : plainStep acc p = acc ++ [p] := by
      unfold plainStep
      have n1 : ¬ p = ".." := fun z => by
        rw [z, not_name_dots] at hp
        cases hp
      have n2 : ¬ p = "." := fun z => by
        rw [z, not_name_dot] at hp
        cases hp
      rw [if_neg n1, if_neg n2]
    rw [List.foldl_cons, e, fold_names fun q hq => h q (List.mem_cons_of_mem _ hq), List.append_assoc]
    rfl
theorem plain_names {ps : List Str} (h : ∀ p ∈ ps, isName p = true) : plain ps = ps := by
  have := fold_names (acc := []) h
  simpa [plain] using this
theorem plain_plain {ps : List Str} (h : ∀ p ∈ ps, isPart p = true) : plain (plain ps) = plain ps := plain_names (plain_facts h).1
theorem plain_append (ps qs : List Str) : plain (ps ++ qs) = qs.foldl plainStep (plain ps) := by
  unfold plain
  rw [List.foldl_append]
theorem plain_join {ps qs : List Str} (h : ∀ p ∈ ps, isPart p = true) : plain (plain ps ++ qs) = plain (ps ++ qs) := by
  rw [plain_append, plain_append, plain_plain h]
theorem cut_last (xs : List V) : cutV xs none (some (-1)) = xs.dropLast := by
  unfold cutV
  have e1 : HT.sIx xs.length 0 none = 0 := rfl
  have e2 : HT.sIx xs.length xs.length (some (-1)) = xs.length - 1 := by
    unfold HT.sIx
    simp
    omega
  rw [e1, e2, List.drop_zero, Nat.sub_zero, List.dropLast_eq_take]
theorem cut_to {xs : List V} {i : Int} (h : 0 ≤ i) : cutV xs none (some i) = xs.take i.toNat := by
  unfold cutV
  have e1 : HT.sIx xs.length 0 none = 0 := rfl
  have e2 : HT.sIx xs.length xs.length (some i) = min i.toNat xs.length := by
    unfold HT.sIx
    simp
    omega
  rw [e1, e2, List.drop_zero, Nat.sub_zero]
  rw [← List.take_eq_take_min]
theorem cut_from {xs : List V} {i : Int} (h : 0 ≤ i) : cutV xs (some i) none = xs.drop i.toNat := by
  unfold cutV
  have e1 : HT.sIx xs.length xs.length none = xs.length := rfl
  have e2 : HT.sIx xs.length 0 (some i) = min i.toNat xs.length := by
    unfold HT.sIx
    simp
    omega
  rw [e1, e2]
  by_cases hi : i.toNat ≤ xs.length
  · rw [Nat.min_eq_left hi, List.take_of_length_le (by rw [List.length_drop]; omega)]
  · rw [Nat.min_eq_right (by omega), Nat.sub_self, List.take_zero, List.drop_eq_nil_of_le (by omega)]
end Tm
namespace Tm
open PySem L2
def sp_town (K : PySem.W.Frag) : Sp := fun vs H Q _ => ∃ (a : Addr) (ns : List Int), vs = [.ref a] ∧ SqL K H a (ns.map V.int) ∧ ns.length ≤ 63 ∧ ∀ t c H', H t = none → H c = none → Ex H H' → Town H' t c → Q (.ref t) H'
end Tm
namespace Tm
open PySem L2
def sp_draw : Sp := fun vs H Q _ => ∃ (t c : Addr) (m : Int), vs = [.ref t, .int m] ∧ 0 < m ∧ m < 1073741824 ∧ Town H t c ∧ ∀ (r : Int) (H' : Hp), 0 ≤ r → r < m → Town H' t c → Off [t, c] H H' → Q (.int r) H'
end Tm
namespace Tm
open PySem L2
def sp_pick : Sp := fun vs H Q _ => ∃ (t c l : Addr) (xs : List V), vs = [.ref t, .ref l] ∧ Town H t c ∧ H l = some (.lst xs) ∧ l ≠ t ∧ l ≠ c ∧ xs ≠ [] ∧ xs.length < 100000 ∧ ∀ (v : V) (H' : Hp), v ∈ xs → Town H' t c → Off [t, c] H H' → Q v H'
end Tm
namespace Tm
open PySem L2
theorem pick_new {H : Hp} {t c : Addr} {xs : List V} {Q : VK} {E : XK} (T : Town H t c) (hne : xs ≠ []) (hz : xs.length < 1000) (k : ∀ v H', v ∈ xs → Town H' t c → Off [t, c] H H' → Q v H') :
    xs.length ≤ sizeLine ∧ ∀ p, H p = none → sp_pick [.ref t, .ref p] (upd H p (.lst xs)) Q E := by
  refine ⟨Nat.le_of_lt (small1000 (by omega)), fun p hp => ?_⟩
  obtain ⟨o1, h1⟩ := T.t
  obtain ⟨o2, h2⟩ := T.c
  exact ⟨t, c, p, xs, rfl, T.ex (Ex.new hp), upd_same, (ne_of_none h1 hp).symm, (ne_of_none h2 hp).symm, hne, by omega, fun v H' hv T' e => k v H' hv T' fun a o h n => e a o (Ex.new hp a o h) n⟩
theorem Off.at {H H' : Hp} {t c p : Addr} {o : HO} (e : Off [t, c] H H') (h : H p = some o) (h1 : p ≠ t) (h2 : p ≠ c) : H' p = some o := e p o h (by simp [h1, h2])
theorem part_dot : isPart "." = true := by decide +kernel
theorem part_dots : isPart ".." = true := by decide +kernel
/-- the law's names -/
def lnames : List Str := ["a", "b", "c", "d0", "longname"]
def LPart (p : Str) : Prop := p = "." ∨ p = ".." ∨ p ∈ lnames
theorem lname_ok {n : Str} (h : n ∈ lnames) : isName n = true := by
  have key : ∀ m ∈ lnames, isName m = true := by decide +kernel
  exact key n h
theorem LPart.ok {p : Str} (h : LPart p) : isPart p = true := by
  rcases h with rfl | rfl | h
  · exact part_dot
  · exact part_dots
  · exact part_name (lname_ok h)
theorem lnames_all {v : V} (h : v ∈ [V.str "a", V.str "a", V.str "b", V.str "b", V.str "c", V.str "d0", V.str "longname"]) : ∃ n, v = .str n ∧ n ∈ lnames := by
  simp only [List.mem_cons, List.not_mem_nil, or_false] at h
  rcases h with rfl | rfl | rfl | rfl | rfl | rfl | rfl
  all_goals exact ⟨_, rfl, by simp [lnames]⟩
theorem get_str {ps : List Str} {i : Nat} {x : V} (h : (ps.map V.str)[i]? = some x) : ∃ q, ps[i]? = some q ∧ x = .str q := by
  rw [List.getElem?_map] at h
  cases e : ps[i]? with
  | none => rw [e] at h; cases h
  | some q => rw [e] at h; exact ⟨q, rfl, (Option.some.inj h).symm⟩
end Tm
namespace Tm
open PySem L2
theorem cs_lt {s : Str} (h : isPart s = true) : ∀ c ∈ cs s, c < 128 := by
  unfold isPart at h
  simp only [Bool.or_eq_true, decide_eq_true_eq] at h
  rcases h with h | h | h
  · subst h; rw [cs_dot]; decide
  · subst h; rw [cs_dots]; decide
  · unfold isName at h
    simp only [Bool.and_eq_true, decide_eq_true_eq, List.all_eq_true] at h
    exact fun c hc => signs_lt c (h.2.2 c hc)
theorem joinL_lt : ∀ {ls : List (List Nat)}, (∀ l ∈ ls, ∀ c ∈ l, c < 128) → ∀ c ∈ TL.joinL [47] ls, c < 128
  | [], _, _, h => nomatch h
  | [p], h, c, hc => h p (List.mem_cons_self ..) c hc
  | p :: q :: r, h, c, hc => by
    have hc : c ∈ p ++ ([47] ++ TL.joinL [47] (q :: r)) := hc
    rcases List.mem_append.mp hc with z | z
    · exact h p (List.mem_cons_self ..) c z
    · rcases List.mem_append.mp z with y | y
      · rw [List.mem_singleton.mp y]
        decide
      · exact joinL_lt (fun l hl => h l (List.mem_cons_of_mem _ hl)) c y
theorem path_ok {ps : List Str} (h : ∀ p ∈ ps, isPart p = true) : PyData.strOk (pathOf ps) = true := by
  refine strOk_of fun c hc => ?_
  rw [cs_path] at hc
  rcases List.mem_cons.mp hc with z | z
  · rw [z]
    decide
  · refine joinL_lt (fun l hl => ?_) c z
    obtain ⟨p, hp, rfl⟩ := List.mem_map.mp hl
    exact cs_lt (h p hp)
theorem shaped_pair {a b : Str} (ha : PyData.strOk a = true) (hb : PyData.strOk b = true) : SeqAt.shaped (.tuple [.str a, .str b]) = true := by
  unfold SeqAt.shaped
  simp [PyData.canLay0, PyData.canLayAll0, PyData.depth, PyData.depthAll, ha, hb]
theorem eqv_self {d : PyData} (h : SeqAt.shaped d = true) : PyData.eqv d d = true := by
  unfold SeqAt.shaped at h
  exact SeqAt.eqv_refl d (Bool.and_eq_true_iff.mp h).1
/-- == of texts as the heap has them -/
theorem dec_str (a b : Str) : decide (V.str a = V.str b) = decide (a = b) := by
  by_cases h : a = b
  · rw [h, decide_eq_true rfl, decide_eq_true rfl]
  · rw [decide_eq_false h, decide_eq_false fun z => h (V.str.inj z)]
end Tm
namespace Tm
open PySem L2
theorem ofs_join (ps : List Str) : Txt.join sl ps = Str.join sl ps := TL.join_eq sl ps
theorem join_cons (p : Str) {ps : List Str} (h : ps ≠ []) : Txt.join sl (p :: ps) = p ++ sl ++ Txt.join sl ps := by
  rw [ofs_join, ofs_join]
  cases ps with
  | nil => exact absurd rfl h
  | cons q r => rfl
theorem str_assoc (a b c : Str) : a ++ b ++ c = a ++ (b ++ c) := ext_cs (by rw [cs_cat, cs_cat, cs_cat, cs_cat, List.append_assoc])
theorem join_app : ∀ {ls ts : List Str}, ls ≠ [] → ts ≠ [] → Txt.join sl (ls ++ ts) = Txt.join sl ls ++ sl ++ Txt.join sl ts
  | [], _, h, _ => absurd rfl h
  | [p], ts, _, h => by
    show Txt.join sl (p :: ts) = _
    rw [join_cons p h]
    rfl
  | p :: q :: r, ts, _, h => by
    have ih := join_app (ls := q :: r) (ts := ts) (by simp) h
    show Txt.join sl (p :: (q :: r ++ ts)) = _
    rw [join_cons p (by simp), ih, join_cons p (by simp)]
    simp only [str_assoc]
theorem nn_cat (s : Str) : nn ++ s = s := ext_cs (by rw [cs_cat, cs_nn, List.nil_append])
theorem path_join {ps : List Str} (h : ps ≠ []) : pathOf ps = Txt.join sl (nn :: ps) := by
  rw [join_cons nn h, nn_cat]
  rfl
theorem split_path {ps : List Str} (h : ps ≠ []) (hp : ∀ p ∈ ps, isPart p = true) : Txt.split (pathOf ps) sl = nn :: ps := by
  rw [path_join h]
  refine split_join (by simp) fun p hm => ?_
  rcases List.mem_cons.mp hm with z | z
  · rw [z, cs_nn]
    simp
  · exact (part_facts (hp p z)).2.1
theorem split_sl : Txt.split sl sl = [nn, nn] := by decide +kernel
/-- the law's own reading of a path -/
def segs (s : Str) : List Str := (Txt.split s sl).filter fun p => !decide (p = nn)
theorem part_nn {p : Str} (h : isPart p = true) : p ≠ nn := fun e => by
  have := (part_facts h).1
  rw [e, cs_nn] at this
  exact this rfl
theorem filter_parts {ps : List Str} (hp : ∀ p ∈ ps, isPart p = true) : ps.filter (fun p => !decide (p = nn)) = ps :=
  List.filter_eq_self.mpr fun p h => by rw [decide_eq_false (part_nn (hp p h))]; rfl
theorem segs_path {ps : List Str} (hp : ∀ p ∈ ps, isPart p = true) : segs (pathOf ps) = ps := by
  unfold segs
  by_cases h : ps = []
  · subst h
    rw [path_nil, split_sl]
    decide +kernel
  · rw [split_path h hp, List.filter_cons, if_neg (by simp)]
    exact filter_parts hp
theorem segs_rel {ps : List Str} (h : ps ≠ []) (hp : ∀ p ∈ ps, isPart p = true) : segs (Txt.join sl ps) = ps := by
  unfold segs
  rw [split_join h fun p hm => (part_facts (hp p hm)).2.1]
  exact filter_parts hp
end Tm
namespace Tm
open PySem L2
/-- the parts of a path and another one, behind it or from the top -/
def joinOf (a b : Str) : Option (List Str) := match partsOf true a, partsOf false b with
  | some ps, some qs => if Txt.slice b none (some 1) = sl then some qs else if goodParts (ps ++ qs) = true then some (ps ++ qs) else none
  | _, _ => none
theorem joinOf_rel {ps qs : List Str} (hp : goodParts ps = true) (hne : qs ≠ []) (hq : goodParts qs = true) (hl : ps.length + qs.length ≤ 12) : joinOf (pathOf ps) (Txt.join sl qs) = some (ps ++ qs) := by
  unfold joinOf
  rw [parts_path true hp, parts_rel hne hq]
  show (if Txt.slice (Txt.join sl qs) none (some 1) = sl then some qs else if goodParts (ps ++ qs) = true then some (ps ++ qs) else none) = _
  rw [if_neg (rest_rel hne (good_all hq).2).1, if_pos]
  refine good_of (by rw [List.length_append]; exact hl) fun p h => ?_
  rcases List.mem_append.mp h with z | z
  · exact (good_all hp).2 p z
  · exact (good_all hq).2 p z
theorem joinOf_top {ps qs : List Str} (hp : goodParts ps = true) (hq : goodParts qs = true) : joinOf (pathOf ps) (pathOf qs) = some qs := by
  unfold joinOf
  rw [parts_path true hp, parts_path false hq]
  show (if Txt.slice (pathOf qs) none (some 1) = sl then some qs else if goodParts (ps ++ qs) = true then some (ps ++ qs) else none) = _
  rw [if_pos (rest_path qs).1]
end Tm

open Tm in
local macro_rules | `(tactic| walk_at "x1") => `(tactic| first
  | ((with_reducible refine' x_var ?h1 ?_); (case h1 => exact rfl)) | with_reducible refine x_c ?_ | with_reducible refine x_op ?_ | with_reducible refine x_un ?_ | with_reducible refine x_I0 ?_ | with_reducible refine x_neg ?_
  | with_reducible refine x_test ?_ | with_reducible refine x_tB ?_ | with_reducible refine x_bl ?_ | with_reducible refine x_not ?_ | with_reducible refine x_and ?_ | with_reducible refine x_or ?_
  | with_reducible refine x_andV ?_ | with_reducible refine x_orV ?_ | with_reducible refine x_notV ?_ | with_reducible refine x_blV ?_ | with_reducible refine x_ifx ?_ | with_reducible refine x_chain ?_
  | with_reducible refine x_nil ?_ | with_reducible refine x_cons ?_ | with_reducible refine x_lst ?_ | with_reducible refine x_tup ?_ | with_reducible refine x_cb ?_ | with_reducible refine x_fld ?_
  | with_reducible refine x_sl ?_ | with_reducible refine x_noPart ?_ | with_reducible refine x_part ?_ | with_reducible refine x_partI ?_ | with_reducible refine x_m1 ?_ | with_reducible refine x_isS ?_
  | with_reducible refine x_next ?_ | with_reducible refine x_seq ?_ | with_reducible refine x_ret ?_ | with_reducible refine x_drop ?_ | with_reducible refine x_asg ?_ | with_reducible refine x_name ?_
  | with_reducible refine x_ifS ?_ | with_reducible refine x_sub ?_ | with_reducible refine x_bm ?_ | with_reducible refine x_bm0 ?_ | with_reducible refine x_fn ?_ | with_reducible refine x_fnD ?_ | with_reducible refine x_fnK ?_
  | ((with_reducible refine x_eq ?h1 ?_); (case h1 => exact rfl)) | ((with_reducible refine x_ne ?h1 ?_); (case h1 => exact rfl)) | with_reducible refine x_isNo ?_ | with_reducible refine x_isNt ?_ | with_reducible refine x_sgn ?_
  | with_reducible refine x_lcS ?_ | with_reducible refine x_lcL ?_ | with_reducible refine x_lcR1 ?_
  | with_reducible refine x_forR1 ?_ | with_reducible refine x_forR2 ?_ | with_reducible refine x_forL ?_)
local macro_rules | `(tactic| walk_at "x") => `(tactic| (repeat walk_at "x1"))
local macro_rules | `(tactic| walk_at "if") => `(tactic| (refine Tm.x_thru ?_; walk_at "x"))
local macro_rules | `(tactic| walk_at "ne") => `(tactic| first
  | assumption | exact Ne.symm (by assumption) | exact ne_of_none (by first | assumption | walk_at "hp") (by assumption) | exact (ne_of_none (by first | assumption | walk_at "hp") (by assumption)).symm
  | exact ne_of (by walk_at "hp") (by walk_at "hp") (by intro z; cases z))
open Tm L2 in
local macro_rules | `(tactic| walk_at "hp") => `(tactic| first
  | assumption | exact upd_same
  | ((with_reducible refine' Eq.trans (upd_ne ?h1) ?h2); (case h1 => walk_at "ne"); (case h2 => walk_at "hp"))
  | ((with_reducible refine' ex_at ?h1 ?h2); (case h1 => assumption); (case h2 => walk_at "hp")))
namespace Tm
open PySem L2
def top (i : Nat) : Stmt := PySem.Challenge.pw_treemounts_k04_whole_joined.main.body.getD i (.Pass ⟨0, 0, 0, 0⟩)
-- in TmP: def sp_draw
-- in TmP: def sp_pick
def sp_name : Sp := fun vs H Q _ => ∃ t c : Addr, vs = [.ref t] ∧ Town H t c ∧ ∀ (n : Str) (H' : Hp), n ∈ lnames → Town H' t c → Off [t, c] H H' → Q (.str n) H'
def sp_some_path : Sp := fun vs H Q _ => ∃ (t c : Addr) (m : Int), vs = [.ref t, .int m] ∧ 0 ≤ m ∧ m ≤ 12 ∧ Town H t c ∧ ∀ (ps : List Str) (H' : Hp), (ps.length : Int) ≤ m → (∀ p ∈ ps, LPart p) → Town H' t c → Off [t, c] H H' → Q (.str (pathOf ps)) H'
-- in TmP: def sp_town (K : PySem.W.Frag)
def sp_is_name (K : PySem.W.Frag) : Sp := fun vs H Q _ => ∃ v, vs = [v] ∧ ((∃ s, v = .str s ∧ s.length ≤ sizeLine ∧ ∀ H', Ex H H' → Q (.bl (isName s)) H') ∨ (Kind K H v "str" false ∧ ∀ H', Ex H H' → Q (.bl false) H'))
def sp_is_part (K : PySem.W.Frag) : Sp := fun vs H Q _ => ∃ v, vs = [v] ∧ PartOk K H v ∧ ∀ H', Ex H H' → Q (.bl (partV v)) H'
def sp_parts_of (K : PySem.W.Frag) : Sp := fun vs H Q E => ∃ (v : V) (b : Bool), vs = [v, .bl b] ∧
  ((∃ s, v = .str s ∧ s.length + 2 ≤ sizeLine ∧ (∀ ps, partsOf b s = some ps → ∀ p H', H p = none → Ex H H' → H' p = some (.lst (ps.map V.str)) → Q (.ref p) H') ∧ (partsOf b s = none → ∀ H', Ex H H' → E (cBadPath K) none H')) ∨
    (Kind K H v "str" false ∧ ∀ H', Ex H H' → E (cBadPath K) none H'))
/-- the things of a list, asked part by part -/
def goodVs (xs : List V) : Bool := decide (xs.length ≤ 12) && xs.all partV
def sp_path_of (K : PySem.W.Frag) : Sp := fun vs H Q E => ∃ v : V, vs = [v] ∧
  ((∃ a xs, v = .ref a ∧ H a = some (.lst xs) ∧ xs.length ≤ 100000 ∧ (∀ x ∈ xs, PartOk K H x) ∧ (∀ ps : List Str, xs = ps.map V.str → goodParts ps = true → ∀ H', Ex H H' → Q (.str (pathOf ps)) H') ∧ (goodVs xs = false → ∀ H', Ex H H' → E (cBadPath K) none H')) ∨
    (Kind K H v "list" false ∧ ∀ H', Ex H H' → E (cBadPath K) none H'))
/-- a text, or a thing that is none -/
def TextOk (K : PySem.W.Frag) (H : Hp) (v : V) : Prop := (∃ s, v = .str s ∧ s.length + 2 ≤ sizeLine) ∨ Kind K H v "str" false
def sp_joined (K : PySem.W.Frag) : Sp := fun vs H Q E => ∃ v u : V, vs = [v, u] ∧ TextOk K H v ∧ TextOk K H u ∧
  (∀ a b, v = .str a → u = .str b → ∀ qs, joinOf a b = some qs → ∀ H', Ex H H' → Q (.str (pathOf qs)) H') ∧ ((∀ a b, v = .str a → u = .str b → joinOf a b = none) → ∀ H', Ex H H' → E (cBadPath K) none H')
def sp_plain (K : PySem.W.Frag) : Sp := fun vs H Q E => ∃ v : V, vs = [v] ∧
  ((∃ s, v = .str s ∧ s.length + 2 ≤ sizeLine ∧ (∀ ps, partsOf true s = some ps → ∀ H', Ex H H' → Q (.str (pathOf (plain ps))) H') ∧ (partsOf true s = none → ∀ H', Ex H H' → E (cBadPath K) none H')) ∨
    (Kind K H v "str" false ∧ ∀ H', Ex H H' → E (cBadPath K) none H'))
def sp_law (K : PySem.W.Frag) : Sp := fun vs H Q _ => ∃ (a : Addr) (ns : List Int), vs = [.ref a] ∧ SqL K H a (ns.map V.int) ∧ ns.length ≤ 63 ∧ ∀ H', Q (.bl true) H'
theorem atI_mod {ns : List Int} {n : Int} (h : 0 < (ns.length : Int)) : ∃ z, atI (ns.map V.int) (n % (ns.length : Int)) = some (.int z) ∧ ixN (ns.map V.int).length (n % (ns.length : Int)) = some (n % (ns.length : Int)).toNat := by
  have h1 := Int.emod_nonneg n (show (ns.length : Int) ≠ 0 by omega)
  have h2 := Int.emod_lt_of_pos n h
  have e : ixN (ns.map V.int).length (n % (ns.length : Int)) = some (n % (ns.length : Int)).toNat := by
    unfold ixN
    rw [List.length_map, if_pos h1, if_pos h2]
  have l : (n % (ns.length : Int)).toNat < ns.length := by omega
  refine ⟨ns[(n % (ns.length : Int)).toNat], ?_, e⟩
  unfold atI
  rw [e]
  show (ns.map V.int)[(n % (ns.length : Int)).toNat]? = _
  rw [List.getElem?_map, List.getElem?_eq_getElem l] <;> rfl
abbrev s_law_draw : Stmt := top 17
abbrev N_law_draw : List Str := ["town", "many", "cells", "at", "cell", "mixed"]
theorem sc_law_draw : FnScope N_law_draw ["town", "many"] (defScope s_law_draw) := ⟨rfl, rfl, rfl, by decide +kernel, rfl, by decide +kernel, by decide +kernel⟩
theorem ok_law_draw {P : Program} {w : World} {K : PySem.W.Frag} {mg : Str → Option Value} {base : Heap} {f : Addr} {fd : FuncData} (F : FunD K "_law_draw" "_law_draw" (defArgs s_law_draw) (defBody s_law_draw) (defScope s_law_draw) [] [] f fd)
    (b_len : mg "len" = none)  : FnOk P w K mg base (L2.CX P w) 1 f fd ["town", "many"] sp_draw := by
  have nd := sc_law_draw.nd
  refine F.ok (k := 0) sc_law_draw (fun vs H Q E h => ?_) (fun cdv A outer s H vs Q E hr h => ?_)
  · obtain ⟨_, _, _, rfl, _⟩ := h
    rfl
  have hu := hu_of hr
  refine ⟨_, (pss_cons (ps_set (i := 2) nd rfl (Or.inl rfl) (pe_ix ix_list (pv 0) pe_int (fun _ _ => rfl)))
      (pss_cons (ps_asg (pe_op op_add (pe_ix ix_list (pv 0) pe_int (fun _ _ => rfl)) pe_int) (pg_sub (pv 0) pe_int set_list))
      (pss_cons (ps_set (i := 3) nd rfl (Or.inl rfl) (pe_op op_mod (pe_ix ix_list (pv 0) pe_int (fun _ _ => rfl)) (pe_callB call_lenQ (by rfl) b_len (by decide +kernel) (pa_cons (pv 2) pa_nil))))
      (pss_cons (ps_set (i := 4) nd rfl (Or.inl rfl) (pe_ix ix_list (pv 2) (pv 3) (fun _ _ => rfl)))
      (pss_mid (ps_if (pt_cmpR op_ge (pv 4) pe_int (nomark _)) (pss_cons (ps_asg (pe_op op_fdiv (pv 4) (pv 1)) (pg_sub (pv 2) (pv 3) set_list))
      (pss_one (ps_ret (pe_op op_mod (pv 4) (pv 1)))))
      pss_nil)
      (pss_cons (ps_set (i := 5) nd rfl (Or.inl rfl) (pe_op op_mod (pe_op op_add (pv 4) (pe_op op_mul pe_int (pe_ix ix_list (pv 0) pe_int (fun _ _ => rfl)))) pe_int))
      (pss_cons (ps_set (i := 5) nd rfl (Or.inl rfl) (pe_op op_mod (pe_op op_pow (pv 5) pe_int) pe_int))
      (pss_one (ps_ret (pe_op op_mod (pe_op op_fdiv (pe_op op_mod (pe_op op_add (pe_op op_mul (pe_op op_fdiv (pv 5) pe_int) pe_int) (pv 5)) pe_int) pe_int) (pv 1))))))))))), ?_⟩
  obtain ⟨t, c, m, rfl, m0, m1, T, k⟩ := h
  have ntc := T.ne
  obtain ⟨ns, n, ht, hc, hne⟩ := T
  walk_at "x"
  refine x_ixL (v := .ref c) (SqL.of ht) rfl ?_
  walk_at "x"
  refine x_ixL (v := .int n) (SqL.of ht) rfl ?_
  walk_at "x"
  refine x_setL (j := 1) ht rfl ?_
  have e1 : Off [t, c] H (upd H t (.lst [.ref c, .int (n + 1)])) := Off.put Off.rfl (by simp)
  have t1 : (upd H t (.lst [.ref c, .int (n + 1)])) t = some (.lst [.ref c, .int (n + 1)]) := upd_same
  have c1 : (upd H t (.lst [.ref c, .int (n + 1)])) c = some (.lst (ns.map V.int)) := by rw [upd_ne ntc.symm]; exact hc
  show tSeq _ _ _ _ (upd H t (.lst [.ref c, .int (n + 1)]))
  generalize upd H t (.lst [.ref c, .int (n + 1)]) = H1 at e1 t1 c1
  walk_at "x"
  refine x_ixL (v := .int (n + 1)) (SqL.of t1) rfl ?_
  walk_at "x"
  refine x_lenL (SqL.of c1) ?_
  have hl : (0 : Int) < (ns.length : Int) := by
    have := List.length_pos_iff.mpr hne
    omega
  rw [List.length_map]
  refine x_I hl ?_
  walk_at "x"
  obtain ⟨z, ha, hi⟩ := atI_mod (n := n + 1) hl
  refine x_ixL (SqL.of c1) ha ?_
  walk_at "x"
  refine x_thru ?_
  walk_at "x"
  refine x_ifd (fun h1 => ?_) (fun h1 => ?_)
  · walk_at "x"
    refine x_I ⟨m0, m1⟩ ?_
    walk_at "x"
    refine x_setL c1 hi ?_
    walk_at "x"
    refine x_I m0 ?_
    have es : (ns.map V.int).set (((n + 1) % (ns.length : Int)).toNat) (V.int (z / m)) = (ns.set (((n + 1) % (ns.length : Int)).toNat) (z / m)).map V.int := (List.map_set ..).symm
    rw [es]
    refine k _ _ (Int.emod_nonneg _ (by omega)) (Int.emod_lt_of_pos _ m0) ⟨_, _, by rw [upd_ne ntc]; exact t1, upd_same, fun z => hne ?_⟩ (e1.put (by simp))
    have := congrArg List.length z
    rw [List.length_set] at this
    exact List.length_eq_zero_iff.mp this
  · walk_at "x"
    refine x_ixL (v := .int (n + 1)) (SqL.of t1) rfl ?_
    refine x_I (.inl ⟨by decide, by decide⟩) ?_
    walk_at "x"
    refine x_I (by show (0 : Int) < 4294967291; decide) ?_
    walk_at "x"
    have q0 := Int.emod_nonneg (z + 104729 * (n + 1)) (show (4294967291 : Int) ≠ 0 by decide)
    have q1 := Int.emod_lt_of_pos (z + 104729 * (n + 1)) (show (0 : Int) < 4294967291 by decide)
    generalize (z + 104729 * (n + 1)) % 4294967291 = y at q0 q1
    refine x_I ⟨by decide, by decide, by have : (2 : Nat) ^ 64 = 18446744073709551616 := rfl; omega⟩ ?_
    walk_at "x"
    refine x_I (by show (0 : Int) < 4294967279; decide) ?_
    walk_at "x"
    generalize (y ^ (5 : Int).toNat) % 4294967279 = y2
    refine x_I ⟨by decide, by decide⟩ ?_
    walk_at "x"
    refine x_I (.inr ⟨by decide, by decide⟩) ?_
    walk_at "x"
    refine x_I (by show (0 : Int) < 4294967231; decide) ?_
    walk_at "x"
    refine x_I ⟨by decide, by decide⟩ ?_
    walk_at "x"
    refine x_I m0 ?_
    exact k _ _ (Int.emod_nonneg _ (by omega)) (Int.emod_lt_of_pos _ m0) ⟨_, _, t1, c1, hne⟩ e1

abbrev s_law_pick : Stmt := top 18
abbrev N_law_pick : List Str := ["town", "some"]
theorem sc_law_pick : FnScope N_law_pick ["town", "some"] (defScope s_law_pick) := ⟨rfl, rfl, rfl, by decide +kernel, rfl, by decide +kernel, by decide +kernel⟩
theorem ok_law_pick {P : Program} {w : World} {K : PySem.W.Frag} {mg : Str → Option Value} {base : Heap} {f : Addr} {fd : FuncData} (F : FunD K "_law_pick" "_law_pick" (defArgs s_law_pick) (defBody s_law_pick) (defScope s_law_pick) [] [] f fd)
    (F_law_draw : Fn P w K mg base 1 "_law_draw" ["town", "many"] sp_draw) (b_len : mg "len" = none)  : FnOk P w K mg base (L2.CX P w) 2 f fd ["town", "some"] sp_pick := by
  have nd := sc_law_pick.nd
  refine F.ok (k := 1) sc_law_pick (fun vs H Q E h => ?_) (fun cdv A outer s H vs Q E hr h => ?_)
  · obtain ⟨_, _, _, _, rfl, _⟩ := h
    rfl
  have hu := hu_of hr
  refine ⟨_, (pss_one (ps_ret (pe_ix ix_list (pv 1) (pe_fn F_law_draw (hr.mono (by decide)) (by rfl) (passD rfl rfl rfl rfl) (pa_cons (pv 0) (pa_cons (pe_callB call_lenQ (by rfl) b_len (by decide +kernel) (pa_cons (pv 1) pa_nil)) pa_nil))) (fun _ _ => rfl)))), ?_⟩
  obtain ⟨t, c, l, xs, rfl, T, hl, n1, n2, hne, hz, k⟩ := h
  walk_at "x"
  refine x_lenL (SqL.of hl) ?_
  have hp := List.length_pos_iff.mpr hne
  refine ⟨t, c, _, rfl, by omega, by omega, T, fun r H' r0 r1 T' e => ?_⟩
  have h2 : r.toNat < xs.length := by omega
  refine x_ixL (SqL.of (e _ _ hl (by simp [n1, n2]))) (v := xs[r.toNat]) ?_ (k _ H' (List.getElem_mem h2) T' e)
  exact at_of (j := r.toNat) (by omega) (List.getElem?_eq_getElem h2)
abbrev s_law_name : Stmt := top 19
abbrev N_law_name : List Str := ["town"]
theorem sc_law_name : FnScope N_law_name ["town"] (defScope s_law_name) := ⟨rfl, rfl, rfl, by decide +kernel, rfl, by decide +kernel, by decide +kernel⟩
theorem ok_law_name {P : Program} {w : World} {K : PySem.W.Frag} {mg : Str → Option Value} {base : Heap} {f : Addr} {fd : FuncData} (F : FunD K "_law_name" "_law_name" (defArgs s_law_name) (defBody s_law_name) (defScope s_law_name) [] [] f fd)
    (F_law_pick : Fn P w K mg base 2 "_law_pick" ["town", "some"] sp_pick)  : FnOk P w K mg base (L2.CX P w) 3 f fd ["town"] sp_name := by
  have nd := sc_law_name.nd
  refine F.ok (k := 2) sc_law_name (fun vs H Q E h => ?_) (fun cdv A outer s H vs Q E hr h => ?_)
  · obtain ⟨_, _, rfl, _⟩ := h
    rfl
  have hu := hu_of hr
  refine ⟨_, (pss_one (ps_ret (pe_fn F_law_pick (hr.mono (by decide)) (by rfl) (passD rfl rfl rfl rfl) (pa_cons (pv 0) (pa_cons (pe_lst (pa_cons pe_str (pa_cons pe_str (pa_cons pe_str (pa_cons pe_str (pa_cons pe_str (pa_cons pe_str (pa_cons pe_str pa_nil)))))))) pa_nil))))), ?_⟩
  obtain ⟨t, c, rfl, T, k⟩ := h
  walk_at "x"
  refine pick_new (E := E) T (by simp) (by show 7 < 1000; decide) fun v H' hv T' e => ?_
  obtain ⟨n, rfl, hn⟩ := lnames_all hv
  exact k n H' hn T' e
abbrev s_law_some_path : Stmt := top 20
abbrev N_law_some_path : List Str := ["town", "most", "parts", "k", "part"]
theorem sc_law_some_path : FnScope N_law_some_path ["town", "most"] (defScope s_law_some_path) := ⟨rfl, rfl, rfl, by decide +kernel, rfl, by decide +kernel, by decide +kernel⟩
theorem ok_law_some_path {P : Program} {w : World} {K : PySem.W.Frag} {mg : Str → Option Value} {base : Heap} {f : Addr} {fd : FuncData} (F : FunD K "_law_some_path" "_law_some_path" (defArgs s_law_some_path) (defBody s_law_some_path) (defScope s_law_some_path) [] [] f fd)
    (b_range : mg "range" = none) (F_law_draw : Fn P w K mg base 1 "_law_draw" ["town", "many"] sp_draw) (F_law_name : Fn P w K mg base 3 "_law_name" ["town"] sp_name) (F_law_pick : Fn P w K mg base 2 "_law_pick" ["town", "some"] sp_pick)  : FnOk P w K mg base (L2.CX P w) 4 f fd ["town", "most"] sp_some_path := by
  have nd := sc_law_some_path.nd
  refine F.ok (k := 3) sc_law_some_path (fun vs H Q E h => ?_) (fun cdv A outer s H vs Q E hr h => ?_)
  · obtain ⟨_, _, _, rfl, _⟩ := h
    rfl
  have hu := hu_of hr
  refine ⟨_, (pss_cons (ps_setLc (i := 2) (own := [("k", 3)]) (g := gName 3) (by rfl) nd rfl rfl (sw_true rfl rfl rfl (by decide +kernel)) (pi_range1 (by rfl) b_range (pa_cons (pe_fn F_law_draw (hr.mono (by decide)) (by rfl) (passD rfl rfl rfl rfl) (pa_cons (pv 0) (pa_cons (pe_op op_add (pv 1) pe_int) pa_nil))) pa_nil)) (blkOk_by (own := [("k", 3)]) (N := N_law_some_path) (sc := defScope s_law_some_path) (by decide +kernel)) (fun _ _ _ _ _ => (pg_name (i := 3) nd rfl (Or.inl rfl))) (fun _ _ _ _ _ => pts_nil) (fun _ _ _ _ _ => (pe_fn F_law_name (hr.mono (by decide)) (by rfl) (passC rfl) (pa_cons (pv 0) pa_nil))))
      (pss_one (ps_ret (pe_op op_catS pe_str (pe_join pe_str (pe_lc (own := [("part", 4)]) (g := gName 4) (by rfl) nd (pi_list (pv 2)) (blkOk_by (own := [("part", 4)]) (N := N_law_some_path) (sc := defScope s_law_some_path) (by decide +kernel)) (fun _ _ _ _ _ => (pg_name (i := 4) nd rfl (Or.inl rfl))) (fun _ _ _ _ _ => pts_nil) (fun _ _ _ _ _ => (pe_fn F_law_pick (hr.mono (by decide)) (by rfl) (passC rfl) (pa_cons (pv 0) (pa_cons (pe_lst (pa_cons (pv 4) (pa_cons (pv 4) (pa_cons (pv 4) (pa_cons (pv 4) (pa_cons pe_str (pa_cons pe_str pa_nil))))))) pa_nil)))))))))), ?_⟩
  obtain ⟨t, c, m, rfl, m0, m12, T, k⟩ := h
  have big : (1000 : Nat) ≤ sizeLine := by decide
  walk_at "x"
  refine ⟨t, c, m + 1, rfl, by omega, by omega, T, fun r H1 r0 r1 T1 e1 => ?_⟩
  walk_at "x"
  refine x_lcRV (fun D i H' => Town H' t c ∧ Off [t, c] H1 H' ∧ ∃ ss : List Str, H' D = some (.lst (ss.map V.str)) ∧ ss.length = i ∧ ∀ s ∈ ss, s ∈ lnames) (by omega) ?_ ?_ ?_
  · intro D hD
    exact ⟨T1.ex (Ex.new hD), Off.rfl.new hD, [], upd_same, rfl, fun _ h => nomatch h⟩
  · rintro D i H2 hD hi ⟨T2, e2, ss, hD2, hl2, hs2⟩
    refine ⟨rfl, ?_⟩
    have nDt : D ≠ t := by obtain ⟨o, h⟩ := T1.t; exact (ne_of_none h hD).symm
    have nDc : D ≠ c := by obtain ⟨o, h⟩ := T1.c; exact (ne_of_none h hD).symm
    walk_at "x"
    refine ⟨t, c, rfl, T2, fun n H3 hn T3 e3 => ?_⟩
    refine ⟨_, e3.at hD2 nDt nDc, by rw [List.length_map]; exact small1000 (by omega), ?_, ?_, ss ++ [n], ?_, ?_, ?_⟩
    · exact T3.off (S := [D]) (Off.put Off.rfl (by simp)) (by simp [nDt.symm]) (by simp [nDc.symm])
    · exact (e2.tr e3).new hD
    · rw [upd_same, List.map_append]
      rfl
    · rw [List.length_append, hl2]
      rfl
    · intro q hq
      rcases List.mem_append.mp hq with z | z
      · exact hs2 q z
      · rw [List.mem_singleton.mp z]
        exact hn
  · rintro D H2 hD ⟨T2, e2, ss, hD2, hl2, hs2⟩
    have nDt : D ≠ t := by obtain ⟨o, h⟩ := T1.t; exact (ne_of_none h hD).symm
    have nDc : D ≠ c := by obtain ⟨o, h⟩ := T1.c; exact (ne_of_none h hD).symm
    walk_at "x"
    refine x_lcLI (fun L i H' => Town H' t c ∧ Off [t, c] H2 H' ∧ ∃ ps : List Str, H' L = some (.lst (ps.map V.str)) ∧ ps.length = i ∧ ∀ p ∈ ps, LPart p) (SqL.of hD2) ?_ ?_ ?_ ?_
    · intro L hL
      exact ⟨T2.ex (Ex.new hL), Off.rfl.new hL, [], upd_same, rfl, fun _ h => nomatch h⟩
    · rintro L i H3 hL ⟨T3, e3, _⟩
      exact SqL.of (e3.at hD2 nDt nDc)
    · rintro L i x H3 hL hx ⟨T3, e3, ps, hL3, hl3, hs3⟩
      obtain ⟨q, hq, rfl⟩ := get_str hx
      have hi : i < ss.length := (List.getElem?_eq_some_iff.mp hq).1
      refine ⟨rfl, ?_⟩
      have nLt : L ≠ t := by obtain ⟨o, h⟩ := T2.t; exact (ne_of_none h hL).symm
      have nLc : L ≠ c := by obtain ⟨o, h⟩ := T2.c; exact (ne_of_none h hL).symm
      walk_at "x"
      refine pick_new (E := E0) T3 (by simp) (by show 6 < 1000; decide) fun v H4 hv T4 e4 => ?_
      obtain ⟨p, rfl, hp⟩ : ∃ p, v = .str p ∧ LPart p := by
        simp only [List.mem_cons, List.not_mem_nil, or_false] at hv
        have hm := hs2 q (List.mem_of_getElem? hq)
        rcases hv with rfl | rfl | rfl | rfl | rfl | rfl
        · exact ⟨_, rfl, .inr (.inr hm)⟩
        · exact ⟨_, rfl, .inr (.inr hm)⟩
        · exact ⟨_, rfl, .inr (.inr hm)⟩
        · exact ⟨_, rfl, .inr (.inr hm)⟩
        · exact ⟨_, rfl, .inl rfl⟩
        · exact ⟨_, rfl, .inr (.inl rfl)⟩
      refine ⟨_, e4.at hL3 nLt nLc, by rw [List.length_map]; exact small1000 (by omega), ?_, ?_, ps ++ [p], ?_, ?_, ?_⟩
      · exact T4.off (S := [L]) (Off.put Off.rfl (by simp)) (by simp [nLt.symm]) (by simp [nLc.symm])
      · exact (e3.tr e4).new hL
      · rw [upd_same, List.map_append]
        rfl
      · rw [List.length_append, hl3]
        rfl
      · intro z hz
        rcases List.mem_append.mp hz with y | y
        · exact hs3 z y
        · rw [List.mem_singleton.mp y]
          exact hp
    · rintro L H3 hL ⟨T3, e3, ps, hL3, hl3, hs3⟩
      rw [List.length_map] at hl3
      have g : goodParts ps = true := good_of (by omega) fun p hp => (hs3 p hp).ok
      have js := join_short g
      have jl := join_len g
      refine ⟨sl, L, ps, rfl, rfl, .inl (SqL.of hL3), by omega, ?_⟩
      refine x_catS (by have z : (Str.ofString "/").length = 1 := sl_len; omega) ?_
      exact k ps H3 (by omega) hs3 T3 ((e1.tr e2).tr e3)
abbrev s_law_town : Stmt := top 16
abbrev N_law_town : List Str := ["script"]
theorem sc_law_town : FnScope N_law_town ["script"] (defScope s_law_town) := ⟨rfl, rfl, rfl, by decide +kernel, rfl, by decide +kernel, by decide +kernel⟩
theorem ok_law_town {P : Program} {w : World} {K : PySem.W.Frag} {mg : Str → Option Value} {base : Heap} {f : Addr} {fd : FuncData} (F : FunD K "_law_town" "_law_town" (defArgs s_law_town) (defBody s_law_town) (defScope s_law_town) [] [] f fd)
    (b_list : mg "list" = none)  : FnOk P w K mg base (L2.CX P w) 1 f fd ["script"] (sp_town K) := by
  have nd := sc_law_town.nd
  refine F.ok (k := 0) sc_law_town (fun vs H Q E h => ?_) (fun cdv A outer s H vs Q E hr h => ?_)
  · obtain ⟨_, _, rfl, _⟩ := h
    rfl
  have hu := hu_of hr
  refine ⟨_, (pss_one (ps_ret (pe_lst (pa_cons (pe_ifExp (pt_cmpR (op_neD hr.units) (pv 0) (pe_lst pa_nil) (nomark _)) (pe_callTy call_mkL (by rfl) b_list (by decide +kernel) (pa_cons (pv 0) pa_nil)) (pe_lst (pa_cons pe_int pa_nil))) (pa_cons pe_int pa_nil))))), ?_⟩
  obtain ⟨a, ns, rfl, hs, hl, k⟩ := h
  walk_at "x"
  refine ⟨by decide, fun p hp => ?_⟩
  refine ⟨_, .list [], .lst ((Ex.new hp).sq hs) (dp_ints ns), .lst (SqL.of upd_same) .nil, shaped_ints ns, rfl, ?_⟩
  walk_at "x"
  have fin : ∀ (c : Addr) (H1 : Hp) (l : List Int), H c = none → Ex H H1 → H1 c = some (.lst (l.map V.int)) → l ≠ [] → ∀ t, H1 t = none → Q (.ref t) (upd H1 t (.lst [.ref c, .int 0])) := fun c H1 l hc e h1 h2 t ht => by
    have ne : c ≠ t := ne_of_none h1 ht
    exact k t c _ (ex_none e ht) hc (e.tr (Ex.new ht)) ⟨l, 0, upd_same, by rw [upd_ne ne]; exact h1, h2⟩
  cases ns with
  | nil =>
    refine iteF ?_
    walk_at "x"
    refine ⟨by decide, fun c hc => ?_⟩
    walk_at "x"
    have hc0 : H c = none := ex_none (Ex.new hp) hc
    exact ⟨by show 2 ≤ sizeLine; decide, fun t ht => fin c _ [0] hc0 ((Ex.new hp).tr (Ex.new hc)) upd_same (by simp) t ht⟩
  | cons n r =>
    refine iteT ?_
    walk_at "x"
    refine x_mkL ((Ex.new hp).sq hs) fun c hc => ?_
    walk_at "x"
    have hc0 : H c = none := ex_none (Ex.new hp) hc
    exact ⟨by show 2 ≤ sizeLine; decide, fun t ht => fin c _ (n :: r) hc0 ((Ex.new hp).tr (Ex.new hc)) upd_same (by simp) t ht⟩
abbrev s_is_name : Stmt := top 9
abbrev N_is_name : List Str := ["thing", "sign"]
theorem sc_is_name : FnScope N_is_name ["thing"] (defScope s_is_name) := ⟨rfl, rfl, rfl, by decide +kernel, rfl, by decide +kernel, by decide +kernel⟩
theorem ok_is_name {P : Program} {w : World} {K : PySem.W.Frag} {mg : Str → Option Value} {base : Heap} {f : Addr} {fd : FuncData} (F : FunD K "is_name" "is_name" (defArgs s_is_name) (defBody s_is_name) (defScope s_is_name) [] [] f fd)
    (b_isinstance : mg "isinstance" = none) (b_str : mg "str" = none) (b_len : mg "len" = none) (c_MOST_NAME : ∃ t, mg "MOST_NAME" = some (.int 8 t)) (b_all : mg "all" = none) (c_SIGNS : ∃ t, mg "SIGNS" = some (.str "abcdefghijklmnopqrstuvwxyz0123456789" t))  : FnOk P w K mg base (L2.CX P w) 1 f fd ["thing"] (sp_is_name K) := by
  have nd := sc_is_name.nd
  refine F.ok (k := 0) sc_is_name (fun vs H Q E h => ?_) (fun cdv A outer s H vs Q E hr h => ?_)
  · obtain ⟨_, rfl, _⟩ := h
    rfl
  have hu := hu_of hr
  refine ⟨_, (pss_mid (ps_if (PW.pt (pw_or (pt_not (pt_val (pe_callB call_isi (by rfl) b_isinstance (by decide +kernel) (pa_cons (pv 0) (pa_cons (pe_ty (n := "str") b_str (by decide +kernel) (by rfl)) pa_nil))))) (pw_or1 (pt_not (pt_chain op_le op_le pe_int (pe_callB call_lenT (by rfl) b_len (by decide +kernel) (pa_cons (pv 0) pa_nil)) (pe_gint c_MOST_NAME (by rfl))))))) (pss_one (ps_ret pe_bl))
      pss_nil)
      (pss_one (ps_ret (pe_callB (cr_all rfl) (by rfl) b_all (by decide +kernel) (pa_cons (pe_lc (own := [("sign", 1)]) (g := gName 1) (by rfl) nd (pi_str (pv 0)) (blkOk_by (own := [("sign", 1)]) (N := N_is_name) (sc := defScope s_is_name) (by decide +kernel)) (fun _ _ _ _ _ => (pg_name (i := 1) nd rfl (Or.inl rfl))) (fun _ _ _ _ _ => pts_nil) (fun _ _ _ _ _ => (pe_cmpR op_sgn (pv 1) (pe_gstr c_SIGNS (by rfl)) rfl))) pa_nil))))), ?_⟩
  obtain ⟨v, rfl, ⟨s, rfl, hz, k⟩ | ⟨⟨tv, ht, hk⟩, k⟩⟩ := h
  · walk_at "if"
    refine x_isi (b := true) (.ty _) (.base (.str s)) (kit_ty (by decide +kernel)) ?_
    walk_at "x"
    refine iteF ?_
    walk_at "x"
    refine x_lenT hz ?_
    walk_at "x"
    have no : isName s = false → Q (.bl false) H := fun e => by
      have := k H Ex.rfl
      rw [e] at this
      exact this
    refine x_ifd (fun h1 => ?_) (fun h1 => ?_)
    · walk_at "x"
      refine x_ifn (fun h2 => ?_) (fun h2 => ?_)
      · walk_at "x"
        refine no ?_
        unfold isName
        rw [decide_eq_false (show ¬ s.length ≤ 8 by omega), Bool.false_and, Bool.and_false]
      · walk_at "x"
        refine x_lcSV ⟨fun _ => rfl, ?_, fun _ => true, fun v => match v with | .str a => .bl (match (cs a)[0]? with | some c => decide (c ∈ cs signs) | none => true) | _ => .non, fun x hx H' e R k => k H' Ex.rfl, fun x hx _ H' e R k => ?_, fun D H' hD e hl => ?_⟩
        · rw [List.length_map, ← len_cs]
          omega
        · obtain ⟨c, hc, rfl⟩ := List.mem_map.mp hx
          walk_at "x"
          exact k H' Ex.rfl
        · walk_at "x"
          refine x_all (bs := (cs s).map fun c => decide (c ∈ cs signs)) (.inl (.inl ?_)) ?_
          · rw [hl]
            congr 2
            rw [List.filter_eq_self.mpr (fun _ _ => rfl), List.map_map, List.map_map]
            rfl
          · have e2 : ((cs s).map fun c => decide (c ∈ cs signs)).all id = isName s := by
              unfold isName
              rw [decide_eq_true (show 1 ≤ s.length by omega), decide_eq_true (show s.length ≤ 8 by omega), Bool.true_and, Bool.true_and, List.all_map]
              rfl
            rw [e2]
            exact k H' e
    · walk_at "x"
      refine iteT ?_
      walk_at "x"
      refine no ?_
      unfold isName
      rw [decide_eq_false (show ¬ 1 ≤ s.length by omega), Bool.false_and]
  · walk_at "if"
    refine x_isi (.ty _) ht hk ?_
    walk_at "x"
    refine iteT ?_
    refine iteT ?_
    walk_at "x"
    exact k H Ex.rfl
abbrev s_is_part : Stmt := top 10
abbrev N_is_part : List Str := ["thing"]
theorem sc_is_part : FnScope N_is_part ["thing"] (defScope s_is_part) := ⟨rfl, rfl, rfl, by decide +kernel, rfl, by decide +kernel, by decide +kernel⟩
theorem ok_is_part {P : Program} {w : World} {K : PySem.W.Frag} {mg : Str → Option Value} {base : Heap} {f : Addr} {fd : FuncData} (F : FunD K "is_part" "is_part" (defArgs s_is_part) (defBody s_is_part) (defScope s_is_part) [] [] f fd)
    (c_ABOVE : ∃ t, mg "ABOVE" = some (.str ".." t)) (c_HERE : ∃ t, mg "HERE" = some (.str "." t)) (F_is_name : Fn P w K mg base 1 "is_name" ["thing"] (sp_is_name K))  : FnOk P w K mg base (L2.CX P w) 2 f fd ["thing"] (sp_is_part K) := by
  have nd := sc_is_part.nd
  refine F.ok (k := 1) sc_is_part (fun vs H Q E h => ?_) (fun cdv A outer s H vs Q E hr h => ?_)
  · obtain ⟨_, rfl, _⟩ := h
    rfl
  have hu := hu_of hr
  refine ⟨_, (pss_one (ps_ret (pe_or (pe_cmpR op_in_seq (pv 0) (pe_tup (pa_cons (pe_gstr c_HERE (by rfl)) (pa_cons (pe_gstr c_ABOVE (by rfl)) pa_nil))) (by rfl)) (pe_one (pe_fn F_is_name (hr.mono (by decide)) (by rfl) (passD rfl rfl rfl rfl) (pa_cons (pv 0) pa_nil)))))), ?_⟩
  obtain ⟨v, rfl, ⟨s, rfl, hz⟩ | ⟨ht, hf, hi⟩, k⟩ := h
  · walk_at "x"
    refine ⟨by show 2 ≤ sizeLine; decide, fun p hp => ?_⟩
    refine x_inT (SqT.of upd_same) rfl rfl ?_
    walk_at "x"
    have k : ∀ H', Ex H H' → Q (.bl (isPart s)) H' := k
    have e : inV (.str s) [.str ".", .str ".."] = (decide (s = ".") || decide (s = "..")) := by
      show (decide (("." : Str) = s) || (decide ((".." : Str) = s) || false)) = _
      rw [Bool.or_false, decide_eq_decide.mpr (eq_comm (a := ("." : Str)) (b := s)), decide_eq_decide.mpr (eq_comm (a := (".." : Str)) (b := s))]
    rw [e]
    refine x_if (fun h1 => ?_) (fun h1 => ?_)
    · have e2 : isPart s = true := by
        unfold isPart
        rw [← Bool.or_assoc, h1, Bool.true_or]
      have := k _ (Ex.new (o := .tup [.str ".", .str ".."]) hp)
      rw [e2] at this
      exact this
    · walk_at "x"
      refine ⟨.str s, rfl, .inl ⟨s, rfl, hz, fun H' e1 => ?_⟩⟩
      have e2 : isPart s = isName s := by
        unfold isPart
        rw [← Bool.or_assoc, h1, Bool.false_or]
      rw [← e2]
      exact k H' ((Ex.new hp).tr e1)
  · walk_at "x"
    refine ⟨by show 2 ≤ sizeLine; decide, fun p hp => ?_⟩
    refine x_inT (SqT.of upd_same) hf rfl ?_
    rw [hi]
    walk_at "x"
    refine iteF ?_
    walk_at "x"
    refine ⟨v, rfl, .inr ⟨ht.ex (Ex.new hp), fun H' e1 => ?_⟩⟩
    have e2 : partV v = false := by
      cases v with
      | str s =>
        obtain ⟨tv, h1, h2⟩ := ht
        cases h1 with
        | base h1 =>
          cases h1
          have h3 : PySem.W.kitOne K (.type "str") (.type "str") = some true := kit_ty (by decide +kernel)
          rw [h3] at h2
          cases h2
      | _ => rfl
    have := k H' ((Ex.new hp).tr e1)
    rw [e2] at this
    exact this
abbrev s_parts_of : Stmt := top 11
abbrev N_parts_of : List Str := ["path", "from_top", "rest", "parts", "part"]
theorem sc_parts_of : FnScope N_parts_of ["path", "from_top"] (defScope s_parts_of) := ⟨rfl, rfl, rfl, by decide +kernel, rfl, by decide +kernel, by decide +kernel⟩
theorem ok_parts_of {P : Program} {w : World} {K : PySem.W.Frag} {mg : Str → Option Value} {base : Heap} {f : Addr} {fd : FuncData} (F : FunD K "parts_of" "parts_of" (defArgs s_parts_of) (defBody s_parts_of) (defScope s_parts_of) [.bl true] [] f fd)
    (b_isinstance : mg "isinstance" = none) (b_str : mg "str" = none) (R_BadPath : Rz K mg "BadPath" (He.ga K "BadPath")) (b_len : mg "len" = none) (c_MOST_PARTS : ∃ t, mg "MOST_PARTS" = some (.int 12 t)) (b_all : mg "all" = none) (F_is_part : Fn P w K mg base 2 "is_part" ["thing"] (sp_is_part K))  : FnOk P w K mg base (L2.CX P w) 3 f fd ["path", "from_top"] (sp_parts_of K) := by
  have nd := sc_parts_of.nd
  refine F.ok (k := 2) sc_parts_of (fun vs H Q E h => ?_) (fun cdv A outer s H vs Q E hr h => ?_)
  · obtain ⟨_, _, rfl, _⟩ := h
    rfl
  have hu := hu_of hr
  refine ⟨_, (pss_mid (ps_if (pt_not (pt_val (pe_callB call_isi (by rfl) b_isinstance (by decide +kernel) (pa_cons (pv 0) (pa_cons (pe_ty (n := "str") b_str (by decide +kernel) (by rfl)) pa_nil))))) (pss_one (ps_raise rfl (takes_of rfl rfl rfl rfl) (pmk_txt R_BadPath (by rfl))))
      pss_nil)
      (pss_mid (ps_if (PW.pt (pw_and (pt_val (pv 1)) (pw_and1 (pt_cmpR op_ne (pe_slice C8.sl_txt (pv 0) po_none (po_some pe_int)) pe_str (nomark _))))) (pss_one (ps_raise rfl (takes_of rfl rfl rfl rfl) (pmk_txt R_BadPath (by rfl))))
      pss_nil)
      (pss_mid (ps_set (i := 2) nd rfl (Or.inl rfl) (pe_ifExp (pt_cmpR op_eq (pe_slice C8.sl_txt (pv 0) po_none (po_some pe_int)) pe_str (nomark _)) (pe_slice C8.sl_txt (pv 0) (po_some pe_int) po_none) (pv 0)))
      (pss_mid (ps_if (PW.pt (pw_and (pt_cmpR op_eq (pv 2) pe_str (nomark _)) (pw_and1 (pt_cmpR op_eq (pv 0) pe_str (nomark _))))) (pss_one (ps_ret (pe_lst pa_nil)))
      pss_nil)
      (pss_cons (ps_set (i := 3) nd rfl (Or.inl rfl) (pe_split (pv 2) pe_str))
      (pss_mid (ps_if (PW.pt (pw_or (pt_cmpR op_gt (pe_callB call_lenQ (by rfl) b_len (by decide +kernel) (pa_cons (pv 3) pa_nil)) (pe_gint c_MOST_PARTS (by rfl)) (nomark _)) (pw_or1 (pt_not (pt_val (pe_callB (cr_all rfl) (by rfl) b_all (by decide +kernel) (pa_cons (pe_lc (own := [("part", 4)]) (g := gName 4) (by rfl) nd (pi_list (pv 3)) (blkOk_by (own := [("part", 4)]) (N := N_parts_of) (sc := defScope s_parts_of) (by decide +kernel)) (fun _ _ _ _ _ => (pg_name (i := 4) nd rfl (Or.inl rfl))) (fun _ _ _ _ _ => pts_nil) (fun _ _ _ _ _ => (pe_fn F_is_part (hr.mono (by decide)) (by rfl) (passC rfl) (pa_cons (pv 4) pa_nil)))) pa_nil))))))) (pss_one (ps_raise rfl (takes_of rfl rfl rfl rfl) (pmk_txt R_BadPath (by rfl))))
      pss_nil)
      (pss_one (ps_ret (pv 3))))))))), ?_⟩
  obtain ⟨v, b, rfl, ⟨s, rfl, hz, kS, kN⟩ | ⟨⟨tv, ht, hk⟩, k⟩⟩ := h
  · walk_at "if"
    refine x_isi (b := true) (.ty _) (.base (.str s)) (kit_ty (by decide +kernel)) ?_
    walk_at "x"
    refine iteF ?_
    walk_at "x"
    have hz1 : s.length ≤ sizeLine := by omega
    refine x_cut (¬ (b = true ∧ ¬ Txt.slice s none (some 1) = sl)) ?_ (fun h0 => ?_)
    · walk_at "x"
      refine x_if (fun h1 => ?_) (fun h1 => ?_)
      · walk_at "x"
        refine x_slS hz1 ?_
        walk_at "x"
        refine x_ifn (fun h2 => ?_) (fun h2 => ?_)
        · refine kN ?_ H Ex.rfl
          unfold partsOf
          rw [if_pos ⟨h1, fun z => h2 (by rw [z])⟩]
        · walk_at "x"
          exact ⟨rfl, rfl, fun z => z.2 (V.str.inj h2)⟩
      · refine iteF ?_
        walk_at "x"
        exact ⟨rfl, rfl, fun z => by rw [h1] at z; cases z.1⟩
    · have z0 : partsOf b s = if restOf s = "" ∧ s = sl then some [] else if goodParts (Txt.split (restOf s) sl) = true then some (Txt.split (restOf s) sl) else none := by
        unfold partsOf
        rw [if_neg h0]
      have hr1 := restOf_len s
      refine x_cutM (fun σ' H' => σ' = [some (.str s), some (.bl b), some (.str (restOf s)), none, none] ∧ H' = H) ?_ ?_
      · walk_at "x"
        refine x_slS hz1 ?_
        walk_at "x"
        refine x_ifd (fun h1 => ?_) (fun h1 => ?_)
        · walk_at "x"
          refine x_slS hz1 ?_
          walk_at "x"
          refine ⟨?_, rfl⟩
          unfold restOf
          rw [if_pos (V.str.inj h1)]
          rfl
        · walk_at "x"
          refine ⟨?_, rfl⟩
          unfold restOf
          rw [if_neg fun z => h1 (by rw [z])]
          rfl
      rintro σ' H' ⟨rfl, rfl⟩
      refine x_cut (¬ (restOf s = "" ∧ s = sl)) ?_ (fun h1 => ?_)
      · walk_at "x"
        refine x_ifd (fun h1 => ?_) (fun h1 => ?_)
        · walk_at "x"
          refine x_ifd (fun h2 => ?_) (fun h2 => ?_)
          · walk_at "x"
            refine ⟨Nat.zero_le _, fun p hp => ?_⟩
            exact kS [] (by rw [z0, if_pos ⟨V.str.inj h1, V.str.inj h2⟩]) p _ hp (Ex.new hp) upd_same
          · walk_at "x"
            exact ⟨rfl, rfl, fun z => h2 (by rw [z.2])⟩
        · walk_at "x"
          exact ⟨rfl, rfl, fun z => h1 (by rw [z.1])⟩
      rw [if_neg h1] at z0
      walk_at "x"
      refine ⟨_, _, rfl, rfl, by decide +kernel, by omega, fun p hp => ?_⟩
      walk_at "x"
      have e1 : Ex H' (upd H' p (.lst ((Txt.split (restOf s) sl).map V.str))) := Ex.new hp
      have l1 : (upd H' p (.lst ((Txt.split (restOf s) sl).map V.str))) p = some (.lst ((Txt.split (restOf s) sl).map V.str)) := upd_same
      generalize hG : upd H' p (.lst ((Txt.split (restOf s) sl).map V.str)) = H1 at e1 l1
      refine x_cutE (fun _ => goodParts (Txt.split (restOf s) sl) = true) ?_ (fun H2 e2 h2 => ?_)
      · walk_at "x"
        refine x_lenL (SqL.of l1) ?_
        walk_at "x"
        refine x_ifd (fun h2 => ?_) (fun h2 => ?_)
        · refine iteT ?_
          refine kN ?_ H1 e1
          rw [z0, if_neg fun z => ?_]
          have := (good_all z).1
          rw [List.length_map] at h2
          omega
        · walk_at "x"
          have l12 : (Txt.split (restOf s) sl).length ≤ 12 := by
            rw [List.length_map] at h2
            omega
          refine x_lcLV (SqL.of l1) ⟨fun _ => rfl, by rw [List.length_map]; omega, fun _ => true, fun v => .bl (partV v), fun x hx H' e R k => k H' Ex.rfl, fun x hx _ H' e R k => ?_, fun D H' hD e hl => ?_⟩
          · obtain ⟨c, hc, rfl⟩ := List.mem_map.mp hx
            walk_at "x"
            have := split_small _ hc
            exact ⟨_, rfl, .inl ⟨c, rfl, by omega⟩, fun H' e => k H' e⟩
          · walk_at "x"
            refine x_all (bs := (Txt.split (restOf s) sl).map isPart) (.inl (.inl ?_)) ?_
            · rw [hl]
              congr 2
              rw [List.filter_eq_self.mpr (fun _ _ => rfl), List.map_map, List.map_map]
              rfl
            · walk_at "x"
              rw [List.all_map]
              refine x_if (fun h3 => ?_) (fun h3 => ?_)
              · refine kN ?_ H' (e1.tr e)
                rw [z0, if_neg fun z => ?_]
                have h4 : (!(Txt.split (restOf s) sl).all isPart) = true := h3
                rw [List.all_eq_true.mpr (good_all z).2] at h4
                cases h4
              · walk_at "x"
                refine ⟨rfl, e, good_of l12 ?_⟩
                have h4 : (!(Txt.split (restOf s) sl).all isPart) = false := h3
                rw [Bool.not_eq_false'] at h4
                exact List.all_eq_true.mp h4
      · walk_at "x"
        exact kS _ (by rw [z0, if_pos h2]) p H2 hp (e1.tr e2) (e2 _ _ l1)
  · walk_at "if"
    refine x_isi (.ty _) ht hk ?_
    walk_at "x"
    refine iteT ?_
    exact k H Ex.rfl
theorem goodVs_strs : ∀ {xs : List V}, xs.all partV = true → ∃ ps : List Str, xs = ps.map V.str ∧ ∀ p ∈ ps, isPart p = true
  | [], _ => ⟨[], rfl, fun _ h => nomatch h⟩
  | x :: r, h => by
    rw [List.all_cons, Bool.and_eq_true] at h
    obtain ⟨ps, e, hp⟩ := goodVs_strs h.2
    cases x with
    | str s =>
      refine ⟨s :: ps, by rw [e]; rfl, fun p hm => ?_⟩
      rcases List.mem_cons.mp hm with z | z
      · rw [z]
        exact h.1
      · exact hp p z
    | _ => cases h.1
abbrev s_path_of : Stmt := top 12
abbrev N_path_of : List Str := ["parts", "part"]
theorem sc_path_of : FnScope N_path_of ["parts"] (defScope s_path_of) := ⟨rfl, rfl, rfl, by decide +kernel, rfl, by decide +kernel, by decide +kernel⟩
theorem ok_path_of {P : Program} {w : World} {K : PySem.W.Frag} {mg : Str → Option Value} {base : Heap} {f : Addr} {fd : FuncData} (F : FunD K "path_of" "path_of" (defArgs s_path_of) (defBody s_path_of) (defScope s_path_of) [] [] f fd)
    (b_isinstance : mg "isinstance" = none) (b_list : mg "list" = none) (b_len : mg "len" = none) (c_MOST_PARTS : ∃ t, mg "MOST_PARTS" = some (.int 12 t)) (b_all : mg "all" = none) (F_is_part : Fn P w K mg base 2 "is_part" ["thing"] (sp_is_part K)) (R_BadPath : Rz K mg "BadPath" (He.ga K "BadPath"))  : FnOk P w K mg base (L2.CX P w) 3 f fd ["parts"] (sp_path_of K) := by
  have nd := sc_path_of.nd
  refine F.ok (k := 2) sc_path_of (fun vs H Q E h => ?_) (fun cdv A outer s H vs Q E hr h => ?_)
  · obtain ⟨_, rfl, _⟩ := h
    rfl
  have hu := hu_of hr
  refine ⟨_, (pss_mid (ps_if (PW.pt (pw_or (pt_not (pt_val (pe_callB call_isi (by rfl) b_isinstance (by decide +kernel) (pa_cons (pv 0) (pa_cons (pe_ty (n := "list") b_list (by decide +kernel) (by rfl)) pa_nil))))) (pw_or (pt_cmpR op_gt (pe_callB call_lenQ (by rfl) b_len (by decide +kernel) (pa_cons (pv 0) pa_nil)) (pe_gint c_MOST_PARTS (by rfl)) (nomark _)) (pw_or1 (pt_not (pt_val (pe_callB (cr_all rfl) (by rfl) b_all (by decide +kernel) (pa_cons (pe_lc (own := [("part", 1)]) (g := gName 1) (by rfl) nd (pi_list (pv 0)) (blkOk_by (own := [("part", 1)]) (N := N_path_of) (sc := defScope s_path_of) (by decide +kernel)) (fun _ _ _ _ _ => (pg_name (i := 1) nd rfl (Or.inl rfl))) (fun _ _ _ _ _ => pts_nil) (fun _ _ _ _ _ => (pe_fn F_is_part (hr.mono (by decide)) (by rfl) (passC rfl) (pa_cons (pv 1) pa_nil)))) pa_nil)))))))) (pss_one (ps_raise rfl (takes_of rfl rfl rfl rfl) (pmk_txt R_BadPath (by rfl))))
      pss_nil)
      (pss_one (ps_ret (pe_op op_catS pe_str (pe_join pe_str (pv 0)))))), ?_⟩
  obtain ⟨v, rfl, ⟨a, xs, rfl, ha, hz, hx, kS, kN⟩ | ⟨⟨tv, ht, hk⟩, k⟩⟩ := h
  · refine x_cutE (fun _ => goodVs xs = true) ?_ (fun H2 e2 h2 => ?_)
    · walk_at "x"
      refine x_isi (b := true) (.ty _) (.base (.lst ha)) (kit_ty (by decide +kernel)) ?_
      walk_at "x"
      refine iteF ?_
      walk_at "x"
      refine x_lenL (SqL.of ha) ?_
      walk_at "x"
      refine x_ifd (fun h2 => ?_) (fun h2 => ?_)
      · refine iteT ?_
        refine kN ?_ H Ex.rfl
        unfold goodVs
        rw [decide_eq_false (by omega), Bool.false_and]
      · walk_at "x"
        refine x_lcLV (SqL.of ha) ⟨fun _ => rfl, hz, fun _ => true, fun v => .bl (partV v), fun x hx H' e R k => k H' Ex.rfl, fun x hm _ H' e R k => ?_, fun D H' hD e hl => ?_⟩
        · walk_at "x"
          exact ⟨_, rfl, (hx x hm).ex e, fun H' e => k H' e⟩
        · walk_at "x"
          refine x_all (bs := xs.map partV) (.inl (.inl ?_)) ?_
          · rw [hl]
            congr 2
            rw [List.filter_eq_self.mpr (fun _ _ => rfl), List.map_map]
            rfl
          · walk_at "x"
            rw [List.all_map]
            refine x_if (fun h3 => ?_) (fun h3 => ?_)
            · refine kN ?_ H' e
              have h4 : (!xs.all partV) = true := h3
              unfold goodVs
              rw [Bool.not_eq_true'] at h4
              rw [h4, Bool.and_false]
            · walk_at "x"
              refine ⟨rfl, e, ?_⟩
              have h4 : (!xs.all partV) = false := h3
              unfold goodVs
              rw [Bool.not_eq_false'] at h4
              rw [h4, Bool.and_true]
              exact decide_eq_true (by omega)
    · unfold goodVs at h2
      rw [Bool.and_eq_true, decide_eq_true_eq] at h2
      obtain ⟨ps, rfl, hp⟩ := goodVs_strs h2.2
      rw [List.length_map] at h2
      have g := good_of h2.1 hp
      have js := join_short g
      have jl := join_len g
      walk_at "x"
      refine ⟨sl, a, ps, rfl, rfl, .inl (SqL.of (e2 _ _ ha)), by omega, ?_⟩
      refine x_catS ?_ ?_
      · have z : (108 : Nat) + 1 ≤ sizeLine := by decide
        have z1 : ("/" : Str).length = 1 := by decide +kernel
        omega
      · exact kS ps rfl g H2 e2
  · refine x_thru ?_
    walk_at "x"
    refine x_isi (.ty _) ht hk ?_
    walk_at "x"
    refine iteT ?_
    refine iteT ?_
    exact k H Ex.rfl
abbrev s_joined : Stmt := top 14
abbrev N_joined : List Str := ["path", "more", "first", "last"]
theorem sc_joined : FnScope N_joined ["path", "more"] (defScope s_joined) := ⟨rfl, rfl, rfl, by decide +kernel, rfl, by decide +kernel, by decide +kernel⟩
theorem ok_joined {P : Program} {w : World} {K : PySem.W.Frag} {mg : Str → Option Value} {base : Heap} {f : Addr} {fd : FuncData} (F : FunD K "joined" "joined" (defArgs s_joined) (defBody s_joined) (defScope s_joined) [] [] f fd)
    (F_parts_ofD : FnD P w K mg base 3 "parts_of" ["path", "from_top"] [.bl true] (sp_parts_of K)) (F_parts_ofK : FnK P w K mg base 3 "parts_of" ["path", "from_top"] 1 ["from_top"] (sp_parts_of K)) (F_path_of : Fn P w K mg base 3 "path_of" ["parts"] (sp_path_of K))  : FnOk P w K mg base (L2.CX P w) 4 f fd ["path", "more"] (sp_joined K) := by
  have nd := sc_joined.nd
  refine F.ok (k := 3) sc_joined (fun vs H Q E h => ?_) (fun cdv A outer s H vs Q E hr h => ?_)
  · obtain ⟨_, _, rfl, _⟩ := h
    rfl
  have hu := hu_of hr
  refine ⟨_, (pss_cons (ps_set (i := 2) nd rfl (Or.inl rfl) (pe_fnD F_parts_ofD (hr.mono (by decide)) (by rfl) (passD rfl rfl rfl rfl) (pa_cons (pv 0) pa_nil)))
      (pss_cons (ps_set (i := 3) nd rfl (Or.inl rfl) (pe_fnK F_parts_ofK (hr.mono (by decide)) (by rfl) (passD rfl rfl rfl rfl) (pa_cons (pv 1) pa_nil) (pk_cons pe_bl pk_nil)))
      (pss_one (ps_ret (pe_fn F_path_of (hr.mono (by decide)) (by rfl) (passD rfl rfl rfl rfl) (pa_cons (pe_ifExp (pt_cmpR op_eq (pe_slice C8.sl_txt (pv 1) po_none (po_some pe_int)) pe_str (nomark _)) (pv 3) (pe_op op_cat (pv 2) (pv 3))) pa_nil)))))), ?_⟩
  obtain ⟨v, u, rfl, hv, hu', kS, kN⟩ := h
  have big : (1000 : Nat) ≤ sizeLine := by decide
  walk_at "x"
  rcases hv with ⟨a, rfl, ha⟩ | hv
  · refine ⟨_, _, rfl, .inl ⟨a, rfl, ha, fun ps hps p H1 hp e1 h1 => ?_, fun hn H1 e1 => kN (fun a' b' e _ => by cases e; unfold joinOf; rw [hn]) H1 e1⟩⟩
    walk_at "x"
    rcases hu' with ⟨b, rfl, hb⟩ | hu'
    · refine ⟨rfl, rfl, _, _, rfl, .inl ⟨b, rfl, hb, fun qs hqs q H2 hq e2 h2 => ?_, fun hn H2 e2 => kN (fun a' b' e e' => by cases e; cases e'; unfold joinOf; rw [hps, hn]) H2 (e1.tr e2)⟩⟩
      have gp := good_all (parts_good hps)
      have gq := good_all (parts_good hqs)
      walk_at "x"
      refine x_slS (by omega) ?_
      walk_at "x"
      have jo : joinOf a b = if Txt.slice b none (some 1) = sl then some qs else if goodParts (ps ++ qs) = true then some (ps ++ qs) else none := by
        unfold joinOf
        rw [hps, hqs]
      have fin : ∀ (l : Addr) (rs : List Str) (H3 : Hp), Ex H2 H3 → H3 l = some (.lst (rs.map V.str)) → (∀ r ∈ rs, isPart r = true) → rs.length ≤ 1000 → (goodParts rs = true → joinOf a b = some rs) → (goodParts rs = false → joinOf a b = none) → sp_path_of K [.ref l] H3 Q E := fun l rs H3 e3 h3 hr hz y n => by
        refine ⟨_, rfl, .inl ⟨l, _, rfl, h3, by rw [List.length_map]; omega, fun x hx => ?_, fun rs' eq' g' H4 e4 => ?_, fun hb H4 e4 => ?_⟩⟩
        · obtain ⟨z, hz, rfl⟩ := List.mem_map.mp hx
          have := (part_facts (hr z hz)).2.2
          exact .inl ⟨z, rfl, by omega⟩
        · have e8 : rs = rs' := map_str_inj eq'
          subst e8
          exact kS a b rfl rfl rs (y g') H4 ((e1.tr (e2.tr e3)).tr e4)
        · refine kN (fun a' b' ea eb => ?_) H4 ((e1.tr (e2.tr e3)).tr e4)
          cases ea
          cases eb
          refine n ?_
          cases hg : goodParts rs with
          | false => rfl
          | true =>
            have g := good_all hg
            have hg' : goodVs (rs.map V.str) = true := by
              unfold goodVs
              rw [List.length_map, decide_eq_true g.1, List.all_map, Bool.true_and, List.all_eq_true]
              exact fun s h => g.2 s h
            rw [hg'] at hb
            cases hb
      refine x_ifd (fun h3 => ?_) (fun h3 => ?_)
      · walk_at "x"
        refine fin q qs H2 Ex.rfl h2 gq.2 (by omega) (fun _ => by rw [jo, if_pos (V.str.inj h3)]) (fun z => ?_)
        rw [parts_good hqs] at z
        cases z
      · walk_at "x"
        refine ⟨p, q, ps.map V.str, qs.map V.str, rfl, rfl, e2 _ _ h1, h2, by rw [List.length_map, List.length_map]; omega, fun l hl => ?_⟩
        walk_at "x"
        refine fin l (ps ++ qs) _ (Ex.new hl) (by rw [upd_same, List.map_append]) (fun r hr => ?_) (by rw [List.length_append]; omega) (fun z => ?_) (fun z => ?_)
        · rcases List.mem_append.mp hr with z | z
          · exact gp.2 r z
          · exact gq.2 r z
        · rw [jo, if_neg fun y => h3 (by rw [y]), if_pos z]
        · rw [jo, if_neg fun y => h3 (by rw [y]), if_neg (by rw [z]; decide)]
    · exact ⟨rfl, rfl, _, _, rfl, .inr ⟨hu'.ex e1, fun H2 e2 => kN (fun a' b' _ e => by
        cases e
        obtain ⟨tv, h1, h2⟩ := hu'
        cases h1 with
        | base h1 =>
          cases h1
          have h3 : PySem.W.kitOne K (.type "str") (.type "str") = some true := kit_ty (by decide +kernel)
          rw [h3] at h2
          cases h2) H2 (e1.tr e2)⟩⟩
  · exact ⟨_, _, rfl, .inr ⟨hv, fun H1 e1 => kN (fun a' b' e _ => by
        cases e
        obtain ⟨tv, h1, h2⟩ := hv
        cases h1 with
        | base h1 =>
          cases h1
          have h3 : PySem.W.kitOne K (.type "str") (.type "str") = some true := kit_ty (by decide +kernel)
          rw [h3] at h2
          cases h2) H1 e1⟩⟩
abbrev s_plain_path : Stmt := top 13
abbrev N_plain_path : List Str := ["path", "found", "part"]
theorem sc_plain_path : FnScope N_plain_path ["path"] (defScope s_plain_path) := ⟨rfl, rfl, rfl, by decide +kernel, rfl, by decide +kernel, by decide +kernel⟩
theorem ok_plain_path {P : Program} {w : World} {K : PySem.W.Frag} {mg : Str → Option Value} {base : Heap} {f : Addr} {fd : FuncData} (F : FunD K "plain_path" "plain_path" (defArgs s_plain_path) (defBody s_plain_path) (defScope s_plain_path) [] [] f fd)
    (F_parts_ofD : FnD P w K mg base 3 "parts_of" ["path", "from_top"] [.bl true] (sp_parts_of K)) (c_ABOVE : ∃ t, mg "ABOVE" = some (.str ".." t)) (c_HERE : ∃ t, mg "HERE" = some (.str "." t)) (F_path_of : Fn P w K mg base 3 "path_of" ["parts"] (sp_path_of K))  : FnOk P w K mg base (L2.CX P w) 4 f fd ["path"] (sp_plain K) := by
  have nd := sc_plain_path.nd
  refine F.ok (k := 3) sc_plain_path (fun vs H Q E h => ?_) (fun cdv A outer s H vs Q E hr h => ?_)
  · obtain ⟨_, rfl, _⟩ := h
    rfl
  have hu := hu_of hr
  refine ⟨_, (pss_cons (ps_set (i := 1) nd rfl (Or.inl rfl) (pe_lst pa_nil))
      (pss_cons (ps_for (passes_of rfl) rfl (pi_list (pe_fnD F_parts_ofD (hr.mono (by decide)) (by rfl) (passD rfl rfl rfl rfl) (pa_cons (pv 0) pa_nil))) (pg_name (i := 2) nd rfl (Or.inl rfl))
      (pss_one (ps_if (pt_cmpR op_eq (pv 2) (pe_gstr c_ABOVE (by rfl)) (nomark _)) (pss_one (ps_set (i := 1) nd rfl (Or.inl rfl) (pe_slice sl_list (pv 1) po_none (po_some (pe_un un_neg pe_int)))))
      (pss_one (ps_if (pt_cmpR op_ne (pv 2) (pe_gstr c_HERE (by rfl)) (nomark _)) (pss_one (ps_expr (pe_bm PySem.F.plainAttrs_list PySem.F.slot_list_append PySem.F.type_list_append mt_append (pv 1) (pa_cons (pv 2) pa_nil))))
      pss_nil)))))
      (pss_one (ps_ret (pe_fn F_path_of (hr.mono (by decide)) (by rfl) (passD rfl rfl rfl rfl) (pa_cons (pv 1) pa_nil)))))), ?_⟩
  obtain ⟨v, rfl, ⟨s, rfl, hz, kS, kN⟩ | ⟨ht, k⟩⟩ := h
  · walk_at "x"
    refine ⟨by decide, fun l hl => ?_⟩
    walk_at "x"
    refine ⟨_, _, rfl, .inl ⟨s, rfl, hz, fun ps hps p H1 hp e1 h1 => ?_, fun hn H1 e1 => kN hn H1 ((Ex.new hl).tr e1)⟩⟩
    have g := parts_good hps
    obtain ⟨g1, g2⟩ := good_all g
    have l1 := e1 _ _ (upd_same (H := H) (a := l) (o := .lst []))
    refine x_forLV (fun i σ' H' => ∃ (f : Addr) (x : Option V), σ' = [some (.str s), some (.ref f), x] ∧ H f = none ∧ f ≠ p ∧ Ex H H' ∧ H' p = some (.lst (ps.map V.str)) ∧ H' f = some (.lst ((plain (ps.take i)).map V.str)))
      (SqL.of h1) ⟨l, none, rfl, hl, ne_of_none upd_same hp, (Ex.new hl).tr e1, h1, l1⟩ (fun i σ' H' _ ⟨_, _, _, _, _, _, q, _⟩ => SqL.of q) ?_ ?_
    · rintro i x σ' H2 hx ⟨f, x0, rfl, hf, nfp, e2, p2, f2⟩
      obtain ⟨q, hq, rfl⟩ : ∃ q, ps[i]? = some q ∧ x = .str q := by
        rw [List.getElem?_map] at hx
        cases e : ps[i]? with
        | none => rw [e] at hx; cases hx
        | some q => rw [e] at hx; exact ⟨q, rfl, (Option.some.inj hx).symm⟩
      have hi : i < ps.length := (List.getElem?_eq_some_iff.mp hq).1
      have et : plain (ps.take (i + 1)) = plainStep (plain (ps.take i)) q := by rw [take_snoc hq, plain_snoc]
      have hlen : (plain (ps.take i)).length ≤ 12 := by
        have := (plain_facts (ps := ps.take i) fun p hp => g2 p (List.mem_of_mem_take hp)).2
        rw [List.length_take] at this
        omega
      walk_at "x"
      refine x_ifd (fun h3 => ?_) (fun h3 => ?_)
      · walk_at "x"
        refine x_slL (SqL.of f2) fun f' hf' => ?_
        walk_at "x"
        refine ⟨f', _, rfl, ex_none e2 hf', (ne_of_none p2 hf').symm, e2.tr (Ex.new hf'), Ex.new hf' _ _ p2, ?_⟩
        rw [upd_same, cut_last, et]
        unfold plainStep
        rw [if_pos (V.str.inj h3), List.map_dropLast]
      · walk_at "x"
        refine x_ifn (fun h4 => ?_) (fun h4 => ?_)
        · walk_at "x"
          refine x_tyL (SqL.of f2) ?_
          walk_at "x"
          refine x_app f2 (by rw [List.length_map]; exact small1000 (by omega)) ?_
          refine ⟨f, _, rfl, hf, nfp, fun a o h => ?_, by rw [upd_ne nfp.symm]; exact p2, ?_⟩
          · rw [upd_ne (ne_of_none h hf)]
            exact e2 a o h
          · rw [upd_same, et]
            unfold plainStep
            rw [if_neg fun z => h3 (by rw [z]), if_neg fun z => h4 (by rw [z]), List.map_append]
            rfl
        · walk_at "x"
          refine ⟨f, _, rfl, hf, nfp, e2, p2, ?_⟩
          rw [f2, et]
          unfold plainStep
          rw [if_neg fun z => h3 (by rw [z]), if_pos (V.str.inj h4)]
    · rintro σ' H2 ⟨f, x0, rfl, hf, nfp, e2, p2, f2⟩
      rw [List.length_map, List.take_length] at f2
      have pg := plain_good g
      obtain ⟨pg1, pg2⟩ := good_all pg
      walk_at "x"
      refine ⟨_, rfl, .inl ⟨f, _, rfl, f2, by rw [List.length_map]; omega, fun x hx => ?_, fun ps' eq' g' H3 e3 => ?_, fun hb => ?_⟩⟩
      · obtain ⟨q, hq, rfl⟩ := List.mem_map.mp hx
        have := (part_facts (pg2 q hq)).2.2
        have big : (1000 : Nat) ≤ sizeLine := by decide
        exact .inl ⟨q, rfl, by omega⟩
      · have e8 : plain ps = ps' := map_str_inj eq'
        subst e8
        exact kS ps hps H3 (e2.tr e3)
      · have hg : goodVs ((plain ps).map V.str) = true := by
          unfold goodVs
          rw [List.length_map, decide_eq_true pg1, List.all_map, Bool.true_and, List.all_eq_true]
          exact fun s h => pg2 s h
        rw [hg] at hb
        cases hb
  · walk_at "x"
    refine ⟨by decide, fun l hl => ?_⟩
    walk_at "x"
    exact ⟨_, _, rfl, .inr ⟨ht.ex (Ex.new hl), fun H1 e1 => k H1 ((Ex.new hl).tr e1)⟩⟩
theorem jn {K : PySem.W.Frag} {H : Hp} {Q : VK} {E : XK} {a b : Str} {qs : List Str} (ha : a.length ≤ 300) (hb : b.length ≤ 300) (h : joinOf a b = some qs) (k : ∀ H', Ex H H' → Q (.str (pathOf qs)) H') : sp_joined K [.str a, .str b] H Q E := by
  have big : (1000 : Nat) ≤ sizeLine := by decide
  refine ⟨_, _, rfl, .inl ⟨a, rfl, by omega⟩, .inl ⟨b, rfl, by omega⟩, fun a' b' ea eb rs hr H' e => ?_, fun hn => ?_⟩
  · cases ea
    cases eb
    rw [h] at hr
    cases hr
    exact k H' e
  · have := hn a b rfl rfl
    rw [h] at this
    cases this
theorem pn {K : PySem.W.Frag} {H : Hp} {Q : VK} {E : XK} {ps : List Str} (hp : goodParts ps = true) (k : ∀ H', Ex H H' → Q (.str (pathOf (plain ps))) H') : sp_plain K [.str (pathOf ps)] H Q E := by
  have big : (1000 : Nat) ≤ sizeLine := by decide
  have := path_len hp
  have q := parts_path true hp
  refine ⟨_, rfl, .inl ⟨_, rfl, by omega, fun rs hr H' e => ?_, fun z => ?_⟩⟩
  · rw [q] at hr
    cases hr
    exact k H' e
  · rw [q] at z
    cases z
theorem thirds {v : V} (h : v ∈ [V.str "a", V.str "..", V.str "b/..", V.str "./c"]) : ∃ ts : List Str, v = .str (Txt.join sl ts) ∧ ts ≠ [] ∧ ts.length ≤ 2 ∧ ∀ p ∈ ts, isPart p = true := by
  simp only [List.mem_cons, List.not_mem_nil, or_false] at h
  rcases h with rfl | rfl | rfl | rfl
  · exact ⟨["a"], by decide +kernel, by simp, by decide, by decide +kernel⟩
  · exact ⟨[".."], by decide +kernel, by simp, by decide, by decide +kernel⟩
  · exact ⟨["b", ".."], by decide +kernel, by simp, by decide, by decide +kernel⟩
  · exact ⟨[".", "c"], by decide +kernel, by simp, by decide, by decide +kernel⟩
abbrev s_law : Stmt := top 21
abbrev N_law : List Str := ["script", "town", "first", "last", "more", "told", "third", "k", "part"]
theorem sc_law : FnScope N_law ["script"] (defScope s_law) := ⟨rfl, rfl, rfl, by decide +kernel, rfl, by decide +kernel, by decide +kernel⟩
theorem ok_law {P : Program} {w : World} {K : PySem.W.Frag} {mg : Str → Option Value} {base : Heap} {f : Addr} {fd : FuncData} (F : FunD K "law" "law" (defArgs s_law) (defBody s_law) (defScope s_law) [] [] f fd)
    (F_law_town : Fn P w K mg base 1 "_law_town" ["script"] (sp_town K)) (F_law_some_path : Fn P w K mg base 4 "_law_some_path" ["town", "most"] sp_some_path) (b_range : mg "range" = none) (F_law_draw : Fn P w K mg base 1 "_law_draw" ["town", "many"] sp_draw) (F_law_pick : Fn P w K mg base 2 "_law_pick" ["town", "some"] sp_pick) (F_law_name : Fn P w K mg base 3 "_law_name" ["town"] sp_name) (F_joined : Fn P w K mg base 4 "joined" ["path", "more"] (sp_joined K)) (F_plain_path : Fn P w K mg base 4 "plain_path" ["path"] (sp_plain K)) (b_len : mg "len" = none) (F_parts_ofD : FnD P w K mg base 3 "parts_of" ["path", "from_top"] [.bl true] (sp_parts_of K))  : FnOk P w K mg base (L2.CX P w) 5 f fd ["script"] (sp_law K) := by
  have nd := sc_law.nd
  refine F.ok (k := 4) sc_law (fun vs H Q E h => ?_) (fun cdv A outer s H vs Q E hr h => ?_)
  · obtain ⟨_, _, rfl, _⟩ := h
    rfl
  have hu := hu_of hr
  refine ⟨_, (pss_cons (ps_set (i := 1) nd rfl (Or.inr rfl) (pe_fn F_law_town (hr.mono (by decide)) (by rfl) (passD rfl rfl rfl rfl) (pa_cons (pv 0) pa_nil)))
      (pss_cons (ps_set (i := 2) nd rfl (Or.inl rfl) (pe_fn F_law_some_path (hr.mono (by decide)) (by rfl) (passD rfl rfl rfl rfl) (pa_cons (pv 1) (pa_cons pe_int pa_nil))))
      (pss_cons (ps_setLc (i := 3) (own := [("k", 7)]) (g := gName 7) (by rfl) nd rfl rfl (sw_true rfl rfl rfl (by decide +kernel)) (pi_range1 (by rfl) b_range (pa_cons (pe_op op_add pe_int (pe_fn F_law_draw (hr.mono (by decide)) (by rfl) (passD rfl rfl rfl rfl) (pa_cons (pv 1) (pa_cons pe_int pa_nil)))) pa_nil)) (blkOk_by (own := [("k", 7)]) (N := N_law) (sc := defScope s_law) (by decide +kernel)) (fun _ _ _ _ _ => (pg_name (i := 7) nd rfl (Or.inl rfl))) (fun _ _ _ _ _ => pts_nil) (fun _ _ _ _ _ => (pe_fn F_law_pick (hr.mono (by decide)) (by rfl) (passC rfl) (pa_cons (pv 1) (pa_cons (pe_lst (pa_cons (pe_fn F_law_name (hr.mono (by decide)) (by rfl) (passC rfl) (pa_cons (pv 1) pa_nil)) (pa_cons (pe_fn F_law_name (hr.mono (by decide)) (by rfl) (passC rfl) (pa_cons (pv 1) pa_nil)) (pa_cons pe_str (pa_cons pe_str pa_nil))))) pa_nil)))))
      (pss_cons (ps_set (i := 4) nd rfl (Or.inl rfl) (pe_join pe_str (pv 3)))
      (pss_cons (ps_set (i := 5) nd rfl (Or.inl rfl) (pe_fn F_joined (hr.mono (by decide)) (by rfl) (passD rfl rfl rfl rfl) (pa_cons (pv 2) (pa_cons (pv 4) pa_nil))))
      (pss_mid (ps_if (pt_cmpR op_ne (pv 5) (pe_op op_catS pe_str (pe_join pe_str (pe_op op_cat (pe_lc (own := [("part", 8)]) (g := gName 8) (by rfl) nd (pi_list (pe_split (pv 2) pe_str)) (blkOk_by (own := [("part", 8)]) (N := N_law) (sc := defScope s_law) (by decide +kernel)) (fun _ _ _ _ _ => (pg_name (i := 8) nd rfl (Or.inl rfl))) (fun _ _ _ _ _ => (pts_one (pt_cmpR op_ne (pv 8) pe_str (nomark _)))) (fun _ _ _ _ _ => (pv 8))) (pv 3)))) (nomark _)) (pss_one (ps_ret pe_bl))
      pss_nil)
      (pss_mid (ps_if (PW.pt (pw_or (pt_cmpR op_ne (pe_fn F_joined (hr.mono (by decide)) (by rfl) (passD rfl rfl rfl rfl) (pa_cons (pv 2) (pa_cons (pe_op op_catS pe_str (pv 4)) pa_nil))) (pe_op op_catS pe_str (pv 4)) (nomark _)) (pw_or1 (pt_cmpR op_ne (pe_fn F_joined (hr.mono (by decide)) (by rfl) (passD rfl rfl rfl rfl) (pa_cons (pv 2) (pa_cons pe_str pa_nil))) pe_str (nomark _))))) (pss_one (ps_ret pe_bl))
      pss_nil)
      (pss_mid (ps_if (pt_cmpR op_ne (pe_fn F_plain_path (hr.mono (by decide)) (by rfl) (passD rfl rfl rfl rfl) (pa_cons (pv 5) pa_nil)) (pe_fn F_plain_path (hr.mono (by decide)) (by rfl) (passD rfl rfl rfl rfl) (pa_cons (pe_fn F_joined (hr.mono (by decide)) (by rfl) (passD rfl rfl rfl rfl) (pa_cons (pe_fn F_plain_path (hr.mono (by decide)) (by rfl) (passD rfl rfl rfl rfl) (pa_cons (pv 2) pa_nil)) (pa_cons (pv 4) pa_nil))) pa_nil)) (nomark _)) (pss_one (ps_ret pe_bl))
      pss_nil)
      (pss_cons (ps_set (i := 6) nd rfl (Or.inl rfl) (pe_fn F_law_pick (hr.mono (by decide)) (by rfl) (passD rfl rfl rfl rfl) (pa_cons (pv 1) (pa_cons (pe_lst (pa_cons pe_str (pa_cons pe_str (pa_cons pe_str (pa_cons pe_str pa_nil))))) pa_nil))))
      (pss_mid (ps_if (pt_cmpR op_gt (pe_callB call_lenQ (by rfl) b_len (by decide +kernel) (pa_cons (pv 3) pa_nil)) pe_int (nomark _)) (pss_one (ps_ret (pe_cmpR (op_eqD hr.units) (pe_fnD F_parts_ofD (hr.mono (by decide)) (by rfl) (passD rfl rfl rfl rfl) (pa_cons (pv 5) pa_nil)) (pe_op op_cat (pe_fnD F_parts_ofD (hr.mono (by decide)) (by rfl) (passD rfl rfl rfl rfl) (pa_cons (pv 2) pa_nil)) (pv 3)) (nomark _))))
      pss_nil)
      (pss_one (ps_ret (pe_cmpR op_eq (pe_fn F_joined (hr.mono (by decide)) (by rfl) (passD rfl rfl rfl rfl) (pa_cons (pv 5) (pa_cons (pv 6) pa_nil))) (pe_fn F_joined (hr.mono (by decide)) (by rfl) (passD rfl rfl rfl rfl) (pa_cons (pv 2) (pa_cons (pe_op op_catS (pe_op op_catS (pv 4) pe_str) (pv 6)) pa_nil))) (nomark _)))))))))))))), ?_⟩
  obtain ⟨a, ns, rfl, hs, hlen, k⟩ := h
  have big : (1000 : Nat) ≤ sizeLine := by decide
  have sl1 : (Str.ofString "/").length = 1 := sl_len
  walk_at "x"
  refine ⟨a, ns, rfl, hs, hlen, fun t c H1 ht0 hc0 e1 T1 => ?_⟩
  walk_at "x"
  refine ⟨t, c, 5, rfl, by decide, by decide, T1, fun fs H2 hf2 hfl T2 e2 => ?_⟩
  have hfp : ∀ p ∈ fs, isPart p = true := fun p hp => (hfl p hp).ok
  have gf : goodParts fs = true := good_of (by omega) hfp
  walk_at "x"
  refine ⟨t, c, 6, rfl, by decide, by decide, T2, fun r H3 r0 r1 T3 e3 => ?_⟩
  walk_at "x"
  refine x_lcRV (fun D i H' => Town H' t c ∧ ∃ ss : List Str, H' D = some (.lst (ss.map V.str)) ∧ ss.length = i ∧ ∀ s ∈ ss, isPart s = true) (by omega) ?_ ?_ ?_
  · intro D hD
    exact ⟨T3.ex (Ex.new hD), [], upd_same, rfl, fun _ h => nomatch h⟩
  · rintro D i H4 hD hi ⟨T4, ss, hD4, hl4, hs4⟩
    refine ⟨rfl, ?_⟩
    have nDt : D ≠ t := by obtain ⟨o, h⟩ := T3.t; exact (ne_of_none h hD).symm
    have nDc : D ≠ c := by obtain ⟨o, h⟩ := T3.c; exact (ne_of_none h hD).symm
    walk_at "x"
    refine ⟨t, c, rfl, T4, fun n1 H5 hn1 T5 e5 => ?_⟩
    walk_at "x"
    refine ⟨t, c, rfl, T5, fun n2 H6 hn2 T6 e6 => ?_⟩
    walk_at "x"
    refine pick_new (E := E0) T6 (by simp) (by show 4 < 1000; decide) fun v H7 hv T7 e7 => ?_
    obtain ⟨q, rfl, hq⟩ : ∃ q, v = .str q ∧ isPart q = true := by
      simp only [List.mem_cons, List.not_mem_nil, or_false] at hv
      rcases hv with rfl | rfl | rfl | rfl
      · exact ⟨_, rfl, part_name (lname_ok hn1)⟩
      · exact ⟨_, rfl, part_name (lname_ok hn2)⟩
      · exact ⟨_, rfl, part_dots⟩
      · exact ⟨_, rfl, part_dot⟩
    refine ⟨_, e7.at (e6.at (e5.at hD4 nDt nDc) nDt nDc) nDt nDc, by rw [List.length_map]; exact small1000 (by omega), ?_, ss ++ [q], ?_, ?_, ?_⟩
    · exact T7.off (S := [D]) (Off.put Off.rfl (by simp)) (by simp [nDt.symm]) (by simp [nDc.symm])
    · rw [upd_same, List.map_append]
      rfl
    · rw [List.length_append, hl4]
      rfl
    · intro z hz
      rcases List.mem_append.mp hz with y | y
      · exact hs4 z y
      · rw [List.mem_singleton.mp y]
        exact hq
  · rintro l H4 hl ⟨T4, ls, hl4, hll, hlp⟩
    have hll1 : 1 ≤ ls.length := by omega
    have hll6 : ls.length ≤ 6 := by omega
    have lne : ls ≠ [] := fun z => by rw [z] at hll1; exact absurd hll1 (by decide)
    have gl : goodParts ls = true := good_of (by omega) hlp
    have hfll : ∀ p ∈ fs ++ ls, isPart p = true := fun p h => by
      rcases List.mem_append.mp h with z | z
      · exact hfp p z
      · exact hlp p z
    have gfl : goodParts (fs ++ ls) = true := good_of (by rw [List.length_append]; omega) hfll
    have z1 := join_short gl
    have z2 := join_len gl
    have z3 := path_len gf
    have z4 := path_len gfl
    have z5 := join_short gfl
    have z6 := join_len gfl
    have z7 := path_len gl
    walk_at "x"
    refine ⟨sl, l, ls, rfl, rfl, .inl (SqL.of hl4), by omega, ?_⟩
    walk_at "x"
    refine jn (by omega) (by omega) (joinOf_rel gf lne gl (by omega)) fun H5 e5 => ?_
    have l5 := e5 _ _ hl4
    have T5 := T4.ex e5
    walk_at "x"
    refine x_cutE (fun _ => True) ?_ (fun H6 e6 _ => ?_)
    · walk_at "x"
      refine ⟨_, _, rfl, rfl, by decide +kernel, by omega, fun q hq => ?_⟩
      have hsz : (Txt.split (pathOf fs) sl).length ≤ 1000 := by
        have := split_count (pathOf fs)
        omega
      refine x_lcLV (SqL.of upd_same) ⟨fun _ => rfl, by rw [List.length_map]; exact Nat.le_trans hsz (by decide), fun v => !decide (v = .str nn), id, fun x hx H' e R k => ?_, fun x hx _ H' e R k => ?_, fun D H' hD e hl => ?_⟩
      · obtain ⟨y, hy, rfl⟩ := List.mem_map.mp hx
        walk_at "x"
        exact k H' Ex.rfl
      · walk_at "x"
        exact k H' Ex.rfl
      · have hse : (((Txt.split (pathOf fs) sl).map V.str).filter fun v => !decide (v = .str nn)).map id = fs.map V.str := by
          have e0 := segs_path hfp
          unfold segs at e0
          rw [List.map_id, List.filter_map]
          conv => rhs; rw [← e0]
          congr 2
          funext y
          show (!decide (V.str y = V.str nn)) = !decide (y = nn)
          rw [dec_str]
        rw [hse] at hl
        walk_at "x"
        refine ⟨D, l, _, _, rfl, rfl, hl, e _ _ (Ex.new hq _ _ l5), by rw [List.length_map, List.length_map]; omega, fun m hm => ?_⟩
        rw [← List.map_append]
        refine ⟨sl, m, fs ++ ls, rfl, rfl, .inl (SqL.of upd_same), by omega, ?_⟩
        refine x_catS (by omega) ?_
        walk_at "x"
        refine iteNS rfl ?_
        walk_at "x"
        exact ⟨rfl, (Ex.new hq).tr (e.tr (Ex.new hm)), trivial⟩
    refine x_cutE (fun _ => True) ?_ (fun H7 e7 _ => ?_)
    · walk_at "x"
      refine x_catS (by omega) ?_
      walk_at "x"
      refine jn (qs := ls) (by omega) (by rw [Str.length_append]; omega) (joinOf_top gf gl) fun H7 e7 => ?_
      walk_at "x"
      refine x_catS (by omega) ?_
      walk_at "x"
      refine iteNS rfl ?_
      walk_at "x"
      refine jn (qs := []) (by omega) (by omega) (by rw [show Str.ofString "/" = pathOf [] by decide +kernel]; exact joinOf_top gf rfl) fun H8 e8 => ?_
      walk_at "x"
      rw [show pathOf [] = Str.ofString "/" by decide +kernel]
      refine iteNS rfl ?_
      walk_at "x"
      exact ⟨rfl, e7.tr e8, trivial⟩
    refine x_cutE (fun _ => True) ?_ (fun H8 e8 _ => ?_)
    · walk_at "x"
      refine pn gfl fun H8 e8 => ?_
      walk_at "x"
      refine pn gf fun H9 e9 => ?_
      have gpf := plain_good gf
      have pfl := (plain_facts hfp).2
      walk_at "x"
      refine jn (by have := path_len gpf; omega) (by omega) (joinOf_rel gpf lne gl (by omega)) fun H10 e10 => ?_
      walk_at "x"
      have gj : goodParts (plain fs ++ ls) = true := good_of (by rw [List.length_append]; omega) fun p h => by
        rcases List.mem_append.mp h with z | z
        · exact (good_all gpf).2 p z
        · exact hlp p z
      refine pn gj fun H11 e11 => ?_
      rw [plain_join hfp]
      walk_at "x"
      refine iteNS rfl ?_
      walk_at "x"
      exact ⟨rfl, e8.tr (e9.tr (e10.tr e11)), trivial⟩
    have l8 := e8 _ _ (e7 _ _ (e6 _ _ l5))
    have T8 := ((T5.ex e6).ex e7).ex e8
    have nlt : l ≠ t := by obtain ⟨o, h⟩ := T3.t; exact (ne_of_none h hl).symm
    have nlc : l ≠ c := by obtain ⟨o, h⟩ := T3.c; exact (ne_of_none h hl).symm
    walk_at "x"
    refine pick_new (E := E) T8 (by simp) (by show 4 < 1000; decide) fun v H9 hv T9 e9 => ?_
    obtain ⟨ts, rfl, tne, tl2, htp⟩ := thirds hv
    have l9 := e9.at l8 nlt nlc
    have gt : goodParts ts = true := good_of (by omega) htp
    have zt := join_len gt
    walk_at "x"
    refine x_thru ?_
    walk_at "x"
    refine x_lenL (SqL.of l9) ?_
    walk_at "x"
    rw [List.length_map]
    refine x_ifd (fun h3 => ?_) (fun h3 => ?_)
    · walk_at "x"
      have q1 := parts_path true gfl
      have q2 := parts_path true gf
      refine ⟨_, _, rfl, .inl ⟨_, rfl, by omega, fun qs hqs d1 H10 hd1 e10 d10 => ?_, fun z => by rw [q1] at z; cases z⟩⟩
      rw [q1] at hqs
      cases hqs
      walk_at "x"
      refine ⟨_, _, rfl, .inl ⟨_, rfl, by omega, fun qs hqs d2 H11 hd2 e11 d11 => ?_, fun z => by rw [q2] at z; cases z⟩⟩
      rw [q2] at hqs
      cases hqs
      walk_at "x"
      refine ⟨d2, l, _, _, rfl, rfl, d11, e11 _ _ (e10 _ _ l9), by rw [List.length_map, List.length_map]; omega, fun m hm => ?_⟩
      rw [← List.map_append]
      have shp : SeqAt.shaped (.list ((fs ++ ls).map PyData.str)) = true := shaped_strs fun s h => part_ok (hfll s h)
      refine ⟨_, _, .lst (SqL.of (Ex.new hm _ _ (e11 _ _ d10))) (dp_strs _), .lst (SqL.of upd_same) (dp_strs _), shp, shp, ?_⟩
      rw [eqv_self shp]
      exact k _
    · walk_at "x"
      have lfl : (fs ++ ls).length = fs.length + ls.length := List.length_append
      refine jn (by omega) (by omega) (joinOf_rel gfl tne gt (by omega)) fun H10 e10 => ?_
      walk_at "x"
      refine x_catS (by omega) ?_
      walk_at "x"
      refine x_catS (by rw [Str.length_append]; omega) ?_
      walk_at "x"
      rw [show Txt.join sl ls ++ Str.ofString "/" ++ Txt.join sl ts = Txt.join sl (ls ++ ts) from (join_app lne tne).symm]
      have glt : goodParts (ls ++ ts) = true := good_of (by rw [List.length_append]; omega) fun p h => by
        rcases List.mem_append.mp h with z | z
        · exact hlp p z
        · exact htp p z
      have zlt := join_len glt
      refine jn (by omega) (by omega) (joinOf_rel gf (by simp [lne]) glt (by rw [List.length_append]; omega)) fun H11 e11 => ?_
      walk_at "x"
      rw [← List.append_assoc, decide_eq_true rfl]
      exact k _
def d_law_draw : He.DefD := ⟨("_law_draw", none), "_law_draw", "_law_draw", defArgs s_law_draw, defBody s_law_draw, defScope s_law_draw, [], []⟩
def d_law_pick : He.DefD := ⟨("_law_pick", none), "_law_pick", "_law_pick", defArgs s_law_pick, defBody s_law_pick, defScope s_law_pick, [], []⟩
def d_law_name : He.DefD := ⟨("_law_name", none), "_law_name", "_law_name", defArgs s_law_name, defBody s_law_name, defScope s_law_name, [], []⟩
def d_law_some_path : He.DefD := ⟨("_law_some_path", none), "_law_some_path", "_law_some_path", defArgs s_law_some_path, defBody s_law_some_path, defScope s_law_some_path, [], []⟩
def d_law_town : He.DefD := ⟨("_law_town", none), "_law_town", "_law_town", defArgs s_law_town, defBody s_law_town, defScope s_law_town, [], []⟩
def d_is_name : He.DefD := ⟨("is_name", none), "is_name", "is_name", defArgs s_is_name, defBody s_is_name, defScope s_is_name, [], []⟩
def d_is_part : He.DefD := ⟨("is_part", none), "is_part", "is_part", defArgs s_is_part, defBody s_is_part, defScope s_is_part, [], []⟩
def d_parts_of : He.DefD := ⟨("parts_of", none), "parts_of", "parts_of", defArgs s_parts_of, defBody s_parts_of, defScope s_parts_of, [.bl true], []⟩
def d_path_of : He.DefD := ⟨("path_of", none), "path_of", "path_of", defArgs s_path_of, defBody s_path_of, defScope s_path_of, [], []⟩
def d_joined : He.DefD := ⟨("joined", none), "joined", "joined", defArgs s_joined, defBody s_joined, defScope s_joined, [], []⟩
def d_plain_path : He.DefD := ⟨("plain_path", none), "plain_path", "plain_path", defArgs s_plain_path, defBody s_plain_path, defScope s_plain_path, [], []⟩
def d_law : He.DefD := ⟨("law", none), "law", "law", defArgs s_law, defBody s_law, defScope s_law, [], []⟩
def fn0 : List He.DefD := [d_law_draw, d_law_pick, d_law_name, d_law_some_path, d_law_town, d_is_name, d_is_part, d_parts_of, d_path_of, d_joined, d_plain_path, d_law]
def fn : List He.DefD := fn0
def fa0 : List He.Fa := [.free "len", .glo "_law_draw", .glo "_law_pick", .glo "_law_name", .free "range", .glo "_law_some_path", .free "list", .glo "_law_town", .free "isinstance", .free "str", .int "MOST_NAME" 8, .free "all", .str "SIGNS" "abcdefghijklmnopqrstuvwxyz0123456789", .glo "is_name", .str "ABOVE" "..", .str "HERE" ".", .glo "is_part", .glo "BadPath", .exc "BadPath", .int "MOST_PARTS" 12]
def fa1 : List He.Fa := [.glo "parts_of", .glo "path_of", .glo "joined", .glo "plain_path", .glo "law"]
def fa : List He.Fa := fa0 ++ fa1
def names0 : List PySem.Str := ["WorldError", "BadPath", "MOST_PARTS", "MOST_NAME", "SIGNS", "HERE", "ABOVE", "is_name", "is_part", "parts_of", "path_of", "plain_path", "joined", "_law_town", "_law_draw", "_law_pick", "_law_name", "_law_some_path"]
def names : List PySem.Str := names0
theorem rz_of {K : PySem.W.Frag} {h : Heap} {mg : Str → Option Value} (X : K.In h) (G : h.Ns mainGlobals mg) {x : Str} (c1 : (He.Fa.glo x).ok K = true) (c2 : (He.Fa.exc x).ok K = true) : Rz K mg x (He.ga K x) := by
  obtain ⟨h1, h2, h3, h4⟩ := He.exc_ok c2
  exact ⟨He.glo_ok X G c1, h1, h2, h3, h4⟩
abbrev R : PySem.W.OpenRow := PySem.W.OpenLaw.row PySem.Challenge.rw_treemounts_k04_whole_joined
abbrev hk : PySem.W.Hook := He.hookD 4 fa fn
def ob (s : PySem.W.SharedT) : He.AlD := He.obsDG 4 fa fn (HandSHeadRun.getT s)
theorem ob_eq (s : PySem.W.SharedT) : ob s = hk.obs s.abs := He.obsDG_eq (HandSHeadRun.getT_eq s)
theorem run (w : World) : HandSHeadRun.RunEq R (PySem.W.view R.prog [21]) hk ob 20000 names w := by
  intro os
  kernel_rfl
theorem facts {P : Program} {w : World} {K : PySem.W.Frag} {h : Heap} {mg : Str → Option Value} {f : Addr} (X : K.In h) (G : h.Ns mainGlobals mg) (hfa : mg ("law" : Str) = some (.ref f)) (c : He.SaysD fa fn K) :
    ∃ fd : FuncData, (∀ (s : Shared) (v : Value), BindsTo s fd ⟨[v], []⟩ [("script", v)]) ∧ ∀ base : Heap, FnOk P w K mg base (L2.CX P w) 5 f fd ["script"] (sp_law K) := by
  obtain ⟨fd_law_draw, D_law_draw⟩ := c.def_ 0 (d := d_law_draw) rfl
  obtain ⟨fd_law_pick, D_law_pick⟩ := c.def_ 1 (d := d_law_pick) rfl
  obtain ⟨fd_law_name, D_law_name⟩ := c.def_ 2 (d := d_law_name) rfl
  obtain ⟨fd_law_some_path, D_law_some_path⟩ := c.def_ 3 (d := d_law_some_path) rfl
  obtain ⟨fd_law_town, D_law_town⟩ := c.def_ 4 (d := d_law_town) rfl
  obtain ⟨fd_is_name, D_is_name⟩ := c.def_ 5 (d := d_is_name) rfl
  obtain ⟨fd_is_part, D_is_part⟩ := c.def_ 6 (d := d_is_part) rfl
  obtain ⟨fd_parts_of, D_parts_of⟩ := c.def_ 7 (d := d_parts_of) rfl
  obtain ⟨fd_path_of, D_path_of⟩ := c.def_ 8 (d := d_path_of) rfl
  obtain ⟨fd_joined, D_joined⟩ := c.def_ 9 (d := d_joined) rfl
  obtain ⟨fd_plain_path, D_plain_path⟩ := c.def_ 10 (d := d_plain_path) rfl
  obtain ⟨fd_law, D_law⟩ := c.def_ 11 (d := d_law) rfl
  have e := hfa.symm.trans (He.glo_ok X G (c.fact 24 rfl))
  cases e
  refine ⟨fd_law, fun s v => FunD.bindsA (ps := ["script"]) D_law (fun _ _ _ _ _ _ us hl => match us, hl with | [_], _ => rfl) s [v] rfl, fun base => ?_⟩
  have K_law_draw := ok_law_draw (P := P) (w := w) (mg := mg) (base := base) D_law_draw (b_len := (He.free_ok X G (c.fact 0 rfl)))
  have F_law_draw : Fn P w K mg base 1 "_law_draw" ["town", "many"] sp_draw := ⟨⟨_, fd_law_draw, (He.glo_ok X G (c.fact 1 rfl)), K_law_draw, D_law_draw.bindsN fun _ _ _ _ _ _ us hl => match us, hl with | [_, _], _ => rfl, D_law_draw.kp⟩⟩
  have K_law_pick := ok_law_pick (P := P) (w := w) (mg := mg) (base := base) D_law_pick (F_law_draw := F_law_draw) (b_len := (He.free_ok X G (c.fact 0 rfl)))
  have F_law_pick : Fn P w K mg base 2 "_law_pick" ["town", "some"] sp_pick := ⟨⟨_, fd_law_pick, (He.glo_ok X G (c.fact 2 rfl)), K_law_pick, D_law_pick.bindsN fun _ _ _ _ _ _ us hl => match us, hl with | [_, _], _ => rfl, D_law_pick.kp⟩⟩
  have K_law_name := ok_law_name (P := P) (w := w) (mg := mg) (base := base) D_law_name (F_law_pick := F_law_pick)
  have F_law_name : Fn P w K mg base 3 "_law_name" ["town"] sp_name := ⟨⟨_, fd_law_name, (He.glo_ok X G (c.fact 3 rfl)), K_law_name, D_law_name.bindsN fun _ _ _ _ _ _ us hl => match us, hl with | [_], _ => rfl, D_law_name.kp⟩⟩
  have K_law_some_path := ok_law_some_path (P := P) (w := w) (mg := mg) (base := base) D_law_some_path (b_range := (He.free_ok X G (c.fact 4 rfl))) (F_law_draw := F_law_draw) (F_law_name := F_law_name) (F_law_pick := F_law_pick)
  have F_law_some_path : Fn P w K mg base 4 "_law_some_path" ["town", "most"] sp_some_path := ⟨⟨_, fd_law_some_path, (He.glo_ok X G (c.fact 5 rfl)), K_law_some_path, D_law_some_path.bindsN fun _ _ _ _ _ _ us hl => match us, hl with | [_, _], _ => rfl, D_law_some_path.kp⟩⟩
  have K_law_town := ok_law_town (P := P) (w := w) (mg := mg) (base := base) D_law_town (b_list := (He.free_ok X G (c.fact 6 rfl)))
  have F_law_town : Fn P w K mg base 1 "_law_town" ["script"] (sp_town K) := ⟨⟨_, fd_law_town, (He.glo_ok X G (c.fact 7 rfl)), K_law_town, D_law_town.bindsN fun _ _ _ _ _ _ us hl => match us, hl with | [_], _ => rfl, D_law_town.kp⟩⟩
  have K_is_name := ok_is_name (P := P) (w := w) (mg := mg) (base := base) D_is_name (b_isinstance := (He.free_ok X G (c.fact 8 rfl))) (b_str := (He.free_ok X G (c.fact 9 rfl))) (b_len := (He.free_ok X G (c.fact 0 rfl))) (c_MOST_NAME := (He.int_ok X G (c.fact 10 rfl))) (b_all := (He.free_ok X G (c.fact 11 rfl))) (c_SIGNS := (He.str_ok X G (c.fact 12 rfl)))
  have F_is_name : Fn P w K mg base 1 "is_name" ["thing"] (sp_is_name K) := ⟨⟨_, fd_is_name, (He.glo_ok X G (c.fact 13 rfl)), K_is_name, D_is_name.bindsN fun _ _ _ _ _ _ us hl => match us, hl with | [_], _ => rfl, D_is_name.kp⟩⟩
  have K_is_part := ok_is_part (P := P) (w := w) (mg := mg) (base := base) D_is_part (c_ABOVE := (He.str_ok X G (c.fact 14 rfl))) (c_HERE := (He.str_ok X G (c.fact 15 rfl))) (F_is_name := F_is_name)
  have F_is_part : Fn P w K mg base 2 "is_part" ["thing"] (sp_is_part K) := ⟨⟨_, fd_is_part, (He.glo_ok X G (c.fact 16 rfl)), K_is_part, D_is_part.bindsN fun _ _ _ _ _ _ us hl => match us, hl with | [_], _ => rfl, D_is_part.kp⟩⟩
  have K_parts_of := ok_parts_of (P := P) (w := w) (mg := mg) (base := base) D_parts_of (b_isinstance := (He.free_ok X G (c.fact 8 rfl))) (b_str := (He.free_ok X G (c.fact 9 rfl))) (R_BadPath := (rz_of X G (c.fact 17 rfl) (c.fact 18 rfl))) (b_len := (He.free_ok X G (c.fact 0 rfl))) (c_MOST_PARTS := (He.int_ok X G (c.fact 19 rfl))) (b_all := (He.free_ok X G (c.fact 11 rfl))) (F_is_part := F_is_part)
  have F_parts_ofD : FnD P w K mg base 3 "parts_of" ["path", "from_top"] [.bl true] (sp_parts_of K) := by
    obtain ⟨ds, hv, hb⟩ := D_parts_of.binds1 (ps := ["path", "from_top"]) 1 0 (by simp [He.DefD.dvs, d_parts_of]) (by rfl) (fun T kV doc pm an cdv ct us its hu hi => match us, its, hu, hi with | [_], [_], _, _ => ⟨_, rfl, rfl⟩)
    exact ⟨⟨_, fd_parts_of, ds, (He.glo_ok X G (c.fact 20 rfl)), K_parts_of, hb, hv, D_parts_of.kp⟩⟩
  have F_parts_ofK : FnK P w K mg base 3 "parts_of" ["path", "from_top"] 1 ["from_top"] (sp_parts_of K) := ⟨⟨_, fd_parts_of, (He.glo_ok X G (c.fact 20 rfl)), K_parts_of, kbn_of D_parts_of 1 ["from_top"] (by simp [He.DefD.dvs, d_parts_of]) (fun T kV doc pm an cdv ct us its ws hu hi hw => match us, its, ws, hu, hi, hw with | [_], [_], [_], _, _, _ => ⟨_, rfl, rfl⟩), D_parts_of.kp⟩⟩
  have K_path_of := ok_path_of (P := P) (w := w) (mg := mg) (base := base) D_path_of (b_isinstance := (He.free_ok X G (c.fact 8 rfl))) (b_list := (He.free_ok X G (c.fact 6 rfl))) (b_len := (He.free_ok X G (c.fact 0 rfl))) (c_MOST_PARTS := (He.int_ok X G (c.fact 19 rfl))) (b_all := (He.free_ok X G (c.fact 11 rfl))) (F_is_part := F_is_part) (R_BadPath := (rz_of X G (c.fact 17 rfl) (c.fact 18 rfl)))
  have F_path_of : Fn P w K mg base 3 "path_of" ["parts"] (sp_path_of K) := ⟨⟨_, fd_path_of, (He.glo_ok X G (c.fact 21 rfl)), K_path_of, D_path_of.bindsN fun _ _ _ _ _ _ us hl => match us, hl with | [_], _ => rfl, D_path_of.kp⟩⟩
  have K_joined := ok_joined (P := P) (w := w) (mg := mg) (base := base) D_joined (F_parts_ofD := F_parts_ofD) (F_parts_ofK := F_parts_ofK) (F_path_of := F_path_of)
  have F_joined : Fn P w K mg base 4 "joined" ["path", "more"] (sp_joined K) := ⟨⟨_, fd_joined, (He.glo_ok X G (c.fact 22 rfl)), K_joined, D_joined.bindsN fun _ _ _ _ _ _ us hl => match us, hl with | [_, _], _ => rfl, D_joined.kp⟩⟩
  have K_plain_path := ok_plain_path (P := P) (w := w) (mg := mg) (base := base) D_plain_path (F_parts_ofD := F_parts_ofD) (c_ABOVE := (He.str_ok X G (c.fact 14 rfl))) (c_HERE := (He.str_ok X G (c.fact 15 rfl))) (F_path_of := F_path_of)
  have F_plain_path : Fn P w K mg base 4 "plain_path" ["path"] (sp_plain K) := ⟨⟨_, fd_plain_path, (He.glo_ok X G (c.fact 23 rfl)), K_plain_path, D_plain_path.bindsN fun _ _ _ _ _ _ us hl => match us, hl with | [_], _ => rfl, D_plain_path.kp⟩⟩
  exact ok_law D_law (F_law_town := F_law_town) (F_law_some_path := F_law_some_path) (b_range := (He.free_ok X G (c.fact 4 rfl))) (F_law_draw := F_law_draw) (F_law_pick := F_law_pick) (F_law_name := F_law_name) (F_joined := F_joined) (F_plain_path := F_plain_path) (b_len := (He.free_ok X G (c.fact 0 rfl))) (F_parts_ofD := F_parts_ofD)
end Tm
open PySem PySem.W PySem.Calls PyProof.Rows
theorem PySem.Challenge.cw_treemounts_k04_whole_joined_holds : PySem.Challenge.rw_treemounts_k04_whole_joined.Holds := by
  w_on; o_law
  refine HandSHeadRun.head_any (r := OpenLaw.row PySem.Challenge.rw_treemounts_k04_whole_joined) (q := view (OpenLaw.row PySem.Challenge.rw_treemounts_k04_whole_joined).prog [21]) (H := Tm.hk) (ob := Tm.ob) (M := 20000) (loose := Tm.names) (d := HandSHeadRun.topDef (OpenLaw.row PySem.Challenge.rw_treemounts_k04_whole_joined).prog 21) (kwd := []) Tm.ob_eq
    (by kernel_rfl) (fun s => by kernel_rfl) Tm.run (by kernel_rfl) (by kernel_rfl) (by kernel_rfl) (by rfl) (by first | assumption | decide +kernel) (by decide +kernel) ⟨rfl, rfl, rfl, rfl, rfl, by decide +kernel⟩ ?hw ?hc
  case hw => w_witness2
  case hc =>
    refine Tm.walk_fin (l := PySem.Challenge.rw_treemounts_k04_whole_joined) (n := 63) (k := 5) (x := "script") rfl (by decide) (by kernel_rfl) ⟨rfl, by decide, by decide⟩ ?F
    intro w mg fa h Y G hmg0
    obtain ⟨K, KX, c⟩ := Y
    have hmg : mg ("law" : PySem.Str) = some (.ref fa) := by
      have e : (HandSHeadRun.topDef (OpenLaw.row PySem.Challenge.rw_treemounts_k04_whole_joined).prog 21).name = ("law" : PySem.Str) := by kernel_rfl
      rw [← e]
      exact hmg0
    exact ⟨K, Tm.sp_law K, KX, fun H a ns hl hS => ⟨a, ns, rfl, hS, hl, fun _ => rfl⟩, Tm.facts KX G hmg c⟩
#print axioms PySem.Challenge.cw_treemounts_k04_whole_joined_holds
