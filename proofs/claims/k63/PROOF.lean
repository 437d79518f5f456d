import PyProof.Rows.All
import Wide.All
import OpenK.AllK
import Wide.FinOn
import PyProof.EqAt
import PyProof.EqKinds
import PyProof.TupleCall
import HandS.ForMost
import HandS.More
import HandS.WordsExc
import HandS.Defaults
import HandS.Star
import HandS.TupAny
import HandS.TupMul
import HandS.IsInst
import HandS.Conv
import HandS.FStr
import HandS.Style
import HandS.Flow
import HandS.TryOnly
import HandS.Deep
import HandS.NoneIn
import HandS.Zip
import HandS.Replace
import KE.KUnpackStar
import KE.GoesEnum
import HandS.Walk
import HandS.ExcInit
import HandS.ExcField
import HandS.ExcIs
import HandS.HeadHook4
import HandS.Head0
import HandS.Head1
import HandS.Head2
import HandS.HeadEnd
import HandS.HeadHook1
import HandS.HeadHook2
import HandS.HeadHook3
import PySem.Challenge.RW_tracklifts_k63_whole_texts_there_and_bac
set_option Elab.async false
set_option linter.all false
set_option maxRecDepth 100000
set_option maxHeartbeats 4000000
/-! Rd: readings step by step. -/
namespace Rd
open PySem L2
open PyProof.Rows hiding St

section
variable {X : Cx} {K : PySem.W.Frag} {σ σ' : L2.St} {H H1 H2 : Hp} {Q : VK} {D : Ends} {v x y : V} {te ta tb tc : TE} {t u tt : TT} {ts us : TS} {r : R2} {g : TG} {tr : TA} {QA : List V → Hp → Prop} {QB : Bool → Hp → Prop} {i : Nat}
def AskB (x : V) (QB : Bool → Hp → Prop) (H : Hp) : Prop := ∃ k, x = .bl k ∧ QB k H
def NewT (xs : List V) (Q : VK) (H : Hp) : Prop := xs.length ≤ sizeLine ∧ ∀ p, H p = none → Q (.ref p) (upd H p (.tup xs))
def NewL (xs : List V) (Q : VK) (H : Hp) : Prop := xs.length ≤ sizeLine ∧ ∀ p, H p = none → Q (.ref p) (upd H p (.lst xs))
def MetV (K : PySem.W.Frag) (T : String) (x : V) (tr : TA) (rm : V → List V → Hp → VK → Prop) (σ : L2.St) (Q : VK) (H : Hp) : Prop := tyV K T x H ∧ tr σ H fun xs H2 => rm x xs H2 Q
def Par2 (vs : List V) (F : V → V → Hp → Prop) (H : Hp) : Prop := ∃ v w, vs = [v, w] ∧ F v w H
def Par3 (vs : List V) (F : V → V → V → Hp → Prop) (H : Hp) : Prop := ∃ v w u, vs = [v, w, u] ∧ F v w u H
theorem rd_var (h : σ[i]? = some (some v)) (q : Q v H) : tVar i σ H Q := ⟨v, h, q⟩
theorem rd_c (q : Q v H) : tC v σ H Q := q
theorem rd_op (h : ta σ H fun x H1 => tb σ H1 fun y H2 => r x y H2 Q) : tOp r ta tb σ H Q := h
theorem rd_un {r : V → Hp → VK → Prop} (h : ta σ H fun x H1 => r x H1 Q) : tUn r ta σ H Q := h
theorem rd_test (h : te σ H fun x H' => AskB x QB H') : tTest te σ H QB := h
theorem rd_B (h : te σ H fun x H' => AskB x QB H') : tB te σ H QB := h
theorem rd_bl {b : Bool} (q : QB b H) : AskB (.bl b) QB H := ⟨b, rfl, q⟩
theorem rd_not (h : t σ H fun c H1 => QB (!c) H1) : tNot t σ H QB := h
theorem rd_and (h : t σ H fun c H1 => if c = true then u σ H1 QB else QB false H1) : tAnd t u σ H QB := h
theorem rd_or (h : t σ H fun c H1 => if c = true then QB true H1 else u σ H1 QB) : tOr t u σ H QB := h
theorem rd_if (h : t σ H fun c H1 => if c = true then ta σ H1 Q else tb σ H1 Q) : tIf t ta tb σ H Q := h
theorem rd_ifS (h : t σ H fun b H1 => if b = true then ts D σ H1 else us D σ H1) : tIfS t ts us D σ H := h
theorem rd_nil (q : QA [] H) : tNil σ H QA := q
theorem rd_cons (h : ta σ H fun x H1 => tr σ H1 fun xs H2 => QA (x :: xs) H2) : tCons ta tr σ H QA := h
theorem rd_seq (h : ts { D with nx := us D } σ H) : tSeq ts us D σ H := h
theorem rd_asg (h : te σ H fun x H1 => g x σ H1 D.nx) : tAsg te g D σ H := h
theorem rd_ret (h : te σ H D.rt) : tRet te D σ H := h
theorem rd_retN (h : D.rt .non H) : tRetN D σ H := h
theorem rd_next (h : D.nx σ H) : tNext D σ H := h
theorem rd_drop (h : te σ H fun _ H1 => D.nx σ H1) : tDrop te D σ H := h
theorem rd_cont (h : D.ct σ H) : tCont D σ H := h
theorem rd_break (h : D.bk σ H) : tBreak D σ H := h
theorem rd_andV (h : ta σ H fun x H1 => AskB x (fun c H1 => if c = true then tb σ H1 Q else Q (.bl false) H1) H1) : tAndV ta tb σ H Q := h
theorem rd_orV (h : ta σ H fun x H1 => AskB x (fun c H1 => if c = true then Q (.bl true) H1 else tb σ H1 Q) H1) : tOrV ta tb σ H Q := h
theorem rd_notV (h : ta σ H fun x H1 => AskB x (fun c H1 => Q (.bl (!c)) H1) H1) : tNotV ta σ H Q := h
theorem rd_chain {r' : R2} (h : ta σ H fun x H1 => tb σ H1 fun y H2 => r x y H2 fun z H3 => AskB z (fun k H3 => if k = true then tc σ H3 fun w' H4 => r' y w' H4 Q else Q (.bl false) H3) H3) : tChain r r' ta tb tc σ H Q := h
theorem rd_tup (h : tr σ H fun xs H1 => NewT xs Q H1) : tTup tr σ H Q := h
theorem rd_lst (h : tr σ H fun xs H1 => NewL xs Q H1) : tLst tr σ H Q := h
theorem rd_call {sp : Sp} {dvs : List V} {E : XK} (h : tr σ H fun vs H1 => sp (vs ++ dvs) H1 Q E) : tCall sp dvs E tr σ H Q := h
theorem rd_cb {rc : List V → Hp → VK → Prop} (h : tr σ H fun vs H1 => rc vs H1 Q) : tCB rc tr σ H Q := h
/-! ### tests -/
theorem rd_dec {p : Prop} [Decidable p] {A B : Prop} (h1 : p → A) (h2 : ¬ p → B) : if (decide p) = true then A else B := by
  by_cases h : p
  · rw [decide_eq_true h, if_pos rfl]; exact h1 h
  · rw [decide_eq_false h, if_neg Bool.false_ne_true]; exact h2 h
theorem rd_decT {p : Prop} [Decidable p] {A B : Prop} (h : p) (a : A) : if (decide p) = true then A else B := by
  rw [decide_eq_true h, if_pos rfl]; exact a
theorem rd_decF {p : Prop} [Decidable p] {A B : Prop} (h : ¬ p) (b : B) : if (decide p) = true then A else B := by
  rw [decide_eq_false h, if_neg Bool.false_ne_true]; exact b
theorem rd_ndec {p : Prop} [Decidable p] {A B : Prop} (h1 : ¬ p → A) (h2 : p → B) : if (!decide p) = true then A else B := by
  by_cases h : p
  · rw [decide_eq_true h]; exact iteF (h2 h)
  · rw [decide_eq_false h]; exact iteT (h1 h)
theorem rd_ite {b : Bool} {A B : Prop} (h1 : b = true → A) (h2 : b = false → B) : if b = true then A else B := by
  cases b
  · exact iteF (h2 rfl)
  · exact iteT (h1 rfl)
theorem rd_nite {b : Bool} {A B : Prop} (h1 : b = false → A) (h2 : b = true → B) : if (!b) = true then A else B := by
  cases b
  · exact iteT (h1 rfl)
  · exact iteF (h2 rfl)
/-! ### ints -/
theorem rd_I0 {f : Int → Int → V} {a b : Int} (q : Q (f a b) H) : rI0 f (.int a) (.int b) H Q := ⟨a, b, rfl, rfl, q⟩
theorem rd_I {C : Int → Int → Prop} {f : Int → Int → V} {a b : Int} (c : C a b) (q : Q (f a b) H) : rI C f (.int a) (.int b) H Q := ⟨a, b, rfl, rfl, c, q⟩
theorem rd_U {f : Int → V} {a : Int} (q : Q (f a) H) : rU f (.int a) H Q := ⟨a, rfl, q⟩
theorem rd_eq (h : scal x y = true) (q : Q (.bl (decide (x = y))) H) : rEq x y H Q := ⟨h, q⟩
theorem rd_ne (h : scal x y = true) (q : Q (.bl (!decide (x = y))) H) : rNe x y H Q := ⟨h, q⟩
end
/-! ### heaps -/
/-- all that was tracked but what stands at l is as it was; tuples are -/
structure But (l : Addr) (H H' : Hp) : Prop where
  keep : ∀ b o, b ≠ l → H b = some o → H' b = some o
  free : ∀ b, H' b = none → H b = none
  tups : ∀ b xs, H b = some (.tup xs) → H' b = some (.tup xs)
theorem same_upd {H : Hp} {p : Addr} {o : HO} (h : H p = none) : Same H (upd H p o) := fun b x e => by
  rw [upd_ne (ne_of_none e h)]; exact e
theorem but_upd {H : Hp} {l : Addr} {o u : HO} (h : H l = some u) (hu : ∀ xs, u ≠ .tup xs) : But l H (upd H l o) where
  keep := fun b x n e => by rw [upd_ne n]; exact e
  free := fun b e => by
    by_cases hb : b = l
    · subst hb; rw [upd_same] at e; cases e
    · rw [upd_ne hb] at e; exact e
  tups := fun b xs e => by
    rw [upd_ne (fun z => by subst z; rw [h] at e; exact hu xs (Option.some.inj e))]; exact e
/-- what is fresh to H may be changed -/
theorem Same.but {H H1 H2 : Hp} {l : Addr} (s : Same H H1) (b : But l H1 H2) (n : H l = none) : Same H H2 := fun a o e =>
  b.keep a o (ne_of_none e n) (s a o e)
/-- tuples stay -/
def Ts (H H' : Hp) : Prop := ∀ b xs, H b = some (.tup xs) → H' b = some (.tup xs)
theorem Ts.refl (H : Hp) : Ts H H := fun _ _ h => h
theorem Ts.trans {H H1 H2 : Hp} (a : Ts H H1) (b : Ts H1 H2) : Ts H H2 := fun c o h => b c o (a c o h)
theorem _root_.L2.Same.ts {H H' : Hp} (s : Same H H') : Ts H H' := fun b xs h => s b _ h
theorem But.ts {l : Addr} {H H' : Hp} (s : But l H H') : Ts H H' := s.tups

/-! ### defs of the text -/
abbrev FnP (K : PySem.W.Frag) (x qual : Str) (st : Stmt) (f : Addr) (fd : FuncData) : Prop := FunD K x qual (defArgs st) (defBody st) (defScope st) [] [] f fd
/-- a def of the module stands and keeps its promise -/
structure Dc (P : Program) (w : World) (K : PySem.W.Frag) (mg : Str → Option Value) (base : Heap) (CX : CXT) (x : Str) (k : Nat) (ps : List Str) (sp : Sp) : Prop where
  ex : ∃ f fd, FnOk P w K mg base CX k f fd ps sp ∧ mg x = some (.ref f) ∧ PySem.W.keepIn K (.ref f) = true ∧ Binds K fd ps []
section
variable {P : Program} {w : World} {K : PySem.W.Frag} {mg : Str → Option Value} {base : Heap} {CX : CXT}
theorem dc_of {x : Str} {st : Stmt} {N ps : List Str} {k : Nat} {sp : Sp} (hF : ∃ f fd, FnP K x x st f fd ∧ mg x = some (.ref f)) (hB : ∀ {f fd}, FnP K x x st f fd → Binds K fd ps []) (S : FnScope N ps (defScope st))
    (len : ∀ vs H Q E, sp vs H Q E → vs.length = ps.length)
    (body : ∀ (f : Addr) (cdv : Value) (A : Around) (outer : List Env) (s : Shared) (H : Hp) (vs : List V) (Q : VK) (E : XK), Room k (A.deeper (envOfC x (defScope st) s.heap.objs.size f cdv)) → sp vs H Q E →
      ∃ t, PSs (cxOf CX P w K mg base N x (defScope st) f cdv A outer s H E) (defBody st) t ∧ t { nx := fun _ H' => Q .non H', rt := Q } (start N vs) H) : Dc P w K mg base CX x (k + 1) ps sp := by
  obtain ⟨f, fd, F, g⟩ := hF
  exact ⟨f, fd, F.ok S len fun cdv A outer s H vs Q E hr h => body f cdv A outer s H vs Q E hr h, g, F.kp, hB F⟩
theorem dc_of0 {x : Str} {st : Stmt} {N ps : List Str} {k : Nat} {sp : Sp} (hF : ∃ f fd, FnP K x x st f fd ∧ mg x = some (.ref f)) (hB : ∀ {f fd}, FnP K x x st f fd → Binds K fd ps []) (S : FnScope N ps (defScope st))
    (len : ∀ vs H Q E, sp vs H Q E → vs.length = ps.length)
    (body : ∀ (f : Addr) (cdv : Value) (A : Around) (outer : List Env) (s : Shared) (H : Hp) (vs : List V) (Q : VK) (E : XK), Room k (A.deeper (envOfC x (defScope st) s.heap.objs.size f cdv)) → sp vs H Q E →
      ∃ t, PSs (cxOf CX0 P w K mg base N x (defScope st) f cdv A outer s H E).nox (defBody st) t ∧ t { nx := fun _ H' => Q .non H', rt := Q } (start N vs) H) : Dc P w K mg base CX0 x (k + 1) ps sp :=
  dc_of hF hB S len fun f cdv A outer s H vs Q E hr h => let ⟨t, a, b⟩ := body f cdv A outer s H vs Q E hr h; ⟨t, a.nox, b⟩
theorem pe_fn {X : Cx} {CX : CXT} {x : Str} {k : Nat} {ps : List Str} {sp : Sp} {E : XK} {e : Expr} {es : List Expr} {t : TA} {p pos : Pos} (D : Dc X.prog X.w X.K X.mg X.base CX x k ps sp) (hr : Room k X.A) (hg : Gl X x) (hx : Passes CX X E) (ha : PA X (e :: es) t)
    (he : starEach (e :: es) X.env = (false, eval e X.env) :: starEach es X.env := by rfl) (hpl : (backTo pos (starEach es X.env)).any (·.1) = false := by rfl) (hdb : (x == ("__debug__" : Str)) = false := by decide) :
    PE X (.Call (.Name x p) (e :: es) [] pos) (tCall sp [] E t) := by
  obtain ⟨f, fd, F, hm, hk, hb⟩ := D.ex
  exact pe_call F hr hg hm hk hb .nil hx ha hdb he hpl
end
end Rd

/-! Rd2: one rule for an operator of several kinds. -/
namespace Rd
open PySem L2
open PyProof.Rows hiding St
section
variable {X : Cx} {σ : L2.St} {H H1 H2 : Hp} {Q : VK} {x : Str} {pos : Pos}
theorem pe_gi {i : Int} (h : ∃ t, X.mg x = some (.int i t)) (hg : Gl X x := by rfl) (hd : (x == ("__debug__" : Str)) = false := by decide) (hcd : (x == ("__classdict__" : Str)) = false := by decide) : PE X (.Name x pos) (tC (.int i)) := by
  obtain ⟨t, h⟩ := h
  exact pe_glob (v := .int i) hg h ⟨t, rfl⟩ hd
theorem pe_gs {z : Str} (h : ∃ t, X.mg x = some (.str z t)) (hg : Gl X x := by rfl) (hd : (x == ("__debug__" : Str)) = false := by decide) (hcd : (x == ("__classdict__" : Str)) = false := by decide) : PE X (.Name x pos) (tC (.str z)) := by
  obtain ⟨t, h⟩ := h
  exact pe_glob (v := .str z) hg h ⟨t, rfl⟩ hd
theorem pe_gr {a : Addr} (h : X.mg x = some (.ref a)) (hg : Gl X x := by rfl) (hd : (x == ("__debug__" : Str)) = false := by decide) (hcd : (x == ("__classdict__" : Str)) = false := by decide) : PE X (.Name x pos) (tC (.ref a)) :=
  pe_glob (v := .ref a) hg h rfl hd
end
theorem boot_isinstance : bootBuiltins "isinstance" = some (.builtin "isinstance") := by decide +kernel
theorem boot_abs : bootBuiltins "abs" = some (.builtin "abs") := by decide +kernel
theorem boot_all : bootBuiltins "all" = some (.builtin "all") := by decide +kernel
theorem boot_any : bootBuiltins "any" = some (.builtin "any") := by decide +kernel
theorem boot_repr : bootBuiltins "repr" = some (.builtin "repr") := by decide +kernel
theorem boot_sorted : bootBuiltins "sorted" = some (.builtin "sorted") := by decide +kernel
theorem boot_sum : bootBuiltins "sum" = some (.builtin "sum") := by decide +kernel
theorem boot_max : bootBuiltins "max" = some (.builtin "max") := by decide +kernel
theorem boot_min : bootBuiltins "min" = some (.builtin "min") := by decide +kernel
theorem boot_len : bootBuiltins "len" = some (.builtin "len") := by decide +kernel
theorem boot_int : bootBuiltins "int" = some (.type "int") := by decide +kernel
theorem boot_bool : bootBuiltins "bool" = some (.type "bool") := by decide +kernel
theorem boot_str : bootBuiltins "str" = some (.type "str") := by decide +kernel
theorem boot_tuple : bootBuiltins "tuple" = some (.type "tuple") := by decide +kernel
theorem boot_list : bootBuiltins "list" = some (.type "list") := by decide +kernel
theorem boot_zip : bootBuiltins "zip" = some (.type "zip") := by decide +kernel
theorem boot_enumerate : bootBuiltins "enumerate" = some (.type "enumerate") := by decide +kernel
/-! ### + -/
def rAddI : R2 := rI0 fun i j => .int (i + j)
def rAddT : R2 := fun x y H Q => ∃ i j, x = .str i ∧ y = .str j ∧ i.length + j.length ≤ sizeLine ∧ Q (.str (i ++ j)) H
def rAddU (K : PySem.W.Frag) : R2 := fun x y H Q => rAddI x y H Q ∨ rAddT x y H Q ∨ rCat x y H Q ∨ rCatA K x y H Q
/-! ### * : text times int -/
def rMulT : R2 := fun x y H Q => ∃ (z : Str) (k : Int), x = .str z ∧ y = .int k ∧ 0 ≤ k ∧ k ≤ 16 ∧ z.length ≤ 1000 ∧ Q (.str ⟨(List.replicate k.toNat z.cps.toList).flatten.toArray⟩) H
def rMulI : R2 := rI CMul fun i j => .int (i * j)
def rMulU (K : PySem.W.Frag) : R2 := fun x y H Q => rMulI x y H Q ∨ rRep x y H Q ∨ rRepT K x y H Q
def rEqU (K : PySem.W.Frag) : R2 := fun x y H Q => rEq x y H Q ∨ rEqD K x y H Q
def rNeU (K : PySem.W.Frag) : R2 := fun x y H Q => rNe x y H Q ∨ rNeD K x y H Q
def rInSg : R2 := fun x y H Q => ∃ (c : Nat) (z : Str), x = .str ⟨#[c]⟩ ∧ y = .str z ∧ Q (.bl (decide (c ∈ z.cps.toList))) H
def rNiSg : R2 := fun x y H Q => ∃ (c : Nat) (z : Str), x = .str ⟨#[c]⟩ ∧ y = .str z ∧ Q (.bl (!decide (c ∈ z.cps.toList))) H
def rInU (K : PySem.W.Frag) : R2 := fun x y H Q => rIn K false x y H Q ∨ rInSg x y H Q ∨ rInD K x y H Q ∨ rNoneIn K false x y H Q
def rNiU (K : PySem.W.Frag) : R2 := fun x y H Q => rIn K true x y H Q ∨ rNiSg x y H Q ∨ rNotInD K x y H Q ∨ rNoneIn K true x y H Q
def rIntU : List V → Hp → VK → Prop := fun xs H Q => ((∃ i, xs = [.int i] ∧ Q (.int i) H) ∨ ∃ k, xs = [.bl k] ∧ Q (.int (if k then 1 else 0)) H) ∨ (∃ a n, xs = [.str a] ∧ intText? a = some n ∧ a.length ≤ 640 ∧ Q (.int n) H)
def rStrU : List V → Hp → VK → Prop := fun xs H Q => ∃ i, xs = [.int i] ∧ i.natAbs.log2 < 1920 ∧ Q (.str (toString i)) H
def rMax2 : List V → Hp → VK → Prop := fun xs H Q => ∃ i j, xs = [.int i, .int j] ∧ Q (.int (if j > i then j else i)) H
def rMin2 : List V → Hp → VK → Prop := fun xs H Q => ∃ i j, xs = [.int i, .int j] ∧ Q (.int (if j < i then j else i)) H
def rMaxU (K : PySem.W.Frag) : List V → Hp → VK → Prop := fun xs H Q => rMax2 xs H Q ∨ rMax K xs H Q
def rMinU (K : PySem.W.Frag) : List V → Hp → VK → Prop := fun xs H Q => rMin2 xs H Q ∨ rMin K xs H Q
def rIsiU (K : PySem.W.Frag) : List V → Hp → VK → Prop := fun xs H Q => rIsi K xs H Q ∨ rIsiT K xs H Q
def rLenU (K : PySem.W.Frag) : List V → Hp → VK → Prop := fun xs H Q => ∃ x n, xs = [x] ∧ LenV K x H n ∧ Q (.int n) H
def rTupU (K : PySem.W.Frag) : List V → Hp → VK → Prop := fun xs H Q => ∃ p ys, xs = [.ref p] ∧ ((SqL K H p ys ∧ ∀ l, H l = none → Q (.ref l) (upd H l (.tup ys))) ∨ (SqT K H p ys ∧ Q (.ref p) H))
def rLstU (K : PySem.W.Frag) : List V → Hp → VK → Prop := fun xs H Q => ∃ p ys, xs = [.ref p] ∧ (SqL K H p ys ∨ SqT K H p ys) ∧ ∀ l, H l = none → Q (.ref l) (upd H l (.lst ys))
def rAbs : List V → Hp → VK → Prop := fun xs H Q => ∃ i, xs = [.int i] ∧ Q (.int (if i < 0 then -i else i)) H
section
variable {X : Cx}
theorem u_len : CallR X (.builtin "len") (rLenU X.K) := call_len
theorem u_tup : CallR X (.type "tuple") (rTupU X.K) := call_tuple_of
theorem u_lst : CallR X (.type "list") (rLstU X.K) := call_list_of
theorem u_abs : CallR X (.builtin "abs") rAbs := call_abs
theorem u_add : OpR X (binaryOp .Add) (rAddU X.K) := OpR.or op_add (OpR.or op_add_str (OpR.or op_cat op_catA))
theorem u_mul : OpR X (binaryOp .Mult) (rMulU X.K) := OpR.or op_mul (OpR.or op_rep op_repT)
theorem u_eq (hu : X.A.units + 64 < cLine) : OpR X (compareOp .Eq) (rEqU X.K) := OpR.or op_eq (op_eqD hu)
theorem u_ne (hu : X.A.units + 64 < cLine) : OpR X (compareOp .NotEq) (rNeU X.K) := OpR.or op_ne (op_neD hu)
theorem u_in (hu : X.A.units + 65 < cLine) : OpR X (compareOp .In) (rInU X.K) := OpR.or op_in_seq (OpR.or op_in_sign (OpR.or (op_inD hu) (op_noneIn (by omega))))
theorem u_notin (hu : X.A.units + 65 < cLine) : OpR X (compareOp .NotIn) (rNiU X.K) := OpR.or op_notIn_seq (OpR.or op_notIn_sign (OpR.or (op_notInD hu) (op_noneNotIn (by omega))))
theorem room65 {A : Around} {k : Nat} (hr : Room k A) : A.units + 65 < cLine := by have := hr.un; omega
theorem u_int : CallR X (.type "int") rIntU := CallR.or call_int1 call_int_str
theorem u_str : CallR X (.type "str") rStrU := call_str_int
theorem u_max (hc : X.calm = true) : CallR X (.builtin "max") (rMaxU X.K) := CallR.or (call_max2 hc) (cr_max hc)
theorem u_min (hc : X.calm = true) : CallR X (.builtin "min") (rMinU X.K) := CallR.or (call_min2 hc) (cr_min hc)
theorem u_isi : CallR X (.builtin "isinstance") (rIsiU X.K) := CallR.or call_isi call_isiT
end
end Rd

/-! Rd3: readings of operators, calls, names; generated in part. -/
namespace Rd
open PySem L2
open PyProof.Rows hiding St
section
variable {K : PySem.W.Frag} {σ σ' : L2.St} {H H1 H2 : Hp} {Q : VK} {D : Ends} {v x y : V} {te ta tb tc to : TE} {t u tt : TT} {ts us : L2.TS} {r : R2} {tr : TA} {QA : List V → Hp → Prop} {QB : Bool → Hp → Prop} {QS : L2.St → Hp → Prop} {i j : Int} {a b p l : Addr} {xs ys : List V} {z z' : Str} {n : Nat}

theorem kit_int_int : PySem.W.kitOne K (.type "int") (.type "int") = some true := kit_ty (by decide +kernel)
theorem kit_int_bool : PySem.W.kitOne K (.type "int") (.type "bool") = some false := kit_ty (by decide +kernel)
theorem kit_int_str : PySem.W.kitOne K (.type "int") (.type "str") = some false := kit_ty (by decide +kernel)
theorem kit_int_tuple : PySem.W.kitOne K (.type "int") (.type "tuple") = some false := kit_ty (by decide +kernel)
theorem kit_int_list : PySem.W.kitOne K (.type "int") (.type "list") = some false := kit_ty (by decide +kernel)
theorem kit_bool_int : PySem.W.kitOne K (.type "bool") (.type "int") = some true := kit_ty (by decide +kernel)
theorem kit_bool_bool : PySem.W.kitOne K (.type "bool") (.type "bool") = some true := kit_ty (by decide +kernel)
theorem kit_bool_str : PySem.W.kitOne K (.type "bool") (.type "str") = some false := kit_ty (by decide +kernel)
theorem kit_bool_tuple : PySem.W.kitOne K (.type "bool") (.type "tuple") = some false := kit_ty (by decide +kernel)
theorem kit_bool_list : PySem.W.kitOne K (.type "bool") (.type "list") = some false := kit_ty (by decide +kernel)
theorem kit_str_int : PySem.W.kitOne K (.type "str") (.type "int") = some false := kit_ty (by decide +kernel)
theorem kit_str_bool : PySem.W.kitOne K (.type "str") (.type "bool") = some false := kit_ty (by decide +kernel)
theorem kit_str_str : PySem.W.kitOne K (.type "str") (.type "str") = some true := kit_ty (by decide +kernel)
theorem kit_str_tuple : PySem.W.kitOne K (.type "str") (.type "tuple") = some false := kit_ty (by decide +kernel)
theorem kit_str_list : PySem.W.kitOne K (.type "str") (.type "list") = some false := kit_ty (by decide +kernel)
theorem kit_NoneType_int : PySem.W.kitOne K (.type "NoneType") (.type "int") = some false := kit_ty (by decide +kernel)
theorem kit_NoneType_bool : PySem.W.kitOne K (.type "NoneType") (.type "bool") = some false := kit_ty (by decide +kernel)
theorem kit_NoneType_str : PySem.W.kitOne K (.type "NoneType") (.type "str") = some false := kit_ty (by decide +kernel)
theorem kit_NoneType_tuple : PySem.W.kitOne K (.type "NoneType") (.type "tuple") = some false := kit_ty (by decide +kernel)
theorem kit_NoneType_list : PySem.W.kitOne K (.type "NoneType") (.type "list") = some false := kit_ty (by decide +kernel)
theorem kit_tuple_int : PySem.W.kitOne K (.type "tuple") (.type "int") = some false := kit_ty (by decide +kernel)
theorem kit_tuple_bool : PySem.W.kitOne K (.type "tuple") (.type "bool") = some false := kit_ty (by decide +kernel)
theorem kit_tuple_str : PySem.W.kitOne K (.type "tuple") (.type "str") = some false := kit_ty (by decide +kernel)
theorem kit_tuple_tuple : PySem.W.kitOne K (.type "tuple") (.type "tuple") = some true := kit_ty (by decide +kernel)
theorem kit_tuple_list : PySem.W.kitOne K (.type "tuple") (.type "list") = some false := kit_ty (by decide +kernel)
theorem kit_list_int : PySem.W.kitOne K (.type "list") (.type "int") = some false := kit_ty (by decide +kernel)
theorem kit_list_bool : PySem.W.kitOne K (.type "list") (.type "bool") = some false := kit_ty (by decide +kernel)
theorem kit_list_str : PySem.W.kitOne K (.type "list") (.type "str") = some false := kit_ty (by decide +kernel)
theorem kit_list_tuple : PySem.W.kitOne K (.type "list") (.type "tuple") = some false := kit_ty (by decide +kernel)
theorem kit_list_list : PySem.W.kitOne K (.type "list") (.type "list") = some true := kit_ty (by decide +kernel)
theorem rd_isi_int_int (q : Q (.bl true) H) : rIsiU K [(.int i), .ty "int"] H Q := .inl ⟨_, _, _, _, _, rfl, .ty _, (.base (.int i)), kit_int_int, q⟩
theorem rd_isi_int_bool (q : Q (.bl false) H) : rIsiU K [(.int i), .ty "bool"] H Q := .inl ⟨_, _, _, _, _, rfl, .ty _, (.base (.int i)), kit_int_bool, q⟩
theorem rd_isi_int_str (q : Q (.bl false) H) : rIsiU K [(.int i), .ty "str"] H Q := .inl ⟨_, _, _, _, _, rfl, .ty _, (.base (.int i)), kit_int_str, q⟩
theorem rd_isi_int_tuple (q : Q (.bl false) H) : rIsiU K [(.int i), .ty "tuple"] H Q := .inl ⟨_, _, _, _, _, rfl, .ty _, (.base (.int i)), kit_int_tuple, q⟩
theorem rd_isi_int_list (q : Q (.bl false) H) : rIsiU K [(.int i), .ty "list"] H Q := .inl ⟨_, _, _, _, _, rfl, .ty _, (.base (.int i)), kit_int_list, q⟩
theorem rd_isi_bool_int {bb : Bool} (q : Q (.bl true) H) : rIsiU K [(.bl bb), .ty "int"] H Q := .inl ⟨_, _, _, _, _, rfl, .ty _, (.base (.bl bb)), kit_bool_int, q⟩
theorem rd_isi_bool_bool {bb : Bool} (q : Q (.bl true) H) : rIsiU K [(.bl bb), .ty "bool"] H Q := .inl ⟨_, _, _, _, _, rfl, .ty _, (.base (.bl bb)), kit_bool_bool, q⟩
theorem rd_isi_bool_str {bb : Bool} (q : Q (.bl false) H) : rIsiU K [(.bl bb), .ty "str"] H Q := .inl ⟨_, _, _, _, _, rfl, .ty _, (.base (.bl bb)), kit_bool_str, q⟩
theorem rd_isi_bool_tuple {bb : Bool} (q : Q (.bl false) H) : rIsiU K [(.bl bb), .ty "tuple"] H Q := .inl ⟨_, _, _, _, _, rfl, .ty _, (.base (.bl bb)), kit_bool_tuple, q⟩
theorem rd_isi_bool_list {bb : Bool} (q : Q (.bl false) H) : rIsiU K [(.bl bb), .ty "list"] H Q := .inl ⟨_, _, _, _, _, rfl, .ty _, (.base (.bl bb)), kit_bool_list, q⟩
theorem rd_isi_str_int (q : Q (.bl false) H) : rIsiU K [(.str z), .ty "int"] H Q := .inl ⟨_, _, _, _, _, rfl, .ty _, (.base (.str z)), kit_str_int, q⟩
theorem rd_isi_str_bool (q : Q (.bl false) H) : rIsiU K [(.str z), .ty "bool"] H Q := .inl ⟨_, _, _, _, _, rfl, .ty _, (.base (.str z)), kit_str_bool, q⟩
theorem rd_isi_str_str (q : Q (.bl true) H) : rIsiU K [(.str z), .ty "str"] H Q := .inl ⟨_, _, _, _, _, rfl, .ty _, (.base (.str z)), kit_str_str, q⟩
theorem rd_isi_str_tuple (q : Q (.bl false) H) : rIsiU K [(.str z), .ty "tuple"] H Q := .inl ⟨_, _, _, _, _, rfl, .ty _, (.base (.str z)), kit_str_tuple, q⟩
theorem rd_isi_str_list (q : Q (.bl false) H) : rIsiU K [(.str z), .ty "list"] H Q := .inl ⟨_, _, _, _, _, rfl, .ty _, (.base (.str z)), kit_str_list, q⟩
theorem rd_isi_NoneType_int (q : Q (.bl false) H) : rIsiU K [.non, .ty "int"] H Q := .inl ⟨_, _, _, _, _, rfl, .ty _, (.base .non), kit_NoneType_int, q⟩
theorem rd_isi_NoneType_bool (q : Q (.bl false) H) : rIsiU K [.non, .ty "bool"] H Q := .inl ⟨_, _, _, _, _, rfl, .ty _, (.base .non), kit_NoneType_bool, q⟩
theorem rd_isi_NoneType_str (q : Q (.bl false) H) : rIsiU K [.non, .ty "str"] H Q := .inl ⟨_, _, _, _, _, rfl, .ty _, (.base .non), kit_NoneType_str, q⟩
theorem rd_isi_NoneType_tuple (q : Q (.bl false) H) : rIsiU K [.non, .ty "tuple"] H Q := .inl ⟨_, _, _, _, _, rfl, .ty _, (.base .non), kit_NoneType_tuple, q⟩
theorem rd_isi_NoneType_list (q : Q (.bl false) H) : rIsiU K [.non, .ty "list"] H Q := .inl ⟨_, _, _, _, _, rfl, .ty _, (.base .non), kit_NoneType_list, q⟩
theorem rd_isi_tuple_int (h : H a = some (.tup xs)) (q : Q (.bl false) H) : rIsiU K [.ref a, .ty "int"] H Q := .inl ⟨_, _, _, _, _, rfl, .ty _, .base (.tup h), kit_tuple_int, q⟩
theorem rd_isi_list_int (h : H a = some (.lst xs)) (q : Q (.bl false) H) : rIsiU K [.ref a, .ty "int"] H Q := .inl ⟨_, _, _, _, _, rfl, .ty _, .base (.lst h), kit_list_int, q⟩
theorem rd_isi_tuple_bool (h : H a = some (.tup xs)) (q : Q (.bl false) H) : rIsiU K [.ref a, .ty "bool"] H Q := .inl ⟨_, _, _, _, _, rfl, .ty _, .base (.tup h), kit_tuple_bool, q⟩
theorem rd_isi_list_bool (h : H a = some (.lst xs)) (q : Q (.bl false) H) : rIsiU K [.ref a, .ty "bool"] H Q := .inl ⟨_, _, _, _, _, rfl, .ty _, .base (.lst h), kit_list_bool, q⟩
theorem rd_isi_tuple_str (h : H a = some (.tup xs)) (q : Q (.bl false) H) : rIsiU K [.ref a, .ty "str"] H Q := .inl ⟨_, _, _, _, _, rfl, .ty _, .base (.tup h), kit_tuple_str, q⟩
theorem rd_isi_list_str (h : H a = some (.lst xs)) (q : Q (.bl false) H) : rIsiU K [.ref a, .ty "str"] H Q := .inl ⟨_, _, _, _, _, rfl, .ty _, .base (.lst h), kit_list_str, q⟩
theorem rd_isi_tuple_tuple (h : H a = some (.tup xs)) (q : Q (.bl true) H) : rIsiU K [.ref a, .ty "tuple"] H Q := .inl ⟨_, _, _, _, _, rfl, .ty _, .base (.tup h), kit_tuple_tuple, q⟩
theorem rd_isi_list_tuple (h : H a = some (.lst xs)) (q : Q (.bl false) H) : rIsiU K [.ref a, .ty "tuple"] H Q := .inl ⟨_, _, _, _, _, rfl, .ty _, .base (.lst h), kit_list_tuple, q⟩
theorem rd_isi_tuple_list (h : H a = some (.tup xs)) (q : Q (.bl false) H) : rIsiU K [.ref a, .ty "list"] H Q := .inl ⟨_, _, _, _, _, rfl, .ty _, .base (.tup h), kit_tuple_list, q⟩
theorem rd_isi_list_list (h : H a = some (.lst xs)) (q : Q (.bl true) H) : rIsiU K [.ref a, .ty "list"] H Q := .inl ⟨_, _, _, _, _, rfl, .ty _, .base (.lst h), kit_list_list, q⟩
theorem rd_g0 {x0 : Option V} (q : QS (some v :: σ) H) : gName 0 v (x0 :: σ) H QS := q
theorem rd_v0 (q : Q v H) : tVar 0 (some v :: σ) H Q := ⟨v, rfl, q⟩
theorem rd_g1 {x0 x1 : Option V} (q : QS (x0 :: some v :: σ) H) : gName 1 v (x0 :: x1 :: σ) H QS := q
theorem rd_v1 {x0 : Option V} (q : Q v H) : tVar 1 (x0 :: some v :: σ) H Q := ⟨v, rfl, q⟩
theorem rd_g2 {x0 x1 x2 : Option V} (q : QS (x0 :: x1 :: some v :: σ) H) : gName 2 v (x0 :: x1 :: x2 :: σ) H QS := q
theorem rd_v2 {x0 x1 : Option V} (q : Q v H) : tVar 2 (x0 :: x1 :: some v :: σ) H Q := ⟨v, rfl, q⟩
theorem rd_g3 {x0 x1 x2 x3 : Option V} (q : QS (x0 :: x1 :: x2 :: some v :: σ) H) : gName 3 v (x0 :: x1 :: x2 :: x3 :: σ) H QS := q
theorem rd_v3 {x0 x1 x2 : Option V} (q : Q v H) : tVar 3 (x0 :: x1 :: x2 :: some v :: σ) H Q := ⟨v, rfl, q⟩
theorem rd_g4 {x0 x1 x2 x3 x4 : Option V} (q : QS (x0 :: x1 :: x2 :: x3 :: some v :: σ) H) : gName 4 v (x0 :: x1 :: x2 :: x3 :: x4 :: σ) H QS := q
theorem rd_v4 {x0 x1 x2 x3 : Option V} (q : Q v H) : tVar 4 (x0 :: x1 :: x2 :: x3 :: some v :: σ) H Q := ⟨v, rfl, q⟩
theorem rd_g5 {x0 x1 x2 x3 x4 x5 : Option V} (q : QS (x0 :: x1 :: x2 :: x3 :: x4 :: some v :: σ) H) : gName 5 v (x0 :: x1 :: x2 :: x3 :: x4 :: x5 :: σ) H QS := q
theorem rd_v5 {x0 x1 x2 x3 x4 : Option V} (q : Q v H) : tVar 5 (x0 :: x1 :: x2 :: x3 :: x4 :: some v :: σ) H Q := ⟨v, rfl, q⟩
theorem rd_g6 {x0 x1 x2 x3 x4 x5 x6 : Option V} (q : QS (x0 :: x1 :: x2 :: x3 :: x4 :: x5 :: some v :: σ) H) : gName 6 v (x0 :: x1 :: x2 :: x3 :: x4 :: x5 :: x6 :: σ) H QS := q
theorem rd_v6 {x0 x1 x2 x3 x4 x5 : Option V} (q : Q v H) : tVar 6 (x0 :: x1 :: x2 :: x3 :: x4 :: x5 :: some v :: σ) H Q := ⟨v, rfl, q⟩
theorem rd_g7 {x0 x1 x2 x3 x4 x5 x6 x7 : Option V} (q : QS (x0 :: x1 :: x2 :: x3 :: x4 :: x5 :: x6 :: some v :: σ) H) : gName 7 v (x0 :: x1 :: x2 :: x3 :: x4 :: x5 :: x6 :: x7 :: σ) H QS := q
theorem rd_v7 {x0 x1 x2 x3 x4 x5 x6 : Option V} (q : Q v H) : tVar 7 (x0 :: x1 :: x2 :: x3 :: x4 :: x5 :: x6 :: some v :: σ) H Q := ⟨v, rfl, q⟩
theorem rd_g8 {x0 x1 x2 x3 x4 x5 x6 x7 x8 : Option V} (q : QS (x0 :: x1 :: x2 :: x3 :: x4 :: x5 :: x6 :: x7 :: some v :: σ) H) : gName 8 v (x0 :: x1 :: x2 :: x3 :: x4 :: x5 :: x6 :: x7 :: x8 :: σ) H QS := q
theorem rd_v8 {x0 x1 x2 x3 x4 x5 x6 x7 : Option V} (q : Q v H) : tVar 8 (x0 :: x1 :: x2 :: x3 :: x4 :: x5 :: x6 :: x7 :: some v :: σ) H Q := ⟨v, rfl, q⟩
theorem rd_g9 {x0 x1 x2 x3 x4 x5 x6 x7 x8 x9 : Option V} (q : QS (x0 :: x1 :: x2 :: x3 :: x4 :: x5 :: x6 :: x7 :: x8 :: some v :: σ) H) : gName 9 v (x0 :: x1 :: x2 :: x3 :: x4 :: x5 :: x6 :: x7 :: x8 :: x9 :: σ) H QS := q
theorem rd_v9 {x0 x1 x2 x3 x4 x5 x6 x7 x8 : Option V} (q : Q v H) : tVar 9 (x0 :: x1 :: x2 :: x3 :: x4 :: x5 :: x6 :: x7 :: x8 :: some v :: σ) H Q := ⟨v, rfl, q⟩
theorem rd_g10 {x0 x1 x2 x3 x4 x5 x6 x7 x8 x9 x10 : Option V} (q : QS (x0 :: x1 :: x2 :: x3 :: x4 :: x5 :: x6 :: x7 :: x8 :: x9 :: some v :: σ) H) : gName 10 v (x0 :: x1 :: x2 :: x3 :: x4 :: x5 :: x6 :: x7 :: x8 :: x9 :: x10 :: σ) H QS := q
theorem rd_v10 {x0 x1 x2 x3 x4 x5 x6 x7 x8 x9 : Option V} (q : Q v H) : tVar 10 (x0 :: x1 :: x2 :: x3 :: x4 :: x5 :: x6 :: x7 :: x8 :: x9 :: some v :: σ) H Q := ⟨v, rfl, q⟩
theorem rd_g11 {x0 x1 x2 x3 x4 x5 x6 x7 x8 x9 x10 x11 : Option V} (q : QS (x0 :: x1 :: x2 :: x3 :: x4 :: x5 :: x6 :: x7 :: x8 :: x9 :: x10 :: some v :: σ) H) : gName 11 v (x0 :: x1 :: x2 :: x3 :: x4 :: x5 :: x6 :: x7 :: x8 :: x9 :: x10 :: x11 :: σ) H QS := q
theorem rd_v11 {x0 x1 x2 x3 x4 x5 x6 x7 x8 x9 x10 : Option V} (q : Q v H) : tVar 11 (x0 :: x1 :: x2 :: x3 :: x4 :: x5 :: x6 :: x7 :: x8 :: x9 :: x10 :: some v :: σ) H Q := ⟨v, rfl, q⟩
theorem rd_g12 {x0 x1 x2 x3 x4 x5 x6 x7 x8 x9 x10 x11 x12 : Option V} (q : QS (x0 :: x1 :: x2 :: x3 :: x4 :: x5 :: x6 :: x7 :: x8 :: x9 :: x10 :: x11 :: some v :: σ) H) : gName 12 v (x0 :: x1 :: x2 :: x3 :: x4 :: x5 :: x6 :: x7 :: x8 :: x9 :: x10 :: x11 :: x12 :: σ) H QS := q
theorem rd_v12 {x0 x1 x2 x3 x4 x5 x6 x7 x8 x9 x10 x11 : Option V} (q : Q v H) : tVar 12 (x0 :: x1 :: x2 :: x3 :: x4 :: x5 :: x6 :: x7 :: x8 :: x9 :: x10 :: x11 :: some v :: σ) H Q := ⟨v, rfl, q⟩
theorem rd_g13 {x0 x1 x2 x3 x4 x5 x6 x7 x8 x9 x10 x11 x12 x13 : Option V} (q : QS (x0 :: x1 :: x2 :: x3 :: x4 :: x5 :: x6 :: x7 :: x8 :: x9 :: x10 :: x11 :: x12 :: some v :: σ) H) : gName 13 v (x0 :: x1 :: x2 :: x3 :: x4 :: x5 :: x6 :: x7 :: x8 :: x9 :: x10 :: x11 :: x12 :: x13 :: σ) H QS := q
theorem rd_v13 {x0 x1 x2 x3 x4 x5 x6 x7 x8 x9 x10 x11 x12 : Option V} (q : Q v H) : tVar 13 (x0 :: x1 :: x2 :: x3 :: x4 :: x5 :: x6 :: x7 :: x8 :: x9 :: x10 :: x11 :: x12 :: some v :: σ) H Q := ⟨v, rfl, q⟩
theorem rd_g14 {x0 x1 x2 x3 x4 x5 x6 x7 x8 x9 x10 x11 x12 x13 x14 : Option V} (q : QS (x0 :: x1 :: x2 :: x3 :: x4 :: x5 :: x6 :: x7 :: x8 :: x9 :: x10 :: x11 :: x12 :: x13 :: some v :: σ) H) : gName 14 v (x0 :: x1 :: x2 :: x3 :: x4 :: x5 :: x6 :: x7 :: x8 :: x9 :: x10 :: x11 :: x12 :: x13 :: x14 :: σ) H QS := q
theorem rd_v14 {x0 x1 x2 x3 x4 x5 x6 x7 x8 x9 x10 x11 x12 x13 : Option V} (q : Q v H) : tVar 14 (x0 :: x1 :: x2 :: x3 :: x4 :: x5 :: x6 :: x7 :: x8 :: x9 :: x10 :: x11 :: x12 :: x13 :: some v :: σ) H Q := ⟨v, rfl, q⟩
theorem rd_g15 {x0 x1 x2 x3 x4 x5 x6 x7 x8 x9 x10 x11 x12 x13 x14 x15 : Option V} (q : QS (x0 :: x1 :: x2 :: x3 :: x4 :: x5 :: x6 :: x7 :: x8 :: x9 :: x10 :: x11 :: x12 :: x13 :: x14 :: some v :: σ) H) : gName 15 v (x0 :: x1 :: x2 :: x3 :: x4 :: x5 :: x6 :: x7 :: x8 :: x9 :: x10 :: x11 :: x12 :: x13 :: x14 :: x15 :: σ) H QS := q
theorem rd_v15 {x0 x1 x2 x3 x4 x5 x6 x7 x8 x9 x10 x11 x12 x13 x14 : Option V} (q : Q v H) : tVar 15 (x0 :: x1 :: x2 :: x3 :: x4 :: x5 :: x6 :: x7 :: x8 :: x9 :: x10 :: x11 :: x12 :: x13 :: x14 :: some v :: σ) H Q := ⟨v, rfl, q⟩
theorem rd_g16 {x0 x1 x2 x3 x4 x5 x6 x7 x8 x9 x10 x11 x12 x13 x14 x15 x16 : Option V} (q : QS (x0 :: x1 :: x2 :: x3 :: x4 :: x5 :: x6 :: x7 :: x8 :: x9 :: x10 :: x11 :: x12 :: x13 :: x14 :: x15 :: some v :: σ) H) : gName 16 v (x0 :: x1 :: x2 :: x3 :: x4 :: x5 :: x6 :: x7 :: x8 :: x9 :: x10 :: x11 :: x12 :: x13 :: x14 :: x15 :: x16 :: σ) H QS := q
theorem rd_v16 {x0 x1 x2 x3 x4 x5 x6 x7 x8 x9 x10 x11 x12 x13 x14 x15 : Option V} (q : Q v H) : tVar 16 (x0 :: x1 :: x2 :: x3 :: x4 :: x5 :: x6 :: x7 :: x8 :: x9 :: x10 :: x11 :: x12 :: x13 :: x14 :: x15 :: some v :: σ) H Q := ⟨v, rfl, q⟩
theorem rd_g17 {x0 x1 x2 x3 x4 x5 x6 x7 x8 x9 x10 x11 x12 x13 x14 x15 x16 x17 : Option V} (q : QS (x0 :: x1 :: x2 :: x3 :: x4 :: x5 :: x6 :: x7 :: x8 :: x9 :: x10 :: x11 :: x12 :: x13 :: x14 :: x15 :: x16 :: some v :: σ) H) : gName 17 v (x0 :: x1 :: x2 :: x3 :: x4 :: x5 :: x6 :: x7 :: x8 :: x9 :: x10 :: x11 :: x12 :: x13 :: x14 :: x15 :: x16 :: x17 :: σ) H QS := q
theorem rd_v17 {x0 x1 x2 x3 x4 x5 x6 x7 x8 x9 x10 x11 x12 x13 x14 x15 x16 : Option V} (q : Q v H) : tVar 17 (x0 :: x1 :: x2 :: x3 :: x4 :: x5 :: x6 :: x7 :: x8 :: x9 :: x10 :: x11 :: x12 :: x13 :: x14 :: x15 :: x16 :: some v :: σ) H Q := ⟨v, rfl, q⟩
theorem rd_g18 {x0 x1 x2 x3 x4 x5 x6 x7 x8 x9 x10 x11 x12 x13 x14 x15 x16 x17 x18 : Option V} (q : QS (x0 :: x1 :: x2 :: x3 :: x4 :: x5 :: x6 :: x7 :: x8 :: x9 :: x10 :: x11 :: x12 :: x13 :: x14 :: x15 :: x16 :: x17 :: some v :: σ) H) : gName 18 v (x0 :: x1 :: x2 :: x3 :: x4 :: x5 :: x6 :: x7 :: x8 :: x9 :: x10 :: x11 :: x12 :: x13 :: x14 :: x15 :: x16 :: x17 :: x18 :: σ) H QS := q
theorem rd_v18 {x0 x1 x2 x3 x4 x5 x6 x7 x8 x9 x10 x11 x12 x13 x14 x15 x16 x17 : Option V} (q : Q v H) : tVar 18 (x0 :: x1 :: x2 :: x3 :: x4 :: x5 :: x6 :: x7 :: x8 :: x9 :: x10 :: x11 :: x12 :: x13 :: x14 :: x15 :: x16 :: x17 :: some v :: σ) H Q := ⟨v, rfl, q⟩
theorem rd_g19 {x0 x1 x2 x3 x4 x5 x6 x7 x8 x9 x10 x11 x12 x13 x14 x15 x16 x17 x18 x19 : Option V} (q : QS (x0 :: x1 :: x2 :: x3 :: x4 :: x5 :: x6 :: x7 :: x8 :: x9 :: x10 :: x11 :: x12 :: x13 :: x14 :: x15 :: x16 :: x17 :: x18 :: some v :: σ) H) : gName 19 v (x0 :: x1 :: x2 :: x3 :: x4 :: x5 :: x6 :: x7 :: x8 :: x9 :: x10 :: x11 :: x12 :: x13 :: x14 :: x15 :: x16 :: x17 :: x18 :: x19 :: σ) H QS := q
theorem rd_v19 {x0 x1 x2 x3 x4 x5 x6 x7 x8 x9 x10 x11 x12 x13 x14 x15 x16 x17 x18 : Option V} (q : Q v H) : tVar 19 (x0 :: x1 :: x2 :: x3 :: x4 :: x5 :: x6 :: x7 :: x8 :: x9 :: x10 :: x11 :: x12 :: x13 :: x14 :: x15 :: x16 :: x17 :: x18 :: some v :: σ) H Q := ⟨v, rfl, q⟩
theorem rd_g20 {x0 x1 x2 x3 x4 x5 x6 x7 x8 x9 x10 x11 x12 x13 x14 x15 x16 x17 x18 x19 x20 : Option V} (q : QS (x0 :: x1 :: x2 :: x3 :: x4 :: x5 :: x6 :: x7 :: x8 :: x9 :: x10 :: x11 :: x12 :: x13 :: x14 :: x15 :: x16 :: x17 :: x18 :: x19 :: some v :: σ) H) : gName 20 v (x0 :: x1 :: x2 :: x3 :: x4 :: x5 :: x6 :: x7 :: x8 :: x9 :: x10 :: x11 :: x12 :: x13 :: x14 :: x15 :: x16 :: x17 :: x18 :: x19 :: x20 :: σ) H QS := q
theorem rd_v20 {x0 x1 x2 x3 x4 x5 x6 x7 x8 x9 x10 x11 x12 x13 x14 x15 x16 x17 x18 x19 : Option V} (q : Q v H) : tVar 20 (x0 :: x1 :: x2 :: x3 :: x4 :: x5 :: x6 :: x7 :: x8 :: x9 :: x10 :: x11 :: x12 :: x13 :: x14 :: x15 :: x16 :: x17 :: x18 :: x19 :: some v :: σ) H Q := ⟨v, rfl, q⟩
theorem rd_g21 {x0 x1 x2 x3 x4 x5 x6 x7 x8 x9 x10 x11 x12 x13 x14 x15 x16 x17 x18 x19 x20 x21 : Option V} (q : QS (x0 :: x1 :: x2 :: x3 :: x4 :: x5 :: x6 :: x7 :: x8 :: x9 :: x10 :: x11 :: x12 :: x13 :: x14 :: x15 :: x16 :: x17 :: x18 :: x19 :: x20 :: some v :: σ) H) : gName 21 v (x0 :: x1 :: x2 :: x3 :: x4 :: x5 :: x6 :: x7 :: x8 :: x9 :: x10 :: x11 :: x12 :: x13 :: x14 :: x15 :: x16 :: x17 :: x18 :: x19 :: x20 :: x21 :: σ) H QS := q
theorem rd_v21 {x0 x1 x2 x3 x4 x5 x6 x7 x8 x9 x10 x11 x12 x13 x14 x15 x16 x17 x18 x19 x20 : Option V} (q : Q v H) : tVar 21 (x0 :: x1 :: x2 :: x3 :: x4 :: x5 :: x6 :: x7 :: x8 :: x9 :: x10 :: x11 :: x12 :: x13 :: x14 :: x15 :: x16 :: x17 :: x18 :: x19 :: x20 :: some v :: σ) H Q := ⟨v, rfl, q⟩
theorem rd_g22 {x0 x1 x2 x3 x4 x5 x6 x7 x8 x9 x10 x11 x12 x13 x14 x15 x16 x17 x18 x19 x20 x21 x22 : Option V} (q : QS (x0 :: x1 :: x2 :: x3 :: x4 :: x5 :: x6 :: x7 :: x8 :: x9 :: x10 :: x11 :: x12 :: x13 :: x14 :: x15 :: x16 :: x17 :: x18 :: x19 :: x20 :: x21 :: some v :: σ) H) : gName 22 v (x0 :: x1 :: x2 :: x3 :: x4 :: x5 :: x6 :: x7 :: x8 :: x9 :: x10 :: x11 :: x12 :: x13 :: x14 :: x15 :: x16 :: x17 :: x18 :: x19 :: x20 :: x21 :: x22 :: σ) H QS := q
theorem rd_v22 {x0 x1 x2 x3 x4 x5 x6 x7 x8 x9 x10 x11 x12 x13 x14 x15 x16 x17 x18 x19 x20 x21 : Option V} (q : Q v H) : tVar 22 (x0 :: x1 :: x2 :: x3 :: x4 :: x5 :: x6 :: x7 :: x8 :: x9 :: x10 :: x11 :: x12 :: x13 :: x14 :: x15 :: x16 :: x17 :: x18 :: x19 :: x20 :: x21 :: some v :: σ) H Q := ⟨v, rfl, q⟩
theorem rd_g23 {x0 x1 x2 x3 x4 x5 x6 x7 x8 x9 x10 x11 x12 x13 x14 x15 x16 x17 x18 x19 x20 x21 x22 x23 : Option V} (q : QS (x0 :: x1 :: x2 :: x3 :: x4 :: x5 :: x6 :: x7 :: x8 :: x9 :: x10 :: x11 :: x12 :: x13 :: x14 :: x15 :: x16 :: x17 :: x18 :: x19 :: x20 :: x21 :: x22 :: some v :: σ) H) : gName 23 v (x0 :: x1 :: x2 :: x3 :: x4 :: x5 :: x6 :: x7 :: x8 :: x9 :: x10 :: x11 :: x12 :: x13 :: x14 :: x15 :: x16 :: x17 :: x18 :: x19 :: x20 :: x21 :: x22 :: x23 :: σ) H QS := q
theorem rd_v23 {x0 x1 x2 x3 x4 x5 x6 x7 x8 x9 x10 x11 x12 x13 x14 x15 x16 x17 x18 x19 x20 x21 x22 : Option V} (q : Q v H) : tVar 23 (x0 :: x1 :: x2 :: x3 :: x4 :: x5 :: x6 :: x7 :: x8 :: x9 :: x10 :: x11 :: x12 :: x13 :: x14 :: x15 :: x16 :: x17 :: x18 :: x19 :: x20 :: x21 :: x22 :: some v :: σ) H Q := ⟨v, rfl, q⟩
theorem rd_g24 {x0 x1 x2 x3 x4 x5 x6 x7 x8 x9 x10 x11 x12 x13 x14 x15 x16 x17 x18 x19 x20 x21 x22 x23 x24 : Option V} (q : QS (x0 :: x1 :: x2 :: x3 :: x4 :: x5 :: x6 :: x7 :: x8 :: x9 :: x10 :: x11 :: x12 :: x13 :: x14 :: x15 :: x16 :: x17 :: x18 :: x19 :: x20 :: x21 :: x22 :: x23 :: some v :: σ) H) : gName 24 v (x0 :: x1 :: x2 :: x3 :: x4 :: x5 :: x6 :: x7 :: x8 :: x9 :: x10 :: x11 :: x12 :: x13 :: x14 :: x15 :: x16 :: x17 :: x18 :: x19 :: x20 :: x21 :: x22 :: x23 :: x24 :: σ) H QS := q
theorem rd_v24 {x0 x1 x2 x3 x4 x5 x6 x7 x8 x9 x10 x11 x12 x13 x14 x15 x16 x17 x18 x19 x20 x21 x22 x23 : Option V} (q : Q v H) : tVar 24 (x0 :: x1 :: x2 :: x3 :: x4 :: x5 :: x6 :: x7 :: x8 :: x9 :: x10 :: x11 :: x12 :: x13 :: x14 :: x15 :: x16 :: x17 :: x18 :: x19 :: x20 :: x21 :: x22 :: x23 :: some v :: σ) H Q := ⟨v, rfl, q⟩
theorem rd_g25 {x0 x1 x2 x3 x4 x5 x6 x7 x8 x9 x10 x11 x12 x13 x14 x15 x16 x17 x18 x19 x20 x21 x22 x23 x24 x25 : Option V} (q : QS (x0 :: x1 :: x2 :: x3 :: x4 :: x5 :: x6 :: x7 :: x8 :: x9 :: x10 :: x11 :: x12 :: x13 :: x14 :: x15 :: x16 :: x17 :: x18 :: x19 :: x20 :: x21 :: x22 :: x23 :: x24 :: some v :: σ) H) : gName 25 v (x0 :: x1 :: x2 :: x3 :: x4 :: x5 :: x6 :: x7 :: x8 :: x9 :: x10 :: x11 :: x12 :: x13 :: x14 :: x15 :: x16 :: x17 :: x18 :: x19 :: x20 :: x21 :: x22 :: x23 :: x24 :: x25 :: σ) H QS := q
theorem rd_v25 {x0 x1 x2 x3 x4 x5 x6 x7 x8 x9 x10 x11 x12 x13 x14 x15 x16 x17 x18 x19 x20 x21 x22 x23 x24 : Option V} (q : Q v H) : tVar 25 (x0 :: x1 :: x2 :: x3 :: x4 :: x5 :: x6 :: x7 :: x8 :: x9 :: x10 :: x11 :: x12 :: x13 :: x14 :: x15 :: x16 :: x17 :: x18 :: x19 :: x20 :: x21 :: x22 :: x23 :: x24 :: some v :: σ) H Q := ⟨v, rfl, q⟩
theorem rd_g26 {x0 x1 x2 x3 x4 x5 x6 x7 x8 x9 x10 x11 x12 x13 x14 x15 x16 x17 x18 x19 x20 x21 x22 x23 x24 x25 x26 : Option V} (q : QS (x0 :: x1 :: x2 :: x3 :: x4 :: x5 :: x6 :: x7 :: x8 :: x9 :: x10 :: x11 :: x12 :: x13 :: x14 :: x15 :: x16 :: x17 :: x18 :: x19 :: x20 :: x21 :: x22 :: x23 :: x24 :: x25 :: some v :: σ) H) : gName 26 v (x0 :: x1 :: x2 :: x3 :: x4 :: x5 :: x6 :: x7 :: x8 :: x9 :: x10 :: x11 :: x12 :: x13 :: x14 :: x15 :: x16 :: x17 :: x18 :: x19 :: x20 :: x21 :: x22 :: x23 :: x24 :: x25 :: x26 :: σ) H QS := q
theorem rd_v26 {x0 x1 x2 x3 x4 x5 x6 x7 x8 x9 x10 x11 x12 x13 x14 x15 x16 x17 x18 x19 x20 x21 x22 x23 x24 x25 : Option V} (q : Q v H) : tVar 26 (x0 :: x1 :: x2 :: x3 :: x4 :: x5 :: x6 :: x7 :: x8 :: x9 :: x10 :: x11 :: x12 :: x13 :: x14 :: x15 :: x16 :: x17 :: x18 :: x19 :: x20 :: x21 :: x22 :: x23 :: x24 :: x25 :: some v :: σ) H Q := ⟨v, rfl, q⟩
theorem rd_g27 {x0 x1 x2 x3 x4 x5 x6 x7 x8 x9 x10 x11 x12 x13 x14 x15 x16 x17 x18 x19 x20 x21 x22 x23 x24 x25 x26 x27 : Option V} (q : QS (x0 :: x1 :: x2 :: x3 :: x4 :: x5 :: x6 :: x7 :: x8 :: x9 :: x10 :: x11 :: x12 :: x13 :: x14 :: x15 :: x16 :: x17 :: x18 :: x19 :: x20 :: x21 :: x22 :: x23 :: x24 :: x25 :: x26 :: some v :: σ) H) : gName 27 v (x0 :: x1 :: x2 :: x3 :: x4 :: x5 :: x6 :: x7 :: x8 :: x9 :: x10 :: x11 :: x12 :: x13 :: x14 :: x15 :: x16 :: x17 :: x18 :: x19 :: x20 :: x21 :: x22 :: x23 :: x24 :: x25 :: x26 :: x27 :: σ) H QS := q
theorem rd_v27 {x0 x1 x2 x3 x4 x5 x6 x7 x8 x9 x10 x11 x12 x13 x14 x15 x16 x17 x18 x19 x20 x21 x22 x23 x24 x25 x26 : Option V} (q : Q v H) : tVar 27 (x0 :: x1 :: x2 :: x3 :: x4 :: x5 :: x6 :: x7 :: x8 :: x9 :: x10 :: x11 :: x12 :: x13 :: x14 :: x15 :: x16 :: x17 :: x18 :: x19 :: x20 :: x21 :: x22 :: x23 :: x24 :: x25 :: x26 :: some v :: σ) H Q := ⟨v, rfl, q⟩

theorem rd_iteNF {A B : Prop} (h : A) : if (!false) = true then A else B := iteT h
theorem rd_iteNT {A B : Prop} (h : B) : if (!true) = true then A else B := iteF h
theorem rd_ndecT {p : Prop} [Decidable p] {A B : Prop} (h : ¬ p) (a : A) : if (!decide p) = true then A else B := by
  rw [decide_eq_false h]; exact iteT a
theorem rd_ndecF {p : Prop} [Decidable p] {A B : Prop} (h : p) (b : B) : if (!decide p) = true then A else B := by
  rw [decide_eq_true h]; exact iteF b
theorem rd_while {c : TT} {tb : L2.TS} (W : Nat → L2.St → Hp → Prop) (m : Nat) (w0 : W m σ H) (h : ∀ m σ H, W m σ H → c σ H fun b H1 => if b = true then ∃ N : L2.St → Hp → Prop, (∀ σ' H', N σ' H' → ∃ m', m' < m ∧ W m' σ' H') ∧ tb { D with nx := N, ct := N, bk := D.nx } σ H1 else D.nx σ H1) :
    tWhile c tb D σ H := ⟨W, ⟨m, w0⟩, h⟩
theorem rd_loop {W : Nat → L2.St → Hp → Prop} {m : Nat} {tb : L2.TS} (q : tb { D with nx := fun σ' H' => ∃ m', m' < m ∧ W m' σ' H', ct := fun σ' H' => ∃ m', m' < m ∧ W m' σ' H', bk := D.nx } σ H) :
    ∃ N : L2.St → Hp → Prop, (∀ σ' H', N σ' H' → ∃ m', m' < m ∧ W m' σ' H') ∧ tb { D with nx := N, ct := N, bk := D.nx } σ H := ⟨_, fun _ _ h => h, q⟩
theorem rd_start {t : L2.TS} (e : σ = σ') (h : t D σ' H) : t D σ H := e ▸ h
/-! ### operators -/
theorem rd_add (q : Q (.int (i + j)) H) : rAddU K (.int i) (.int j) H Q := .inl ⟨i, j, rfl, rfl, q⟩
theorem rd_addT (h : z.length + z'.length ≤ sizeLine) (q : Q (.str (z ++ z')) H) : rAddU K (.str z) (.str z') H Q := .inr (.inl ⟨z, z', rfl, rfl, h, q⟩)
theorem rd_addL (ha : H a = some (.lst xs)) (hb : H b = some (.lst ys)) (h : xs.length + ys.length ≤ sizeLine) (q : ∀ p H2, H p = none → Same H H2 → (∀ c, H2 c = none → H c = none) → H2 p = some (.lst (xs ++ ys)) → Q (.ref p) H2) : rAddU K (.ref a) (.ref b) H Q :=
  .inr (.inr (.inl ⟨a, b, xs, ys, rfl, rfl, ha, hb, h, fun p np => q p _ np (same_upd np) (fun c hc => by
    by_cases e : c = p
    · subst e; rw [upd_same] at hc; cases hc
    · rw [upd_ne e] at hc; exact hc) upd_same⟩))
theorem rd_sub (q : Q (.int (i - j)) H) : rI0 (fun i j => .int (i - j)) (.int i) (.int j) H Q := ⟨i, j, rfl, rfl, q⟩
theorem rd_mul (h : CMul i j) (q : Q (.int (i * j)) H) : rMulU K (.int i) (.int j) H Q := .inl ⟨i, j, rfl, rfl, h, q⟩
theorem rd_eqI (q : Q (.bl (decide (i = j))) H) : rEqU K (.int i) (.int j) H Q := .inl ⟨rfl, by
  have e : decide (V.int i = V.int j) = decide (i = j) := by
    by_cases h : i = j
    · subst h; simp
    · rw [decide_eq_false h, decide_eq_false fun z => h (V.int.inj z)]
  rw [e]; exact q⟩
theorem rd_neI (q : Q (.bl (!decide (i = j))) H) : rNeU K (.int i) (.int j) H Q := .inl ⟨rfl, by
  have e : decide (V.int i = V.int j) = decide (i = j) := by
    by_cases h : i = j
    · subst h; simp
    · rw [decide_eq_false h, decide_eq_false fun z => h (V.int.inj z)]
  rw [e]; exact q⟩
theorem rd_eqS (q : Q (.bl (decide (z = z'))) H) : rEqU K (.str z) (.str z') H Q := .inl ⟨rfl, by
  have e : decide (V.str z = V.str z') = decide (z = z') := by
    by_cases h : z = z'
    · subst h; simp
    · rw [decide_eq_false h, decide_eq_false fun w => h (V.str.inj w)]
  rw [e]; exact q⟩
theorem rd_neS (q : Q (.bl (!decide (z = z'))) H) : rNeU K (.str z) (.str z') H Q := .inl ⟨rfl, by
  have e : decide (V.str z = V.str z') = decide (z = z') := by
    by_cases h : z = z'
    · subst h; simp
    · rw [decide_eq_false h, decide_eq_false fun w => h (V.str.inj w)]
  rw [e]; exact q⟩
theorem rd_ixL (h : H a = some (.lst xs)) (e : atI xs i = some v) (q : Q v H) : rIx K (.ref a) (.int i) H Q := .inl ⟨a, xs, i, v, rfl, rfl, SqL.of h, e, q⟩
theorem rd_ixLq (h : SqL K H a xs) (e : atI xs i = some v) (q : Q v H) : rIx K (.ref a) (.int i) H Q := .inl ⟨a, xs, i, v, rfl, rfl, h, e, q⟩
theorem rd_ixT (h : H a = some (.tup xs)) (e : atI xs i = some v) (q : Q v H) : rIx K (.ref a) (.int i) H Q := .inr (.inl ⟨a, xs, i, v, rfl, rfl, SqT.of h, e, q⟩)
theorem rd_ixS {c : Nat} (h : z.length ≤ sizeLine) (e : atI z.cps.toList i = some c) (q : Q (.str ⟨#[c]⟩) H) : rIx K (.str z) (.int i) H Q := .inr (.inr ⟨z, i, c, rfl, rfl, h, e, q⟩)
theorem rd_mod (h : 0 < j) (q : Q (.int (i % j)) H) : rI (fun _ j => 0 < j) (fun i j => .int (i % j)) (.int i) (.int j) H Q := ⟨i, j, rfl, rfl, h, q⟩
theorem rd_div (h : 0 < j) (h2 : j < 1073741824) (q : Q (.int (i / j)) H) : rI CDiv (fun i j => .int (i / j)) (.int i) (.int j) H Q := ⟨i, j, rfl, rfl, ⟨h, h2⟩, q⟩
theorem rd_pow (h : 0 ≤ j ∧ j ≤ 1000000 ∧ i.natAbs < 2 ^ 64) (q : Q (.int (i ^ j.toNat)) H) : rI CPow (fun i j => .int (i ^ j.toNat)) (.int i) (.int j) H Q := ⟨i, j, rfl, rfl, h, q⟩
theorem rd_p18 (q : Q (.int 1000000000000000000) H) : rI CPow (fun i j => .int (i ^ j.toNat)) (.int 10) (.int 18) H Q := ⟨10, 18, rfl, rfl, ⟨by decide, by decide, by decide⟩, q⟩
theorem ixN_nat {n j : Nat} (h : j < n) : ixN n (j : Int) = some j := by
  unfold ixN
  rw [if_pos (by omega), if_pos (by omega)]
  simp
theorem rd_ixL0 (h : H a = some (.lst (v :: xs))) (q : Q v H) : rIx K (.ref a) (.int 0) H Q := rd_ixL h (atI_nat (j := 0) rfl) q
theorem rd_ixL1 {x0 : V} (h : H a = some (.lst (x0 :: v :: xs))) (q : Q v H) : rIx K (.ref a) (.int 1) H Q := rd_ixL h (atI_nat (j := 1) rfl) q
theorem rd_ixT0 (h : H a = some (.tup (v :: xs))) (q : Q v H) : rIx K (.ref a) (.int 0) H Q := rd_ixT h (atI_nat (j := 0) rfl) q
theorem rd_ixT1 {x0 : V} (h : H a = some (.tup (x0 :: v :: xs))) (q : Q v H) : rIx K (.ref a) (.int 1) H Q := rd_ixT h (atI_nat (j := 1) rfl) q
theorem rd_ixT2 {x0 x1 : V} (h : H a = some (.tup (x0 :: x1 :: v :: xs))) (q : Q v H) : rIx K (.ref a) (.int 2) H Q := rd_ixT h (atI_nat (j := 2) rfl) q
theorem rd_lenL (h : H a = some (.lst xs)) (q : Q (.int xs.length) H) : rLenU K [.ref a] H Q := ⟨_, _, rfl, .inl ⟨xs, SqL.of h, rfl⟩, q⟩
theorem rd_lenLq (h : SqL K H a xs) (q : Q (.int xs.length) H) : rLenU K [.ref a] H Q := ⟨_, _, rfl, .inl ⟨xs, h, rfl⟩, q⟩
theorem rd_lenT (h : H a = some (.tup xs)) (q : Q (.int xs.length) H) : rLenU K [.ref a] H Q := ⟨_, _, rfl, .inr ⟨xs, SqT.of h, rfl⟩, q⟩
theorem rd_lenS (h : z.length ≤ sizeLine) (q : Q (.int z.length) H) : rLenU K [.str z] H Q := ⟨_, _, rfl, ⟨h, rfl⟩, q⟩
/-! ### new objects -/
theorem free_upd {H : Hp} {p : Addr} {o : HO} : ∀ c, upd H p o c = none → H c = none := fun c hc => by
  by_cases e : c = p
  · subst e; rw [upd_same] at hc; cases hc
  · rw [upd_ne e] at hc; exact hc
theorem rd_newT (h : xs.length ≤ sizeLine) (q : ∀ p H2, H p = none → Same H H2 → (∀ c, H2 c = none → H c = none) → H2 p = some (.tup xs) → Q (.ref p) H2) : NewT xs Q H :=
  ⟨h, fun p np => q p _ np (same_upd np) free_upd upd_same⟩
theorem rd_newL (h : xs.length ≤ sizeLine) (q : ∀ p H2, H p = none → Same H H2 → (∀ c, H2 c = none → H c = none) → H2 p = some (.lst xs) → Q (.ref p) H2) : NewL xs Q H :=
  ⟨h, fun p np => q p _ np (same_upd np) free_upd upd_same⟩
theorem rd_new {o : HO} (q : ∀ p H2, H p = none → Same H H2 → (∀ c, H2 c = none → H c = none) → H2 p = some o → Q (.ref p) H2) : ∀ p, H p = none → Q (.ref p) (upd H p o) :=
  fun p np => q p _ np (same_upd np) free_upd upd_same
theorem rd_tupL (h : H a = some (.lst xs)) (q : ∀ p H2, H p = none → Same H H2 → (∀ c, H2 c = none → H c = none) → H2 p = some (.tup xs) → Q (.ref p) H2) :
    rTupU K [.ref a] H Q :=
  ⟨a, xs, rfl, .inl ⟨SqL.of h, fun p np => q p _ np (same_upd np) free_upd upd_same⟩⟩
theorem rd_bmL {T : String} {rm : V → List V → Hp → VK → Prop} (h : H a = some (.lst xs)) (hT : T = "list") (q : tr σ H fun ys H2 => rm (.ref a) ys H2 Q) : MetV K T (.ref a) tr rm σ Q H :=
  ⟨.inl ⟨hT, xs, SqL.of h⟩, q⟩
theorem rd_bmS {T : String} {rm : V → List V → Hp → VK → Prop} (hT : T = "str") (q : tr σ H fun ys H2 => rm (.str z) ys H2 Q) : MetV K T (.str z) tr rm σ Q H := ⟨hT, q⟩
theorem rd_bm {T : String} {rm : V → List V → Hp → VK → Prop} (h : to σ H fun x H1 => MetV K T x tr rm σ Q H1) : tBM K T rm to tr σ H Q := h
theorem rd_append (h : H a = some (.lst xs)) (hl : xs.length < sizeLine) (q : ∀ H2, But a H H2 → H2 a = some (.lst (xs ++ [y])) → Q .non H2) : rAppend (.ref a) [y] H Q :=
  ⟨a, xs, y, rfl, rfl, h, hl, q _ (but_upd h fun _ z => nomatch z) upd_same⟩
theorem rd_set {k : Nat} (h : H a = some (.lst xs)) (e : ixN xs.length i = some k) {QH : Hp → Prop} (q : ∀ H2, But a H H2 → H2 a = some (.lst (xs.set k v)) → QH H2) : rSetL (.ref a) (.int i) v H QH :=
  ⟨a, xs, i, k, rfl, rfl, h, e, q _ (but_upd h fun _ z => nomatch z) upd_same⟩
theorem rd_sub_ {tsx : TSet} (h : to σ H fun o H1 => te σ H1 fun i H2 => tsx o i v H2 fun H3 => QS σ H3) : gSub to te tsx v σ H QS := h
theorem rd_gtup {tg : TGs} (h : H a = some (.tup xs)) (hn : xs.length = n) (q : tg xs σ H QS) : gTup K n tg (.ref a) σ H QS := ⟨a, xs, rfl, SqT.of h, hn, q⟩
theorem rd_gcons {g : TG} {tg : TGs} (q : g v σ H fun σ' H' => tg xs σ' H' QS) : gCons g tg (v :: xs) σ H QS := ⟨v, xs, rfl, q⟩
theorem rd_gnil (q : QS σ H) : gNil [] σ H QS := ⟨rfl, q⟩
theorem rd_par {k m : Nat} (h : tr σ H fun vs H1 => Par2 vs (fun v w H1 => gName k v σ H1 fun σ1 H1 => gName m w σ1 H1 D.nx) H1) : tPar k m tr D σ H := h
theorem rd_par2 {v w : V} {F : V → V → Hp → Prop} (q : F v w H) : Par2 [v, w] F H := ⟨v, w, rfl, q⟩
theorem rd_par3 {k m n : Nat} (h : tr σ H fun vs H1 => Par3 vs (fun v w u H1 => gName k v σ H1 fun σ1 H1 => gName m w σ1 H1 fun σ2 H1 => gName n u σ2 H1 D.nx) H1) : tPar3 k m n tr D σ H := h
theorem rd_par33 {v w u : V} {F : V → V → V → Hp → Prop} (q : F v w u H) : Par3 [v, w, u] F H := ⟨v, w, u, rfl, q⟩
theorem rd_abs (q : Q (.int (if i < 0 then -i else i)) H) : rAbs [.int i] H Q := ⟨i, rfl, q⟩
theorem rd_ix (h : te σ H fun x H1 => to σ H1 fun y H2 => r x y H2 Q) : tOp r te to σ H Q := h
theorem rd_orB {b : Bool} {A : Prop} (h1 : b = true → QB true H) (h2 : b = false → A) : if b = true then QB true H else A := by
  cases b
  · exact iteF (h2 rfl)
  · exact iteT (h1 rfl)
theorem at_nat {α : Type} {xs : List α} {z : Int} {j : Nat} {v : α} (e : z = (j : Int)) (h : xs[j]? = some v) : atI xs z = some v := by
  rw [e]; exact atI_nat h
end
/-! ### what may change -/
structure Mod (S : List Addr) (H H' : Hp) : Prop where
  keep : ∀ b o, b ∉ S → H b = some o → H' b = some o
  free : ∀ b, H' b = none → H b = none
  tups : ∀ b xs, H b = some (.tup xs) → H' b = some (.tup xs)
theorem Mod.refl (S : List Addr) (H : Hp) : Mod S H H := ⟨fun _ _ _ h => h, fun _ h => h, fun _ _ h => h⟩
theorem Mod.trans {S : List Addr} {H H1 H2 : Hp} (a : Mod S H H1) (b : Mod S H1 H2) : Mod S H H2 :=
  ⟨fun c o n h => b.keep c o n (a.keep c o n h), fun c h => a.free c (b.free c h), fun c xs h => b.tups c xs (a.tups c xs h)⟩
theorem Mod.sub {S S' : List Addr} {H H' : Hp} (a : Mod S H H') (h : ∀ x ∈ S, x ∈ S') : Mod S' H H' := ⟨fun c o n e => a.keep c o (fun z => n (h c z)) e, a.free, a.tups⟩
theorem _root_.L2.Same.mod {H H' : Hp} (s : Same H H') (S : List Addr) : Mod S H H' := ⟨fun b o _ h => s b o h, fun _ h => s.free h, fun b _ h => s b _ h⟩
theorem But.mod {l : Addr} {H H' : Hp} (b : But l H H') {S : List Addr} (h : l ∈ S) : Mod S H H' := ⟨fun c o n e => b.keep c o (fun z => n (z ▸ h)) e, b.free, b.tups⟩
theorem Mod.same {H H' : Hp} (m : Mod [] H H') : Same H H' := fun b o h => m.keep b o (by simp) h
/-- what is fresh to H may be changed -/
theorem Mod.dropFresh {S : List Addr} {H H1 H2 : Hp} {l : Addr} (a : Mod S H H1) (b : But l H1 H2) (n : H l = none) : Mod S H H2 :=
  ⟨fun c o nc h => b.keep c o (ne_of_none h n) (a.keep c o nc h), fun c h => a.free c (b.free c h), fun c xs h => b.tups c xs (a.tups c xs h)⟩
theorem Mod.dropFreshM {S : List Addr} {H H1 H2 : Hp} {l : Addr} (a : Mod S H H1) (b : Mod (l :: S) H1 H2) (n : H l = none) : Mod S H H2 :=
  ⟨fun c o nc h => b.keep c o (fun z => by
    rcases List.mem_cons.mp z with e | e
    · subst e; rw [n] at h; cases h
    · exact nc e) (a.keep c o nc h), fun c h => a.free c (b.free c h), fun c xs h => b.tups c xs (a.tups c xs h)⟩
theorem Mod.at2 {d c b : Addr} {H H' : Hp} {o : HO} (m : Mod [d, c] H H') (h : H b = some o) (h1 : b ≠ d) (h2 : b ≠ c) : H' b = some o := m.keep b o (by simp [h1, h2]) h
/-! ### lists of numbers -/
def natL (t : List Nat) : List V := t.map fun n : Nat => V.int (n : Int)
theorem natL_len (t : List Nat) : (natL t).length = t.length := List.length_map ..
theorem natL_get {t : List Nat} {i : Nat} (h : i < t.length) : (natL t)[i]? = some (.int ((t.getD i 0 : Nat) : Int)) := by
  unfold natL
  rw [List.getElem?_map, List.getElem?_eq_getElem h, List.getD_eq_getElem?_getD, List.getElem?_eq_getElem h]
  rfl
theorem natL_app (t u : List Nat) : natL (t ++ u) = natL t ++ natL u := List.map_append ..
theorem natL_one (n : Nat) : natL [n] = [.int (n : Int)] := rfl
theorem sz {n : Nat} (h : n ≤ 100000) : n ≤ sizeLine := Nat.le_trans h (by decide)
theorem szl {n : Nat} (h : n < 100000) : n < sizeLine := Nat.lt_of_lt_of_le h (by decide)
end Rd
/-! Rd4: star targets, enumerate from a start, text times int, slices backwards, replace of written texts. -/
namespace Rd
open PySem L2
open PyProof.Rows hiding St
/-! ### a, *b = a list, a tuple -/
section
variable {prog : Program} {w : World} {A : Around} {E : Value → Shared → Prop} {s : Shared}
theorem starL {l : Addr} {v : Value} {vs : List Value} {Q : List Value → Shared → Prop} (hl : s.heap.IsList l (v :: vs).toArray) (hh : A.handled = none) (hz : vs.length ≤ 16000)
    (q : ∀ (h2 : Heap) (tk : Nat), (∀ b o, s.heap.get? b = some o → h2.get? b = some o) → Q [v, .ref h2.objs.size] { s with heap := h2.push { cls := .type "list", data := .seq vs.toArray }, toks := tk }) : wpAny (model prog w) A (unpackItems (.ref l) 2 (some 1)) Q E s := by
  have nl : l ≠ s.heap.objs.size := by obtain ⟨o, ho, _⟩ := hl; exact Nat.ne_of_lt (Heap.lt_size ho)
  have sz0 : (v :: vs).toArray.size = vs.length + 1 := rfl
  unfold unpackItems notIterableAtAll
  refine wpAny_bind (wpAny_bind (wpAny_specialOf hl.typeIs slot_list_iter.lookup (wpAny_pure ?_)))
  simp only [Bool.false_eq_true, if_false]
  refine wpAny_bind (wpAny_holding (wpAny_pyIter_list hl (wpAny_bind (wpAny_holding (PySem.W.kun_draw nl 1 0 _ _ ⟨_, Heap.get?_push_size _ rfl, rfl, rfl⟩ (hl.push _) (by rw [sz0]; omega) fun h1 it1 sb1 => ?_)))))
  have l1 : h1.IsList l (v :: vs).toArray := (hl.push _).extBut sb1.extBut nl
  rw [Nat.zero_add] at it1
  obtain ⟨oi, hoi, _⟩ := id it1
  obtain ⟨ol, hol, _⟩ := id l1
  show wpAny _ _ (if ([v] : List Value).length < 1 then _ else _) _ _ _
  rw [if_neg (show ¬ (([v] : List Value).length < 1) from Nat.lt_irrefl 1)]
  refine wpAny_bind (wpAny_holding (PySem.W.kun_collect (s := { s with heap := h1 }) (T := "list_iterator") (.inr (.inr (.inl rfl))) (Walks.list (A := A.in1) hh s.heap.objs.size l nl _) (fun _ _ st => st.1.typeIs) (k := 1) (by rw [sz0]; omega) ⟨it1, l1⟩ (Heap.lt_size hoi) (Heap.lt_size hol) (fun h2 tk k2 => ?_) (by rw [sz0, sizeLine_eq]; omega)))
  show wpAny _ _ (if vs.length < 0 then _ else _) _ _ _
  rw [if_neg (show ¬ (vs.length < 0) from Nat.not_lt_zero _)]
  show wpAny _ _ (newList (vs.take (vs.length - 0)) >>= fun d => pure ([v] ++ [d] ++ vs.drop (vs.length - 0))) _ _ _
  rw [Nat.sub_zero, List.take_length, List.drop_length]
  refine wpAny_bind (wpAny_newList (wpAny_pure ?_) (by rw [sizeLine_eq]; omega))
  exact q h2 tk fun b o e => k2 b o (Nat.ne_of_lt (Heap.lt_size e)) (sb1.extBut b o (Nat.ne_of_lt (Heap.lt_size e)) (Heap.get?_push_of_some _ e))
theorem starT {l : Addr} {v : Value} {vs : List Value} {Q : List Value → Shared → Prop} (hl : IsTup s.heap l (v :: vs).toArray) (hh : A.handled = none) (hz : vs.length ≤ 16000)
    (q : ∀ (h2 : Heap) (tk : Nat), (∀ b o, s.heap.get? b = some o → h2.get? b = some o) → Q [v, .ref h2.objs.size] { s with heap := h2.push { cls := .type "list", data := .seq vs.toArray }, toks := tk }) : wpAny (model prog w) A (unpackItems (.ref l) 2 (some 1)) Q E s := by
  have nl : l ≠ s.heap.objs.size := by obtain ⟨o, ho, _⟩ := hl; exact Nat.ne_of_lt (Heap.lt_size ho)
  have sz0 : (v :: vs).toArray.size = vs.length + 1 := rfl
  unfold unpackItems notIterableAtAll
  refine wpAny_bind (wpAny_bind (wpAny_specialOf hl.typeIs slot_tuple_iter.lookup (wpAny_pure ?_)))
  simp only [Bool.false_eq_true, if_false]
  refine wpAny_bind (wpAny_holding (iter_tuple hl (wpAny_bind (wpAny_holding (draw_tuple nl 1 0 _ _ ⟨_, Heap.get?_push_size _ rfl, rfl, rfl⟩ (hl.push _) (by rw [sz0]; omega) fun h1 it1 sb1 => ?_)))))
  have l1 : IsTup h1 l (v :: vs).toArray := (hl.push _).extBut sb1.extBut nl
  rw [Nat.zero_add] at it1
  obtain ⟨oi, hoi, _⟩ := id it1
  obtain ⟨ol, hol, _⟩ := id l1
  show wpAny _ _ (if ([v] : List Value).length < 1 then _ else _) _ _ _
  rw [if_neg (show ¬ (([v] : List Value).length < 1) from Nat.lt_irrefl 1)]
  refine wpAny_bind (wpAny_holding (PySem.W.kun_collect (s := { s with heap := h1 }) (T := "tuple_iterator") (.inr (.inr (.inr rfl))) (Walks.tuple (A := A.in1) hh s.heap.objs.size l nl _) (fun _ _ st => st.1.typeIs) (k := 1) (by rw [sz0]; omega) ⟨it1, l1⟩ (Heap.lt_size hoi) (Heap.lt_size hol) (fun h2 tk k2 => ?_) (by rw [sz0, sizeLine_eq]; omega)))
  show wpAny _ _ (if vs.length < 0 then _ else _) _ _ _
  rw [if_neg (show ¬ (vs.length < 0) from Nat.not_lt_zero _)]
  show wpAny _ _ (newList (vs.take (vs.length - 0)) >>= fun d => pure ([v] ++ [d] ++ vs.drop (vs.length - 0))) _ _ _
  rw [Nat.sub_zero, List.take_length, List.drop_length]
  refine wpAny_bind (wpAny_newList (wpAny_pure ?_) (by rw [sizeLine_eq]; omega))
  exact q h2 tk fun b o e => k2 b o (Nat.ne_of_lt (Heap.lt_size e)) (sb1.extBut b o (Nat.ne_of_lt (Heap.lt_size e)) (Heap.get?_push_of_some _ e))
end
/-- a, *b = v -/
def gStar (K : PySem.W.Frag) (i j : Nat) : TG := fun v σ H Q => ∃ a x xs, v = .ref a ∧ (SqL K H a (x :: xs) ∨ SqT K H a (x :: xs)) ∧ xs.length ≤ 16000 ∧ ∀ p, H p = none → gName i x σ (upd H p (.lst xs)) fun σ1 H1 => gName j (.ref p) σ1 H1 Q
theorem pg_star {X : Cx} {i j : Nat} {x y : Str} {p1 p2 p3 pos : Pos} {k : Nat} (hN : X.N.Nodup) (hi : X.N[i]? = some x) (hj : X.N[j]? = some y) (hx : Loc X.env.scope x) (hy : Loc X.env.scope y) (hc : X.calm = true)
    (hf : X.fn x = true ∨ X.env.scope.names.lookup x = some .local := by first | exact .inl rfl | exact .inr rfl) (hf2 : X.fn y = true ∨ X.env.scope.names.lookup y = some .local := by first | exact .inl rfl | exact .inr rfl) :
    PG X (.Tuple [.Name x p1, .Starred (.Name y p2) p3] k pos) (gStar X.K i j) := by
  refine ⟨fun pins s σ H v u Q I r hw => ?_⟩
  obtain ⟨a, z, xs, rfl, hq, hz, q⟩ := hw
  cases r
  have last : ∀ (zv : Value) (its : List Value), RelV z zv → Vals xs its → ∀ (h2 : Heap) (tk : Nat), (∀ b o, s.heap.get? b = some o → h2.get? b = some o) →
      wpAny (model X.prog X.w) X.A (assignInOrder [assign (.Name x p1) X.env, assign (.Name y p2) X.env] [zv, .ref h2.objs.size]) (fun _ s' => ∃ σ' H', Inv X pins σ' H' s' ∧ Q σ' H') X.xe { s with heap := h2.push { cls := .type "list", data := .seq its.toArray }, toks := tk } := by
    intro zv its rz rv h2 tk k2
    have I1 : Inv X pins σ H { s with heap := h2, toks := tk } := I.kept k2
    have np : H h2.objs.size = none := I1.hok.fresh (Nat.le_refl _)
    have I2 : Inv X pins σ (upd H h2.objs.size (.lst xs)) { s with heap := h2.push { cls := .type "list", data := .seq its.toArray }, toks := tk } :=
      I1.laid (t' := tk) (fun b o e => Heap.get?_push_of_some _ e) (Nat.le_refl _) ⟨by rw [sizeLine_eq]; omega, its, 0, rv, Heap.get?_push_size _ rfl⟩
    refine assignInOrder_cons (wpAny_assign_Name (store_ok I2 hN hi hx rz (fun s3 I3 => ?_) hf))
    refine assignInOrder_cons (wpAny_assign_Name (store_ok I3 hN hj hy (v := .ref h2.objs.size) rfl (fun s4 I4 => ?_) hf2))
    exact assignInOrder_nil ⟨_, _, I4, q _ np⟩
  rw [assign_Tuple]
  refine wpAny_bind (wpAny_standAt ?_)
  show wpAny _ _ (holding [Value.ref a] (unpackItems (.ref a) 2 (some 1)) >>= fun l => assignInOrder [assign (.Name x p1) X.env, assign (.Name y p2) X.env] l) _ _ _
  refine wpAny_bind (wpAny_holding ?_)
  rcases hq with hq | hq
  · obtain ⟨its, rv, pl, _⟩ := I.list hq
    cases rv with
    | cons rz rv => exact starL pl.isList (I.ok.hd hc) (by rw [← Vals.length rv]; exact hz) fun h2 tk k2 => last _ _ rz rv h2 tk k2
  · obtain ⟨its, rv, pl, _⟩ := I.tuple hq
    cases rv with
    | cons rz rv => exact starT pl (I.ok.hd hc) (by rw [← Vals.length rv]; exact hz) fun h2 tk k2 => last _ _ rz rv h2 tk k2
section
variable {K : PySem.W.Frag} {σ : L2.St} {H : Hp} {QS : L2.St → Hp → Prop} {i j : Nat} {a : Addr} {x : V} {xs : List V}
theorem rd_starL (h : H a = some (.lst (x :: xs))) (hz : xs.length ≤ 16000) (q : ∀ p H2, H p = none → Same H H2 → (∀ c, H2 c = none → H c = none) → H2 p = some (.lst xs) → gName i x σ H2 fun σ1 H1 => gName j (.ref p) σ1 H1 QS) : gStar K i j (.ref a) σ H QS :=
  ⟨a, x, xs, rfl, .inl (SqL.of h), hz, fun p np => q p _ np (same_upd np) free_upd upd_same⟩
theorem rd_starT (h : H a = some (.tup (x :: xs))) (hz : xs.length ≤ 16000) (q : ∀ p H2, H p = none → Same H H2 → (∀ c, H2 c = none → H c = none) → H2 p = some (.lst xs) → gName i x σ H2 fun σ1 H1 => gName j (.ref p) σ1 H1 QS) : gStar K i j (.ref a) σ H QS :=
  ⟨a, x, xs, rfl, .inr (SqT.of h), hz, fun p np => q p _ np (same_upd np) free_upd upd_same⟩
end
/-! ### text times int -/
def rMulS : R2 := fun x y H Q => ∃ (z : Str) (k : Int), x = .str z ∧ y = .int k ∧ 0 ≤ k ∧ k ≤ 100 ∧ z.length ≤ 1000 ∧ Q (.str (Txt.mul z k)) H
theorem op_mulS {X : Cx} : OpR X (binaryOp .Mult) rMulS := by
  intro pins s σ H x y v u Q I rx ry h
  obtain ⟨z, k, rfl, rfl, h0, h1, hz, q⟩ := h
  obtain ⟨t, rfl⟩ := rx
  obtain ⟨t', rfl⟩ := ry
  exact PySem.SB.mul (mulOk_of 1000 100 hz (by omega) (by omega) (by decide) (by decide)) fun t2 k2 => ⟨.str (Txt.mul z k), H, I.tok _, ⟨_, rfl⟩, q⟩
end Rd

/-! Rd5: enumerate over lists and tuples, from any start. -/
namespace Rd
open PySem L2
open PyProof.Rows hiding St
theorem enum1B {v : Value} {o : Obj} {Hh : Heap → Prop} (B : Begins v o Hh) :
    Meets (Builtin.«enumerate.__new__» ⟨[.type "enumerate", v], []⟩) (fun _ R s => Hh s.heap ∧
      R (.ok (.ret (.ref (s.heap.push o).objs.size))) { s with heap := (s.heap.push o).push { cls := .type "enumerate", data := .fields #[.none, .bool false, .ref s.heap.objs.size, rawInt 0, .none, .none] } }) :=
  .of_wp fun prog w A R s h => by
    obtain ⟨hp, g, d, tk, os⟩ := s
    obtain ⟨h1, h⟩ := h
    have hsub := sub_enumerate
    have q1 : ∀ {A' : Around} {E : Value → Shared → Prop} {Q : Value → Shared → Prop}, Q (.ref hp.objs.size) ⟨hp.push o, g, d, tk, os⟩ → wpAny (model prog w) A' (pyIter v) Q E ⟨hp, g, d, tk, os⟩ :=
      fun q => B.iter prog w _ _ ⟨hp, g, d, tk, os⟩ _ h1 q
    wp_walk using q1
    refine wpAny_stack_any fun st => wpAny_pure ?_
    split
    · rename_i c _ _ _ _ _
      cases (c == Value.type "enumerate") <;> (wp_walk using q1; exact ⟨_, rfl, h⟩)
    · wp_walk using q1
      exact ⟨_, rfl, h⟩
section
variable {prog : Program} {w : World} {A : Around} {E : Value → Shared → Prop} {s : Shared}
theorem enum_begins1 {v : Value} {o : Obj} {Hh : Heap → Prop} {Q : Value → Shared → Prop} (B : Begins v o Hh) (h1 : Hh s.heap)
    (h : ∀ h', IsEnum h' (s.heap.objs.size + 1) s.heap.objs.size 0 .none → h'.get? s.heap.objs.size = some o → (∀ b o, s.heap.get? b = some o → h'.get? b = some o) → Q (.ref (s.heap.objs.size + 1)) { s with heap := h' }) :
    wpAny (model prog w) A (call (.type "enumerate") [v]) Q E s := by
  refine callType_new F.called_enumerate (by decide) (F.typeCall_enumerate_1 _) (F.newCall_enumerate_1 _) (fun obj => F.args_object_init_2 obj _) F.entry_enumerate_new (enum1B B) ⟨h1, ?_⟩
  have hz : (s.heap.push o).objs.size = s.heap.objs.size + 1 := Heap.size_push ..
  have he : IsEnum ((s.heap.push o).push { cls := .type "enumerate", data := .fields #[.none, .bool false, .ref s.heap.objs.size, rawInt 0, .none, .none] }) (s.heap.objs.size + 1) s.heap.objs.size 0 .none := by
    have e := Heap.get?_push_size (s.heap.push o) (o := { cls := .type "enumerate", data := .fields #[.none, .bool false, .ref s.heap.objs.size, rawInt 0, .none, .none] }) rfl
    rw [hz] at e; exact e
  show _ ∧ _
  rw [hz]
  exact ⟨⟨_, he, rfl⟩, h _ he (Heap.get?_push_of_some _ (Heap.get?_push_size _ B.free)) fun b o x => Heap.get?_push_of_some _ (Heap.get?_push_of_some _ x)⟩
end
/-- what is enumerated: a list, a tuple -/
def SqB (K : PySem.W.Frag) (t : Bool) (H : Hp) (a : Addr) (xs : List V) : Prop := if t = true then SqT K H a xs else SqL K H a xs
def ItrB (h : Heap) (t : Bool) (it a : Addr) (i : Nat) : Prop := if t = true then h.IsTupleIter it a i else h.IsListIter it a i
def IteK (K : PySem.W.Frag) (t : Bool) (a : Addr) (k : Int) : It :=
  ⟨fun i H => ∃ (xs : List V) (x : V), SqB K t H a xs ∧ xs[i]? = some x, fun i H v H' => ∃ T x, v = .ref T ∧ H T = none ∧ H' = upd H T (.tup [.int (k + (i : Nat)), x]) ∧ ∀ xs, SqB K t H a xs → xs[i]? = some x, fun i H => ∃ xs : List V, SqB K t H a xs ∧ xs.length = i⟩
/-- what its iterator draws -/
theorem drawsB {X : Cx} {pins : List (Addr × Obj)} {σ : L2.St} {H : Hp} {s : Shared} {t : Bool} {a it : Addr} {xs : List V} (I : Inv X pins σ H s) (hc : X.calm = true) (hq : SqB X.K t H a xs) (hit : ∃ i, ItrB s.heap t it a i) :
    ∃ (its : Array Value) (St : Nat → Heap → Prop), Vals xs its.toList ∧ Draws X.prog X.w X.A.in1 it [it, a] its.size (fun i v => its[i]? = some v) St ∧
      (∀ i, ItrB s.heap t it a i → St i s.heap) ∧ ∀ i h, St i h → ItrB h t it a i := by
  obtain ⟨i0, hit⟩ := hit
  cases t with
  | true =>
    obtain ⟨its, rv, p, _⟩ := I.tuple (show SqT X.K H a xs from hq)
    have ne : a ≠ it := fun z => by
      obtain ⟨o, ho, c1, _⟩ := p
      obtain ⟨o', ho', c2, _⟩ := (show s.heap.IsTupleIter it a i0 from hit)
      rw [z, ho'] at ho; cases ho; rw [c2] at c1; injection c1 with c1; exact absurd c1 (by decide)
    exact ⟨its.toArray, _, rv, Draws.tuple (A := X.A.in1) (I.ok.hd hc) it a ne its.toArray, fun i hi => ⟨hi, p⟩, fun i h st => st.1⟩
  | false =>
    obtain ⟨its, rv, p, _⟩ := I.list (show SqL X.K H a xs from hq)
    have ne : a ≠ it := fun z => by
      obtain ⟨o, n, ho, c1, _⟩ := p
      obtain ⟨o', ho', c2, _⟩ := (show s.heap.IsListIter it a i0 from hit)
      rw [z, ho'] at ho; cases ho; rw [c2] at c1; injection c1 with c1; exact absurd c1 (by decide)
    exact ⟨its.toArray, _, rv, Draws.list (A := X.A.in1) (I.ok.hd hc) it a ne its.toArray, fun i hi => ⟨hi, p.isList⟩, fun i h st => st.1⟩
theorem ItrB.at {h h' : Heap} {t : Bool} {it a : Addr} {i : Nat} (x : ItrB h t it a i) (k : ∀ o, h.get? it = some o → h'.get? it = some o) : ItrB h' t it a i := by
  cases t with
  | true => obtain ⟨o, ho, r⟩ := (show h.IsTupleIter it a i from x); exact (show h'.IsTupleIter it a i from ⟨o, k o ho, r⟩)
  | false => obtain ⟨o, ho, r⟩ := (show h.IsListIter it a i from x); exact (show h'.IsListIter it a i from ⟨o, k o ho, r⟩)
theorem ItrB.live {h : Heap} {t : Bool} {it a : Addr} {i : Nat} (x : ItrB h t it a i) : ∃ o, h.get? it = some o ∧ ∀ v, o.data ≠ .cell v := by
  cases t with
  | true => obtain ⟨o, ho, _, hd⟩ := (show h.IsTupleIter it a i from x); exact ⟨o, ho, fun v z => by rw [hd] at z; cases z⟩
  | false => obtain ⟨o, ho, _, hd⟩ := (show h.IsListIter it a i from x); exact ⟨o, ho, fun v z => by rw [hd] at z; cases z⟩
theorem SqB.inj {X : Cx} {pins : List (Addr × Obj)} {σ : L2.St} {H : Hp} {s : Shared} (I : Inv X pins σ H s) {t : Bool} {a : Addr} {xs ys : List V} (h : SqB X.K t H a xs) (h' : SqB X.K t H a ys) : xs = ys := by
  cases t with
  | true => exact I.tuple_inj h h'
  | false => exact I.list_inj h h'
theorem turn_enumK {P : Program} {w : World} {K : PySem.W.Frag} {elts : List Expr} {kk : Nat} {tpos : Pos} (t : Bool) (a e it : Addr) (k : Int) :
    Turn P w K (.Tuple elts kk tpos) (IteK K t a k) [e, it] e (fun i h => (∃ old, IsEnum h e it (k + (i : Nat)) old) ∧ ItrB h t it a i ∧ e ≠ it) := by
  refine ⟨by simp, fun i h st b hb => ?_, fun i h h' st kp => ?_, ?_, ?_, fun A i s Q E st h => ?_⟩
  · obtain ⟨⟨old, he⟩, hi, _⟩ := st
    rcases (show b = e ∨ b = it by simpa using hb) with z | z
    · rw [z]; exact ⟨_, he, fun v q => nomatch q⟩
    · rw [z]; exact hi.live
  · obtain ⟨⟨old, he⟩, hi, ne⟩ := st
    exact ⟨⟨old, kp e (by simp) _ he⟩, hi.at fun o q => kp it (by simp) o q, ne⟩
  · intro X hP hw hK hc i pins s σ H E I hf st hg
    subst hP hw hK
    obtain ⟨⟨old, he⟩, hit, ne⟩ := st
    obtain ⟨xs, x, hq, hx⟩ := hg
    obtain ⟨its, St, rv, D, hS, hI⟩ := drawsB I hc hq ⟨i, hit⟩
    obtain ⟨u, hu, ru⟩ := rv.get hx
    have le : e < s.heap.objs.size := Heap.lt_size he
    have li : it < s.heap.objs.size := by obtain ⟨o, ho, _⟩ := hit.live; exact Heap.lt_size ho
    have na : e ≠ a := fun z => by
      have f := (hf e (by simp)).1
      cases t with
      | true =>
        obtain ⟨_, _, p, _⟩ := I.tuple (show SqT X.K H a xs from hq)
        obtain ⟨o, ho, c1, _⟩ := p
        rw [← z, he] at ho; cases ho; injection c1 with c1; exact absurd c1 (by decide)
      | false =>
        obtain ⟨_, _, p, _⟩ := I.list (show SqL X.K H a xs from hq)
        obtain ⟨o, n, ho, c1, _⟩ := p
        rw [← z, he] at ho; cases ho; injection c1 with c1; exact absurd c1 (by decide)
    have lt : i < its.size := by
      have z := (List.getElem?_eq_some_iff.mp hu).1
      rwa [Array.length_toList] at z
    refine wpAny_pyNext_enum_itemC D he (hS i hit) lt ne (by simp [ne, na]) fun y h' tk hy ho hst hT hsz hk => ?_
    have ey : y = u := by
      have e1 : its[i]? = some u := by rw [← Array.getElem?_toList]; exact hu
      rw [e1] at hy; exact (Option.some.inj hy).symm
    subst ey
    refine ⟨_, rfl, wpAny_letOwnedTupleGo_enum (s := { s with heap := h', toks := tk + 1 }) ho fun h2 he2 sb => ?_⟩
    have hT2 := (sb.2 _ (Nat.ne_of_gt le)).trans hT
    have new : ObjOk X.prog X.w (upd H s.heap.objs.size (.tup [.int (k + (i : Nat)), x])) h2 s.heap.objs.size (.tup [.int (k + (i : Nat)), x]) :=
      ⟨by show 2 ≤ sizeLine; decide, [.int (k + (i : Nat)) tk, y], .cons ⟨_, rfl⟩ (.cons ru .nil), ⟨_, hT2, rfl, _, rfl⟩⟩
    have I1 : Inv X pins σ (upd H s.heap.objs.size (.tup [.int (k + (i : Nat)), x])) { s with heap := h2, toks := tk + 1 } :=
      I.turnedNew (ch := [e, it]) (fun b ob hb q => (sb.2 b (fun z => hb (by simp [z]))).trans (hk b ob (fun z => hb (by simp [z])) (fun z => hb (by simp [z])) q)) hf (Nat.le_refl _) new
    refine ⟨.ref s.heap.objs.size, _, I1, rfl, ⟨_, x, rfl, I.hok.fresh (Nat.le_refl _), rfl, fun ys hy => by rw [SqB.inj I hy hq]; exact hx⟩, ⟨⟨y, ?_⟩, (hI _ _ hst).at fun o q => (sb.2 it (Ne.symm ne)).trans q, ne⟩, fun b hb => ?_⟩
    · rw [show k + ((i + 1 : Nat) : Int) = k + (i : Nat) + 1 by omega]; exact he2
    · have lb : b < s.heap.objs.size := by
        rcases (show b = e ∨ b = it by simpa using hb) with z | z <;> (rw [z]; assumption)
      rw [upd_ne (Nat.ne_of_lt lb)]
      exact (hf b hb).1
  · intro X hP hw hK hc i pins s σ H E I hf st hg
    subst hP hw hK
    obtain ⟨⟨old, he⟩, hit, ne⟩ := st
    obtain ⟨xs, hq, hx⟩ := hg
    obtain ⟨f0, f1, f2, f3, f4, f5⟩ := hf it (by simp)
    obtain ⟨its, St, rv, D, hS, hI⟩ := drawsB I hc hq ⟨i, hit⟩
    have hn : its.size = i := by rw [← hx, rv.length, Array.length_toList]
    have st0 := hS i hit
    rw [← hn] at st0
    exact wpAny_pyNext_enum_endD D he st0 fun h' eb => ⟨rfl, I.turned (t' := s.toks) (fun b o hb q => eb b o hb q) f0 f1 f3 f4 f5⟩
  · obtain ⟨⟨_, he⟩, _⟩ := st
    exact wpAny_pyIter_enum he h
theorem ItrB.new {h : Heap} {t : Bool} {it a : Addr} (e : h.get? it = some (if t = true then { cls := .type "tuple_iterator", data := .fields #[.ref a, .int 0 0] } else { cls := .type "list_iterator", data := .fields #[.ref a, .int 0 0] } : Obj)) : ItrB h t it a 0 := by
  cases t with
  | true => exact (show h.IsTupleIter it a 0 from ⟨_, e, rfl, rfl⟩)
  | false => exact (show h.IsListIter it a 0 from ⟨_, e, rfl, rfl⟩)
def iEnumK (K : PySem.W.Frag) (t : Bool) (ta : TA) : TI := fun σ H R => ta σ H fun vs H1 => ∃ a xs, vs = [.ref a] ∧ SqB K t H1 a xs ∧ R (IteK K t a 0) H1
def iEnumS (K : PySem.W.Frag) (t : Bool) (ta : TA) : TI := fun σ H R => ta σ H fun vs H1 => ∃ (a : Addr) (k : Int) (xs : List V), vs = [.ref a, .int k] ∧ (-1000000 ≤ k ∧ k ≤ 1000000) ∧ SqB K t H1 a xs ∧ R (IteK K t a k) H1
theorem beginsB {X : Cx} {pins : List (Addr × Obj)} {σ : L2.St} {H : Hp} {s : Shared} {t : Bool} {a : Addr} {xs : List V} (I : Inv X pins σ H s) (hq : SqB X.K t H a xs) :
    ∃ Hh, Begins (.ref a) (if t = true then { cls := .type "tuple_iterator", data := .fields #[.ref a, .int 0 0] } else { cls := .type "list_iterator", data := .fields #[.ref a, .int 0 0] } : Obj) Hh ∧ Hh s.heap := by
  cases t with
  | true =>
    obtain ⟨its, rv, p, _⟩ := I.tuple (show SqT X.K H a xs from hq)
    exact ⟨_, begins_tuple a its.toArray, p⟩
  | false =>
    obtain ⟨its, rv, p, _⟩ := I.list (show SqL X.K H a xs from hq)
    exact ⟨_, begins_list a its.toArray, p.isList⟩
section
variable {X : Cx} {e e2 : Expr} {ta : TA} {p pos tpos : Pos} {elts : List Expr} {kk : Nat}
theorem pi_enumK (t : Bool) (hg : Gl X "enumerate") (hm : X.mg "enumerate" = none) (ha : PA X [e] ta) (hs : starEach [e] X.env = [(false, eval e X.env)] := by rfl) : PI X (.Tuple elts kk tpos) (.Call (.Name "enumerate" p) [e] [] pos) (iEnumK X.K t ta) := by
  refine ⟨fun pins s σ H R I h => Call_ (ld_blt I hg hm PyProof.Rows.boot_enumerate (PyProof.Rows.callWith_type1 (thn (ha.run pos pins s σ H _ I h) fun us s1 ⟨vs, H1, I1, r1, a, xs, ex, hq, q⟩ => ?_) hs rfl))⟩
  subst ex
  cases r1 with
  | cons r rr =>
    cases rr
    cases r
    obtain ⟨Hh, B, hh⟩ := beginsB I1 hq
    refine enum_begins1 B hh fun h' he hit hk => wpAny_pyIter_enum he ?_
    have I2 : Inv X pins σ H1 { s1 with heap := h' } := I1.kept (t' := s1.toks) hk
    refine ⟨s1.heap.objs.size + 1, [s1.heap.objs.size + 1, s1.heap.objs.size], _, _, H1, rfl, I2, turn_enumK t a (s1.heap.objs.size + 1) s1.heap.objs.size 0, ⟨⟨.none, he⟩, ItrB.new hit, Nat.succ_ne_self _⟩, fun b hb => ?_, q⟩
    have le : s1.heap.objs.size ≤ b := by rcases (show b = s1.heap.objs.size + 1 ∨ b = s1.heap.objs.size by simpa using hb) with z | z <;> rw [z] <;> first | exact Nat.le_succ _ | exact Nat.le_refl _
    exact I1.fpOk le (I1.hok.fresh le)
theorem pi_enumS (t : Bool) (hg : Gl X "enumerate") (hm : X.mg "enumerate" = none) (ha : PA X [e, e2] ta) (hs : starEach [e, e2] X.env = (false, eval e X.env) :: starEach [e2] X.env := by rfl) (hpl : (backTo pos (starEach [e2] X.env)).any (·.1) = false := by rfl) :
    PI X (.Tuple elts kk tpos) (.Call (.Name "enumerate" p) [e, e2] [] pos) (iEnumS X.K t ta) := by
  refine ⟨fun pins s σ H R I h => Call_ (ld_blt I hg hm PyProof.Rows.boot_enumerate (PyProof.Rows.callWith_type1 (thn (ha.run pos pins s σ H _ I h) fun us s1 ⟨vs, H1, I1, r1, a, k, xs, ex, hk, hq, q⟩ => ?_) hs hpl))⟩
  subst ex
  cases r1 with
  | cons r rr =>
    cases rr with
    | cons r2 rr =>
      cases rr
      cases r
      obtain ⟨tk, r2⟩ := r2
      subst r2
      obtain ⟨Hh, B, hh⟩ := beginsB I1 hq
      refine enum_begins B hh (by omega) (by omega) fun h' he hit hsz hk => wpAny_pyIter_enum he ?_
      have I2 : Inv X pins σ H1 { s1 with heap := h' } := I1.kept (t' := s1.toks) hk
      refine ⟨s1.heap.objs.size + 1, [s1.heap.objs.size + 1, s1.heap.objs.size], _, _, H1, rfl, I2, turn_enumK t a (s1.heap.objs.size + 1) s1.heap.objs.size k, ⟨⟨.none, by rw [show k + ((0 : Nat) : Int) = k by omega]; exact he⟩, ItrB.new hit, Nat.succ_ne_self _⟩, fun b hb => ?_, q⟩
      have le : s1.heap.objs.size ≤ b := by rcases (show b = s1.heap.objs.size + 1 ∨ b = s1.heap.objs.size by simpa using hb) with z | z <;> rw [z] <;> first | exact Nat.le_succ _ | exact Nat.le_refl _
      exact I1.fpOk le (I1.hok.fresh le)
end
section
variable {K : PySem.W.Frag} {a : Addr} {xs : List V}
theorem walk_enumK {t : Bool} {k : Int} : Walk (IteK K t a k) xs.length (fun H => SqB K t H a xs) (YPair (fun i => some (.int (k + (i : Nat)))) (fun i => xs[i]?)) :=
  ⟨fun i _ hi q => ⟨xs, xs[i], q, by simp [hi]⟩, fun _ q => ⟨xs, q, rfl⟩, fun i H v H' _ q ⟨T, x, h1, h2, h3, h4⟩ => ⟨T, _, x, h1, h2, h3, rfl, h4 xs q⟩⟩
end
/-! ### loops and comprehensions over a walk, readings -/
section
variable {K : PySem.W.Frag} {σ : L2.St} {H : Hp} {D : Ends} {g : TG} {tb : L2.TS} {a : Addr} {xs : List V} {tl : TE} {ta : TA}
def ForJ (J : It) (g : TG) (tb : L2.TS) (D : Ends) (σ : L2.St) (H : Hp) : Prop := ∃ W : Nat → Nat → L2.St → Hp → Prop, (∃ m, W 0 m σ H) ∧ ∀ i m σ H, W i m σ H →
  (J.stop i H ∧ D.nx σ H) ∨ (J.go i H ∧ ∃ N : L2.St → Hp → Prop, (∀ σ' H', N σ' H' → ∃ m', m' < m ∧ W (i + 1) m' σ' H') ∧ ∀ x H', J.yld i H x H' → g x σ H' fun σ2 H2 => tb { D with nx := N, ct := N, bk := D.nx } σ2 H2)
theorem rd_for {wi : TI} (h : wi σ H fun J H1 => ForJ J g tb D σ H1) : tFor wi g tb D σ H := h
end
end Rd

/-! Rd6: comprehensions by what each turn gives. -/
namespace Rd
open PySem L2
open PyProof.Rows hiding St
def CompJ (J : It) (g : TG) (tt : TT) (te : TE) (vs : List Nat) (σ : L2.St) (D : Addr) (H1 : Hp) (Q : VK) : Prop := ∃ W : Nat → Nat → Hp → Prop, (∃ m, W 0 m (upd H1 D (.lst []))) ∧ ∀ i m H, W i m H →
  (J.stop i H ∧ Q (.ref D) H) ∨ (J.go i H ∧ ∃ Nx : Hp → Prop, (∀ H', Nx H' → ∃ m', m' < m ∧ W (i + 1) m' H') ∧ ∀ x H', J.yld i H x H' → g x (wipe σ vs) H' fun σ2 H2 => wipe σ2 vs = wipe σ vs ∧ tt σ2 H2 fun b H3 =>
    if b = true then te σ2 H3 fun y H4 => ∃ acc, H4 D = some (.lst acc) ∧ acc.length < sizeLine ∧ Nx (upd H4 D (.lst (acc ++ [y]))) else Nx H3)
section
variable {J : It} {n : Nat} {G : Hp → Prop} {Y : Nat → Hp → V → Hp → Prop} {g : TG} {tt : TT} {te : TE} {vs : List Nat} {σ : L2.St} {H H1 : Hp} {Q : VK} {S : List Addr}
theorem rd_lc {wi : TI} (h : wi σ H fun J H1 => ∀ D, H1 D = none → CompJ J g tt te vs σ D H1 Q) : tLc wi g tt te vs σ H Q := h
/-- what is collected: the i-th one is told by R -/
theorem comp_map (w : Walk J n G Y) (hn : n ≤ 100000) (S : List Addr) (R : Nat → V → Hp → Prop) (inv : Nat → Hp → Prop) (hS : ∀ x ∈ S, ∃ o, H1 x = some o)
    (hG : ∀ H, Mod S H1 H → G H) (hR : ∀ i y H H', Ts H H' → R i y H → R i y H') (i0 : ∀ H D, H1 D = none → Same H1 H → inv 0 H) (hI : ∀ i (D : Addr) H H', H1 D = none → But D H H' → inv i H → inv i H')
    (hY : ∀ i H x H', Y i H x H' → Same H H')
    (hs : ∀ i x H H' (KV : VK) (N : Hp → Prop), i < n → Mod S H1 H → inv i H → Y i H x H' → (∀ y H4, Mod S H' H4 → inv (i + 1) H4 → R i y H4 → KV y H4) → g x (wipe σ vs) H' fun σ2 H2 => wipe σ2 vs = wipe σ vs ∧ tt σ2 H2 fun b H3 => if b = true then te σ2 H3 KV else N H3)
    (hd : ∀ D H ys, H1 D = none → Mod S H1 H → H D = some (.lst ys) → ys.length = n → (∀ (i : Nat) y, ys[i]? = some y → R i y H) → inv n H → Q (.ref D) H) :
    ∀ D, H1 D = none → CompJ J g tt te vs σ D H1 Q := by
  intro D nD
  have nS : D ∉ S := fun z => by obtain ⟨o, e⟩ := hS D z; rw [nD] at e; cases e
  refine lc_it w (fun i H => Mod S H1 H ∧ inv i H ∧ ∃ acc, H D = some (.lst acc) ∧ acc.length = i ∧ ∀ (j : Nat) y, acc[j]? = some y → R j y H)
    ⟨(same_upd nD).mod S, i0 _ D nD (same_upd nD), [], upd_same, rfl, fun j y e => by simp at e⟩ (fun i H _ h => hG H h.1) (fun i x H H' hi h y => ?_) (fun H h => ?_)
  · obtain ⟨m, iv, acc, eD, el, hR0⟩ := h
    have sY := hY i H x H' y
    refine hs i x H H' _ _ hi m iv y fun z H4 m4 iv4 r4 => ?_
    have e4 : H4 D = some (.lst acc) := m4.keep D _ nS (sY _ _ eD)
    have b4 : But D H4 (upd H4 D (.lst (acc ++ [z]))) := but_upd e4 fun _ q => nomatch q
    have ts4 : Ts H (upd H4 D (.lst (acc ++ [z]))) := (sY.ts.trans m4.tups).trans b4.tups
    refine ⟨acc, e4, by rw [el]; exact szl (by omega), ((m.trans (sY.mod S)).trans m4).dropFresh b4 nD, hI _ D _ _ nD b4 iv4, acc ++ [z], upd_same, by simp [el], fun j y2 e => ?_⟩
    by_cases hj : j < acc.length
    · rw [List.getElem?_append_left hj] at e
      exact hR _ _ _ _ ts4 (hR0 j y2 e)
    · have ej : j = acc.length := by
        have := (List.getElem?_eq_some_iff.mp e).1
        simp at this
        omega
      subst ej
      rw [List.getElem?_append_right (Nat.le_refl _)] at e
      simp at e
      subst e
      rw [el]
      exact hR _ _ _ _ b4.tups r4
  · obtain ⟨m, iv, acc, eD, el, hR0⟩ := h
    exact hd D H acc nD m eD el hR0 iv
/-- the same with a test: f i is what is collected at turn i, a plain value -/
theorem comp_opt (w : Walk J n G Y) (hn : n ≤ 100000) (S : List Addr) (f : Nat → Option V) (inv : Nat → Hp → Prop) (hS : ∀ x ∈ S, ∃ o, H1 x = some o)
    (hG : ∀ H, Mod S H1 H → G H) (i0 : ∀ H D, H1 D = none → Same H1 H → inv 0 H) (hI : ∀ i (D : Addr) H H', H1 D = none → But D H H' → inv i H → inv i H')
    (hY : ∀ i H x H', Y i H x H' → Same H H')
    (hs : ∀ i x H H' (KV : VK) (N : Hp → Prop), i < n → Mod S H1 H → inv i H → Y i H x H' → (∀ y H4, Mod S H' H4 → inv (i + 1) H4 → f i = some y → KV y H4) → (∀ H4, Mod S H' H4 → inv (i + 1) H4 → f i = none → N H4) →
      g x (wipe σ vs) H' fun σ2 H2 => wipe σ2 vs = wipe σ vs ∧ tt σ2 H2 fun b H3 => if b = true then te σ2 H3 KV else N H3)
    (hd : ∀ D H, H1 D = none → Mod S H1 H → H D = some (.lst ((List.range n).filterMap f)) → inv n H → Q (.ref D) H) :
    ∀ D, H1 D = none → CompJ J g tt te vs σ D H1 Q := by
  intro D nD
  have nS : D ∉ S := fun z => by obtain ⟨o, e⟩ := hS D z; rw [nD] at e; cases e
  refine lc_it w (fun i H => Mod S H1 H ∧ inv i H ∧ H D = some (.lst ((List.range i).filterMap f)))
    ⟨(same_upd nD).mod S, i0 _ D nD (same_upd nD), upd_same⟩ (fun i H _ h => hG H h.1) (fun i x H H' hi h y => ?_) (fun H h => hd D H nD h.1 h.2.2 h.2.1)
  obtain ⟨m, iv, eD⟩ := h
  have sY := hY i H x H' y
  have hl : ((List.range i).filterMap f).length ≤ i := by
    have := List.length_filterMap_le f (List.range i)
    rw [List.length_range] at this
    exact this
  refine hs i x H H' _ _ hi m iv y (fun z H4 m4 iv4 fz => ?_) fun H4 m4 iv4 fz => ?_
  · have e4 := m4.keep D _ nS (sY _ _ eD)
    have b4 : But D H4 (upd H4 D (.lst ((List.range i).filterMap f ++ [z]))) := but_upd e4 fun _ q => nomatch q
    refine ⟨_, e4, szl (by omega), ((m.trans (sY.mod S)).trans m4).dropFresh b4 nD, hI _ D _ _ nD b4 iv4, ?_⟩
    rw [upd_same, List.range_succ, List.filterMap_append]
    simp [fz]
  · refine ⟨(m.trans (sY.mod S)).trans m4, iv4, ?_⟩
    rw [m4.keep D _ nS (sY _ _ eD), List.range_succ, List.filterMap_append]
    simp [fz]
end
section
variable {σ : L2.St} {H H1 H2 : Hp} {v : V} {xs : List V} {f g : Nat → Option V} {i : Nat}
theorem yat_same {x : V} (y : YAt xs i H x H1) : Same H H1 := by rw [y.1]; exact Same.refl H
theorem ypair_same {x : V} (y : YPair f g i H x H1) : Same H H1 := by
  obtain ⟨T, a, b, _, n, rfl, _⟩ := y
  exact same_upd n
theorem yfn_same {h : Nat → V} {x : V} (y : YFn h i H x H1) : Same H H1 := by rw [y.1]; exact Same.refl H
theorem rd_wipe1 {k : Nat} {QS : L2.St → Hp → Prop} {A : Prop} (h : A) (q : QS σ H) : A ∧ QS σ H := ⟨h, q⟩
end
section
variable {K : PySem.W.Frag} {σ : L2.St} {H H1 : Hp} {Q : VK} {z y : Str} {te : TE} {R : It → Hp → Prop} {a : Addr} {xs : List V}
def IsS (v : V) (R : It → Hp → Prop) (H : Hp) : Prop := ∃ x, v = .str x ∧ R (Its x) H
theorem rd_iStr (h : te σ H fun v H1 => IsS v R H1) : iStr te σ H R := h
theorem rd_isS (q : R (Its z) H) : IsS (.str z) R H := ⟨z, rfl, q⟩
theorem map_of {α : Type} {cs : List α} {f : α → V} {ys : List V} (hl : ys.length = cs.length) (h : ∀ (i : Nat) y, ys[i]? = some y → ∃ c, cs[i]? = some c ∧ y = f c) : ys = cs.map f := by
  refine List.ext_getElem? fun i => ?_
  rw [List.getElem?_map]
  cases e : ys[i]? with
  | some y => obtain ⟨c, hc, rfl⟩ := h i y e; rw [hc]; rfl
  | none =>
    have := List.getElem?_eq_none_iff.mp e
    rw [List.getElem?_eq_none (by omega)]; rfl
theorem rd_inSg {c : Nat} (q : Q (.bl (decide (c ∈ z.cps.toList))) H) : rInU K (.str ⟨#[c]⟩) (.str z) H Q := .inr (.inl ⟨c, z, rfl, rfl, q⟩)
theorem rd_niSg {c : Nat} (q : Q (.bl (!decide (c ∈ z.cps.toList))) H) : rNiU K (.str ⟨#[c]⟩) (.str z) H Q := .inr (.inl ⟨c, z, rfl, rfl, q⟩)
theorem rd_all {bs : List Bool} (h : H a = some (.lst (bs.map V.bl))) (q : Q (.bl (bs.all id)) H) : rAll K [.ref a] H Q := ⟨a, bs, rfl, SqL.of h, q⟩
theorem rd_any {bs : List Bool} (h : H a = some (.lst (bs.map V.bl))) (q : Q (.bl (bs.any id)) H) : rAny K [.ref a] H Q := ⟨a, bs, rfl, SqL.of h, q⟩
theorem rd_intS {n : Int} (h : intText? z = some n) (hl : z.length ≤ 640) (q : Q (.int n) H) : rIntU [.str z] H Q := .inr ⟨z, n, rfl, h, hl, q⟩
theorem rd_intI {i : Int} (q : Q (.int i) H) : rIntU [.int i] H Q := .inl (.inl ⟨i, rfl, q⟩)
theorem rd_intB {b : Bool} (q : Q (.int (if b then 1 else 0)) H) : rIntU [.bl b] H Q := .inl (.inr ⟨b, rfl, q⟩)
theorem rd_strI {i : Int} (h : i.natAbs.log2 < 1920) (q : Q (.str (toString i)) H) : rStrU [.int i] H Q := ⟨i, rfl, h, q⟩
theorem wipe_c {k : Nat} {vs : List Nat} : wipe σ (k :: vs) = (wipe σ vs).set k none := rfl
theorem wipe_n : wipe σ [] = σ := rfl
theorem rd_wE {A : Prop} {α : Type} {a : α} (h : A) : a = a ∧ A := ⟨rfl, h⟩
theorem rd_wT {A : Prop} (h : A) : True ∧ A := ⟨trivial, h⟩
theorem rd_yes {QB : Bool → Hp → Prop} (h : QB true H) : tYes σ H QB := h
def NewStrs (ys : List Str) (Q : VK) (H : Hp) : Prop := ∀ p H2, H p = none → Same H H2 → (∀ c, H2 c = none → H c = none) → H2 p = some (.lst (ys.map V.str)) → Q (.ref p) H2
theorem rd_split (hy : (y.length == 0) = false) (hz : z.length ≤ 1000000) (q : NewStrs (Txt.split z y) Q H) :
    (fun x xs H Q => ∃ a b, x = V.str a ∧ xs = [V.str b] ∧ (b.length == 0) = false ∧ a.length + 2 ≤ sizeLine ∧ rNewStrs (Txt.split a b) H Q) (.str z) [.str y] H Q :=
  ⟨z, y, rfl, rfl, hy, by rw [sizeLine_eq]; omega, fun p np => q p _ np (same_upd np) free_upd upd_same⟩
end
/-- nothing else is asked -/
abbrev inv0 : Nat → Hp → Prop := fun _ _ => True
end Rd

/-! M1: texts of numbers, trees, pieces, tasks: plain functions on lists of codes. -/
namespace Mt
open PySem
abbrev tl (x : Str) : List Nat := x.cps.toList
def isDig (c : Nat) : Bool := decide (48 ≤ c ∧ c ≤ 57)
def pNum (m : Nat) (w : List Nat) : Option Nat :=
  if (1 ≤ w.length ∧ w.length ≤ m) ∧ w.all isDig = true then (if w.head? = some 48 ∧ w ≠ [48] then none else some (NumText.digitsVal w)) else none
theorem digits_of {w : List Nat} (h : w.all isDig = true) : NumText.AllDigits w := fun c hc => by
  have := List.all_eq_true.mp h c hc
  exact of_decide_eq_true this
theorem sg_eq {c k : Nat} {s : Str} (h : tl s = [k]) : (({ cps := #[c] } : Str) = s) ↔ c = k := by
  obtain ⟨a⟩ := s
  have ha : a.toList = [k] := h
  have : a = #[k] := by rw [← Array.toArray_toList (xs := a), ha]
  subst this
  constructor
  · intro e
    have := congrArg Str.cps e
    simpa using this
  · rintro rfl; rfl
theorem str_eq {s t : Str} : s = t ↔ tl s = tl t := by
  obtain ⟨a⟩ := s; obtain ⟨b⟩ := t
  constructor
  · intro e; rw [e]
  · intro e; have : a = b := by rw [← Array.toArray_toList (xs := a), ← Array.toArray_toList (xs := b)]; exact congrArg List.toArray e
    rw [this]
end Mt

/-! Rd7: slices, texts joined and cut, f-strings, stars, comparisons of data. -/
namespace Mt
open PySem L2
/-- the text of some codes -/
def S (l : List Nat) : Str := ⟨l.toArray⟩
theorem tl_S (l : List Nat) : tl (S l) = l := rfl
theorem S_tl (z : Str) : S (tl z) = z := by cases z; rfl
theorem S_len (l : List Nat) : (S l).length = l.length := by simp [S, Str.length]
theorem S_inj {l m : List Nat} : S l = S m ↔ l = m := by rw [str_eq]; rfl
theorem S_app (l m : List Nat) : S l ++ S m = S (l ++ m) := by
  rw [str_eq]
  exact TL.tl_append (S l) (S m)
theorem S_num (n : Nat) : Str.ofString (toString ((n : Nat) : Int)) = S (TL.numL n) := by
  rw [str_eq]; exact TL.tl_num n
theorem TL_eq (z : Str) : TL.tl z = tl z := rfl
/-- joined with a text between -/
theorem S_join (s : List Nat) (ps : List (List Nat)) : Txt.join (S s) (ps.map S) = S (TL.joinL s ps) := by
  rw [TL.join_eq, str_eq]
  refine (TL.tl_join _ _).trans ?_
  rw [List.map_map]
  have : (TL.tl ∘ S) = fun l => l := rfl
  rw [this, List.map_id']
  rfl
/-- cut at one code -/
def spl (c : Nat) (w : List Nat) : List (List Nat) := TL.spl [c] 0 [] w
theorem S_spl {c : Nat} {w : List Nat} (hc : c < 256) : Txt.split (S w) (S [c]) = (spl c w).map S := by
  have h := TL.split_spl (S w) (S [c]) (by simp [TL.tl, S]) (TL.kind_ok (by simp [S, hc]))
  have : (TL.tl : Str → List Nat) (S [c]) = [c] := rfl
  rw [this] at h
  have e : Txt.split (S w) (S [c]) = ((Txt.split (S w) (S [c])).map TL.tl).map S := by
    rw [List.map_map]
    have : (S ∘ TL.tl) = fun z => z := by funext z; exact S_tl z
    rw [this, List.map_id']
  rw [e, h]
  rfl
/-- cut once -/
def par (c : Nat) (w : List Nat) : Option (List Nat × List Nat) := TL.par [c] [] w
/-- a text cut in three -/
def par3 (c : Nat) (w : List Nat) : List Nat × List Nat × List Nat := match par c w with | some (a, b) => (a, [c], b) | none => (w, [], [])
theorem par3_par {c : Nat} {w : List Nat} : par c w = if (par3 c w).2.1 = [] then none else some ((par3 c w).1, (par3 c w).2.2) := by
  unfold par3
  cases par c w with
  | none => rfl
  | some _ => rfl
theorem S_par {c : Nat} {w : List Nat} : Txt.partition (S w) (S [c]) = match par c w with | some (a, b) => (S a, S [c], S b) | none => (S w, S [], S []) := by
  rw [TL.partition_par _ _ (by simp [TL.tl, S])]
  show (match TL.par [c] [] w with | some (a, b) => (_, _, _) | none => _) = _
  unfold par
  cases TL.par [c] [] w with
  | none => rfl
  | some p => rfl
end Mt
namespace Rd
open PySem L2
open PyProof.Rows hiding St
/-! ### named readings of text methods -/
def rJoin (K : PySem.W.Frag) : V → List V → Hp → VK → Prop := fun x xs H Q => ∃ a p ys, x = V.str a ∧ xs = [V.ref p] ∧ (SqL K H p (List.map V.str ys) ∨ SqT K H p (List.map V.str ys)) ∧ (List.map (fun x => x.length) ys).sum + ys.length * a.length ≤ 16777216 ∧ Q (V.str (Txt.join a ys)) H
def rPartn : V → List V → Hp → VK → Prop := fun x xs H Q => ∃ a b, x = V.str a ∧ xs = [V.str b] ∧ (b.length == 0) = false ∧ a.length ≤ sizeLine ∧ ∀ (p : Addr), H p = none → Q (V.ref p) (upd H p (HO.tup [V.str (Txt.partition a b).fst, V.str (Txt.partition a b).snd.fst, V.str (Txt.partition a b).snd.snd]))
def rEndsw : V → List V → Hp → VK → Prop := fun x xs H Q => ∃ a b, x = V.str a ∧ xs = [V.str b] ∧ Q (V.bl (Txt.endswith a b)) H
def rCount : V → List V → Hp → VK → Prop := fun x xs H Q => ∃ a b, x = V.str a ∧ xs = [V.str b] ∧ Q (V.int (Txt.count a b)) H
def rSplit : V → List V → Hp → VK → Prop := fun x xs H Q => ∃ a b, x = V.str a ∧ xs = [V.str b] ∧ (b.length == 0) = false ∧ a.length + 2 ≤ sizeLine ∧ rNewStrs (Txt.split a b) H Q
def tJoin (ts : List TE) : TE := fun σ H Q => tJs ts Str.empty σ H fun out H1 => Q (V.str out) H1
section
variable {X : Cx}
theorem m_join : MtR X "str.join" (rJoin X.K) := mt_join
theorem m_partn : MtR X "str.partition" rPartn := mt_partition
theorem m_endsw : MtR X "str.endswith" rEndsw := mt_endswith
theorem m_count : MtR X "str.count" rCount := mt_count
theorem m_split : MtR X "str.split" rSplit := mt_split
end
section
variable {K : PySem.W.Frag} {σ : L2.St} {H H1 H2 : Hp} {Q : VK} {z y : Str} {te : TE} {tl th : TO} {a b : Addr} {xs : List V} {v x : V} {i : Int} {QO : Option Int → Hp → Prop} {QS : Str → Hp → Prop} {ts : List TE} {acc : Str} {w : List Nat} {QA : List V → Hp → Prop} {ta : TA}
def IsI (x : V) (QO : Option Int → Hp → Prop) (H : Hp) : Prop := ∃ i, x = .int i ∧ QO (some i) H
theorem rd_sl {r : V → Option Int → Option Int → Hp → VK → Prop} (h : te σ H fun x H1 => tl σ H1 fun l H2 => th σ H2 fun u H3 => r x l u H3 Q) : tSl r te tl th σ H Q := h
theorem rd_part (h : te σ H fun x H1 => IsI x QO H1) : tPart te σ H QO := h
theorem rd_noPart (h : QO none H) : tNoPart σ H QO := h
theorem rd_isI (h : QO (some i) H) : IsI (.int i) QO H := ⟨i, rfl, h⟩
theorem rd_slS {lo hi : Option Int} (h : z.length ≤ sizeLine) (q : Q (.str (cutS z lo hi)) H) : rSlS (.str z) lo hi H Q := ⟨z, rfl, h, q⟩
theorem rd_slL {lo hi : Option Int} (h : H a = some (.lst xs)) (q : ∀ p H2, H p = none → Same H H2 → (∀ c, H2 c = none → H c = none) → H2 p = some (.lst (cutV xs lo hi)) → Q (.ref p) H2) : rSlL K (.ref a) lo hi H Q :=
  ⟨a, xs, rfl, SqL.of h, fun p np => q p _ np (same_upd np) free_upd upd_same⟩
/-- a tuple's slice: itself, or a new one -/
theorem rd_slT {lo hi : Option Int} (h : H a = some (.tup xs)) (q : ∀ p H2, Same H H2 → (∀ c, H2 c = none → H c = none) → H2 p = some (.tup (cutV xs lo hi)) → Q (.ref p) H2) : rSlA K (.ref a) lo hi H Q := by
  refine ⟨a, xs, rfl, SqT.of h, fun e => q a H (Same.refl H) (fun c hc => hc) ?_, fun _ p np => q p _ (same_upd np) free_upd upd_same⟩
  unfold cutV
  rw [e.1, e.2]
  simp [h]
theorem rd_join {ys : List Str} (h : H a = some (.lst (ys.map V.str)) ∨ H a = some (.tup (ys.map V.str))) (hl : (ys.map (fun x => x.length)).sum + ys.length * z.length ≤ 16777216) (q : Q (.str (Txt.join z ys)) H) :
    rJoin K (.str z) [.ref a] H Q :=
  ⟨z, a, ys, rfl, rfl, h.imp SqL.of SqT.of, hl, q⟩
theorem rd_partition {c : Nat} (h : w.length ≤ 100000) (q : ∀ p H2, H p = none → Same H H2 → (∀ c, H2 c = none → H c = none) →
      H2 p = some (.tup [.str (Mt.S (Mt.par3 c w).1), .str (Mt.S (Mt.par3 c w).2.1), .str (Mt.S (Mt.par3 c w).2.2)]) → Q (.ref p) H2) :
    rPartn (.str (Mt.S w)) [.str (Mt.S [c])] H Q := by
  refine ⟨_, _, rfl, rfl, rfl, by rw [Mt.S_len]; exact sz h, fun p np => q p _ np (same_upd np) free_upd ?_⟩
  rw [upd_same, Mt.S_par]
  unfold Mt.par3
  cases Mt.par c w with
  | none => rfl
  | some _ => rfl
/-- the words of a text -/
theorem rd_split1 {c : Nat} (hw : w.length ≤ 100000) (hc : c < 256) (q : ∀ p H2, H p = none → Same H H2 → (∀ c, H2 c = none → H c = none) → H2 p = some (.lst ((Mt.spl c w).map fun u => .str (Mt.S u))) → Q (.ref p) H2) : rSplit (.str (Mt.S w)) [.str (Mt.S [c])] H Q := by
  refine ⟨_, _, rfl, rfl, rfl, by rw [Mt.S_len, sizeLine_eq]; omega, fun p np => q p _ np (same_upd np) free_upd ?_⟩
  rw [upd_same, Mt.S_spl hc, List.map_map]
  first | done | rfl
theorem sum_len {ps : List (List Nat)} : ((ps.map Mt.S).map fun x => x.length).sum = (ps.map List.length).sum := by
  rw [List.map_map]
  exact congrArg List.sum (List.map_congr_left fun w _ => Mt.S_len w)
theorem rd_join1 {ps : List (List Nat)} {s : List Nat} (h : H a = some (.lst (ps.map fun u => .str (Mt.S u)))) (hl : (ps.map List.length).sum + ps.length * s.length ≤ 16777216) (q : Q (.str (Mt.S (TL.joinL s ps))) H) : rJoin K (.str (Mt.S s)) [.ref a] H Q := by
  refine ⟨_, a, ps.map Mt.S, rfl, rfl, .inl (SqL.of (by rw [List.map_map]; exact h)), by rw [sum_len, List.length_map, Mt.S_len]; exact hl, ?_⟩
  rw [Mt.S_join]; exact q
theorem rd_endswith (q : Q (.bl (Txt.endswith z y)) H) : rEndsw (.str z) [.str y] H Q := ⟨z, y, rfl, rfl, q⟩
theorem rd_count (q : Q (.int (Txt.count z y)) H) : rCount (.str z) [.str y] H Q := ⟨z, y, rfl, rfl, q⟩
/-- f-strings -/
def IsJ (ts : List TE) (acc : Str) (σ : L2.St) (QS : Str → Hp → Prop) (x : V) (H1 : Hp) : Prop := ∃ y, x = V.str y ∧ (acc ++ y).length ≤ sizeLine ∧ tJs ts (acc ++ y) σ H1 QS
theorem rd_joined (h : tJs ts Str.empty σ H fun out H1 => Q (V.str out) H1) : tJoin ts σ H Q := h
theorem rd_jnil (h : QS acc H) : tJs [] acc σ H QS := h
theorem rd_jcons (h : te σ H (IsJ ts acc σ QS)) : tJs (te :: ts) acc σ H QS := h
theorem rd_isJ (hl : (acc ++ z).length ≤ sizeLine) (h : tJs ts (acc ++ z) σ H QS) : IsJ ts acc σ QS (.str z) H := ⟨z, rfl, hl, h⟩
def FmtV (Q : VK) (x : V) (H1 : Hp) : Prop := (∃ y, x = V.str y ∧ y.length ≤ sizeLine ∧ Q (V.str y) H1) ∨ ∃ i, x = V.int i ∧ i.natAbs.log2 < 1920 ∧ Q (V.str (Str.ofString (toString i))) H1
theorem rd_fmt (h : te σ H (FmtV Q)) : tFmt te σ H Q := h
theorem rd_fmtI (hi : i.natAbs.log2 < 1920) (h : Q (V.str (Str.ofString (toString i))) H) : FmtV Q (.int i) H := .inr ⟨i, rfl, hi, h⟩
theorem rd_fmtS (hi : z.length ≤ sizeLine) (h : Q (V.str z) H) : FmtV Q (.str z) H := .inl ⟨z, rfl, hi, h⟩
theorem log2_lt {n : Nat} (h : n < 2 ^ 64) : n.log2 < 1920 := by
  by_cases h0 : n = 0
  · subst h0; decide
  · have := (Nat.log2_lt h0).mpr h
    omega
/-- stars among the items -/
def StarV (K : PySem.W.Frag) (x : V) (H1 : Hp) (F : List V → Hp → Prop) : Prop := ∃ p xs, x = V.ref p ∧ (SqT K H1 p xs ∨ SqL K H1 p xs) ∧ F xs H1
theorem rd_star (h : te σ H fun x H1 => StarV K x H1 fun xs H1 => ta σ H1 fun ys H2 => QA (xs ++ ys) H2) : StX.tStar K te ta σ H QA := by
  have e : (fun x H1 => StarV K x H1 fun xs H1 => ta σ H1 fun ys H2 => QA (xs ++ ys) H2) = fun x H1 => ∃ p xs, x = V.ref p ∧ (SqT K H1 p xs ∨ SqL K H1 p xs) ∧ ta σ H1 fun ys H2 => QA (xs ++ ys) H2 := rfl
  rw [e] at h; exact h
theorem rd_starVL {F : List V → Hp → Prop} (h : H a = some (.lst xs)) (q : F xs H) : StarV K (.ref a) H F := ⟨a, xs, rfl, .inr (SqL.of h), q⟩
theorem rd_starVT {F : List V → Hp → Prop} (h : H a = some (.tup xs)) (q : F xs H) : StarV K (.ref a) H F := ⟨a, xs, rfl, .inl (SqT.of h), q⟩
end
/-! ### comparisons of data -/
mutual
def nb : PyData → Bool
  | .bool _ => false
  | .list xs => nbAll xs
  | .tuple xs => nbAll xs
  | _ => true
def nbAll : List PyData → Bool
  | [] => true
  | x :: xs => nb x && nbAll xs
end
mutual
theorem eqv_nb : ∀ d e : PyData, d.canLay0 = true → nb d = true → nb e = true → (d.eqv e = true ↔ d = e)
  | .none, e, _, _, he => by cases e <;> simp [PyData.eqv, nb] at *
  | .bool _, e, _, hd, _ => by simp [nb] at hd
  | .int i, e, _, _, he => by cases e <;> simp [PyData.eqv, nb] at *
  | .str z, e, _, _, he => by cases e <;> simp [PyData.eqv, nb] at *
  | .dict _, e, hc, _, _ => by simp [PyData.canLay0] at hc
  | .list xs, e, hc, hd, he => by
    cases e with
    | list ys =>
      have := eqv_nbAll xs ys (by simpa [PyData.canLay0] using hc) (by simpa [nb] using hd) (by simpa [nb] using he)
      rw [PyData.eqv, this]
      exact ⟨fun h => by rw [h], fun h => by injection h⟩
    | _ => simp [PyData.eqv]
  | .tuple xs, e, hc, hd, he => by
    cases e with
    | tuple ys =>
      have := eqv_nbAll xs ys (by simpa [PyData.canLay0] using hc) (by simpa [nb] using hd) (by simpa [nb] using he)
      rw [PyData.eqv, this]
      exact ⟨fun h => by rw [h], fun h => by injection h⟩
    | _ => simp [PyData.eqv]
theorem eqv_nbAll : ∀ xs ys : List PyData, PyData.canLayAll0 xs = true → nbAll xs = true → nbAll ys = true → (PyData.eqvAll xs ys = true ↔ xs = ys)
  | [], [], _, _, _ => by simp [PyData.eqvAll]
  | [], y :: ys, _, _, _ => by simp [PyData.eqvAll]
  | x :: xs, [], _, _, _ => by simp [PyData.eqvAll]
  | x :: xs, y :: ys, hc, hd, he => by
    rw [PyData.canLayAll0, Bool.and_eq_true] at hc
    rw [nbAll, Bool.and_eq_true] at hd he
    have h1 := eqv_nb x y hc.1 hd.1 he.1
    have h2 := eqv_nbAll xs ys hc.2 hd.2 he.2
    rw [PyData.eqvAll, Bool.and_eq_true, h1, h2]
    exact ⟨fun h => by rw [h.1, h.2], fun h => by injection h with a b; exact ⟨a, b⟩⟩
end
/-- data that compare by what they are, at most two levels deep -/
structure Pd (d : PyData) : Prop where
  lay : d.canLay0 = true
  nb : nb d = true
  dp : d.depth ≤ 64
theorem Pd.shaped {d : PyData} (h : Pd d) : SeqAt.shaped d = true := by
  unfold SeqAt.shaped
  rw [h.lay, decide_eq_true h.dp]; rfl
theorem Pd.eqv {d e : PyData} (h : Pd d) (g : Pd e) : (d.eqv e = true ↔ d = e) := eqv_nb d e h.lay h.nb g.nb
def pdInts (t : List Nat) : List PyData := t.map fun n : Nat => .int (n : Int)
def pdStrs (l : List (List Nat)) : List PyData := l.map fun w => .str (Mt.S w)
theorem pd_all {α : Type} {f : α → PyData} (l : List α) (h : ∀ x ∈ l, (f x).canLay0 = true ∧ nb (f x) = true ∧ (f x).depth ≤ 40) : PyData.canLayAll0 (l.map f) = true ∧ nbAll (l.map f) = true ∧ PyData.depthAll (l.map f) ≤ 40 := by
  induction l with
  | nil => exact ⟨by simp [PyData.canLayAll0], by simp [nbAll], by simp [PyData.depthAll]⟩
  | cons x xs ih =>
    obtain ⟨a, b, c⟩ := ih fun y hy => h y (List.mem_cons_of_mem _ hy)
    obtain ⟨a', b', c'⟩ := h x (List.mem_cons_self ..)
    refine ⟨by rw [List.map_cons, PyData.canLayAll0, a, a']; rfl, by rw [List.map_cons, nbAll, b, b']; rfl, ?_⟩
    rw [List.map_cons, PyData.depthAll]
    omega
theorem pd_ints (t : List Nat) : Pd (.tuple (pdInts t)) := by
  obtain ⟨a, b, c⟩ := pd_all (f := fun n : Nat => .int (n : Int)) t fun x _ => ⟨by simp [PyData.canLay0], by simp [nb], by simp [PyData.depth]⟩
  exact ⟨by rw [PyData.canLay0]; exact a, by rw [nb]; exact b, by rw [PyData.depth]; show PyData.depthAll (pdInts t) + 1 ≤ 64; unfold pdInts; omega⟩
theorem pd_strs (l : List (List Nat)) (h : ∀ w ∈ l, ∀ c ∈ w, c < 1000000) : Pd (.list (pdStrs l)) := by
  obtain ⟨a, b, c⟩ := pd_all (f := fun w => .str (Mt.S w)) l fun x hx => ⟨by
    rw [PyData.canLay0]
    unfold PyData.strOk
    rw [Array.all_eq_true_iff_forall_mem]
    intro c hc
    have := h x hx c (by simpa [Mt.S] using hc)
    exact decide_eq_true (by omega), by simp [nb], by simp [PyData.depth]⟩
  exact ⟨by rw [PyData.canLay0]; exact a, by rw [nb]; exact b, by rw [PyData.depth]; show PyData.depthAll (pdStrs l) + 1 ≤ 64; unfold pdStrs; omega⟩
section
variable {K : PySem.W.Frag} {H : Hp} {Q : VK} {a b : Addr} {x y : V} {d e : PyData}
theorem dp_ints {t : List Nat} (h : H a = some (.tup (natL t))) : Dp K H (.ref a) (.tuple (pdInts t)) := by
  refine .tup (SqT.of h) ?_
  clear h
  induction t with
  | nil => exact .nil
  | cons n t ih => exact .cons (.int _) ih
theorem dpAll_strs {l : List (List Nat)} : DpAll K H (l.map fun w => .str (Mt.S w)) (pdStrs l) := by
  induction l with
  | nil => exact .nil
  | cons n t ih => exact .cons (.str _) ih
theorem dp_strs {l : List (List Nat)} (h : H a = some (.lst (l.map fun w => .str (Mt.S w)))) : Dp K H (.ref a) (.list (pdStrs l)) := .lst (SqL.of h) dpAll_strs
theorem rd_eqD (hd : Dp K H x d) (he : Dp K H y e) (pd : Pd d) (pe : Pd e) (q : Q (.bl (d.eqv e)) H) : rEqU K x y H Q := .inr ⟨d, e, hd, he, pd.shaped, pe.shaped, q⟩
theorem rd_neD (hd : Dp K H x d) (he : Dp K H y e) (pd : Pd d) (pe : Pd e) (q : Q (.bl (!d.eqv e)) H) : rNeU K x y H Q := .inr ⟨d, e, hd, he, pd.shaped, pe.shaped, q⟩
/-- two tuples of numbers -/
theorem rd_neInts {t u : List Nat} (ha : H a = some (.tup (natL t))) (hb : H b = some (.tup (natL u))) (q : Q (.bl (!decide (t = u))) H) : rNeU K (.ref a) (.ref b) H Q := by
  refine rd_neD (dp_ints ha) (dp_ints hb) (pd_ints t) (pd_ints u) ?_
  have : (PyData.tuple (pdInts t)).eqv (.tuple (pdInts u)) = decide (t = u) := by
    rw [Bool.eq_iff_iff, (pd_ints t).eqv (pd_ints u), decide_eq_true_iff]
    refine ⟨fun h => ?_, fun h => by rw [h]⟩
    injection h with h
    exact (List.map_inj_right fun x y e => by injection e with e; omega).mp h
  rw [this]; exact q
theorem strs_eqv {l m : List (List Nat)} (hl : ∀ w ∈ l, ∀ c ∈ w, c < 1000000) (hm : ∀ w ∈ m, ∀ c ∈ w, c < 1000000) : (PyData.list (pdStrs l)).eqv (.list (pdStrs m)) = decide (l = m) := by
  rw [Bool.eq_iff_iff, (pd_strs l hl).eqv (pd_strs m hm), decide_eq_true_iff]
  refine ⟨fun h => ?_, fun h => by rw [h]⟩
  injection h with h
  exact (List.map_inj_right fun x y e => by injection e with e; exact Mt.S_inj.mp e).mp h
/-- two lists of texts -/
theorem rd_neStrs {l m : List (List Nat)} (ha : H a = some (.lst (l.map fun w => .str (Mt.S w)))) (hb : H b = some (.lst (m.map fun w => .str (Mt.S w)))) (hl : ∀ w ∈ l, ∀ c ∈ w, c < 1000000) (hm : ∀ w ∈ m, ∀ c ∈ w, c < 1000000) (q : Q (.bl (!decide (l = m))) H) : rNeU K (.ref a) (.ref b) H Q := by
  refine rd_neD (dp_strs ha) (dp_strs hb) (pd_strs l hl) (pd_strs m hm) ?_
  rw [strs_eqv hl hm]; exact q
end
end Rd

/-! Rd8: comprehensions whose turns change nothing that stood. -/
namespace Rd
open PySem L2
open PyProof.Rows hiding St
section
variable {K : PySem.W.Frag} {J : It} {n : Nat} {G : Hp → Prop} {Y : Nat → Hp → V → Hp → Prop} {g : TG} {tt : TT} {te : TE} {vs : List Nat} {σ : L2.St} {H H1 : Hp} {Q : VK} {a : Addr} {R : It → Hp → Prop} {x : V} {xs : List V}
def IsT (K : PySem.W.Frag) (x : V) (R : It → Hp → Prop) (H1 : Hp) : Prop := ∃ a, x = V.ref a ∧ (∃ xs, SqT K H1 a xs) ∧ R (Itt K a) H1
def IsL (K : PySem.W.Frag) (x : V) (R : It → Hp → Prop) (H1 : Hp) : Prop := ∃ a, x = V.ref a ∧ (∃ xs, SqL K H1 a xs) ∧ R (Itl K a) H1
theorem rd_iTup (h : te σ H fun x H1 => IsT K x R H1) : iTup K te σ H R := h
theorem rd_iList (h : te σ H fun x H1 => IsL K x R H1) : iList K te σ H R := h
theorem rd_isT (h : H a = some (.tup xs)) (q : R (Itt K a) H) : IsT K (.ref a) R H := ⟨a, rfl, ⟨xs, SqT.of h⟩, q⟩
theorem rd_isL (h : H a = some (.lst xs)) (q : R (Itl K a) H) : IsL K (.ref a) R H := ⟨a, rfl, ⟨xs, SqL.of h⟩, q⟩
def IsE1 (K : PySem.W.Frag) (t : Bool) (vs : List V) (R : It → Hp → Prop) (H1 : Hp) : Prop := ∃ a xs, vs = [.ref a] ∧ SqB K t H1 a xs ∧ R (IteK K t a 0) H1
def IsE2 (K : PySem.W.Frag) (t : Bool) (vs : List V) (R : It → Hp → Prop) (H1 : Hp) : Prop := ∃ (a : Addr) (k : Int) (xs : List V), vs = [.ref a, .int k] ∧ (-1000000 ≤ k ∧ k ≤ 1000000) ∧ SqB K t H1 a xs ∧ R (IteK K t a k) H1
theorem rd_iEnum {t : Bool} {ta : TA} (h : ta σ H fun vs H1 => IsE1 K t vs R H1) : iEnumK K t ta σ H R := h
theorem rd_iEnumS {t : Bool} {ta : TA} (h : ta σ H fun vs H1 => IsE2 K t vs R H1) : iEnumS K t ta σ H R := h
theorem rd_e1T (h : H a = some (.tup xs)) (q : R (IteK K true a 0) H) : IsE1 K true [.ref a] R H := ⟨a, xs, rfl, SqT.of h, q⟩
theorem rd_e1L (h : H a = some (.lst xs)) (q : R (IteK K false a 0) H) : IsE1 K false [.ref a] R H := ⟨a, xs, rfl, SqL.of h, q⟩
theorem rd_e2T {k : Int} (h : H a = some (.tup xs)) (hk : -1000000 ≤ k ∧ k ≤ 1000000) (q : R (IteK K true a k) H) : IsE2 K true [.ref a, .int k] R H := ⟨a, k, xs, rfl, hk, SqT.of h, q⟩
theorem rd_e2L {k : Int} (h : H a = some (.lst xs)) (hk : -1000000 ≤ k ∧ k ≤ 1000000) (q : R (IteK K false a k) H) : IsE2 K false [.ref a, .int k] R H := ⟨a, k, xs, rfl, hk, SqL.of h, q⟩
section
variable {H : Hp} {Q : VK} {x y z : V}
theorem rd_t0 (q : ∀ p H2, H p = none → Same H H2 → (∀ c, H2 c = none → H c = none) → H2 p = some (.tup []) → Q (.ref p) H2) : NewT [] Q H := rd_newT (Nat.zero_le _) q
theorem rd_t2 (q : ∀ p H2, H p = none → Same H H2 → (∀ c, H2 c = none → H c = none) → H2 p = some (.tup [x, y]) → Q (.ref p) H2) : NewT [x, y] Q H := rd_newT (sz (by simp)) q
theorem rd_t3 (q : ∀ p H2, H p = none → Same H H2 → (∀ c, H2 c = none → H c = none) → H2 p = some (.tup [x, y, z]) → Q (.ref p) H2) : NewT [x, y, z] Q H := rd_newT (sz (by simp)) q
theorem rd_l0 (q : ∀ p H2, H p = none → Same H H2 → (∀ c, H2 c = none → H c = none) → H2 p = some (.lst []) → Q (.ref p) H2) : NewL [] Q H := rd_newL (Nat.zero_le _) q
theorem rd_l1 (q : ∀ p H2, H p = none → Same H H2 → (∀ c, H2 c = none → H c = none) → H2 p = some (.lst [x]) → Q (.ref p) H2) : NewL [x] Q H := rd_newL (sz (by simp)) q
theorem rd_l2 (q : ∀ p H2, H p = none → Same H H2 → (∀ c, H2 c = none → H c = none) → H2 p = some (.lst [x, y]) → Q (.ref p) H2) : NewL [x, y] Q H := rd_newL (sz (by simp)) q
theorem rd_l3 (q : ∀ p H2, H p = none → Same H H2 → (∀ c, H2 c = none → H c = none) → H2 p = some (.lst [x, y, z]) → Q (.ref p) H2) : NewL [x, y, z] Q H := rd_newL (sz (by simp)) q
end
def rIsN : R2 := fun x y H Q => y = V.non ∧ Q (.bl (decide (x = .non))) H
def rNotN : R2 := fun x y H Q => y = V.non ∧ Q (.bl (!decide (x = .non))) H
theorem o_isN {X : Cx} : OpR X (compareOp .Is) rIsN := op_isN
theorem o_notN {X : Cx} : OpR X (compareOp .IsNot) rNotN := op_notN
section
variable {H : Hp} {Q : VK} {p : Addr} {i : Int} {z : Str} {b : Bool}
theorem rd_isNn (q : Q (.bl true) H) : rIsN .non .non H Q := ⟨rfl, by rw [decide_eq_true rfl]; exact q⟩
theorem rd_isNr (q : Q (.bl false) H) : rIsN (.ref p) .non H Q := ⟨rfl, by rw [decide_eq_false (fun h => nomatch h)]; exact q⟩
theorem rd_isNi (q : Q (.bl false) H) : rIsN (.int i) .non H Q := ⟨rfl, by rw [decide_eq_false (fun h => nomatch h)]; exact q⟩
theorem rd_isNs (q : Q (.bl false) H) : rIsN (.str z) .non H Q := ⟨rfl, by rw [decide_eq_false (fun h => nomatch h)]; exact q⟩
theorem rd_isNb (q : Q (.bl false) H) : rIsN (.bl b) .non H Q := ⟨rfl, by rw [decide_eq_false (fun h => nomatch h)]; exact q⟩
theorem rd_noNn (q : Q (.bl false) H) : rNotN .non .non H Q := ⟨rfl, by rw [decide_eq_true rfl]; exact q⟩
theorem rd_noNr (q : Q (.bl true) H) : rNotN (.ref p) .non H Q := ⟨rfl, by rw [decide_eq_false (fun h => nomatch h)]; exact q⟩
theorem rd_noNi (q : Q (.bl true) H) : rNotN (.int i) .non H Q := ⟨rfl, by rw [decide_eq_false (fun h => nomatch h)]; exact q⟩
theorem rd_noNs (q : Q (.bl true) H) : rNotN (.str z) .non H Q := ⟨rfl, by rw [decide_eq_false (fun h => nomatch h)]; exact q⟩
theorem rd_noNb (q : Q (.bl true) H) : rNotN (.bl b) .non H Q := ⟨rfl, by rw [decide_eq_false (fun h => nomatch h)]; exact q⟩
end
theorem fm_range {α : Type} (l : List α) (f : α → Option V) : (List.range l.length).filterMap (fun i => l[i]?.bind f) = l.filterMap f := by
  induction l with
  | nil => rfl
  | cons x xs ih =>
    rw [List.length_cons, List.range_succ_eq_map, List.filterMap_cons, List.filterMap_map]
    have : (fun i => (x :: xs)[i]?.bind f) ∘ Nat.succ = fun i => xs[i]?.bind f := by funext i; simp
    rw [this, ih]
    simp [List.filterMap_cons]
/-- over anything that gives the items of l one by one -/
theorem comp_it {α : Type} {l : List α} (w : Walk J l.length G Y) (hn : l.length ≤ 100000) (f : α → Option V) (hG : ∀ H, Same H1 H → G H) (hY : ∀ i H x H', Y i H x H' → Same H H')
    (hs : ∀ i c x H H' (KV : VK) (N : Hp → Prop), l[i]? = some c → Same H1 H → Y i H x H' → (∀ y H4, Same H' H4 → f c = some y → KV y H4) → (∀ H4, Same H' H4 → f c = none → N H4) →
      g x (wipe σ vs) H' fun σ2 H2 => wipe σ2 vs = wipe σ vs ∧ tt σ2 H2 fun b H3 => if b = true then te σ2 H3 KV else N H3)
    (hd : ∀ D H, H1 D = none → Same H1 H → H D = some (.lst (l.filterMap f)) → Q (.ref D) H) :
    ∀ D, H1 D = none → CompJ J g tt te vs σ D H1 Q := by
  refine comp_opt w hn [] (fun i => l[i]?.bind f) (fun _ _ => True) (by simp) (fun H m => hG H m.same) (fun _ _ _ _ => trivial) (fun _ _ _ _ _ _ _ => trivial) hY (fun i x H H' KV N hi m _ y hk hn => ?_) fun D H nD m hD _ => hd D H nD m.same (by rw [← fm_range]; exact hD)
  have ec : l[i]? = some l[i] := List.getElem?_eq_getElem hi
  refine hs i l[i] x H H' KV N ec m.same y (fun y H4 s e => hk y H4 (s.mod []) trivial ?_) fun H4 s e => hn H4 (s.mod []) trivial ?_
  · show l[i]?.bind f = some y
    rw [ec]; exact e
  · show l[i]?.bind f = none
    rw [ec]; exact e
/-- over a tuple or a list that holds the values of l -/
theorem comp_tl {α : Type} {l : List α} {F : α → V} (f : α → Option V) (hsrc : (J = Itt K a ∧ H1 a = some (.tup (l.map F))) ∨ (J = Itl K a ∧ H1 a = some (.lst (l.map F)))) (hn : l.length ≤ 100000)
    (hs : ∀ c H (KV : VK) (N : Hp → Prop), c ∈ l → Same H1 H → (∀ y H4, Same H H4 → f c = some y → KV y H4) → (∀ H4, Same H H4 → f c = none → N H4) →
      g (F c) (wipe σ vs) H fun σ2 H2 => wipe σ2 vs = wipe σ vs ∧ tt σ2 H2 fun b H3 => if b = true then te σ2 H3 KV else N H3)
    (hd : ∀ D H, H1 D = none → Same H1 H → H D = some (.lst (l.filterMap f)) → Q (.ref D) H) :
    ∀ D, H1 D = none → CompJ J g tt te vs σ D H1 Q := by
  have turn : ∀ i c x H H' (KV : VK) (N : Hp → Prop), l[i]? = some c → Same H1 H → YAt (l.map F) i H x H' → (∀ y H4, Same H' H4 → f c = some y → KV y H4) → (∀ H4, Same H' H4 → f c = none → N H4) →
      g x (wipe σ vs) H' fun σ2 H2 => wipe σ2 vs = wipe σ vs ∧ tt σ2 H2 fun b H3 => if b = true then te σ2 H3 KV else N H3 := by
    rintro i c x H H' KV N ec s ⟨rfl, ex⟩ hk hn
    rw [List.getElem?_map, ec] at ex
    cases ex
    exact hs c H' KV N (List.mem_of_getElem? ec) s hk hn
  rcases hsrc with ⟨rfl, h⟩ | ⟨rfl, h⟩
  · have w := walk_tup (K := K) (a := a) (xs := l.map F)
    rw [List.length_map] at w
    exact comp_it w hn f (fun H s => SqT.of (s _ _ h)) (fun _ _ _ _ => yat_same) turn hd
  · have w := walk_list (K := K) (a := a) (xs := l.map F)
    rw [List.length_map] at w
    exact comp_it w hn f (fun H s => SqL.of (s _ _ h)) (fun _ _ _ _ => yat_same) turn hd
theorem fm_some {α : Type} (l : List α) (f : α → V) : l.filterMap (fun c => some (f c)) = l.map f := by
  induction l with
  | nil => rfl
  | cons x xs ih => simp
/-- each item's value -/
theorem comp_T {α : Type} {l : List α} {F : α → V} (f : α → V) (h : H1 a = some (.tup (l.map F))) (hn : l.length ≤ 100000)
    (hs : ∀ c H (KV : VK) (N : Hp → Prop), c ∈ l → Same H1 H → (∀ H4, Same H H4 → KV (f c) H4) → g (F c) (wipe σ vs) H fun σ2 H2 => wipe σ2 vs = wipe σ vs ∧ tt σ2 H2 fun b H3 => if b = true then te σ2 H3 KV else N H3)
    (hd : ∀ D H, H1 D = none → Same H1 H → H D = some (.lst (l.map f)) → Q (.ref D) H) : ∀ D, H1 D = none → CompJ (Itt K a) g tt te vs σ D H1 Q :=
  comp_tl (K := K) (a := a) (fun c => some (f c)) (.inl ⟨rfl, h⟩) hn (fun c H KV N hc s hk _ => hs c H KV N hc s fun H4 s4 => hk _ H4 s4 rfl) fun D H nD s hD => hd D H nD s (by rw [← fm_some]; exact hD)
theorem comp_L {α : Type} {l : List α} {F : α → V} (f : α → V) (h : H1 a = some (.lst (l.map F))) (hn : l.length ≤ 100000)
    (hs : ∀ c H (KV : VK) (N : Hp → Prop), c ∈ l → Same H1 H → (∀ H4, Same H H4 → KV (f c) H4) → g (F c) (wipe σ vs) H fun σ2 H2 => wipe σ2 vs = wipe σ vs ∧ tt σ2 H2 fun b H3 => if b = true then te σ2 H3 KV else N H3)
    (hd : ∀ D H, H1 D = none → Same H1 H → H D = some (.lst (l.map f)) → Q (.ref D) H) : ∀ D, H1 D = none → CompJ (Itl K a) g tt te vs σ D H1 Q :=
  comp_tl (K := K) (a := a) (fun c => some (f c)) (.inr ⟨rfl, h⟩) hn (fun c H KV N hc s hk _ => hs c H KV N hc s fun H4 s4 => hk _ H4 s4 rfl) fun D H nD s hD => hd D H nD s (by rw [← fm_some]; exact hD)
theorem for_w (w : Walk J n G Y) {tb : L2.TS} {D : Ends} (Pv : Nat → L2.St → Hp → Prop) (h0 : Pv 0 σ H) (hl : ∀ (i : Nat) (σ : L2.St) (H : Hp), i ≤ n → Pv i σ H → G H)
    (hs : ∀ (i : Nat) (x : V) (σ : L2.St) (H H' : Hp), i < n → Pv i σ H → Y i H x H' → g x σ H' fun σ2 H2 => tb { nx := Pv (i + 1), rt := D.rt, bk := D.nx, ct := Pv (i + 1) } σ2 H2)
    (hd : ∀ (σ : L2.St) (H : Hp), Pv n σ H → D.nx σ H) : ForJ J g tb D σ H := for_it w Pv h0 hl hs hd
theorem ypair_d {f g : Nat → Option V} {i : Nat} {v : V} {H' : Hp} (y : YPair f g i H v H') : ∃ T x z, v = .ref T ∧ Same H H' ∧ H' T = some (.tup [x, z]) ∧ f i = some x ∧ g i = some z := by
  obtain ⟨T, a, b, e, n, rfl, h1, h2⟩ := y
  exact ⟨T, a, b, e, same_upd n, upd_same, h1, h2⟩
end
end Rd

/-! Rd9: ranges; zip over tuples; lists of numbers found one by one. -/
namespace Rd
open PySem L2
open PyProof.Rows hiding St
section
variable {K : PySem.W.Frag} {ta : TA} {σ : L2.St} {H H1 : Hp} {R : It → Hp → Prop} {vs : List V} {j j2 : Int} {Q : VK} {a b : Addr} {xs ys : List V}
def IsR1 (vs : List V) (R : It → Hp → Prop) (H1 : Hp) : Prop := ∃ j, vs = [V.int j] ∧ -2 ^ 62 ≤ j ∧ j < 2 ^ 62 ∧ R (Itr 0 j.toNat) H1
def IsR2 (vs : List V) (R : It → Hp → Prop) (H1 : Hp) : Prop := ∃ i j, vs = [V.int i, V.int j] ∧ (-2 ^ 62 ≤ i ∧ i < 2 ^ 62 ∧ -2 ^ 62 ≤ j ∧ j < 2 ^ 62) ∧ R (Itr i (j - i).toNat) H1
theorem rd_iRng1 (h : ta σ H fun vs H1 => IsR1 vs R H1) : iRng1 ta σ H R := h
theorem rd_iRng2 (h : ta σ H fun vs H1 => IsR2 vs R H1) : iRng2 ta σ H R := h
theorem rd_r1 {n : Nat} (e : j.toNat = n) (h : -1000000000 ≤ j ∧ j ≤ 1000000000) (q : R (Itr 0 n) H) : IsR1 [.int j] R H := ⟨j, rfl, by omega, by omega, by rw [e]; exact q⟩
theorem rd_r2 {n : Nat} (e : (j2 - j).toNat = n) (h : -1000000000 ≤ j ∧ j ≤ 1000000000 ∧ -1000000000 ≤ j2 ∧ j2 ≤ 1000000000) (q : R (Itr j n) H) : IsR2 [.int j, .int j2] R H := ⟨j, j2, rfl, by omega, by rw [e]; exact q⟩
theorem yrng0 {i : Nat} {H' : Hp} {x : V} (y : YFn (fun i : Nat => V.int ((0 : Int) + (i : Int))) i H x H') : H' = H ∧ x = .int (i : Int) := by
  obtain ⟨h1, h2⟩ := y
  refine ⟨h1, h2.trans ?_⟩
  show V.int (0 + (i : Int)) = _
  rw [Int.zero_add]
theorem yrng {lo : Int} {i : Nat} {H' : Hp} {x : V} (y : YFn (fun i : Nat => V.int (lo + (i : Int))) i H x H') : H' = H ∧ x = .int (lo + (i : Int)) := y
theorem nats_of {ys : List V} {P : Nat → Nat → Prop} (h : ∀ (i : Nat) y, ys[i]? = some y → ∃ v : Nat, y = .int (v : Int) ∧ P i v) : ∃ t : List Nat, ys = natL t ∧ t.length = ys.length ∧ ∀ i v, t[i]? = some v → P i v := by
  induction ys generalizing P with
  | nil => exact ⟨[], rfl, rfl, fun i v e => by simp at e⟩
  | cons y ys ih =>
    obtain ⟨v, rfl, hv⟩ := h 0 y rfl
    obtain ⟨t, e, el, ht⟩ := ih (P := fun i v => P (i + 1) v) fun i y e => h (i + 1) y e
    refine ⟨v :: t, by rw [e]; rfl, by simp [el], fun i u e => ?_⟩
    cases i with
    | zero => cases e; exact hv
    | succ i => exact ht i u e
/-- two walked side by side -/
def IsZ (K : PySem.W.Frag) (vs : List V) (R : It → Hp → Prop) (H1 : Hp) : Prop := ∃ a b xs ys, vs = [V.ref a, V.ref b] ∧ (SqL K H1 a xs ∧ SqL K H1 b ys ∧ R (Itz K a b) H1 ∨ SqT K H1 a xs ∧ SqT K H1 b ys ∧ R (RZ.ItzT K a b) H1)
theorem rd_iZip (h : ta σ H fun vs H1 => IsZ K vs R H1) : RZ.iZipA K ta σ H R := h
theorem rd_zT (h : H a = some (.tup xs)) (h2 : H b = some (.tup ys)) (q : R (RZ.ItzT K a b) H) : IsZ K [.ref a, .ref b] R H := ⟨a, b, xs, ys, rfl, .inr ⟨SqT.of h, SqT.of h2, q⟩⟩
theorem rd_zL (h : H a = some (.lst xs)) (h2 : H b = some (.lst ys)) (q : R (Itz K a b) H) : IsZ K [.ref a, .ref b] R H := ⟨a, b, xs, ys, rfl, .inl ⟨SqL.of h, SqL.of h2, q⟩⟩
theorem walk_zT {n : Nat} (hn : n = min xs.length ys.length) : Walk (RZ.ItzT K a b) n (fun H => SqT K H a xs ∧ SqT K H b ys) (YPair (fun i => xs[i]?) fun i => ys[i]?) :=
  ⟨fun i _ hi q => ⟨xs, ys, xs[i]'(by omega), ys[i]'(by omega), q.1, q.2, by simp, by simp⟩, fun _ q => ⟨xs, ys, q.1, q.2, by omega⟩, fun i H v H' _ q ⟨T, x, y, h1, h2, h3, h4, h5⟩ => ⟨T, x, y, h1, h2, h3, h4 xs q.1, h5 ys q.2⟩⟩
end
/-! ### data, again -/
section
variable {K : PySem.W.Frag} {H : Hp} {Q : VK} {a b : Addr} {x y : V}
theorem dpAll_of {α : Type} {l : List α} {F : α → V} {D : α → PyData} (h : ∀ x ∈ l, Dp K H (F x) (D x)) : DpAll K H (l.map F) (l.map D) := by
  induction l with
  | nil => exact .nil
  | cons x l ih => exact .cons (h x (List.mem_cons_self ..)) (ih fun y hy => h y (List.mem_cons_of_mem _ hy))
theorem dpL_of {α : Type} {l : List α} {F : α → V} {D : α → PyData} (hl : H a = some (.lst (l.map F))) (h : ∀ x ∈ l, Dp K H (F x) (D x)) : Dp K H (.ref a) (.list (l.map D)) := .lst (SqL.of hl) (dpAll_of h)
theorem dpT_of {α : Type} {l : List α} {F : α → V} {D : α → PyData} (hl : H a = some (.tup (l.map F))) (h : ∀ x ∈ l, Dp K H (F x) (D x)) : Dp K H (.ref a) (.tuple (l.map D)) := .tup (SqT.of hl) (dpAll_of h)
/-- shallow data -/
structure Pd1 (d : PyData) (n : Nat) : Prop where
  lay : d.canLay0 = true
  nb : nb d = true
  dp : d.depth ≤ n
theorem Pd1.pd {d : PyData} {n : Nat} (h : Pd1 d n) (hn : n ≤ 64) : Pd d := ⟨h.lay, h.nb, Nat.le_trans h.dp hn⟩
theorem pd1_all {n : Nat} : ∀ (l : List PyData), (∀ x ∈ l, Pd1 x n) → PyData.canLayAll0 l = true ∧ nbAll l = true ∧ PyData.depthAll l ≤ n
  | [], _ => ⟨by simp [PyData.canLayAll0], by simp [nbAll], by simp [PyData.depthAll]⟩
  | x :: xs, h => by
    obtain ⟨a, b, c⟩ := pd1_all xs fun y hy => h y (List.mem_cons_of_mem _ hy)
    obtain ⟨a', b', c'⟩ := h x (List.mem_cons_self ..)
    refine ⟨by rw [PyData.canLayAll0, a, a']; rfl, by rw [nbAll, b, b']; rfl, ?_⟩
    rw [PyData.depthAll]
    omega
theorem pd1_int {i : Int} : Pd1 (.int i) 0 := ⟨by simp [PyData.canLay0], by simp [nb], by simp [PyData.depth]⟩
theorem pd1_non {n : Nat} : Pd1 .none n := ⟨by simp [PyData.canLay0], by simp [nb], by simp [PyData.depth]⟩
theorem Pd1.mono {d : PyData} {n m : Nat} (h : Pd1 d n) (hn : n ≤ m) : Pd1 d m := ⟨h.lay, h.nb, Nat.le_trans h.dp hn⟩
theorem pd1_list {l : List PyData} {n : Nat} (h : ∀ x ∈ l, Pd1 x n) : Pd1 (.list l) (n + 1) := by
  obtain ⟨a, b, c⟩ := pd1_all l h
  exact ⟨by rw [PyData.canLay0]; exact a, by rw [Rd.nb]; exact b, by rw [PyData.depth]; omega⟩
theorem pd1_tuple {l : List PyData} {n : Nat} (h : ∀ x ∈ l, Pd1 x n) : Pd1 (.tuple l) (n + 1) := by
  obtain ⟨a, b, c⟩ := pd1_all l h
  exact ⟨by rw [PyData.canLay0]; exact a, by rw [Rd.nb]; exact b, by rw [PyData.depth]; omega⟩
theorem rd_neNilL {ds : List PyData} (hd : Dp K H (.ref a) (.list ds)) (pd : Pd (.list ds)) (hb : H b = some (.lst [])) (q : Q (.bl (!decide (ds = []))) H) : rNeU K (.ref a) (.ref b) H Q := by
  have pe : Pd (.list []) := (pd1_list (l := []) (n := 0) (by simp)).pd (by decide)
  refine rd_neD hd (.lst (SqL.of hb) .nil) pd pe ?_
  have : (PyData.list ds).eqv (.list []) = decide (ds = []) := by
    rw [Bool.eq_iff_iff, pd.eqv pe, decide_eq_true_iff]
    exact ⟨fun h => by injection h, fun h => by rw [h]⟩
  rw [this]; exact q
theorem rd_eqNilL {ds : List PyData} (hd : Dp K H (.ref a) (.list ds)) (pd : Pd (.list ds)) (hb : H b = some (.lst [])) (q : Q (.bl (decide (ds = []))) H) : rEqU K (.ref a) (.ref b) H Q := by
  have pe : Pd (.list []) := (pd1_list (l := []) (n := 0) (by simp)).pd (by decide)
  refine rd_eqD hd (.lst (SqL.of hb) .nil) pd pe ?_
  have : (PyData.list ds).eqv (.list []) = decide (ds = []) := by
    rw [Bool.eq_iff_iff, pd.eqv pe, decide_eq_true_iff]
    exact ⟨fun h => by injection h, fun h => by rw [h]⟩
  rw [this]; exact q
end
end Rd

/-! Rd10: slices by natural numbers. -/
namespace Rd
open PySem L2
open PyProof.Rows hiding St
theorem sIx_nat {n d k : Nat} : HT.sIx n d (some (k : Int)) = min k n := by
  unfold HT.sIx
  simp only
  rw [if_neg (by omega)]
  simp
theorem cut_to {xs : List V} {k : Nat} : cutV xs none (some (k : Int)) = xs.take k := by
  unfold cutV
  rw [sIx_nat]
  show List.take (min k xs.length - 0) (List.drop 0 xs) = _
  simp
theorem cut_from {xs : List V} {k : Nat} : cutV xs (some (k : Int)) none = xs.drop k := by
  unfold cutV
  rw [sIx_nat]
  show List.take (xs.length - min k xs.length) (List.drop (min k xs.length) xs) = _
  by_cases h : k ≤ xs.length
  · rw [Nat.min_eq_left h, List.take_of_length_le (by simp)]
  · rw [Nat.min_eq_right (by omega), List.drop_eq_nil_of_le (Nat.le_refl _), List.drop_eq_nil_of_le (by omega)]; simp
theorem cut_one {xs : List V} {k : Nat} : cutV xs (some (k : Int)) (some ((k : Int) + 1)) = (xs.drop k).take 1 := by
  unfold cutV
  rw [show ((k : Int) + 1) = ((k + 1 : Nat) : Int) by omega, sIx_nat, sIx_nat]
  by_cases h : k + 1 ≤ xs.length
  · rw [Nat.min_eq_left h, Nat.min_eq_left (by omega), show k + 1 - k = 1 by omega]
  · rw [Nat.min_eq_right (by omega), List.drop_eq_nil_of_le (by omega : xs.length ≤ k)]
    simp
    omega
theorem cutS_to {w : List Nat} {k : Nat} : cutS (Mt.S w) none (some (k : Int)) = Mt.S (w.take k) := by
  unfold cutS
  rw [sIx_nat, Mt.S_len]
  show (⟨(List.take (min k w.length - 0) (List.drop 0 w)).toArray⟩ : Str) = _
  simp [Mt.S]
theorem cutS_from {w : List Nat} {k : Nat} : cutS (Mt.S w) (some (k : Int)) none = Mt.S (w.drop k) := by
  unfold cutS
  rw [sIx_nat, Mt.S_len]
  show (⟨(List.take (w.length - min k w.length) (List.drop (min k w.length) w)).toArray⟩ : Str) = _
  by_cases h : k ≤ w.length
  · rw [Nat.min_eq_left h, List.take_of_length_le (by simp)]; rfl
  · rw [Nat.min_eq_right (by omega), List.drop_eq_nil_of_le (Nat.le_refl _), List.drop_eq_nil_of_le (by omega)]; simp [Mt.S]
/-- all but the last -/
theorem cutS_init {w : List Nat} : cutS (Mt.S w) none (some (-1)) = Mt.S w.dropLast := by
  unfold cutS
  rw [Mt.S_len]
  have : HT.sIx w.length w.length (some (-1)) = w.length - 1 := by
    unfold HT.sIx
    simp only
    rw [if_pos (by decide)]
    omega
  rw [this]
  show (⟨(List.take (w.length - 1 - 0) (List.drop 0 w)).toArray⟩ : Str) = _
  rw [List.drop_zero, Nat.sub_zero, List.dropLast_eq_take]
  rfl
/-- what a text ends with -/
theorem ends1 {w : List Nat} {c : Nat} : Txt.endswith (Mt.S w) (Mt.S [c]) = decide (w.getLast? = some c) := by
  unfold Txt.endswith Builtin.Str.subAt
  rw [Mt.S_len, Mt.S_len]
  rcases List.eq_nil_or_concat w with rfl | ⟨l, x, rfl⟩
  · rfl
  · have e1 : (Mt.S (l.concat x)).cps.extract ((l.concat x).length - [c].length) ((l.concat x).length - [c].length + [c].length) = #[x] := by
      show (l.concat x).toArray.extract _ _ = _
      simp
    rw [e1]
    have e2 : decide (0 + [c].length ≤ (l.concat x).length) = true := decide_eq_true (by simp)
    rw [e2, Bool.true_and]
    have e3 : (l.concat x).getLast? = some x := by simp
    rw [e3]
    show (#[x] == #[c]) = _
    by_cases h : x = c
    · subst h; simp
    · rw [decide_eq_false (by simpa using h)]
      simpa using h
theorem mul_0 {z : Str} : Txt.mul z 0 = Mt.S [] := by unfold Txt.mul; rw [if_pos (by decide)]; rfl
theorem mul_1 {z : Str} : Txt.mul z 1 = z := by unfold Txt.mul; rw [if_neg (by decide), if_pos (by simp)]
section
variable {K : PySem.W.Frag} {H : Hp} {Q : VK} {z : Str} {k : Int}
theorem rd_eqB {b c : Bool} (q : Q (.bl (decide (b = c))) H) : rEqU K (.bl b) (.bl c) H Q := .inl ⟨rfl, by
  have e : decide (V.bl b = V.bl c) = decide (b = c) := by
    by_cases h : b = c
    · subst h; simp
    · rw [decide_eq_false h, decide_eq_false fun w => h (V.bl.inj w)]
  rw [e]; exact q⟩
theorem rd_mulS (h : 0 ≤ k ∧ k ≤ 100) (hz : z.length ≤ 1000) (q : Q (.str (Txt.mul z k)) H) : rMulS (.str z) (.int k) H Q := ⟨z, k, rfl, rfl, h.1, h.2, hz, q⟩
end
end Rd

/-! Rd11: own errors with a field, raised and caught. -/
namespace Rd
open PySem L2 PySem.Calls
open PyProof.Rows hiding St
/-- what a class of errors with an __init__ of its own must be: asked of the fragment -/
def oexB (K : PySem.W.Frag) (C : Addr) : Bool :=
  (match K.lookup C with
   | some { cls := .type "type", dict := _, data := .cls cd, slots := sl } => (match cd.mro, sl.toList with
      | .ref C' :: bm, [_, _, _, _, some (.builtin n), _] => C' == C && n == "ValueError.__new__" && !cd.hasDel && cd.hasDict && HandSPX.refsVE bm
      | _, _ => false)
   | _ => false) && (decide (PySem.W.findIn K (.ref C) "__setattr__" = some (some (.builtin "object.__setattr__"))) && (decide (PySem.W.subIn K (.ref C) (.type "BaseException") = some true) && (decide (PySem.W.typeIn K (.ref C) = some (.type "type")) && PySem.W.keepIn K (.ref C))))
theorem oexB_ok {K : PySem.W.Frag} {C : Addr} (h : oexB K C = true) : OexC K C := by
  unfold oexB at h
  rw [Bool.and_eq_true, Bool.and_eq_true, Bool.and_eq_true, Bool.and_eq_true] at h
  obtain ⟨h0, h1, h2, h3, h4⟩ := h
  refine ⟨?_, of_decide_eq_true h1, of_decide_eq_true h2, of_decide_eq_true h3, h4⟩
  split at h0
  · rename_i dct cd sl e
    split at h0
    · rename_i C' bm x0 x1 x2 x3 n x5 e1 e2
      rw [Bool.and_eq_true, Bool.and_eq_true, Bool.and_eq_true, Bool.and_eq_true] at h0
      obtain ⟨⟨⟨⟨a, b⟩, c⟩, d⟩, r⟩ := h0
      have a' : C' = C := by simpa using a
      have b' : n = "ValueError.__new__" := by simpa using b
      subst a'; subst b'
      obtain ⟨nm, bs, mro, ns, q, hd, sn, sub, ab, col, del⟩ := cd
      simp only at c d e1
      have c' : del = false := by simpa using c
      have d' : hd = true := d
      subst c'; subst d'; subst e1
      have es : sl = #[x0, x1, x2, x3, some (.builtin "ValueError.__new__"), x5] := by
        rw [← Array.toArray_toList (xs := sl), e2]
      subst es
      exact ⟨nm, q, ns, bs, bm, sn, sub, ab, col, dct, x0, x1, x2, x3, x5, e, r⟩
    · cases h0
  · cases h0
/-- an error class with one field -/
structure ErC (K : PySem.W.Frag) (mg : Str → Option Value) (x f : Str) : Prop where
  g : mg x = some (.ref (He.ga K x))
  oex : OexC K (He.ga K x)
  ini : PySem.W.findIn K (.ref (He.ga K x)) "__init__" = some (some (.ref (He.ma K (He.ga K x) "__init__")))
  tI : PySem.W.typeIn K (.ref (He.ma K (He.ga K x) "__init__")) = some (.type "function")
  noF : PySem.W.findIn K (.ref (He.ga K x)) f = some none
  xf : XfC K (He.ga K x)
def erB (K : PySem.W.Frag) (x f : Str) : Bool := oexB K (He.ga K x) && (decide (PySem.W.findIn K (.ref (He.ga K x)) "__init__" = some (some (.ref (He.ma K (He.ga K x) "__init__")))) && (decide (PySem.W.typeIn K (.ref (He.ma K (He.ga K x) "__init__")) = some (.type "function")) && (decide (PySem.W.findIn K (.ref (He.ga K x)) f = some none) && xfB K (He.ga K x))))
theorem erB_ok {K : PySem.W.Frag} {mg : Str → Option Value} {x f : Str} (g : mg x = some (.ref (He.ga K x))) (h : erB K x f = true) : ErC K mg x f := by
  unfold erB at h
  rw [Bool.and_eq_true, Bool.and_eq_true, Bool.and_eq_true, Bool.and_eq_true] at h
  obtain ⟨h0, h1, h2, h3, h4⟩ := h
  exact ⟨g, oexB_ok h0, of_decide_eq_true h1, of_decide_eq_true h2, of_decide_eq_true h3, xfB_ok h4⟩
/-- what __init__ does -/
def spErr (C : Addr) (f : Str) : Sp := fun vs H Q _ => ∃ a v, vs = [.ref a, v] ∧ H a = some (exo a C none) ∧ ∀ dx, H dx = none → dx ≠ a → Q .non (upd (upd H dx (exd dx [(f, v)])) a (exo a C (some dx)))
def MkOP (C : Addr) (sp : Sp) (dvs : List V) (Q : XK) (vs : List V) (H1 : Hp) : Prop := vs.length ≤ 1000 ∧ ∀ (a : Addr), H1 a = none → sp (V.ref a :: (vs ++ dvs)) (upd H1 a (exo a C none)) (fun v H2 => v = V.non ∧ ∃ d fs, H2 a = some (exo a C (some d)) ∧ H2 d = some (exd d fs) ∧ H1 d = none ∧ Q (Value.ref C) (some d) (upd (del H2 a) d (HO.xd fs))) fun _ _ _ => False
section
variable {P : Program} {w : World} {K : PySem.W.Frag} {mg : Str → Option Value} {base : Heap} {C : Addr} {f : Str} {σ : L2.St} {H H1 : Hp} {ta : TA} {Q : XK} {v : V} {D : Ends} {te to : TE}
theorem rd_mkO {sp : Sp} {dvs : List V} (h : ta σ H fun vs H1 => MkOP C sp dvs Q vs H1) : tMkO C sp dvs ta σ H Q := h
theorem rd_err (q : ∀ d H2, H1 d = none → Same H1 H2 → (∀ c, H2 c = none → H1 c = none) → H2 d = some (.xd [(f, v)]) → Q (.ref C) (some d) H2) : MkOP C (spErr C f) [] Q [v] H1 := by
  refine ⟨by simp, fun a na => ⟨a, v, rfl, upd_same, fun dx ndx ne => ⟨rfl, dx, [(f, v)], upd_same, ?_, ?_, ?_⟩⟩⟩
  · rw [upd_ne ne, upd_same]
  · rw [upd_ne ne] at ndx; exact ndx
  · rw [upd_ne ne] at ndx
    refine q dx _ ndx (fun b o e => ?_) (fun c hc => ?_) upd_same
    · have hb : b ≠ dx := ne_of_none e ndx
      have hb2 : b ≠ a := ne_of_none e na
      rw [upd_ne hb, del_ne hb2, upd_ne hb2, upd_ne hb, upd_ne hb2]
      exact e
    · by_cases hb : c = dx
      · subst hb; rw [upd_same] at hc; cases hc
      · rw [upd_ne hb] at hc
        by_cases hb2 : c = a
        · subst hb2; exact na
        · rw [del_ne hb2, upd_ne hb2, upd_ne hb, upd_ne hb2] at hc
          exact hc
/-- the store in __init__ -/
def OstP (K : PySem.W.Frag) (f : Str) (y x : V) (D : Ends) (σ : L2.St) (H2 : Hp) : Prop := ∃ a C, x = V.ref a ∧ OexC K C ∧ PySem.W.findIn K (Value.ref C) f = some none ∧ ((H2 a = some (exo a C none) ∧ ∀ (dx : Addr), H2 dx = none → dx ≠ a → D.nx σ (upd (upd H2 dx (exd dx [(f, y)])) a (exo a C (some dx)))) ∨
  ∃ dx fs, H2 a = some (exo a C (some dx)) ∧ H2 dx = some (exd dx fs) ∧ fs.length ≤ 900 ∧ D.nx σ (upd H2 dx (exd dx ((f, y) :: fs))))
theorem rd_ost (h : te σ H fun y H1 => to σ H1 fun x H2 => OstP K f y x D σ H2) : tOst K f to te D σ H := h
theorem rd_ostP {a : Addr} {y : V} (ox : OexC K C) (nf : PySem.W.findIn K (.ref C) f = some none) (ha : H a = some (exo a C none)) (q : ∀ dx, H dx = none → dx ≠ a → D.nx σ (upd (upd H dx (exd dx [(f, y)])) a (exo a C (some dx)))) : OstP K f y (.ref a) D σ H :=
  ⟨a, C, rfl, ox, nf, .inl ⟨ha, q⟩⟩
/-- a class's __init__ that stores its one argument -/
structure ErI (P : Program) (w : World) (K : PySem.W.Frag) (mg : Str → Option Value) (base : Heap) (x f : Str) : Prop where
  c : ErC K mg x f
  ok : ∃ fd ps, FnOk P w K mg base CX0 1 (He.ma K (He.ga K x) "__init__") fd ps (spErr (He.ga K x) f) ∧ Binds K fd ps []
theorem pmk_err {X : Cx} {e : Expr} {ta : TA} {p pos : Pos} {x f : Str} {k : Nat} (h : ErI X.prog X.w X.K X.mg X.base x f) (hr : Room k X.A) (hk : 2 ≤ k) (hg : Gl X x) (ha : PA X [e] ta) (hd : (x == ("__debug__" : Str)) = false := by decide)
    (he : starEach (e :: []) X.env = (false, eval e X.env) :: starEach [] X.env := by rfl) (hpl : (backTo pos (starEach [] X.env)).any (·.1) = false := by rfl) :
    PMk X (.Call (.Name x p) [e] [] pos) (tMkO (He.ga X.K x) (spErr (He.ga X.K x) f) [] ta) := by
  obtain ⟨fd, ps, F, B⟩ := h.ok
  exact pmk_oex h.c.oex h.c.ini h.c.tI F (hr.mono hk) B .nil pass0 hg h.c.g ha hd he hpl
def tErr (K : PySem.W.Frag) (x f : Str) (ta : TA) : L2.St → Hp → XK → Prop := tMkO (He.ga K x) (spErr (He.ga K x) f) [] ta
def tRaise (t : L2.St → Hp → XK → Prop) (W : WX) : L2.TS := fun _ σ H => t σ H fun cls d H' => W cls d σ H'
def ErrV (K : PySem.W.Frag) (x f : Str) (Q : XK) (vs : List V) (H1 : Hp) : Prop := MkOP (He.ga K x) (spErr (He.ga K x) f) [] Q vs H1
theorem rd_raise {t : L2.St → Hp → XK → Prop} {W : WX} (h : t σ H fun cls d H' => W cls d σ H') : tRaise t W D σ H := h
theorem rd_tErr {x f : Str} {ta : TA} (h : ta σ H fun vs H1 => ErrV K x f Q vs H1) : tErr K x f ta σ H Q := h
theorem rd_errV {x f : Str} (q : ∀ d H2, H1 d = none → Same H1 H2 → (∀ c, H2 c = none → H1 c = none) → H2 d = some (.xd [(f, v)]) → Q (.ref (He.ga K x)) (some d) H2) : ErrV K x f Q [v] H1 := rd_err q
/-- a call in a try -/
theorem pe_fnS {X : Cx} {CX : CXT} {x : Str} {k : Nat} {ps : List Str} {sp : Sp} {E : L2.St → XK} {e : Expr} {es : List Expr} {t : TA} {p pos : Pos} (D : Dc X.prog X.w X.K X.mg X.base CX x k ps sp) (hr : Room k X.A) (hg : Gl X x) (hx : ∀ σ, PassesAt CX X σ (E σ)) (ha : PA X (e :: es) t)
    (he : starEach (e :: es) X.env = (false, eval e X.env) :: starEach es X.env := by rfl) (hpl : (backTo pos (starEach es X.env)).any (·.1) = false := by rfl) (hdb : (x == ("__debug__" : Str)) = false := by decide) :
    PE X (.Call (.Name x p) (e :: es) [] pos) (tCallS sp E t) := by
  obtain ⟨f, fd, F, hm, hk, hb⟩ := D.ex
  exact pe_callS F hr hg hm hk hb hx ha hdb he hpl
theorem rd_callS {sp : Sp} {E : L2.St → XK} {ta : TA} {Q : VK} (h : ta σ H fun vs H1 => sp vs H1 Q (E σ)) : tCallS sp E ta σ H Q := h
/-- try .. except X -/
def tTryO (K : PySem.W.Frag) (c : Value) (tb : WX → L2.TS) (ts : Addr → Value → Option Addr → L2.TS) (Wout : WX) : L2.TS := fun D σ H => tb (wOnly K c ts Wout D) D σ H
theorem rd_tryO {c : Value} {tb : WX → L2.TS} {ts : Addr → Value → Option Addr → L2.TS} {Wout : WX} (h : tb (wOnly K c ts Wout D) D σ H) : tTryO K c tb ts Wout D σ H := h
/-- an error that the except takes -/
theorem rd_caught {c cls : Value} {d : Option Addr} {ts : Addr → Value → Option Addr → L2.TS} {Wout : WX} (h : PySem.W.exmOne K cls c = some true) (q : ∀ a, H a = none → ts a cls d D σ H) : WE (wOnly K c ts Wout D) σ cls d H :=
  ⟨true, h, fun _ a na => q a na, fun z => nomatch z⟩
end
end Rd

/-! Rd12: defs with *args and a keyword; list(range ..); sums; slices backwards. -/
namespace Rd
open PySem L2
open PyProof.Rows hiding St
structure DcR (P : Program) (w : World) (K : PySem.W.Frag) (mg : Str → Option Value) (base : Heap) (CX : CXT) (x : Str) (k : Nat) (sp : Sp) : Prop where
  ex : ∃ f, FnR P w K mg base CX k f sp ∧ mg x = some (.ref f) ∧ PySem.W.keepIn K (.ref f) = true
theorem pe_fnR {X : Cx} {CX : CXT} {x : Str} {k : Nat} {sp : Sp} {E : XK} {e : Expr} {es : List Expr} {t : TA} {p pos : Pos} (D : DcR X.prog X.w X.K X.mg X.base CX x k sp) (hr : Room k X.A) (hg : Gl X x) (hx : Passes CX X E) (ha : PA X (e :: es) t)
    (he : starEach (e :: es) X.env = (false, eval e X.env) :: starEach es X.env := by rfl) (hpl : (backTo pos (starEach es X.env)).any (·.1) = false := by rfl) (hdb : (x == ("__debug__" : Str)) = false := by decide) :
    PE X (.Call (.Name x p) (e :: es) [] pos) (tCall sp [] E t) := by
  obtain ⟨f, F, hm, hk⟩ := D.ex
  refine ⟨fun pins s σ H Q I h => ?_⟩
  refine wpAny_Call_Name_kw (ld_glob I hg hm ?_ hdb)
  refine PySem.W.callWith_K (h₀ := X.base) I.ok.mod.kin hk (thn (ha.run pos pins s σ H _ I h) fun us s1 hh => ?_) he hpl
  obtain ⟨vs, H1, I1, r1, q1⟩ := hh
  refine ⟨I1.kIn, ?_⟩
  refine wpAny_call ?_
  rw [List.append_nil] at q1
  exact run_fnR F hr hx I1 r1 q1
/-- def f(*pv, kw=d), called with what stands at its places alone -/
theorem fn_varkw {P : Program} {w : World} {K : PySem.W.Frag} {mg : Str → Option Value} {base : Heap} {CX : CXT} {k : Nat} {f : Addr} {fd : FuncData} {name qual : Str} {params : Arguments} {body : List Stmt} {scope : Scope} {N : List Str} {kw pv : Str} {d : V} {sp : Sp}
    (F : FunD K name qual params body scope [] [(kw, d)] f fd) (hS : FnScope N [kw, pv] scope) (hup : StX.CXUp CX)
    (hB : ∀ (D : Addr) (doc pm : Value) (an : Option Addr) (cdv ct : Value) (us : List Value), us.length = 2 → ∃ (β γ : Type) (k1 : Option Value → Sem β) (k2 : β → Sem γ) (k3 : γ → Sem (List (Str × Value))), bindArgs (PySem.W.fnOf name qual params body scope .none (.ref D) doc pm an cdv ct) { pos := us } = (nsGet D kw >>= k1 >>= k2 >>= k3) ∧ ∀ v, ∃ a c, k1 (some v) = pure a ∧ k2 a = pure c ∧ k3 c = (do let t ← newTuple us; pure [(kw, v), (pv, t)]))
    (hw : ∀ (cdv : Value) (A : Around) (outer : List Env) (s : Shared) (H : Hp) (vs : List V) (Q : VK) (E : XK), Room k (A.deeper (envOfC qual scope s.heap.objs.size f cdv)) → sp vs H Q E →
      ∃ t, PSs (cxOf CX P w K mg base N qual scope f cdv A outer s H E) body t ∧ t { nx := fun _ H' => Q .non H', rt := Q } (start N vs) H) :
    FnR P w K mg base CX (k + 1) f fun vs H Q E => vs.length = 2 ∧ ∀ p, H p = none → sp [d, .ref p] (upd H p (.tup vs)) Q E := by
  obtain ⟨oc, od, dV, kV, doc, pm, an, cdv, ct, osl, rfl, hlook, hcode, hd, hk⟩ := F.ex
  have edV : dV = .none := by rcases hd with ⟨_, e⟩ | ⟨e, _⟩; exact e; exact absurd rfl e
  subst edV
  obtain ⟨D, rfl, hkw⟩ : ∃ D, kV = .ref D ∧ ∀ q ∈ [(kw, d)], ∃ u, PySem.W.nsIn K D q.1 = some (some u) ∧ RelV q.2 u := by
    rcases hk with e | h
    · cases e
    · exact h
  obtain ⟨u, hu, ru⟩ := hkw (kw, d) (List.mem_cons_self ..)
  intro A outer s H us vs Q E hr E0 hv hsp
  obtain ⟨hl, hsp⟩ := hsp
  have hlu : us.length = 2 := by rw [← Vals.length hv]; exact hl
  obtain ⟨β, γ, k1, k2, k3, eb, ek⟩ := hB D doc pm an cdv ct us hlu
  obtain ⟨a, c, ea, ec, ek⟩ := ek u
  refine StX.run_bnd (CX := CX) (ps := [kw, pv]) (N := N) (G := fun vs' H' => sp vs' H' Q E) hlook hcode hS hr E0 (fun A' Ex Q' hq => ?_) fun s2 H2 vs' g hr' => ?_
  · rw [eb]
    have kin : K.In s.heap := fun b o e => (E0.bs b o (E0.mod.kin b o e)).1
    refine wpAny_bind (wpAny_bind (wpAny_bind (PySem.W.Looks.here (PySem.W.looks_nsIn kin hu) ?_)))
    rw [ea]
    refine wpAny_pure ?_
    rw [ec]
    refine wpAny_pure ?_
    rw [ek]
    refine wpAny_bind (wpAny_newTuple ?_ (by rw [hlu, sizeLine_eq]; decide))
    refine wpAny_pure ?_
    have nz : H s.heap.objs.size = none := E0.hok.fresh (Nat.le_refl _)
    have ob : ObjOk P w (upd H s.heap.objs.size (.tup vs)) (s.heap.push { cls := .type "tuple", data := .seq us.toArray }) s.heap.objs.size (.tup vs) :=
      ⟨by rw [hl, sizeLine_eq]; decide, us, hv, ⟨_, Heap.get?_push_size _ rfl, rfl, _, rfl⟩⟩
    refine hq _ (upd H s.heap.objs.size (.tup vs)) [d, .ref s.heap.objs.size] [u, .ref s.heap.objs.size] (StX.env0_laid E0 ob) (StX.un_laid nz) rfl (fun e s' c => hup outer s H { s with heap := s.heap.push { cls := .type "tuple", data := .seq us.toArray } } (upd H s.heap.objs.size (.tup vs)) E e s' (StX.un_laid nz) (fun b o x => Heap.get?_push_of_some _ x) rfl c) (.cons ru (.cons rfl .nil)) rfl (hsp _ nz)
  · exact hw cdv A outer s2 H2 vs' Q E hr' g
section
variable {K : PySem.W.Frag} {σ : L2.St} {H H1 : Hp} {Q : VK} {a : Addr} {i j : Int} {te ta tb : TE} {QI : Int → Int → Hp → Prop}
/-! ### list(range(a, b)) -/
def LrV (Q : VK) (a b : Int) (H1 : Hp) : Prop := RgOk a b ∧ ∀ (q : Addr), H1 q = none → Q (V.ref q) (upd H1 q (HO.lst (rgV a b)))
def IsII (x y : V) (Q : Int → Int → Hp → Prop) (H : Hp) : Prop := ∃ i j, x = V.int i ∧ y = V.int j ∧ Q i j H
theorem rd_listRg {t : L2.St → Hp → (Int → Int → Hp → Prop) → Prop} (h : t σ H fun a b H1 => LrV Q a b H1) : tLstRg t σ H Q := h
theorem rd_tRg2 (h : ta σ H fun x H1 => tb σ H1 fun y H2 => IsII x y QI H2) : tRg2 ta tb σ H QI := h
theorem rd_isII (h : QI i j H) : IsII (.int i) (.int j) QI H := ⟨i, j, rfl, rfl, h⟩
theorem rd_lrV (h : -1000000 ≤ i ∧ i ≤ 1000000 ∧ -1000000 ≤ j ∧ j ≤ 1000000) (q : ∀ p H2, H p = none → Same H H2 → (∀ c, H2 c = none → H c = none) → H2 p = some (.lst (rgV i j)) → Q (.ref p) H2) : LrV Q i j H :=
  ⟨⟨by omega, by omega, by omega, by omega, by omega⟩, fun p np => q p _ np (same_upd np) free_upd upd_same⟩
theorem rgV_nat {n m : Nat} : rgV ((n + 1 : Nat) : Int) ((n + m + 1 : Nat) : Int) = natL (List.range' (n + 1) m) := by
  unfold rgV natL
  rw [show (((n + m + 1 : Nat) : Int) - ((n + 1 : Nat) : Int)).toNat = m by omega, List.range'_eq_map_range, List.map_map]
  refine List.map_congr_left fun x _ => ?_
  exact congrArg V.int (show ((n + 1 : Nat) : Int) + (x : Int) = ((n + 1 + x : Nat) : Int) by omega)
theorem rd_sum {ns : List Int} (h : H a = some (.lst (ns.map V.int))) (q : Q (.int ns.sum) H) : rSum K [.ref a] H Q := ⟨a, ns, rfl, SqL.of h, q⟩
end
end Rd

/-! Rd13: expressions that make a token; replace of one written text by another. -/
namespace Rd
open PySem L2
open PyProof.Rows hiding St
/-- e's value, and a token was made by then -/
def PE1 (X : Cx) (e : Expr) (te : TE) : Prop := ∀ (pins : List (Addr × Obj)) (s : Shared) (σ : L2.St) (H : Hp) (Q : VK), Inv X pins σ H s → te σ H Q → wpAny (model X.prog X.w) X.A (eval e X.env) (fun v s' => 1 ≤ s'.toks ∧ EP X pins σ Q v s') X.xe s
theorem toks1 {α : Type} {M : Model} {A : Around} {E : Value → Shared → Prop} {s : Shared} {t : Sem α} {Q : α → Shared → Prop} (h1 : 1 ≤ s.toks) (h : wpAny M A t Q E s) : wpAny M A t (fun a s' => 1 ≤ s'.toks ∧ Q a s') E s :=
  wpAny_mono (wpAny_toks_of h1 h) (fun _ _ h => h) fun _ _ h => h.2
section
variable {X : Cx}
theorem p1_int {i : Int} {j : Nat} {pos : Pos} : PE1 X (.Constant (.int i) j pos) (tC (.int i)) := fun pins s σ H Q I q =>
  wpAny_Constant_int ⟨Nat.le_add_left 1 s.toks, .int i, H, I.tok _, ⟨_, rfl⟩, q⟩
theorem p1_op {op : Operator} {r : R2} {a b : Expr} {ta tb : TE} {pos : Pos} (ho : OpR X (binaryOp op) r) (ha : PE X a ta) (hb : PE1 X b tb) : PE1 X (.BinOp a op b pos) (tOp r ta tb) := by
  intro pins s σ H Q I h
  refine wpAny_BinOp (thn (ha.run pins s σ H _ I h) fun x s1 h1 => ?_)
  obtain ⟨v, H1, I1, rv, q1⟩ := h1
  refine thn (hb pins s1 σ H1 _ I1 q1) fun y s2 h2 => ?_
  obtain ⟨ht, u, H2, I2, ru, q2⟩ := h2
  exact toks1 ht (ho pins s2 σ H2 v u x y Q I2 rv ru q2)
theorem p1_ix {r : R2} {a b : Expr} {ta tb : TE} {pos : Pos} (hi : IxR X r) (ha : PE X a ta) (hb : PE1 X b tb) (hp : PlainIx b) : PE1 X (.Subscript a b pos) (tOp r ta tb) := by
  intro pins s σ H Q I h
  refine Subscript_ (thn (ha.run pins s σ H _ I h) fun x s1 h1 => ?_)
  obtain ⟨v, H1, I1, rv, q1⟩ := h1
  refine thn (hb pins s1 σ H1 _ I1 q1) fun y s2 h2 => ?_
  obtain ⟨ht, u, H2, I2, ru, q2⟩ := h2
  exact toks1 ht (hi a b pins s2 σ H2 v u x y Q I2 rv ru q2 (hp x y))
def IsRp (z : Str) (y : Str) (Q : VK) (v : V) (H1 : Hp) : Prop := ∃ x, v = V.str x ∧ x.length + (x.length + 1) * z.length ≤ 16777216 ∧ Q (.str (Txt.replace x y z)) H1
/-- o.replace(y, z), y and z written -/
def tRepl (to : TE) (y z : Str) : TE := fun σ H Q => to σ H fun v H1 => IsRp z y Q v H1
theorem pe_repl1 {o : Expr} {to : TE} {y z : Str} {j k : Nat} {c0 c1 apos pos : Pos} (ho : PE1 X o to) (hyz : (y == z) = false := by decide +kernel)
    (hs : backTo pos (starEach [Expr.Constant (.str y) j c0, Expr.Constant (.str z) k c1] X.env) = [(false, eval (Expr.Constant (.str y) j c0) X.env), (false, eval (Expr.Constant (.str z) k c1) X.env)] := by rfl)
    (hst : starEach [Expr.Constant (.str y) j c0, Expr.Constant (.str z) k c1] X.env = (false, eval (Expr.Constant (.str y) j c0) X.env) :: starEach [Expr.Constant (.str z) k c1] X.env := by rfl)
    (hst2 : starEach [Expr.Constant (.str z) k c1] X.env = (false, eval (Expr.Constant (.str z) k c1) X.env) :: starEach [] X.env := by rfl)
    (hpl : (backTo pos (starEach [Expr.Constant (.str z) k c1] X.env)).any (·.1) = false := by rfl)
    (hb : attributeBase o "replace" X.env (eval o X.env) = eval o X.env := by rfl) (hl : (apos.endLine == pos.line) = true := by rfl) :
    PE X (.Call (.Attribute o "replace" apos) [.Constant (.str y) j c0, .Constant (.str z) k c1] [] pos) (tRepl to y z) := by
  refine ⟨fun pins s σ H Q I h => ?_⟩
  refine wpAny_Call_method2_late hb hl hs (thn (ho pins s σ H _ I h) fun v s1 h1 => ?_)
  obtain ⟨ht, x, H1, I1, rv, z0, rfl, hz, q⟩ := h1
  obtain ⟨t0, rfl⟩ := rv
  refine ⟨"str", "str.replace", F.plainAttrs_str, F.slot_str_replace, F.type_str_replace, rfl, (fun a e => by cases e), ?_⟩
  rw [← hs]
  refine callWith_method1 ?_ hst hpl
  refine spliced_more (wpAny_Constant_str (spliced_more (wpAny_Constant_str (PySem.Calls.spliced_nil ?_)) hst2)) hst
  show wpAny _ _ (call (.builtin "str.replace") [.str z0 t0, .str y s1.toks, .str z (s1.toks + 1)]) _ _ _
  refine PySem.SC.replace (Nat.ne_of_gt ht) (Nat.succ_ne_zero _) (Nat.ne_of_lt (Nat.lt_succ_self _)) hyz hz fun t' k' => ?_
  exact ⟨.str (Txt.replace z0 y z), H1, I1.tok _, ⟨_, rfl⟩, q⟩
theorem rd_repl {σ : L2.St} {H : Hp} {to : TE} {y z : Str} {Q : VK} (h : to σ H fun v H1 => IsRp z y Q v H1) : tRepl to y z σ H Q := h
theorem rd_isRp {H : Hp} {x y z : Str} {Q : VK} (hl : x.length + (x.length + 1) * z.length ≤ 16777216) (q : Q (.str (Txt.replace x y z)) H) : IsRp z y Q (.str x) H := ⟨x, rfl, hl, q⟩
end
end Rd

/-! Rd14: tuples and lists backwards. -/
namespace Rd
open PySem L2
open PyProof.Rows hiding St
theorem fields_rev {prog : Program} {w : World} {A : Around} {E : Value → Shared → Prop} {s : Shared} {sl : Addr} {a b c : Value} {Q : Value × Value × Value → Shared → Prop}
    (h : s.heap.get? sl = some { cls := .type "slice", data := .fields #[a, b, c] }) (q : Q (a, b, c) s) : wpAny (model prog w) A (Builtin.Slice.sliceFields (.ref sl)) Q E s := by
  obtain ⟨hp, g, d, tk, os⟩ := s
  unfold Builtin.Slice.sliceFields
  wp_walk
  exact q
theorem applied_rev {prog : Program} {w : World} {A : Around} {E : Value → Shared → Prop} {s : Shared} {sl : Addr} {u : Tok} {n : Nat} {Q : Int × Int × Nat → Shared → Prop}
    (h : s.heap.get? sl = some { cls := .type "slice", data := .fields #[.none, .none, .int (-1) u] }) (q : Q ((n : Int) - 1, -1, n) s) : wpAny (model prog w) A (Builtin.Slice.sliceApplied (.ref sl) (pure (n : Int))) Q E s := by
  unfold Builtin.Slice.sliceApplied
  refine wpAny_bind (fields_rev h ?_)
  refine wpAny_bind (slicePart_int ?_)
  show wpAny _ _ (do let start ← Builtin.Slice.slicePartIndex .none; let stop ← Builtin.Slice.slicePartIndex .none; let __do_lift ← pure (n : Int); match Builtin.Slice.sliceAdjust start stop (-1) __do_lift with | (lo, hi) => pure (lo, -1, Builtin.Slice.slicePlaces lo hi (-1))) _ _ _
  refine wpAny_bind (slicePart_none (wpAny_bind (slicePart_none (wpAny_bind (wpAny_pure ?_)))))
  have e : Builtin.Slice.slicePlaces ((n : Int) - 1) (-1) (-1) = n := by
    unfold Builtin.Slice.slicePlaces
    rw [if_neg (by decide)]
    by_cases h : n = 0
    · subst h; rfl
    · rw [if_pos (by omega)]
      have : ((n : Int) - 1 - -1 - 1) / - -1 + 1 = n := by
        rw [show - -(1 : Int) = 1 by decide, Int.ediv_one]
        omega
      rw [this]; simp
  show wpAny _ _ (pure ((n : Int) - 1, -1, Builtin.Slice.slicePlaces ((n : Int) - 1) (-1) (-1))) _ _ _
  rw [e]
  exact wpAny_pure q
theorem fm_congr {α β : Type} {f g : α → Option β} : ∀ {l : List α}, (∀ x ∈ l, f x = g x) → l.filterMap f = l.filterMap g
  | [], _ => rfl
  | x :: l, h => by rw [List.filterMap_cons, List.filterMap_cons, h x (List.mem_cons_self ..), fm_congr fun y hy => h y (List.mem_cons_of_mem x hy)]
theorem rev_take (items : Array Value) (m : Nat) (hm : m ≤ items.size) : (List.range m).filterMap (fun k : Nat => items[items.size - 1 - k]?) = (items.toList.drop (items.size - m)).reverse := by
  induction m with
  | zero => rw [Nat.sub_zero, List.drop_eq_nil_of_le (by simp)]; rfl
  | succ m ih =>
    have hb : items.size - 1 - m < items.size := by omega
    rw [List.range_succ, List.filterMap_append, ih (by omega)]
    have e : items.toList.drop (items.size - (m + 1)) = items[items.size - 1 - m] :: items.toList.drop (items.size - m) := by
      have h1 : items.size - (m + 1) < items.toList.length := by simp; omega
      rw [List.drop_eq_getElem_cons h1]
      congr 1
      · simp only [Array.getElem_toList]
        congr 1
        omega
      · congr 1
        omega
    rw [e, List.reverse_cons]
    congr 1
    rw [List.filterMap_cons, Array.getElem?_eq_getElem hb]
    rfl
theorem rev_pick (items : Array Value) : (List.filterMap (fun k : Nat => items[((items.size : Int) - 1 + (k : Int) * -1).toNat]?) (List.range items.size)) = items.toList.reverse := by
  have h := rev_take items items.size (Nat.le_refl _)
  rw [Nat.sub_self, List.drop_zero] at h
  rw [← h]
  refine fm_congr fun k hk => ?_
  have := List.mem_range.mp hk
  rw [show ((items.size : Int) - 1 + (k : Int) * -1).toNat = items.size - 1 - k by omega]
theorem pick_tail (items : Array Value) : slicePick items none (some 0) (some (-1)) = (items.toList.drop 1).reverse.toArray := by
  unfold slicePick
  congr 1
  by_cases h0 : items.size = 0
  · have : items = #[] := Array.size_eq_zero_iff.mp h0
    subst this
    rfl
  · have e : sliceBounds none (some 0) (some (-1)) items.size = ((items.size : Int) - 1, 0, -1) := by
      unfold sliceBounds
      simp
      omega
    rw [e]
    have e2 : sliceRange ((items.size : Int) - 1) 0 (-1) = (List.range (items.size - 1)).map fun k => items.size - 1 - k := by
      unfold sliceRange
      have hc : (if (-1 : Int) > 0 then if ((items.size : Int) - 1) < 0 then (0 - ((items.size : Int) - 1) + -1 - 1) / -1 else 0 else if ((items.size : Int) - 1) > 0 then (((items.size : Int) - 1) - 0 - -1 - 1) / - -1 else 0).toNat = items.size - 1 := by
        rw [if_neg (by decide)]
        by_cases h1 : (items.size : Int) - 1 > 0
        · rw [if_pos h1, show - -(1 : Int) = 1 by decide, Int.ediv_one]
          omega
        · rw [if_neg h1]
          simp
          omega
      show List.map _ (List.range _) = _
      rw [hc]
      refine List.map_congr_left fun k hk => ?_
      have := List.mem_range.mp hk
      omega
    show List.filterMap _ (sliceRange ((items.size : Int) - 1) 0 (-1)) = _
    rw [e2, List.filterMap_map]
    have h := rev_take items (items.size - 1) (by omega)
    rw [show items.size - (items.size - 1) = 1 by omega] at h
    exact h
theorem rev_meets (dc : Option Addr) (os : Array (Option Value)) (t sl : Addr) (items : Array Value) (n : Nat) (u : Tok) (hz : items.size ≤ sizeLine) :
    Meets (Builtin.«tuple.__getitem__» ⟨[.ref t, .ref sl], []⟩) (fun _ R s => s.heap.get? t = some { cls := .type "tuple", dict := dc, data := .seq items n, slots := os } ∧ s.heap.get? sl = some { cls := .type "slice", data := .fields #[.none, .none, .int (-1) u] } ∧
      R (.ok (.ret (.ref s.heap.objs.size))) { s with heap := s.heap.push { cls := .type "tuple", data := .seq items.toList.reverse.toArray } }) :=
  .of_wp fun prog w A R s h => by
    obtain ⟨hp, g, d, tk, os⟩ := s
    obtain ⟨h1, h2, h⟩ := h
    have q1 : ∀ {A' : Around} {E : Value → Shared → Prop} {Q : Int × Int × Nat → Shared → Prop}, Q ((items.size : Int) - 1, -1, items.size) ⟨hp, g, d, tk, os⟩ → wpAny (model prog w) A' (Builtin.Slice.sliceApplied (.ref sl) (pure (items.size : Int))) Q E ⟨hp, g, d, tk, os⟩ := fun q => applied_rev h2 q
    unfold Builtin.«tuple.__getitem__»
    wp_walk using q1
    rw [rev_pick, if_neg (by simp; exact hz)]
    wp_walk
    exact ⟨_, rfl, h⟩
/-- t[::-1] -/
theorem getItem_rev {prog : Program} {w : World} {A : Around} {E : Value → Shared → Prop} {s : Shared} {t sl : Addr} {items : Array Value} {u : Tok} {Q : Value → Shared → Prop} (ht : IsTup s.heap t items)
    (hs : s.heap.get? sl = some { cls := .type "slice", data := .fields #[.none, .none, .int (-1) u] }) (hz : items.size ≤ sizeLine) (q : Q (.ref s.heap.objs.size) { s with heap := s.heap.push { cls := .type "tuple", data := .seq items.toList.reverse.toArray } }) :
    wpAny (model prog w) A (getItem (.ref t) (.ref sl)) Q E s := by
  have ty := ht.typeIs
  obtain ⟨o, ho, hc, n, hd⟩ := ht
  obtain ⟨cl, dc, da, os⟩ := o
  simp only at hc hd
  subst hc; subst hd
  exact wpAny_getItem_slot ty (by decide) F.slot_tuple_getitem (call_meets F.slot_tuple_getitem ty F.entry_tuple_getitem (F.args_tuple_getitem_2 _ _) (rev_meets dc os t sl items n u hz) ⟨ho, hs, q⟩)
section
variable {X : Cx} {e m1 : Expr} {te : TE}
def IsTr (K : PySem.W.Frag) (Q : VK) (x : V) (H1 : Hp) : Prop := ∃ a xs, x = .ref a ∧ SqT K H1 a xs ∧ ∀ p, H1 p = none → Q (.ref p) (upd H1 p (.tup xs.reverse))
def tRvT (K : PySem.W.Frag) (te : TE) : TE := fun σ H Q => te σ H fun x H1 => IsTr K Q x H1
theorem pe_rvT {p1 p2 pos pos' : Pos} {j : Nat} (he : PE X e te) (hlt : ∀ o r : Value, letTemporaryGo e o r = pure () := by intros; rfl) : PE X (.Subscript e (.Slice none none (some (.UnaryOp .USub (.Constant (.int 1) j p1) p2)) pos') pos) (tRvT X.K te) := by
  have hst : PE X (.UnaryOp .USub (.Constant (.int 1) j p1) p2) (tC (.int (-1))) := ⟨fun pins s σ H Q I q => (pe_un un_neg pe_int).run pins s σ H Q I ⟨1, rfl, q⟩⟩
  refine ⟨fun pins s σ H Q I h => ?_⟩
  refine wpAny_Subscript_Slice_step (T := "tuple") F.slot_tuple_getitem.lookup (thn (he.run pins s σ H _ I h) fun x s1 h1 => ?_) hlt
  obtain ⟨v, H1, I1, rv, a, xs, rfl, hq, q⟩ := h1
  cases rv
  refine wpAny_Slice (wpAny_pure (wpAny_pure ?_))
  rw [evalPart_some]
  refine thn (hst.run pins s1 σ H1 (fun v H2 => v = .int (-1) ∧ H2 = H1) I1 ⟨rfl, rfl⟩) fun u s2 h2 => ?_
  obtain ⟨v2, H2, I2, rv2, rfl, rfl⟩ := h2
  obtain ⟨tk, rfl⟩ := rv2
  obtain ⟨its, rvs, pl, hsz⟩ := I2.tuple hq
  have k3 : ∀ b o, s2.heap.get? b = some o → (s2.heap.push { cls := .type "slice", data := .fields #[.none, .none, .int (-1) tk] }).get? b = some o := fun b o e => Heap.get?_push_of_some _ e
  have hsz' : its.toArray.size ≤ sizeLine := by simp only [List.size_toArray]; rw [← Vals.length rvs]; exact hsz
  have pl3 : IsTup (s2.heap.push { cls := .type "slice", data := .fields #[.none, .none, .int (-1) tk] }) a its.toArray := pl.push _
  refine ⟨pl3.typeIs, ?_⟩
  refine getItem_rev pl3 (Heap.get?_push_size _ rfl) hsz' ?_
  have I3 : Inv X pins σ H2 { s2 with heap := s2.heap.push { cls := .type "slice", data := .fields #[.none, .none, .int (-1) tk] } } := I2.kept k3
  have np := I3.hok.fresh (Nat.le_refl _)
  refine ⟨.ref _, _, I3.laid (o := .tup xs.reverse) (t' := s2.toks) (fun b o e => Heap.get?_push_of_some _ e) (Nat.le_refl _) ⟨by rw [List.length_reverse]; exact hsz, its.reverse, rvs.reverse, ⟨_, Heap.get?_push_size _ rfl, rfl, 0, by simp⟩⟩, rfl, q _ np⟩
def IsLr (K : PySem.W.Frag) (Q : VK) (x : V) (H1 : Hp) : Prop := ∃ a xs, x = .ref a ∧ SqL K H1 a xs ∧ ∀ p, H1 p = none → Q (.ref p) (upd H1 p (.lst (xs.drop 1).reverse))
/-- xs[:0:-1] -/
def tRvL (K : PySem.W.Frag) (te : TE) : TE := fun σ H Q => te σ H fun x H1 => IsLr K Q x H1
theorem pe_rvL {p0 p1 p2 pos pos' : Pos} {i j : Nat} (he : PE X e te) (hlt : ∀ o r : Value, letTemporaryGo e o r = pure () := by intros; rfl) : PE X (.Subscript e (.Slice none (some (.Constant (.int 0) i p0)) (some (.UnaryOp .USub (.Constant (.int 1) j p1) p2)) pos') pos) (tRvL X.K te) := by
  have hst : PE X (.UnaryOp .USub (.Constant (.int 1) j p1) p2) (tC (.int (-1))) := ⟨fun pins s σ H Q I q => (pe_un un_neg pe_int).run pins s σ H Q I ⟨1, rfl, q⟩⟩
  refine ⟨fun pins s σ H Q I h => ?_⟩
  refine wpAny_Subscript_Slice_step (T := "list") F.slot_list_getitem.lookup (thn (he.run pins s σ H _ I h) fun x s1 h1 => ?_) hlt
  obtain ⟨v, H1, I1, rv, a, xs, rfl, hq, q⟩ := h1
  cases rv
  refine wpAny_Slice (wpAny_pure ?_)
  rw [evalPart_some]
  refine wpAny_Constant_int ?_
  rw [evalPart_some]
  refine thn (hst.run pins _ σ H1 (fun v H2 => v = .int (-1) ∧ H2 = H1) (I1.tok _) ⟨rfl, rfl⟩) fun u s2 h2 => ?_
  obtain ⟨v2, H2, I2, rv2, rfl, rfl⟩ := h2
  obtain ⟨tk, rfl⟩ := rv2
  obtain ⟨its, rvs, pl, hsz⟩ := I2.list hq
  have hsz' : its.toArray.size ≤ sizeLine := by simp only [List.size_toArray]; rw [← Vals.length rvs]; exact hsz
  have k3 : ∀ b o, s2.heap.get? b = some o → (s2.heap.push { cls := .type "slice", data := .fields #[.none, .int 0 s1.toks, .int (-1) tk] }).get? b = some o := fun b o e => Heap.get?_push_of_some _ e
  have pl3 : (s2.heap.push { cls := .type "slice", data := .fields #[.none, .int 0 s1.toks, .int (-1) tk] }).IsList a its.toArray := pl.isList.push _
  refine ⟨pl3.typeIs, ?_⟩
  refine wpAny_getItem_list_slice pl3 ⟨_, Heap.get?_push_size _ rfl, rfl, rfl⟩ .none (.int 0 _) (.int (-1) _) (by decide) ?_ hsz'
  rw [pick_tail]
  have I3 : Inv X pins σ H2 { s2 with heap := s2.heap.push { cls := .type "slice", data := .fields #[.none, .int 0 s1.toks, .int (-1) tk] } } := I2.kept k3
  have np := I3.hok.fresh (Nat.le_refl _)
  have rv3 : Vals (xs.drop 1).reverse (its.drop 1).reverse := by
    refine Vals.reverse ?_
    cases rvs with
    | nil => exact .nil
    | cons _ r => exact r
  refine ⟨.ref _, _, I3.laid (o := .lst (xs.drop 1).reverse) (t' := s2.toks) (fun b o e => Heap.get?_push_of_some _ e) (Nat.le_refl _) ⟨by rw [List.length_reverse, List.length_drop]; omega, (its.drop 1).reverse, 0, rv3, Heap.get?_push_size _ rfl⟩, rfl, q _ np⟩
end
section
variable {K : PySem.W.Frag} {σ : L2.St} {H : Hp} {te : TE} {Q : VK} {a : Addr} {xs : List V}
theorem rd_rvT (h : te σ H fun x H1 => IsTr K Q x H1) : tRvT K te σ H Q := h
theorem rd_rvL (h : te σ H fun x H1 => IsLr K Q x H1) : tRvL K te σ H Q := h
theorem rd_isTr (h : H a = some (.tup xs)) (q : ∀ p H2, H p = none → Same H H2 → (∀ c, H2 c = none → H c = none) → H2 p = some (.tup xs.reverse) → Q (.ref p) H2) : IsTr K Q (.ref a) H := ⟨a, xs, rfl, SqT.of h, fun p np => q p _ np (same_upd np) free_upd upd_same⟩
theorem rd_isLr (h : H a = some (.lst xs)) (q : ∀ p H2, H p = none → Same H H2 → (∀ c, H2 c = none → H c = none) → H2 p = some (.lst (xs.drop 1).reverse) → Q (.ref p) H2) : IsLr K Q (.ref a) H := ⟨a, xs, rfl, SqL.of h, fun p np => q p _ np (same_upd np) free_upd upd_same⟩
end
end Rd

local macro_rules | `(tactic| walk_at "rd1") => `(tactic| first
  | (with_reducible refine' Rd.rd_seq ?_)
  | (with_reducible refine' Rd.rd_asg ?_)
  | (with_reducible refine' Rd.rd_op ?_)
  | (with_reducible refine' Rd.rd_v0 ?_) | (with_reducible refine' Rd.rd_v1 ?_) | (with_reducible refine' Rd.rd_v2 ?_) | (with_reducible refine' Rd.rd_v3 ?_) | (with_reducible refine' Rd.rd_v4 ?_) | (with_reducible refine' Rd.rd_v5 ?_) | (with_reducible refine' Rd.rd_v6 ?_) | (with_reducible refine' Rd.rd_v7 ?_) | (with_reducible refine' Rd.rd_v8 ?_) | (with_reducible refine' Rd.rd_v9 ?_) | (with_reducible refine' Rd.rd_v10 ?_) | (with_reducible refine' Rd.rd_v11 ?_) | (with_reducible refine' Rd.rd_v12 ?_)
  | (with_reducible refine' Rd.rd_c ?_)
  | (with_reducible refine' Rd.rd_g0 ?_) | (with_reducible refine' Rd.rd_g1 ?_) | (with_reducible refine' Rd.rd_g2 ?_) | (with_reducible refine' Rd.rd_g3 ?_) | (with_reducible refine' Rd.rd_g4 ?_) | (with_reducible refine' Rd.rd_g5 ?_) | (with_reducible refine' Rd.rd_g6 ?_) | (with_reducible refine' Rd.rd_g7 ?_) | (with_reducible refine' Rd.rd_g8 ?_) | (with_reducible refine' Rd.rd_g9 ?_) | (with_reducible refine' Rd.rd_g10 ?_) | (with_reducible refine' Rd.rd_g11 ?_) | (with_reducible refine' Rd.rd_g12 ?_)
  | (with_reducible refine' Rd.rd_test ?_) | (with_reducible refine' Rd.rd_B ?_) | (with_reducible refine' Rd.rd_bl ?_)
  | (with_reducible refine' Rd.rd_un ?_) | (with_reducible refine' Rd.rd_U ?_)
  | (with_reducible refine' Rd.rd_not ?_) | (with_reducible refine' Rd.rd_and ?_) | (with_reducible refine' Rd.rd_or ?_)
  | (with_reducible refine' Rd.rd_if ?_) | (with_reducible refine' Rd.rd_ifS ?_)
  | (with_reducible refine' Rd.rd_nil ?_) | (with_reducible refine' Rd.rd_cons ?_)
  | (with_reducible refine' Rd.rd_ret ?_) | (with_reducible refine' Rd.rd_retN ?_) | (with_reducible refine' Rd.rd_next ?_) | (with_reducible refine' Rd.rd_drop ?_) | (with_reducible refine' Rd.rd_cont ?_) | (with_reducible refine' Rd.rd_break ?_)
  | (with_reducible refine' Rd.rd_andV ?_) | (with_reducible refine' Rd.rd_orV ?_) | (with_reducible refine' Rd.rd_notV ?_)
  | (with_reducible refine' Rd.rd_chain ?_)
  | (with_reducible refine' Rd.rd_tup ?_) | (with_reducible refine' Rd.rd_lst ?_) | (with_reducible refine' Rd.rd_call ?_) | (with_reducible refine' Rd.rd_cb ?_) | (with_reducible refine' Rd.rd_bm ?_)
  | (with_reducible refine' Rd.rd_add ?_) | (with_reducible refine' Rd.rd_I0 ?_) | (with_reducible refine' Rd.rd_eqI ?_) | (with_reducible refine' Rd.rd_neI ?_) | (with_reducible refine' Rd.rd_eqS ?_) | (with_reducible refine' Rd.rd_neS ?_)
  | (with_reducible refine' Rd.rd_isi_int_int ?_) | (with_reducible refine' Rd.rd_isi_int_bool ?_) | (with_reducible refine' Rd.rd_isi_int_str ?_) | (with_reducible refine' Rd.rd_isi_int_tuple ?_) | (with_reducible refine' Rd.rd_isi_NoneType_int ?_) | (with_reducible refine' Rd.rd_isi_NoneType_bool ?_) | (with_reducible refine' Rd.rd_isi_NoneType_tuple ?_) | (with_reducible refine' Rd.rd_isi_NoneType_str ?_) | (with_reducible refine' Rd.rd_isi_str_str ?_) | (with_reducible refine' Rd.rd_isi_str_tuple ?_)
  | ((with_reducible refine' Rd.rd_isi_tuple_tuple ?h ?_); (case h => assumption))
  | ((with_reducible refine' Rd.rd_isi_tuple_str ?h ?_); (case h => assumption))
  | (with_reducible refine' Rd.rd_lc ?_) | (with_reducible refine' Rd.rd_iStr ?_) | (with_reducible refine' Rd.rd_isS ?_) | (with_reducible refine' Rd.rd_inSg ?_) | (with_reducible refine' Rd.rd_niSg ?_)
  | (with_reducible refine' Rd.rd_iTup ?_) | (with_reducible refine' Rd.rd_iList ?_)
  | ((with_reducible refine' Rd.rd_isT ?h ?_); (case h => assumption)) | ((with_reducible refine' Rd.rd_isL ?h ?_); (case h => assumption))
  | (with_reducible refine' Rd.rd_iRng1 ?_) | (with_reducible refine' Rd.rd_iRng2 ?_) | (with_reducible refine' Rd.rd_iZip ?_)
  | ((with_reducible refine' Rd.rd_zT ?h ?k ?_); (case h => assumption); (case k => assumption)) | ((with_reducible refine' Rd.rd_zL ?h ?k ?_); (case h => assumption); (case k => assumption))
  | (with_reducible refine' Rd.rd_raise ?_) | (with_reducible refine' Rd.rd_rvT ?_) | (with_reducible refine' Rd.rd_rvL ?_) | (with_reducible refine' Rd.rd_repl ?_) | (with_reducible refine' Rd.rd_listRg ?_) | (with_reducible refine' Rd.rd_tRg2 ?_) | (with_reducible refine' Rd.rd_isII ?_) | (with_reducible refine' Rd.rd_tryO ?_) | (with_reducible refine' Rd.rd_tErr ?_) | (with_reducible refine' Rd.rd_ost ?_) | (with_reducible refine' Rd.rd_callS ?_)
  | (with_reducible refine' Rd.rd_for ?_) | (with_reducible refine' Rd.rd_iEnum ?_) | (with_reducible refine' Rd.rd_iEnumS ?_)
  | ((with_reducible refine' Rd.rd_e1T ?h ?_); (case h => assumption)) | ((with_reducible refine' Rd.rd_e1L ?h ?_); (case h => assumption))
  | (with_reducible refine' Rd.rd_sl ?_) | (with_reducible refine' Rd.rd_part ?_) | (with_reducible refine' Rd.rd_noPart ?_) | (with_reducible refine' Rd.rd_isI ?_)
  | (with_reducible refine' Rd.rd_endswith ?_) | (with_reducible refine' Rd.rd_count ?_)
  | (with_reducible refine' Rd.rd_joined ?_) | (with_reducible refine' Rd.rd_jnil ?_) | (with_reducible refine' Rd.rd_jcons ?_) | (with_reducible refine' Rd.rd_fmt ?_) | (with_reducible refine' Rd.rd_star ?_)
  | ((with_reducible refine' Rd.rd_starVL ?h ?_); (case h => assumption)) | ((with_reducible refine' Rd.rd_starVT ?h ?_); (case h => assumption))
  | (with_reducible refine' Rd.rd_isNn ?_) | (with_reducible refine' Rd.rd_isNr ?_) | (with_reducible refine' Rd.rd_isNi ?_) | (with_reducible refine' Rd.rd_isNs ?_) | (with_reducible refine' Rd.rd_isNb ?_)
  | (with_reducible refine' Rd.rd_noNn ?_) | (with_reducible refine' Rd.rd_noNr ?_) | (with_reducible refine' Rd.rd_noNi ?_) | (with_reducible refine' Rd.rd_noNs ?_) | (with_reducible refine' Rd.rd_noNb ?_)
  | (with_reducible refine' Rd.rd_p18 ?_)
  | ((with_reducible refine' Rd.rd_mod ?h ?_); (case h => (first | omega | assumption)))
  | ((with_reducible refine' Rd.rd_div ?h ?k ?_); (case h => (first | omega | assumption)); (case k => (first | omega | assumption)))
  | ((with_reducible refine' Rd.rd_ixL0 ?h ?_); (case h => assumption)) | ((with_reducible refine' Rd.rd_ixL1 ?h ?_); (case h => assumption))
  | ((with_reducible refine' Rd.rd_ixT0 ?h ?_); (case h => assumption)) | ((with_reducible refine' Rd.rd_ixT1 ?h ?_); (case h => assumption)) | ((with_reducible refine' Rd.rd_ixT2 ?h ?_); (case h => assumption))
  | ((with_reducible refine' Rd.rd_lenL ?h ?_); (case h => assumption))
  | ((with_reducible refine' Rd.rd_lenT ?h ?_); (case h => assumption))
  | ((with_reducible refine' Rd.rd_bmL ?h ?k ?_); (case h => assumption); (case k => rfl))
  | ((with_reducible refine' Rd.rd_bmS ?k ?_); (case k => rfl))
  | (with_reducible refine' Rd.rd_sub_ ?_)
  | ((with_reducible refine' Rd.rd_gtup ?h ?k ?_); (case h => assumption); (case k => rfl))
  | (with_reducible refine' Rd.rd_gcons ?_) | (with_reducible refine' Rd.rd_gnil ?_)
  | (with_reducible refine' Rd.rd_par ?_) | (with_reducible refine' Rd.rd_par2 ?_) | (with_reducible refine' Rd.rd_par3 ?_) | (with_reducible refine' Rd.rd_par33 ?_) | (with_reducible refine' Rd.rd_abs ?_)
  | (with_reducible refine' Rd.rd_wT ?_) | (with_reducible refine' Rd.rd_wE ?_) | (with_reducible refine' Rd.rd_yes ?_)
  | (dsimp only [Rd.wipe_c, Rd.wipe_n, List.map, List.set])
  | (with_reducible refine' L2.iteT ?_) | (with_reducible refine' L2.iteF ?_) | (with_reducible refine' Rd.rd_iteNF ?_) | (with_reducible refine' Rd.rd_iteNT ?_)
  | ((with_reducible refine' Rd.rd_decT ?h ?_); (case h => (first | omega | assumption)))
  | ((with_reducible refine' Rd.rd_decF ?h ?_); (case h => (first | omega | assumption)))
  | ((with_reducible refine' Rd.rd_ndecT ?h ?_); (case h => (first | omega | assumption)))
  | ((with_reducible refine' Rd.rd_ndecF ?h ?_); (case h => (first | omega | assumption))))
local macro_rules | `(tactic| walk_at "rd") => `(tactic| repeat (walk_at "rd1"))

namespace Pf
open PySem L2 Rd
open PyProof.Rows hiding St
def top (i : Nat) : Stmt := PySem.Challenge.pw_tracklifts_k63_whole_texts_there_and_bac.main.body.getD i (.Pass ⟨0, 0, 0, 0⟩)
abbrev s_TooLarge___init__ : Stmt := inClass (top 5) 0
abbrev s_BadText___init__ : Stmt := inClass (top 6) 0
abbrev s_is_number : Stmt := top 8
abbrev s_tree_error : Stmt := top 9
abbrev s_is_tree : Stmt := top 10
abbrev s_is_station : Stmt := top 11
abbrev s_way_of : Stmt := top 12
abbrev s_hung : Stmt := top 13
abbrev s_is_piece : Stmt := top 15
abbrev s_joined : Stmt := top 16
abbrev s_parse_number : Stmt := top 22
abbrev s_tree_text : Stmt := top 23
abbrev s_piece_text : Stmt := top 24
abbrev s_task_text : Stmt := top 25
abbrev s_parse_tree : Stmt := top 26
abbrev s_parse_piece : Stmt := top 27
abbrev s_parse_task : Stmt := top 28
abbrev s_Ldeck : Stmt := top 30
abbrev s_Ldraw : Stmt := top 31
abbrev s_Ltree : Stmt := top 32
abbrev s_Lway : Stmt := top 33
abbrev s_Lpiece : Stmt := top 34
abbrev s_Lpieces : Stmt := top 35
abbrev s_Lsame : Stmt := top 36
abbrev s_Ltask : Stmt := top 37
abbrev s_Lbent : Stmt := top 38
abbrev s_Laccepted_right : Stmt := top 39
abbrev s_Lwords_right : Stmt := top 40
abbrev s_law : Stmt := top 41
structure Txt (K : PySem.W.Frag) (mg : Str → Option Value) : Prop where
  f_is_number : ∃ f fd, FnP K "is_number" "is_number" s_is_number f fd ∧ mg "is_number" = some (.ref f)
  f_tree_error : ∃ f fd, FnP K "tree_error" "tree_error" s_tree_error f fd ∧ mg "tree_error" = some (.ref f)
  f_is_tree : ∃ f fd, FnP K "is_tree" "is_tree" s_is_tree f fd ∧ mg "is_tree" = some (.ref f)
  f_is_station : ∃ f fd, FnP K "is_station" "is_station" s_is_station f fd ∧ mg "is_station" = some (.ref f)
  f_way_of : ∃ f fd, FnP K "way_of" "way_of" s_way_of f fd ∧ mg "way_of" = some (.ref f)
  f_hung : ∃ f fd, FnP K "hung" "hung" s_hung f fd ∧ mg "hung" = some (.ref f)
  f_is_piece : ∃ f fd, FnP K "is_piece" "is_piece" s_is_piece f fd ∧ mg "is_piece" = some (.ref f)
  f_joined : ∃ f fd, FunD K "joined" "joined" (defArgs s_joined) (defBody s_joined) (defScope s_joined) [] [("later", .int 0)] f fd ∧ mg "joined" = some (.ref f)
  f_parse_number : ∃ f fd, FnP K "parse_number" "parse_number" s_parse_number f fd ∧ mg "parse_number" = some (.ref f)
  f_tree_text : ∃ f fd, FnP K "tree_text" "tree_text" s_tree_text f fd ∧ mg "tree_text" = some (.ref f)
  f_piece_text : ∃ f fd, FnP K "piece_text" "piece_text" s_piece_text f fd ∧ mg "piece_text" = some (.ref f)
  f_task_text : ∃ f fd, FnP K "task_text" "task_text" s_task_text f fd ∧ mg "task_text" = some (.ref f)
  f_parse_tree : ∃ f fd, FnP K "parse_tree" "parse_tree" s_parse_tree f fd ∧ mg "parse_tree" = some (.ref f)
  f_parse_piece : ∃ f fd, FnP K "parse_piece" "parse_piece" s_parse_piece f fd ∧ mg "parse_piece" = some (.ref f)
  f_parse_task : ∃ f fd, FnP K "parse_task" "parse_task" s_parse_task f fd ∧ mg "parse_task" = some (.ref f)
  f_Ldeck : ∃ f fd, FnP K "_law_deck" "_law_deck" s_Ldeck f fd ∧ mg "_law_deck" = some (.ref f)
  f_Ldraw : ∃ f fd, FnP K "_law_draw" "_law_draw" s_Ldraw f fd ∧ mg "_law_draw" = some (.ref f)
  f_Ltree : ∃ f fd, FnP K "_law_tree" "_law_tree" s_Ltree f fd ∧ mg "_law_tree" = some (.ref f)
  f_Lway : ∃ f fd, FnP K "_law_way" "_law_way" s_Lway f fd ∧ mg "_law_way" = some (.ref f)
  f_Lpiece : ∃ f fd, FnP K "_law_piece" "_law_piece" s_Lpiece f fd ∧ mg "_law_piece" = some (.ref f)
  f_Lpieces : ∃ f fd, FnP K "_law_pieces" "_law_pieces" s_Lpieces f fd ∧ mg "_law_pieces" = some (.ref f)
  f_Lsame : ∃ f fd, FnP K "_law_same" "_law_same" s_Lsame f fd ∧ mg "_law_same" = some (.ref f)
  f_Ltask : ∃ f fd, FnP K "_law_task" "_law_task" s_Ltask f fd ∧ mg "_law_task" = some (.ref f)
  f_Lbent : ∃ f fd, FnP K "_law_bent" "_law_bent" s_Lbent f fd ∧ mg "_law_bent" = some (.ref f)
  f_Laccepted_right : ∃ f fd, FnP K "_law_accepted_right" "_law_accepted_right" s_Laccepted_right f fd ∧ mg "_law_accepted_right" = some (.ref f)
  f_Lwords_right : ∃ f fd, FnP K "_law_words_right" "_law_words_right" s_Lwords_right f fd ∧ mg "_law_words_right" = some (.ref f)
  e_TooLarge : ErC K mg "TooLarge" "bound"
  i_TooLarge : ∃ fd, FnP K "__init__" "TooLarge.__init__" s_TooLarge___init__ (He.ma K (He.ga K "TooLarge") "__init__") fd
  e_BadText : ErC K mg "BadText" "index"
  i_BadText : ∃ fd, FnP K "__init__" "BadText.__init__" s_BadText___init__ (He.ma K (He.ga K "BadText") "__init__") fd
  x_TooLarge_TooLarge : PySem.W.exmOne K (.ref (He.ga K "TooLarge")) (.ref (He.ga K "TooLarge")) = some true
  x_TooLarge_LiftError : PySem.W.exmOne K (.ref (He.ga K "TooLarge")) (.ref (He.ga K "LiftError")) = some true
  x_BadText_BadText : PySem.W.exmOne K (.ref (He.ga K "BadText")) (.ref (He.ga K "BadText")) = some true
  x_BadText_LiftError : PySem.W.exmOne K (.ref (He.ga K "BadText")) (.ref (He.ga K "LiftError")) = some true
  g_LiftError : mg "LiftError" = some (.ref (He.ga K "LiftError"))
  g_TooLarge : mg "TooLarge" = some (.ref (He.ga K "TooLarge"))
  g_BadText : mg "BadText" = some (.ref (He.ga K "BadText"))
  b_ValueError : mg "ValueError" = none
  b_abs : mg "abs" = none
  b_all : mg "all" = none
  b_bool : mg "bool" = none
  b_enumerate : mg "enumerate" = none
  b_int : mg "int" = none
  b_isinstance : mg "isinstance" = none
  b_len : mg "len" = none
  b_list : mg "list" = none
  b_range : mg "range" = none
  b_str : mg "str" = none
  b_sum : mg "sum" = none
  b_tuple : mg "tuple" = none
  b_zip : mg "zip" = none
  c_MAX_STATIONS : ∃ t, mg "MAX_STATIONS" = some (.int 10 t)
  c_MAX_PIECES : ∃ t, mg "MAX_PIECES" = some (.int 16 t)
  c_MAX_TICK : ∃ t, mg "MAX_TICK" = some (.int 1000 t)
  c_FIGURES : ∃ t, mg "FIGURES" = some (.str "0123456789" t)
  c_LONGEST : ∃ t, mg "LONGEST" = some (.int 10 t)
  c_ALONE : ∃ t, mg "ALONE" = some (.str "yard" t)
  c_BEHIND : ∃ t, mg "BEHIND" = some (.str ";" t)
section
variable {P : Program} {w : World} {K : PySem.W.Frag} {mg : Str → Option Value} {base : Heap}
/-! ### numbers -/
def numB : V → Int → Int → Bool
  | .int i, lo, hi => decide (lo ≤ i) && decide (i ≤ hi)
  | _, _, _ => false
def N_is_number : List Str := [("value" : Str), ("low" : Str), ("high" : Str)]
theorem sc_is_number : FnScope N_is_number ["value", "low", "high"] (defScope s_is_number) := ⟨rfl, rfl, rfl, by decide +kernel, rfl, by decide +kernel, by decide +kernel⟩
def sp_is_number : Sp := fun vs H Q _ => ∃ (v : V) (lo hi : Int), vs = [v, .int lo, .int hi] ∧ (v = .non ∨ ∃ i, v = .int i) ∧ Q (.bl (numB v lo hi)) H
theorem dc_is_number (T : Txt K mg) : Dc P w K mg base CX0 "is_number" 1 ["value", "low", "high"] sp_is_number := by
  refine dc_of0 T.f_is_number (fun F => FunD.bindsN F fun _ _ _ _ _ _ us hl => match us, hl with | [_, _, _], _ => rfl) sc_is_number (fun vs H Q E h => ?_) (fun f cdv A outer s H vs Q E hr h => ?_)
  · obtain ⟨v, lo, hi, rfl, _⟩ := h; rfl
  · obtain ⟨v, lo, hi, rfl, hv, q⟩ := h
    refine ⟨_, (pss_one (ps_ret (pe_and (pe_callB (show CallR _ _ (rIsiU K) from u_isi) (by rfl) T.b_isinstance Rd.boot_isinstance (pa_cons (pv 0) (pa_cons (pe_bltn (v := .ty "int") (by rfl) T.b_int Rd.boot_int rfl) pa_nil))) (pe_and (pe_not (pe_callB (show CallR _ _ (rIsiU K) from u_isi) (by rfl) T.b_isinstance Rd.boot_isinstance (pa_cons (pv 0) (pa_cons (pe_bltn (v := .ty "bool") (by rfl) T.b_bool Rd.boot_bool rfl) pa_nil)))) (pe_one (pe_chain op_le op_le (pv 1) (pv 0) (pv 2))))))), ?_⟩
    refine Rd.rd_start (σ' := [some (v), some (V.int lo), some (V.int hi)]) rfl ?_
    rcases hv with rfl | ⟨i, rfl⟩
    · walk_at "rd"
      exact q
    · walk_at "rd"
      have q' : Q (.bl (decide (lo ≤ i) && decide (i ≤ hi))) H := q
      by_cases h1 : lo ≤ i
      · rw [decide_eq_true h1] at q'
        walk_at "rd"
        exact q'
      · rw [decide_eq_false h1] at q'
        walk_at "rd"
        exact q'

def N_is_station : List Str := [("tree" : Str), ("value" : Str)]
theorem sc_is_station : FnScope N_is_station ["tree", "value"] (defScope s_is_station) := ⟨rfl, rfl, rfl, by decide +kernel, rfl, by decide +kernel, by decide +kernel⟩
def sp_is_station : Sp := fun vs H Q _ => ∃ (a : Addr) (t : List Nat) (v : V), vs = [.ref a, v] ∧ H a = some (.tup (natL t)) ∧ (v = .non ∨ ∃ i, v = .int i) ∧ Q (.bl (numB v 0 t.length)) H
theorem dc_is_station (T : Txt K mg) : Dc P w K mg base CX0 "is_station" 2 ["tree", "value"] sp_is_station := by
  refine dc_of0 T.f_is_station (fun F => FunD.bindsN F fun _ _ _ _ _ _ us hl => match us, hl with | [_, _], _ => rfl) sc_is_station (fun vs H Q E h => ?_) (fun f cdv A outer s H vs Q E hr h => ?_)
  · obtain ⟨a, t, v, rfl, _⟩ := h; rfl
  · obtain ⟨a, t, v, rfl, ht, hv, q⟩ := h
    refine ⟨_, (pss_one (ps_ret (pe_fn (dc_is_number T) (hr.mono (by decide)) (by rfl) pass0 (pa_cons (pv 1) (pa_cons pe_int (pa_cons (pe_callB (show CallR _ _ (rLenU K) from u_len) (by rfl) T.b_len Rd.boot_len (pa_cons (pv 0) pa_nil)) pa_nil)))))), ?_⟩
    refine Rd.rd_start (σ' := [some (V.ref a), some (v)]) rfl ?_
    walk_at "rd"
    refine ⟨v, 0, _, rfl, hv, ?_⟩
    rw [natL_len]
    exact q
/-! ### the way up -/
/-- the tracks that are crossed, and the station at which it ends -/
def wayP (t : List Nat) (g s : Nat) : List Nat × Nat :=
  if h : g < s ∧ t.getD (s - 1) 0 < s then (s :: (wayP t g (t.getD (s - 1) 0)).1, (wayP t g (t.getD (s - 1) 0)).2) else ([], s)
termination_by s
decreasing_by all_goals exact h.2
def wayOf (t : List Nat) (s g : Nat) : Option (List Nat) := if (wayP t g s).2 = g then some (wayP t g s).1 else none
structure TreeOk (t : List Nat) : Prop where
  len : t.length ≤ 9
  up : ∀ k, k < t.length → t.getD k 0 ≤ k
theorem wayP_step {t : List Nat} {g s : Nat} (ok : TreeOk t) (h : g < s) (hs : s ≤ t.length) : wayP t g s = (s :: (wayP t g (t.getD (s - 1) 0)).1, (wayP t g (t.getD (s - 1) 0)).2) := by
  have u := ok.up (s - 1) (by omega)
  rw [wayP, dif_pos ⟨h, by omega⟩]
theorem wayP_end {t : List Nat} {g s : Nat} (h : ¬ g < s) : wayP t g s = ([], s) := by
  rw [wayP, dif_neg fun z => h z.1]
theorem wayP_len {t : List Nat} {g : Nat} : ∀ s, (wayP t g s).1.length ≤ s := by
  intro s
  induction s using Nat.strongRecOn with
  | ind s ih =>
    rw [wayP]
    split
    · rename_i h
      have := ih _ h.2
      show _ + 1 ≤ s
      omega
    · exact Nat.zero_le _
def N_way_of : List Str := [("tree" : Str), ("station" : Str), ("target" : Str), ("found" : Str)]
theorem sc_way_of : FnScope N_way_of ["tree", "station", "target"] (defScope s_way_of) := ⟨rfl, rfl, rfl, by decide +kernel, rfl, by decide +kernel, by decide +kernel⟩
def sp_way_of : Sp := fun vs H Q _ => ∃ (a : Addr) (t : List Nat) (s g : Nat), vs = [.ref a, .int s, .int g] ∧ H a = some (.tup (natL t)) ∧ TreeOk t ∧ s ≤ t.length ∧
  (∀ H', Same H H' → wayOf t s g = none → Q .non H') ∧ ∀ p H', Same H H' → H p = none → H' p = some (.tup (natL (wayP t g s).1)) → wayOf t s g = some (wayP t g s).1 → Q (.ref p) H'
theorem dc_way_of (T : Txt K mg) : Dc P w K mg base CX0 "way_of" 1 ["tree", "station", "target"] sp_way_of := by
  refine dc_of0 T.f_way_of (fun F => FunD.bindsN F fun _ _ _ _ _ _ us hl => match us, hl with | [_, _, _], _ => rfl) sc_way_of (fun vs H Q E h => ?_) (fun f cdv A outer s0 H vs Q E hr h => ?_)
  · obtain ⟨a, t, s, g, rfl, _⟩ := h; rfl
  · obtain ⟨a, t, s, g, rfl, ht, ok, hs, qn, q⟩ := h
    refine ⟨_, (pss_cons (ps_set (i := 3) sc_way_of.nd rfl (.inl rfl) (pe_lst pa_nil))
      (pss_cons (ps_while PassesOwn.never (pt_cmpR op_gt (pv 1) (pv 2) (nomark _)) (pss_cons (ps_expr (show PE _ _ (tBM K _ _ _ _) from pe_bm PySem.F.plainAttrs_list PySem.F.slot_list_append PySem.F.type_list_append mt_append (pv 3) (pa_cons (pv 1) pa_nil)))
      (pss_one (ps_set (i := 1) sc_way_of.nd rfl (.inl rfl) (pe_ix (show IxR _ (rIx K) from ix_seq) (pv 0) (pe_op op_sub (pv 1) pe_int) (fun _ _ => rfl))))))
      (pss_one (ps_ret (pe_ifExp (pt_cmpR (show OpR _ _ (rEqU K) from u_eq hr.units) (pv 1) (pv 2) (nomark _)) (pe_callTy (show CallR _ _ (rTupU K) from u_tup) (by rfl) T.b_tuple Rd.boot_tuple (pa_cons (pv 3) pa_nil)) pe_non))))), ?_⟩
    refine Rd.rd_start (σ' := [some (V.ref a), some (V.int s), some (V.int g), none]) rfl ?_
    walk_at "rd"
    refine rd_newL (Nat.zero_le _) fun p H1 np s1 f1 e1 => ?_
    walk_at "rd"
    refine rd_while (fun m σ H' => ∃ (u : Nat) (acc : List Nat), σ = [some (.ref a), some (.int u), some (.int g), some (.ref p)] ∧ m = u ∧ u ≤ t.length ∧ Same H H' ∧ H' p = some (.lst (natL acc)) ∧ acc.length + (wayP t g u).1.length ≤ 9 ∧
      wayP t g s = (acc ++ (wayP t g u).1, (wayP t g u).2)) s ⟨s, [], rfl, rfl, hs, s1, e1, by have := @wayP_len t g s; have := ok.len; simp; omega, by simp⟩ ?_
    rintro m σ H2 ⟨u, acc, rfl, rfl, hu, s2, e2, hl, ew⟩
    have ha2 := s2 _ _ ht
    walk_at "rd"
    refine rd_dec (fun hg => ?_) fun hg => ?_
    · have hg' : g < m := by omega
      have es := wayP_step ok hg' hu
      refine ⟨_, fun _ _ h => h, ?_⟩
      walk_at "rd"
      refine rd_append e2 (szl (by rw [natL_len]; omega)) fun H3 b3 e3 => ?_
      have ha3 := b3.tups _ _ ha2
      walk_at "rd"
      refine rd_ixT ha3 (at_nat (j := m - 1) (by omega) (natL_get (by omega))) ?_
      walk_at "rd"
      have hup := ok.up (m - 1) (by omega)
      refine ⟨t.getD (m - 1) 0, by omega, t.getD (m - 1) 0, acc ++ [m], rfl, rfl, by omega, Same.but s2 b3 np, by rw [natL_app]; exact e3, ?_, ?_⟩
      · rw [es] at hl
        simp at hl ⊢
        omega
      · rw [ew, es]
        simp
    · have es : wayP t g m = ([], m) := wayP_end (by omega)
      rw [es] at ew
      simp at ew
      walk_at "rd"
      have ei : (V.int (m : Int)) = .int ((m : Nat) : Int) := rfl
      refine rd_dec (fun he => ?_) fun he => ?_
      · walk_at "rd"
        refine rd_tupL e2 fun p3 H3 np3 s3 f3 e3 => ?_
        refine q p3 H3 (s2.trans s3) (s2.free np3) (by rw [ew]; exact e3) ?_
        unfold wayOf
        rw [ew, if_pos (by show m = g; omega)]
      · walk_at "rd"
        refine qn H2 s2 ?_
        unfold wayOf
        rw [ew, if_neg (by show ¬ m = g; omega)]


/-! ### the deck -/
def intL (t : List Int) : List V := t.map V.int
theorem intL_len (t : List Int) : (intL t).length = t.length := List.length_map ..
structure DeckAt (d c : Addr) (k : Nat) (H : Hp) : Prop where
  ne : d ≠ c
  ex : ∃ (cells : List Int) (n : Nat), H d = some (.lst [.ref c, .int (n : Int)]) ∧ H c = some (.lst (intL cells)) ∧ (∀ x ∈ cells, 0 ≤ x) ∧ cells.length ≤ 63 ∧ n + k ≤ 1000000000
theorem DeckAt.mono {d c : Addr} {j k : Nat} {H : Hp} (h : DeckAt d c k H) (hj : j ≤ k) : DeckAt d c j H := by
  obtain ⟨ne, cells, n, h1, h2, h3, h4, h5⟩ := h
  exact ⟨ne, cells, n, h1, h2, h3, h4, by omega⟩
theorem DeckAt.same {d c : Addr} {k : Nat} {H H' : Hp} (h : DeckAt d c k H) (s : Same H H') : DeckAt d c k H' := by
  obtain ⟨ne, cells, n, h1, h2, h3, h4, h5⟩ := h
  exact ⟨ne, cells, n, s _ _ h1, s _ _ h2, h3, h4, h5⟩
theorem DeckAt.but {d c p : Addr} {k : Nat} {H H' : Hp} (h : DeckAt d c k H) (s : But p H H') (h1 : d ≠ p) (h2 : c ≠ p) : DeckAt d c k H' := by
  obtain ⟨ne, cells, n, e1, e2, h3, h4, h5⟩ := h
  exact ⟨ne, cells, n, s.keep _ _ h1 e1, s.keep _ _ h2 e2, h3, h4, h5⟩
theorem DeckAt.nd {d c p : Addr} {k : Nat} {H : Hp} (h : DeckAt d c k H) (n : H p = none) : p ≠ d ∧ p ≠ c := by
  obtain ⟨ne, cells, m, e1, e2, _⟩ := h
  exact ⟨(fun z => by rw [z, e1] at n; cases n), (fun z => by rw [z, e2] at n; cases n)⟩
def N_Ldraw : List Str := [("_law_deck_here" : Str), ("_law_many" : Str), ("_law_cell" : Str), ("_law_place" : Str)]
theorem sc_Ldraw : FnScope N_Ldraw ["_law_deck_here", "_law_many"] (defScope s_Ldraw) := ⟨rfl, rfl, rfl, by decide +kernel, rfl, by decide +kernel, by decide +kernel⟩
def sp_Ldraw : Sp := fun vs H Q _ => ∃ (d c : Addr) (m k : Nat), vs = [.ref d, .int (m : Int)] ∧ 0 < m ∧ m ≤ 1000000 ∧ DeckAt d c (k + 1) H ∧ ∀ (v : Nat) H', Mod [d, c] H H' → DeckAt d c k H' → v < m → Q (.int (v : Int)) H'
theorem modN (x : Int) (m : Nat) (h : 0 < m) : ∃ v : Nat, x % (m : Int) = (v : Int) ∧ v < m := by
  have h1 := Int.emod_nonneg x (b := (m : Int)) (by omega)
  have h2 := Int.emod_lt_of_pos x (b := (m : Int)) (by omega)
  exact ⟨(x % (m : Int)).toNat, by omega, by omega⟩
theorem dc_Ldraw (T : Txt K mg) : Dc P w K mg base CX0 "_law_draw" 1 ["_law_deck_here", "_law_many"] sp_Ldraw := by
  refine dc_of0 T.f_Ldraw (fun F => FunD.bindsN F fun _ _ _ _ _ _ us hl => match us, hl with | [_, _], _ => rfl) sc_Ldraw (fun vs H Q E h => ?_) (fun f cdv A outer s0 H vs Q E hr h => ?_)
  · obtain ⟨d, c, m, k, rfl, _⟩ := h; rfl
  · obtain ⟨d, c, m, k, rfl, hm, hm2, ⟨ne, cells, n, e1, e2, h3, h4, h5⟩, q⟩ := h
    refine ⟨_, (pss_cons (ps_asg (pe_op (show OpR _ _ (rAddU K) from u_add) (pe_ix (show IxR _ (rIx K) from ix_seq) (pv 0) pe_int (fun _ _ => rfl)) pe_int) (pg_sub (pv 0) pe_int set_list))
      (pss_cons (ps_set (i := 2) sc_Ldraw.nd rfl (.inl rfl) pe_int)
      (pss_cons (ps_set (i := 3) sc_Ldraw.nd rfl (.inl rfl) (pe_un un_neg pe_int))
      (pss_cons (ps_if (pt_cmpR op_gt (pe_callB (show CallR _ _ (rLenU K) from u_len) (by rfl) T.b_len Rd.boot_len (pa_cons (pe_ix (show IxR _ (rIx K) from ix_seq) (pv 0) pe_int (fun _ _ => rfl)) pa_nil)) pe_int (nomark _)) (pss_cons (ps_set (i := 3) sc_Ldraw.nd rfl (.inl rfl) (pe_op op_mod (pe_ix (show IxR _ (rIx K) from ix_seq) (pv 0) pe_int (fun _ _ => rfl)) (pe_callB (show CallR _ _ (rLenU K) from u_len) (by rfl) T.b_len Rd.boot_len (pa_cons (pe_ix (show IxR _ (rIx K) from ix_seq) (pv 0) pe_int (fun _ _ => rfl)) pa_nil))))
      (pss_one (ps_set (i := 2) sc_Ldraw.nd rfl (.inl rfl) (pe_ix (show IxR _ (rIx K) from ix_seq) (pe_ix (show IxR _ (rIx K) from ix_seq) (pv 0) pe_int (fun _ _ => rfl)) (pv 3) (fun _ _ => rfl))))) pss_nil)
      (pss_cons (ps_if (pt_cmpR op_ge (pv 2) (pe_op op_pow pe_int pe_int) (nomark _)) (pss_cons (ps_asg (pe_op op_fdiv (pv 2) (pv 1)) (pg_sub (pe_ix (show IxR _ (rIx K) from ix_seq) (pv 0) pe_int (fun _ _ => rfl)) (pv 3) set_list))
      (pss_one (ps_ret (pe_op op_mod (pv 2) (pv 1))))) pss_nil)
      (pss_one (ps_ret (pe_op op_mod (pe_op op_mod (pe_op op_pow (pe_op (show OpR _ _ (rAddU K) from u_add) (pe_op (show OpR _ _ (rAddU K) from u_add) (pe_op op_mod (pv 2) pe_int) (pe_op (show OpR _ _ (rMulU K) from u_mul) pe_int (pe_ix (show IxR _ (rIx K) from ix_seq) (pv 0) pe_int (fun _ _ => rfl)))) pe_int) pe_int) pe_int) (pv 1))))))))), ?_⟩
    refine Rd.rd_start (σ' := [some (V.ref d), some (V.int (m : Int)), none, none]) rfl ?_
    walk_at "rd"
    refine rd_set (k := 1) e1 rfl fun H1 b1 f1 => ?_
    have f2 : H1 c = some (.lst (intL cells)) := b1.keep _ _ ne.symm e2
    have f1' : H1 d = some (.lst [.ref c, .int ((n + 1 : Nat) : Int)]) := f1
    have m1 : Mod [d, c] H H1 := b1.mod (by simp)
    have hd1 : DeckAt d c k H1 := ⟨ne, cells, n + 1, f1', f2, h3, h4, by omega⟩
    have fin : ∀ z : Int, 0 ≤ z → (z % 2147483587 + 7919 * ((n + 1 : Nat) : Int) + 1).natAbs < 2 ^ 64 := by
      intro z hz
      have hb : 0 ≤ z % 2147483587 ∧ z % 2147483587 < 2147483587 := ⟨Int.emod_nonneg _ (by decide), Int.emod_lt_of_pos _ (by decide)⟩
      omega
    walk_at "rd"
    rw [intL_len]
    refine rd_dec (fun hl => ?_) fun hl => ?_
    · walk_at "rd"
      rw [intL_len]
      obtain ⟨j, ej, hj⟩ := modN ((n + 1 : Nat) : Int) cells.length (by omega)
      refine rd_mod (by omega) ?_
      rw [ej]
      walk_at "rd"
      obtain ⟨z, ez⟩ : ∃ z, cells[j]? = some z := ⟨_, List.getElem?_eq_getElem hj⟩
      have hz : 0 ≤ z := h3 z (List.mem_of_getElem? ez)
      have hg : (intL cells)[j]? = some (.int z) := by unfold intL; rw [List.getElem?_map, ez]; rfl
      refine rd_ixL f2 (atI_nat hg) ?_
      walk_at "rd"
      refine rd_dec (fun hb => ?_) fun hb => ?_
      · walk_at "rd"
        refine rd_set (k := j) f2 (ixN_nat (by rw [intL_len]; exact hj)) fun H2 b2 f3 => ?_
        have f4 : H2 d = some (.lst [.ref c, .int ((n + 1 : Nat) : Int)]) := b2.keep _ _ ne f1'
        walk_at "rd"
        obtain ⟨v, ev, hv⟩ := modN z m hm
        rw [ev]
        refine q v H2 (m1.trans (b2.mod (by simp))) ⟨ne, cells.set j (z / m), n + 1, f4, ?_, fun x hx => ?_, by rw [List.length_set]; exact h4, by omega⟩ hv
        · rw [f3]; unfold intL; rw [List.map_set]
        · rcases List.mem_or_eq_of_mem_set hx with h | h
          · exact h3 x h
          · rw [h]; exact Int.ediv_nonneg hz (by omega)
      · walk_at "rd"
        refine rd_mul (.inl ⟨by decide, by decide⟩) ?_
        walk_at "rd"
        refine rd_pow ⟨by decide, by decide, fin z hz⟩ ?_
        walk_at "rd"
        obtain ⟨v, e, hv⟩ := modN ((z % 2147483587 + 7919 * ((n + 1 : Nat) : Int) + 1) ^ (5 : Int).toNat % 2147483647) m hm
        rw [e]
        exact q v H1 m1 hd1 hv
    · walk_at "rd"
      refine rd_mul (.inl ⟨by decide, by decide⟩) ?_
      walk_at "rd"
      refine rd_pow ⟨by decide, by decide, fin 0 (Int.le_refl 0)⟩ ?_
      walk_at "rd"
      obtain ⟨v, e, hv⟩ := modN ((0 % 2147483587 + 7919 * ((n + 1 : Nat) : Int) + 1) ^ (5 : Int).toNat % 2147483647) m hm
      rw [e]
      exact q v H1 m1 hd1 hv

def optN : Option Nat → V
  | none => .non
  | some n => .int (n : Int)
def N_parse_number : List Str := [("word" : Str), ("longest" : Str), ("figure" : Str)]
theorem sc_parse_number : FnScope N_parse_number ["word", "longest"] (defScope s_parse_number) := ⟨rfl, rfl, rfl, by decide +kernel, rfl, by decide +kernel, by decide +kernel⟩
def sp_parse_number : Sp := fun vs H Q _ => ∃ (z : Str) (m : Nat), vs = [.str z, .int (m : Int)] ∧ m ≤ 600 ∧ z.length ≤ 100000 ∧ ∀ H', Same H H' → Q (optN (Mt.pNum m (Mt.tl z))) H'
theorem figs (c : Nat) : decide (c ∈ ("0123456789" : Str).cps.toList) = Mt.isDig c := by
  have e : ("0123456789" : Str).cps.toList = [48, 49, 50, 51, 52, 53, 54, 55, 56, 57] := by decide +kernel
  rw [e]
  unfold Mt.isDig
  by_cases h : 48 ≤ c ∧ c ≤ 57
  · rw [decide_eq_true h]
    have : c = 48 ∨ c = 49 ∨ c = 50 ∨ c = 51 ∨ c = 52 ∨ c = 53 ∨ c = 54 ∨ c = 55 ∨ c = 56 ∨ c = 57 := by omega
    exact decide_eq_true (by simpa using this)
  · rw [decide_eq_false h]
    refine decide_eq_false fun z => h ?_
    have : c = 48 ∨ c = 49 ∨ c = 50 ∨ c = 51 ∨ c = 52 ∨ c = 53 ∨ c = 54 ∨ c = 55 ∨ c = 56 ∨ c = 57 := by simpa using z
    omega
theorem len_tl (z : Str) : z.length = (Mt.tl z).length := by simp [Mt.tl, Str.length]
theorem dc_parse_number (T : Txt K mg) : Dc P w K mg base CX0 "parse_number" 1 ["word", "longest"] sp_parse_number := by
  refine dc_of0 T.f_parse_number (fun F => FunD.bindsN F fun _ _ _ _ _ _ us hl => match us, hl with | [_, _], _ => rfl) sc_parse_number (fun vs H Q E h => ?_) (fun f cdv A outer s0 H vs Q E hr h => ?_)
  · obtain ⟨z, m, rfl, _⟩ := h; rfl
  · obtain ⟨z, m, rfl, hm, hz, q⟩ := h
    refine ⟨_, (pss_cons (ps_if (PW.pt (pw_or (pt_not (pt_chain op_le op_le pe_int (pe_callB (show CallR _ _ (rLenU K) from u_len) (by rfl) T.b_len Rd.boot_len (pa_cons (pv 0) pa_nil)) (pv 1))) (pw_or1 (pt_not (pt_val (pe_callB (show CallR _ _ (rAll K) from cr_all rfl) (by rfl) T.b_all Rd.boot_all (pa_cons (pe_lc (own := [("figure", 2)]) rfl sc_parse_number.nd (pi_str (pv 0)) (blkOk_by (own := [("figure", 2)]) (N := N_parse_number) (sc := defScope s_parse_number) (by decide +kernel)) (fun _ _ _ _ _ => (pg_name (i := 2) sc_parse_number.nd rfl (.inl rfl))) (fun _ _ _ _ _ => pts_nil) (fun _ _ _ _ _ => (pe_cmpR (show OpR _ _ (rInU K) from u_in (room65 hr)) (pv 2) (pe_gs T.c_FIGURES) (by rfl)))) pa_nil))))))) (pss_one (ps_ret pe_non)) pss_nil)
      (pss_one (ps_ret (pe_ifExp (PW.pt (pw_and (pt_cmpR (show OpR _ _ (rEqU K) from u_eq hr.units) (pe_ix (show IxR _ (rIx K) from ix_seq) (pv 0) pe_int (fun _ _ => rfl)) pe_str (nomark _)) (pw_and1 (pt_cmpR (show OpR _ _ (rNeU K) from u_ne hr.units) (pv 0) pe_str (nomark _))))) pe_non (pe_callTy u_int (by rfl) T.b_int Rd.boot_int (pa_cons (pv 0) pa_nil)))))), ?_⟩
    refine Rd.rd_start (σ' := [some (V.str z), some (V.int (m : Int)), none]) rfl ?_
    have el := len_tl z
    walk_at "rd"
    refine rd_lenS (sz hz) ?_
    walk_at "rd"
    have none_ : ¬ ((1 ≤ (Mt.tl z).length ∧ (Mt.tl z).length ≤ m) ∧ (Mt.tl z).all Mt.isDig = true) → Mt.pNum m (Mt.tl z) = none := fun h => by unfold Mt.pNum; rw [if_neg h]
    refine rd_dec (fun h1 => ?_) fun h1 => ?_
    · walk_at "rd"
      refine rd_ndec (fun h2 => ?_) fun h2 => ?_
      · walk_at "rd"
        have e := q H (Same.refl H)
        rw [none_ (by omega)] at e
        exact e
      · walk_at "rd"
        refine comp_map (walk_str (z := z)) (by rw [show z.cps.size = z.length from rfl]; exact hz) [] (fun i y _ => ∃ c, z.cps[i]? = some c ∧ y = .bl (Mt.isDig c)) inv0 (by simp) (fun _ _ => trivial) (fun _ _ _ _ _ h => h) (fun _ _ _ _ => trivial) (fun _ _ _ _ _ _ _ => trivial)
          (fun i H x H' y => by rw [y.1]; exact Same.refl H) (fun i x H1 H' KV N hi hm _ hy hk => ?_) (fun D H1 ys nD hm hD hl hr _ => ?_)
        · obtain ⟨rfl, c, hc, rfl⟩ := hy
          walk_at "rd"
          rw [figs]
          exact hk _ _ (Mod.refl _ _) trivial ⟨c, hc, rfl⟩
        · have ez : z.cps.size = z.cps.toList.length := by simp
          have ey := map_of (f := fun c => V.bl (Mt.isDig c)) (hl.trans ez) (fun i y e => by
            obtain ⟨c, h1, h2⟩ := hr i y e
            exact ⟨c, by rw [Array.getElem?_toList]; exact h1, h2⟩)
          have ey2 : ys = (z.cps.toList.map Mt.isDig).map V.bl := by rw [ey, List.map_map]; rfl
          rw [ey2] at hD
          walk_at "rd"
          refine rd_all hD ?_
          have ea : (List.map Mt.isDig z.cps.toList).all id = (Mt.tl z).all Mt.isDig := by simp [Mt.tl, List.all_map]
          rw [ea]
          have sm := hm.same
          refine rd_bl ?_
          refine rd_nite (fun h3 => ?_) fun h3 => ?_
          · walk_at "rd"
            have e := q H1 sm
            rw [none_ (by rw [h3]; simp)] at e
            exact e
          · have ad := Mt.digits_of h3
            walk_at "rd"
            cases ez2 : Mt.tl z with
            | nil => rw [ez2] at el; simp at el; omega
            | cons c cs =>
              have e0 : atI z.cps.toList (0 : Int) = some c := by rw [show z.cps.toList = c :: cs from ez2]; exact atI_nat (j := 0) rfl
              refine rd_ixS (sz hz) e0 ?_
              walk_at "rd"
              have ep : Mt.pNum m (Mt.tl z) = if (Mt.tl z).head? = some 48 ∧ Mt.tl z ≠ [48] then none else some (NumText.digitsVal (Mt.tl z)) := by
                unfold Mt.pNum
                rw [if_pos ⟨⟨by omega, by omega⟩, h3⟩]
              have e := q H1 sm
              rw [ep, ez2] at e
              have e48 : (({ cps := #[c] } : Str) = ("0" : Str)) ↔ c = 48 := Mt.sg_eq (by decide +kernel)
              have ei : intText? z = some ((NumText.digitsVal (c :: cs) : Nat) : Int) := by
                have := intText_digits (x := z) ad (by rw [show z.cps.toList = c :: cs from ez2]; simp) (by omega)
                rw [show z.cps.toList = c :: cs from ez2] at this
                exact this
              have fin : (c :: cs).head? = some 48 ∧ c :: cs ≠ [48] ↔ c = 48 ∧ c :: cs ≠ [48] := by simp
              simp only [fin] at e
              have es : (z = ("0" : Str)) ↔ c :: cs = [48] := by rw [Mt.str_eq, ez2]; exact ⟨fun h => h.trans (by decide +kernel), fun h => h.trans (by decide +kernel)⟩
              refine rd_dec (fun h4 => ?_) fun h4 => ?_
              · walk_at "rd"
                refine rd_ndec (fun h5 => ?_) fun h5 => ?_
                · walk_at "rd"
                  rw [if_pos ⟨e48.mp h4, fun h => h5 (es.mpr h)⟩] at e
                  exact e
                · walk_at "rd"
                  rw [if_neg fun h => h.2 (es.mp h5)] at e
                  exact rd_intS ei (by omega) e
              · walk_at "rd"
                rw [if_neg fun h => h4 (e48.mpr h.1)] at e
                exact rd_intS ei (by omega) e
    · walk_at "rd"
      have e := q H (Same.refl H)
      rw [none_ (by omega)] at e
      exact e

/-! ### texts of trees and pieces -/
structure Pc where
  s : Nat
  r : Nat
  g : Nat
  deriving DecidableEq
def Pc.vs (q : Pc) : List V := [.int (q.s : Int), .int (q.r : Int), .int (q.g : Int)]
def treeT (t : List Nat) : List Nat := if t = [] then [121, 97, 114, 100] else TL.joinL [44] (t.map TL.numL)
def pieceT (q : Pc) : List Nat := TL.numL q.s ++ 64 :: TL.numL q.r ++ 62 :: TL.numL q.g
def taskT (t : List Nat) (ps : List Pc) : List Nat := TL.joinL [32] ((treeT t ++ [59]) :: ps.map pieceT)
theorem k_comma : ("," : Str) = Mt.S [44] := by decide +kernel
theorem k_yard : ("yard" : Str) = Mt.S [121, 97, 114, 100] := by decide +kernel
theorem k_semi : (";" : Str) = Mt.S [59] := by decide +kernel
theorem k_sp : (" " : Str) = Mt.S [32] := by decide +kernel
theorem k_at : ("@" : Str) = Mt.S [64] := by decide +kernel
theorem k_gt : (">" : Str) = Mt.S [62] := by decide +kernel
theorem k_emp : ("" : Str) = Mt.S [] := by decide +kernel
def N_tree_text : List Str := [("tree" : Str), ("parent" : Str)]
theorem sc_tree_text : FnScope N_tree_text ["tree"] (defScope s_tree_text) := ⟨rfl, rfl, rfl, by decide +kernel, rfl, by decide +kernel, by decide +kernel⟩
def sp_tree_text : Sp := fun vs H Q _ => ∃ (a : Addr) (t : List Nat), vs = [.ref a] ∧ H a = some (.tup (natL t)) ∧ t.length ≤ 100 ∧ (∀ x ∈ t, x ≤ 10000000000) ∧ ∀ H', Same H H' → Q (.str (Mt.S (treeT t))) H'
theorem numL_le {n : Nat} (h : n ≤ 10000000000) : (TL.numL n).length ≤ 11 := TL.numL_len (by decide) (by omega)
theorem sum_le {α : Type} {f : α → Nat} {k : Nat} : ∀ {l : List α}, (∀ x ∈ l, f x ≤ k) → (l.map f).sum ≤ l.length * k
  | [], _ => by simp
  | x :: xs, h => by
    have := sum_le fun y hy => h y (List.mem_cons_of_mem x hy)
    have hx := h x (List.mem_cons_self ..)
    simp [Nat.add_mul]
    omega
theorem dc_tree_text (T : Txt K mg) : Dc P w K mg base CX0 "tree_text" 1 ["tree"] sp_tree_text := by
  refine dc_of0 T.f_tree_text (fun F => FunD.bindsN F fun _ _ _ _ _ _ us hl => match us, hl with | [_], _ => rfl) sc_tree_text (fun vs H Q E h => ?_) (fun f cdv A outer s0 H vs Q E hr h => ?_)
  · obtain ⟨a, t, rfl, _⟩ := h; rfl
  · obtain ⟨a, t, rfl, ht, hl, hx, q⟩ := h
    refine ⟨_, (pss_one (ps_ret (pe_ifExp (pt_cmpR (show OpR _ _ (rNeU K) from u_ne hr.units) (pv 0) (pe_tup pa_nil) (nomark _)) (show PE _ _ (tBM K _ _ _ _) from pe_bm PySem.F.plainAttrs_str PySem.F.slot_str_join PySem.F.type_str_join (show MtR _ _ (rJoin K) from m_join) pe_str (pa_cons (pe_lc (own := [("parent", 1)]) rfl sc_tree_text.nd (show PI _ _ _ (iTup K _) from pi_tup (pv 0)) (blkOk_by (own := [("parent", 1)]) (N := N_tree_text) (sc := defScope s_tree_text) (by decide +kernel)) (fun _ _ _ _ _ => (pg_name (i := 1) sc_tree_text.nd rfl (.inl rfl))) (fun _ _ _ _ _ => pts_nil) (fun _ _ _ _ _ => (pe_callTy u_str (by rfl) T.b_str Rd.boot_str (pa_cons (pv 1) pa_nil)))) pa_nil)) (pe_gs T.c_ALONE)))), ?_⟩
    refine Rd.rd_start (σ' := [some (V.ref a), none]) rfl ?_
    walk_at "rd"
    refine rd_newT (Nat.zero_le _) fun p H1 np s1 f1 e1 => ?_
    refine rd_neInts (t := t) (u := []) (s1 _ _ ht) e1 ?_
    walk_at "rd"
    refine rd_ndec (fun h0 => ?_) fun h0 => ?_
    · have ht1 := s1 _ _ ht
      walk_at "rd"
      refine comp_T (l := t) (fun n => .str (Mt.S (TL.numL n))) ht1 (by omega) (fun n H2 KV N hn s2 hk => ?_) fun D H2 nD s2 hD => ?_
      · walk_at "rd"
        refine rd_strI (log2_lt (by have := hx n hn; omega)) ?_
        rw [Mt.S_num]
        exact hk H2 (Same.refl _)
      · walk_at "rd"
        rw [k_comma]
        refine rd_join1 (ps := t.map TL.numL) (by rw [List.map_map]; exact hD) (by
          have := sum_le (l := t) (f := fun n => (TL.numL n).length) (k := 11) fun n hn => numL_le (hx n hn)
          rw [List.map_map, List.length_map]
          show (List.map (fun n => (TL.numL n).length) t).sum + t.length * 1 ≤ _
          omega) ?_
        have e := q H2 (s1.trans s2)
        unfold treeT at e
        rw [if_neg h0] at e
        exact e
    · walk_at "rd"
      have e := q H1 s1
      unfold treeT at e
      rw [if_pos h0, ← k_yard] at e
      exact e
def N_piece_text : List Str := [("piece" : Str), ("source" : Str), ("ready" : Str), ("target" : Str)]
theorem sc_piece_text : FnScope N_piece_text ["piece"] (defScope s_piece_text) := ⟨rfl, rfl, rfl, by decide +kernel, rfl, by decide +kernel, by decide +kernel⟩
def sp_piece_text : Sp := fun vs H Q _ => ∃ (a : Addr) (q : Pc), vs = [.ref a] ∧ H a = some (.tup q.vs) ∧ q.s ≤ 10000000000 ∧ q.r ≤ 10000000000 ∧ q.g ≤ 10000000000 ∧ ∀ H', Same H H' → Q (.str (Mt.S (pieceT q))) H'
theorem dc_piece_text (T : Txt K mg) : Dc P w K mg base CX0 "piece_text" 1 ["piece"] sp_piece_text := by
  refine dc_of0 T.f_piece_text (fun F => FunD.bindsN F fun _ _ _ _ _ _ us hl => match us, hl with | [_], _ => rfl) sc_piece_text (fun vs H Q E h => ?_) (fun f cdv A outer s0 H vs Q E hr h => ?_)
  · obtain ⟨a, t, rfl, _⟩ := h; rfl
  · obtain ⟨a, ⟨s, r, g⟩, rfl, ht, h1, h2, h3, q⟩ := h
    have n1 := numL_le h1
    have n2 := numL_le h2
    have n3 := numL_le h3
    have ht' : H a = some (.tup [.int (s : Int), .int (r : Int), .int (g : Int)]) := ht
    refine ⟨_, (pss_cons (ps_asg (pv 0) (show PG _ _ (gTup K _ _) from pg_tup (n := 3) rfl (pgs_cons (pg_name (i := 1) sc_piece_text.nd rfl (.inl rfl)) (pgs_cons (pg_name (i := 2) sc_piece_text.nd rfl (.inl rfl)) (pgs_cons (pg_name (i := 3) sc_piece_text.nd rfl (.inl rfl)) pgs_nil)))))
      (pss_one (ps_ret (show PE _ _ (tJoin _) from pe_joined (PJ.cons (pe_fmt (pv 1)) (PJ.cons pe_str (PJ.cons (pe_fmt (pv 2)) (PJ.cons pe_str (PJ.cons (pe_fmt (pv 3)) PJ.nil))))))))), ?_⟩
    refine Rd.rd_start (σ' := [some (V.ref a), none, none, none]) rfl ?_
    walk_at "rd"
    refine rd_fmtI (log2_lt (by show (s : Int).natAbs < _; simp at h1; omega)) ?_
    rw [Mt.S_num, show Str.empty = Mt.S [] from rfl]
    refine rd_isJ (by rw [Mt.S_app, Mt.S_len]; exact sz (by simp; simp at n1; omega)) ?_
    walk_at "rd"
    rw [Mt.S_app, k_at]
    refine rd_isJ (by rw [Mt.S_app, Mt.S_len]; exact sz (by simp; simp at n1; omega)) ?_
    walk_at "rd"
    refine rd_fmtI (log2_lt (by show (r : Int).natAbs < _; simp at h2; omega)) ?_
    rw [Mt.S_num, Mt.S_app]
    refine rd_isJ (by rw [Mt.S_app, Mt.S_len]; exact sz (by simp; simp at n1 n2; omega)) ?_
    walk_at "rd"
    rw [Mt.S_app, k_gt]
    refine rd_isJ (by rw [Mt.S_app, Mt.S_len]; exact sz (by simp; simp at n1 n2; omega)) ?_
    walk_at "rd"
    refine rd_fmtI (log2_lt (by show (g : Int).natAbs < _; simp at h3; omega)) ?_
    rw [Mt.S_num, Mt.S_app]
    refine rd_isJ (by rw [Mt.S_app, Mt.S_len]; exact sz (by simp; simp at n1 n2 n3; omega)) ?_
    walk_at "rd"
    rw [Mt.S_app]
    have e := q H (Same.refl H)
    simp only [pieceT] at e
    simp only [List.nil_append, List.append_assoc, List.cons_append] at e ⊢
    exact e
/-- pieces in a tuple -/
def PcsAt (H : Hp) (a : Addr) (ps : List Pc) : Prop := ∃ l : List (Addr × Pc), l.map (fun x => x.2) = ps ∧ H a = some (.tup (l.map fun x => V.ref x.1)) ∧ ∀ x ∈ l, H x.1 = some (.tup x.2.vs)
theorem PcsAt.ts {H H' : Hp} {a : Addr} {ps : List Pc} (h : PcsAt H a ps) (s : Ts H H') : PcsAt H' a ps := by
  obtain ⟨l, e, ha, hl⟩ := h
  exact ⟨l, e, s _ _ ha, fun x hx => s _ _ (hl x hx)⟩
def N_task_text : List Str := [("tree" : Str), ("pieces" : Str), ("piece" : Str)]
theorem sc_task_text : FnScope N_task_text ["tree", "pieces"] (defScope s_task_text) := ⟨rfl, rfl, rfl, by decide +kernel, rfl, by decide +kernel, by decide +kernel⟩
def Small (q : Pc) : Prop := q.s ≤ 10000000000 ∧ q.r ≤ 10000000000 ∧ q.g ≤ 10000000000
def sp_task_text : Sp := fun vs H Q _ => ∃ (a b : Addr) (t : List Nat) (ps : List Pc), vs = [.ref a, .ref b] ∧ H a = some (.tup (natL t)) ∧ t.length ≤ 100 ∧ (∀ x ∈ t, x ≤ 10000000000) ∧ PcsAt H b ps ∧ ps.length ≤ 100 ∧ (∀ q ∈ ps, Small q) ∧
  ∀ H', Same H H' → Q (.str (Mt.S (taskT t ps))) H'
theorem joinL_len (s : List Nat) : ∀ ps : List (List Nat), (TL.joinL s ps).length ≤ (ps.map List.length).sum + ps.length * s.length
  | [] => by simp [TL.joinL]
  | [p] => by simp [TL.joinL]
  | p :: q :: r => by
    have := joinL_len s (q :: r)
    simp [TL.joinL, Nat.add_mul] at this ⊢
    omega
theorem treeT_len {t : List Nat} (h : t.length ≤ 100) (hx : ∀ x ∈ t, x ≤ 10000000000) : (treeT t).length ≤ 2000 := by
  unfold treeT
  split
  · decide
  · have := joinL_len [44] (t.map TL.numL)
    have h2 := sum_le (l := t) (f := fun n => (TL.numL n).length) (k := 11) fun n hn => numL_le (hx n hn)
    rw [List.map_map, List.length_map] at this
    have h3 : (List.map (List.length ∘ TL.numL) t).sum ≤ t.length * 11 := h2
    simp at this
    omega
theorem pieceT_len {q : Pc} (h : Small q) : (pieceT q).length ≤ 35 := by
  obtain ⟨a, b, c⟩ := h
  have := numL_le a
  have := numL_le b
  have := numL_le c
  simp [pieceT]
  omega
theorem taskT_len {t : List Nat} {ps : List Pc} (h : t.length ≤ 100) (hx : ∀ x ∈ t, x ≤ 10000000000) (hp : ps.length ≤ 100) (hq : ∀ q ∈ ps, Small q) : (taskT t ps).length ≤ 7000 := by
  unfold taskT
  have := joinL_len [32] ((treeT t ++ [59]) :: ps.map pieceT)
  have h2 := sum_le (l := ps) (f := fun n => (pieceT n).length) (k := 35) fun n hn => pieceT_len (hq n hn)
  have h3 := treeT_len h hx
  rw [List.map_cons, List.map_map] at this
  have h4 : (List.map (List.length ∘ pieceT) ps).sum ≤ ps.length * 35 := h2
  simp at this
  omega
theorem dc_task_text (T : Txt K mg) : Dc P w K mg base CX0 "task_text" 2 ["tree", "pieces"] sp_task_text := by
  refine dc_of0 T.f_task_text (fun F => FunD.bindsN F fun _ _ _ _ _ _ us hl => match us, hl with | [_, _], _ => rfl) sc_task_text (fun vs H Q E h => ?_) (fun f cdv A outer s0 H vs Q E hr h => ?_)
  · obtain ⟨a, b, t, ps, rfl, _⟩ := h; rfl
  · obtain ⟨a, b, t, ps, rfl, ht, hl, hx, ⟨l, rfl, hb, hls⟩, hp, hq, q⟩ := h
    refine ⟨_, (pss_one (ps_ret (show PE _ _ (tBM K _ _ _ _) from pe_bm PySem.F.plainAttrs_str PySem.F.slot_str_join PySem.F.type_str_join (show MtR _ _ (rJoin K) from m_join) pe_str (pa_cons (pe_lst (pa_cons (pe_op (show OpR _ _ (rAddU K) from u_add) (pe_fn (dc_tree_text T) (hr.mono (by decide)) (by rfl) pass0 (pa_cons (pv 0) pa_nil)) (pe_gs T.c_BEHIND)) (show PA _ _ (StX.tStar K _ _) from StX.pa_star (pe_lc (own := [("piece", 2)]) rfl sc_task_text.nd (show PI _ _ _ (iTup K _) from pi_tup (pv 1)) (blkOk_by (own := [("piece", 2)]) (N := N_task_text) (sc := defScope s_task_text) (by decide +kernel)) (fun _ _ _ _ _ => (pg_name (i := 2) sc_task_text.nd rfl (.inl rfl))) (fun _ _ _ _ _ => pts_nil) (fun _ _ _ _ _ => (pe_fn (dc_piece_text T) (hr.mono (by decide)) (by rfl) pass0 (pa_cons (pv 2) pa_nil)))) pa_nil))) pa_nil)))), ?_⟩
    refine Rd.rd_start (σ' := [some (V.ref a), some (V.ref b), none]) rfl ?_
    rw [List.length_map] at hp
    have hq' : ∀ x ∈ l, Small x.2 := fun x hx => hq _ (List.mem_map_of_mem hx)
    have tl' := treeT_len hl hx
    walk_at "rd"
    refine ⟨a, t, rfl, ht, hl, hx, fun H1 s1 => ?_⟩
    have hb1 := s1 _ _ hb
    walk_at "rd"
    rw [k_semi]
    refine rd_addT (by rw [Mt.S_len, Mt.S_len]; exact sz (by simp; omega)) ?_
    rw [Mt.S_app]
    walk_at "rd"
    refine comp_T (l := l) (fun x => .str (Mt.S (pieceT x.2))) hb1 (by omega) (fun x H2 KV N hx s2 hk => ?_) fun D H2 nD s2 hD => ?_
    · walk_at "rd"
      exact ⟨x.1, x.2, rfl, s2 _ _ (s1 _ _ (hls x hx)), (hq' x hx).1, (hq' x hx).2.1, (hq' x hx).2.2, fun H4 s4 => hk H4 s4⟩
    · walk_at "rd"
      refine rd_newL (sz (by simp; omega)) fun p H3 np s3 f3 e3 => ?_
      walk_at "rd"
      rw [k_sp]
      have e : H3 p = some (.lst (((treeT t ++ [59]) :: (l.map fun x => x.2).map pieceT).map fun u => .str (Mt.S u))) := by
        rw [e3]; simp
      refine rd_join1 e (by
        have h2 := sum_le (l := l) (f := fun x => (pieceT x.2).length) (k := 35) fun n hn => pieceT_len (hq' n hn)
        have h4 : (List.map (List.length) ((l.map fun x => x.2).map pieceT)).sum ≤ l.length * 35 := by rw [List.map_map, List.map_map]; exact h2
        simp at h4 ⊢
        omega) ?_
      exact q H3 ((s1.trans s2).trans s3)

/-! ### trees and pieces that are read -/
def badAt : Nat → List (Option Nat) → Option Nat
  | _, [] => none
  | b, none :: _ => some b
  | b, some p :: r => if p ≤ b then badAt (b + 1) r else some b
def optL (l : List (Option Nat)) : List V := l.map optN
theorem optL_get {l : List (Option Nat)} {i : Nat} {v : V} (h : (optL l)[i]? = some v) : ∃ o, l[i]? = some o ∧ v = optN o := by
  unfold optL at h
  rw [List.getElem?_map] at h
  cases e : l[i]? with
  | none => rw [e] at h; cases h
  | some o => rw [e] at h; cases h; exact ⟨o, rfl, rfl⟩
theorem optN_k (o : Option Nat) : optN o = .non ∨ ∃ i, optN o = .int i := by
  cases o
  · exact .inl rfl
  · exact .inr ⟨_, rfl⟩
def treeB (l : List (Option Nat)) : Bool := decide (l.length < 10) && (badAt 0 l).isNone
def N_tree_error : List Str := [("value" : Str), ("index" : Str), ("parent" : Str)]
theorem sc_tree_error : FnScope N_tree_error ["value"] (defScope s_tree_error) := ⟨rfl, rfl, rfl, by decide +kernel, rfl, by decide +kernel, by decide +kernel⟩
def sp_tree_error : Sp := fun vs H Q _ => ∃ (a : Addr) (l : List (Option Nat)), vs = [.ref a] ∧ H a = some (.tup (optL l)) ∧ l.length ≤ 100000 ∧ (∀ H', Same H H' → treeB l = true → Q .non H') ∧ ∀ p H', Same H H' → H p = none → treeB l = false → Q (.ref p) H'
theorem dc_tree_error (T : Txt K mg) : Dc P w K mg base CX0 "tree_error" 2 ["value"] sp_tree_error := by
  refine dc_of0 T.f_tree_error (fun F => FunD.bindsN F fun _ _ _ _ _ _ us hl => match us, hl with | [_], _ => rfl) sc_tree_error (fun vs H Q E h => ?_) (fun f cdv A outer s0 H vs Q E hr h => ?_)
  · obtain ⟨a, l, rfl, _⟩ := h; rfl
  · obtain ⟨a, l, rfl, ha, hl, q0, q1⟩ := h
    have el : (optL l).length = l.length := List.length_map ..
    refine ⟨_, (pss_cons (ps_if (PW.pt (pw_or (pt_not (pt_val (pe_callB (show CallR _ _ (rIsiU K) from u_isi) (by rfl) T.b_isinstance Rd.boot_isinstance (pa_cons (pv 0) (pa_cons (pe_bltn (v := .ty "tuple") (by rfl) T.b_tuple Rd.boot_tuple rfl) pa_nil))))) (pw_or1 (pt_cmpR op_ge (pe_callB (show CallR _ _ (rLenU K) from u_len) (by rfl) T.b_len Rd.boot_len (pa_cons (pv 0) pa_nil)) (pe_gi T.c_MAX_STATIONS) (nomark _))))) (pss_one (ps_ret (pe_tup (pa_cons pe_non (pa_cons pe_str pa_nil))))) pss_nil)
      (pss_cons (ps_for PassesOwn.never rfl (show PI _ _ _ (iEnumK K _ _) from pi_enumK true (by rfl) T.b_enumerate (pa_cons (pv 0) pa_nil)) (show PG _ _ (gTup K _ _) from pg_tup (n := 2) rfl (pgs_cons (pg_name (i := 1) sc_tree_error.nd rfl (.inl rfl)) (pgs_cons (pg_name (i := 2) sc_tree_error.nd rfl (.inl rfl)) pgs_nil))) (pss_one (ps_if (pt_not (pt_val (pe_fn (dc_is_number T) (hr.mono (by decide)) (by rfl) pass0 (pa_cons (pv 2) (pa_cons pe_int (pa_cons (pv 1) pa_nil)))))) (pss_one (ps_ret (pe_tup (pa_cons (pv 1) (pa_cons pe_str pa_nil))))) pss_nil)))
      (pss_one (ps_ret pe_non)))), ?_⟩
    refine Rd.rd_start (σ' := [some (V.ref a), none, none]) rfl ?_
    walk_at "rd"
    rw [el]
    refine rd_dec (fun h1 => ?_) fun h1 => ?_
    · walk_at "rd"
      refine rd_t2 fun p H1 np s1 f1 e1 => ?_
      refine q1 p H1 s1 np ?_
      unfold treeB
      rw [decide_eq_false (by omega)]; rfl
    · walk_at "rd"
      have hd : decide (l.length < 10) = true := decide_eq_true (by omega)
      refine for_w walk_enumK (fun i σ H' => (∃ x y, σ = [some (.ref a), x, y]) ∧ Same H H' ∧ badAt 0 l = badAt i (l.drop i)) ⟨⟨_, _, rfl⟩, Same.refl H, rfl⟩ (fun i σ H' _ h => SqT.of (h.2.1 _ _ ha)) (fun i x σ H1 H2 hi h y => ?_) fun σ H1 h => ?_
      · obtain ⟨⟨x1, x2, rfl⟩, s1, eb⟩ := h
        obtain ⟨TT, x, z, rfl, s2, e2, ex, ez⟩ := ypair_d y
        injection ex with ex
        subst ex
        obtain ⟨o, eo, rfl⟩ := optL_get ez
        walk_at "rd"
        refine ⟨optN o, 0, _, rfl, optN_k o, ?_⟩
        have ed : l.drop i = o :: l.drop (i + 1) := by
          obtain ⟨hi', e'⟩ := List.getElem?_eq_some_iff.mp eo
          rw [← e']; exact List.drop_eq_getElem_cons hi'
        rw [ed] at eb
        cases o with
        | none =>
          rw [show numB (optN none) 0 (0 + (i : Int)) = false from rfl]
          walk_at "rd"
          refine rd_t2 fun p H3 np s3 f3 e3 => ?_
          refine q1 p H3 ((s1.trans s2).trans s3) ((s1.trans s2).free np) ?_
          unfold treeB
          rw [eb, Bool.and_comm]; rfl
        | some n =>
          rw [badAt] at eb
          have eq_ : numB (optN (some n)) 0 (0 + (i : Int)) = decide (n ≤ i) := by
            show (decide ((0 : Int) ≤ (n : Int)) && decide ((n : Int) ≤ 0 + (i : Int))) = _
            rw [decide_eq_true (by omega), Bool.true_and]
            exact decide_eq_decide.mpr (by omega)
          rw [eq_]
          walk_at "rd"
          refine rd_ndec (fun h2 => ?_) fun h2 => ?_
          · walk_at "rd"
            refine rd_t2 fun p H3 np s3 f3 e3 => ?_
            refine q1 p H3 ((s1.trans s2).trans s3) ((s1.trans s2).free np) ?_
            unfold treeB
            rw [eb, if_neg h2, Bool.and_comm]; rfl
          · walk_at "rd"
            rw [if_pos h2] at eb
            exact ⟨⟨_, _, rfl⟩, s1.trans s2, eb⟩
      · obtain ⟨⟨x1, x2, rfl⟩, s1, eb⟩ := h
        walk_at "rd"
        refine q0 H1 s1 ?_
        unfold treeB
        rw [hd, eb, List.drop_eq_nil_of_le (by rw [el]; omega)]
        rfl
def N_is_tree : List Str := [("value" : Str)]
theorem sc_is_tree : FnScope N_is_tree ["value"] (defScope s_is_tree) := ⟨rfl, rfl, rfl, by decide +kernel, rfl, by decide +kernel, by decide +kernel⟩
def sp_is_tree : Sp := fun vs H Q _ => ∃ (a : Addr) (l : List (Option Nat)), vs = [.ref a] ∧ H a = some (.tup (optL l)) ∧ l.length ≤ 100000 ∧ (∀ H', Same H H' → Q (.bl (treeB l)) H')
theorem dc_is_tree (T : Txt K mg) : Dc P w K mg base CX0 "is_tree" 3 ["value"] sp_is_tree := by
  refine dc_of0 T.f_is_tree (fun F => FunD.bindsN F fun _ _ _ _ _ _ us hl => match us, hl with | [_], _ => rfl) sc_is_tree (fun vs H Q E h => ?_) (fun f cdv A outer s0 H vs Q E hr h => ?_)
  · obtain ⟨a, l, rfl, _⟩ := h; rfl
  · obtain ⟨a, l, rfl, ha, hl, q⟩ := h
    refine ⟨_, (pss_one (ps_ret (pe_cmpR (show OpR _ _ rIsN from o_isN) (pe_fn (dc_tree_error T) (hr.mono (by decide)) (by rfl) pass0 (pa_cons (pv 0) pa_nil)) pe_non (nomark _)))), ?_⟩
    refine Rd.rd_start (σ' := [some (V.ref a)]) rfl ?_
    walk_at "rd"
    refine ⟨a, l, rfl, ha, hl, fun H1 s1 e => ?_, fun p H1 s1 np e => ?_⟩
    · walk_at "rd"
      have := q H1 s1
      rw [e] at this
      exact this
    · walk_at "rd"
      have := q H1 s1
      rw [e] at this
      exact this
def pTree (w : List Nat) : Option (List Nat) :=
  if w = [121, 97, 114, 100] then some [] else if treeB ((Mt.spl 44 w).map (Mt.pNum 10)) = true then some ((Mt.spl 44 w).map fun u => (Mt.pNum 10 u).getD 0) else none
theorem TL_spl_len : ∀ (L : List Nat) (acc : List Nat) (c : Nat), (TL.spl [c] 0 acc L).length ≤ L.length + 1 ∧ ∀ u ∈ TL.spl [c] 0 acc L, u.length ≤ acc.length + L.length
  | [], acc, c => by rw [TL.spl_nil]; simp
  | x :: r, acc, c => by
    by_cases h : TL.pre [c] (x :: r) = true
    · rw [TL.spl_hit h]
      have := TL_spl_len r [] c
      simp at this ⊢
      refine ⟨by omega, fun u hu => ?_⟩
      have := this.2 u hu
      omega
    · rw [TL.spl_miss (by simpa using h)]
      have := TL_spl_len r (acc ++ [x]) c
      simp at this ⊢
      refine ⟨by omega, fun u hu => ?_⟩
      have := this.2 u hu
      omega
theorem spl_len (c : Nat) (w : List Nat) : (Mt.spl c w).length ≤ w.length + 1 ∧ ∀ u ∈ Mt.spl c w, u.length ≤ w.length := by
  have := TL_spl_len w [] c
  simp at this
  exact this
theorem pNum_lt {m : Nat} {w : List Nat} {n : Nat} (h : Mt.pNum m w = some n) : n < 10 ^ m := by
  unfold Mt.pNum at h
  split at h
  · rename_i hw
    split at h
    · cases h
    · injection h with h
      rw [← h]
      have : ∀ (l : List Nat) (a k : Nat), NumText.AllDigits l → a < 10 ^ k → l.foldl (fun acc c => acc * 10 + (c - 48)) a < 10 ^ (k + l.length) := by
        intro l
        induction l with
        | nil => intro a k _ h; simpa using h
        | cons c l ih =>
          intro a k hl ha
          have hc := hl.head
          have := ih (a * 10 + (c - 48)) (k + 1) hl.tail (by rw [Nat.pow_succ]; omega)
          rw [List.foldl_cons, List.length_cons]
          rw [show k + (l.length + 1) = k + 1 + l.length by omega]
          exact this
      have h2 := this w 0 0 (Mt.digits_of hw.2) (by simp)
      refine Nat.lt_of_lt_of_le (show NumText.digitsVal w < 10 ^ (0 + w.length) from h2) (Nat.pow_le_pow_right (by decide) (by omega))
  · cases h
theorem treeB_some {l : List (Option Nat)} : ∀ b, badAt b l = none → l = (l.map fun o => o.getD 0).map some ∧ ∀ k, k < l.length → (l.map fun o => o.getD 0).getD k 0 ≤ b + k := by
  induction l with
  | nil => intro b _; exact ⟨rfl, fun k hk => by simp at hk⟩
  | cons o l ih =>
    intro b h
    cases o with
    | none => simp [badAt] at h
    | some p =>
      rw [badAt] at h
      split at h
      · rename_i hp
        obtain ⟨e, hk⟩ := ih (b + 1) h
        refine ⟨by rw [List.map_cons, List.map_cons, ← e]; rfl, fun k hk' => ?_⟩
        cases k with
        | zero => simpa using hp
        | succ k =>
          have := hk k (by simpa using hk')
          simp at this ⊢
          omega
      · cases h
theorem pTree_ok {w : List Nat} {t : List Nat} (h : pTree w = some t) : TreeOk t := by
  unfold pTree at h
  split at h
  · cases h; exact ⟨by simp, fun k hk => by simp at hk⟩
  · split at h
    · rename_i hb
      injection h with h
      subst h
      unfold treeB at hb
      rw [Bool.and_eq_true, decide_eq_true_eq, List.length_map] at hb
      have := (treeB_some 0 (by simpa using hb.2)).2
      rw [List.map_map] at this
      refine ⟨by rw [List.length_map]; omega, fun k hk => ?_⟩
      have := this k (by simpa using hk)
      have e : (fun o : Option Nat => o.getD 0) ∘ Mt.pNum 10 = fun u => (Mt.pNum 10 u).getD 0 := rfl
      rw [e] at this
      omega
    · cases h
def N_parse_tree : List Str := [("word" : Str), ("tree" : Str), ("part" : Str)]
theorem sc_parse_tree : FnScope N_parse_tree ["word"] (defScope s_parse_tree) := ⟨rfl, rfl, rfl, by decide +kernel, rfl, by decide +kernel, by decide +kernel⟩
def sp_parse_tree : Sp := fun vs H Q _ => ∃ (w : List Nat), vs = [.str (Mt.S w)] ∧ w.length ≤ 90000 ∧ (∀ H', Same H H' → pTree w = none → Q .non H') ∧ ∀ p H' t, Same H H' → H p = none → H' p = some (.tup (natL t)) → pTree w = some t → Q (.ref p) H'
theorem dc_parse_tree (T : Txt K mg) : Dc P w K mg base CX0 "parse_tree" 4 ["word"] sp_parse_tree := by
  refine dc_of0 T.f_parse_tree (fun F => FunD.bindsN F fun _ _ _ _ _ _ us hl => match us, hl with | [_], _ => rfl) sc_parse_tree (fun vs H Q E h => ?_) (fun f cdv A outer s0 H vs Q E hr h => ?_)
  · obtain ⟨w, rfl, _⟩ := h; rfl
  · obtain ⟨w, rfl, hw, qn, q⟩ := h
    refine ⟨_, (pss_cons (ps_if (pt_cmpR (show OpR _ _ (rEqU K) from u_eq hr.units) (pv 0) (pe_gs T.c_ALONE) (nomark _)) (pss_one (ps_ret (pe_tup pa_nil))) pss_nil)
      (pss_cons (ps_set (i := 1) sc_parse_tree.nd rfl (.inl rfl) (pe_callTy (show CallR _ _ (rTupU K) from u_tup) (by rfl) T.b_tuple Rd.boot_tuple (pa_cons (pe_lc (own := [("part", 2)]) rfl sc_parse_tree.nd (show PI _ _ _ (iList K _) from pi_list (show PE _ _ (tBM K _ _ _ _) from pe_bm PySem.F.plainAttrs_str PySem.F.slot_str_split PySem.F.type_str_split (show MtR _ _ rSplit from m_split) (pv 0) (pa_cons pe_str pa_nil))) (blkOk_by (own := [("part", 2)]) (N := N_parse_tree) (sc := defScope s_parse_tree) (by decide +kernel)) (fun _ _ _ _ _ => (pg_name (i := 2) sc_parse_tree.nd rfl (.inl rfl))) (fun _ _ _ _ _ => pts_nil) (fun _ _ _ _ _ => (pe_fn (dc_parse_number T) (hr.mono (by decide)) (by rfl) pass0 (pa_cons (pv 2) (pa_cons (pe_gi T.c_LONGEST) pa_nil))))) pa_nil)))
      (pss_one (ps_ret (pe_ifExp (pt_val (pe_fn (dc_is_tree T) (hr.mono (by decide)) (by rfl) pass0 (pa_cons (pv 1) pa_nil))) (pv 1) pe_non))))), ?_⟩
    refine Rd.rd_start (σ' := [some (V.str (Mt.S w)), none, none]) rfl ?_
    walk_at "rd"
    rw [k_yard, k_comma]
    refine rd_dec (fun h1 => ?_) fun h1 => ?_
    · walk_at "rd"
      refine rd_newT (Nat.zero_le _) fun p H1 np s1 f1 e1 => ?_
      exact q p H1 [] s1 np e1 (by unfold pTree; rw [if_pos (Mt.S_inj.mp h1)])
    · have h1' : w ≠ [121, 97, 114, 100] := fun z => h1 (by rw [z])
      obtain ⟨sl, sw⟩ := spl_len 44 w
      walk_at "rd"
      refine rd_split1 (by omega) (by decide) fun p H1 np s1 f1 e1 => ?_
      walk_at "rd"
      refine comp_L (l := Mt.spl 44 w) (fun u => optN (Mt.pNum 10 u)) e1 (by omega) (fun u H2 KV N hu s2 hk => ?_) fun D H2 nD s2 hD => ?_
      · walk_at "rd"
        refine ⟨Mt.S u, 10, rfl, by decide, by rw [Mt.S_len]; have := sw u hu; omega, fun H4 s4 => hk H4 s4⟩
      · walk_at "rd"
        refine rd_tupL hD fun p3 H3 np3 s3 f3 e3 => ?_
        walk_at "rd"
        have e3' : H3 p3 = some (.tup (optL ((Mt.spl 44 w).map (Mt.pNum 10)))) := by rw [e3]; unfold optL; rw [List.map_map]; rfl
        refine ⟨p3, _, rfl, e3', by rw [List.length_map]; omega, fun H4 s4 => ?_⟩
        have sa := ((s1.trans s2).trans s3).trans s4
        have ep : pTree w = if treeB ((Mt.spl 44 w).map (Mt.pNum 10)) = true then some ((Mt.spl 44 w).map fun u => (Mt.pNum 10 u).getD 0) else none := by unfold pTree; rw [if_neg h1']
        walk_at "rd"
        refine rd_ite (fun h2 => ?_) fun h2 => ?_
        · walk_at "rd"
          rw [if_pos h2] at ep
          refine q p3 H4 _ sa (s1.free (s2.free np3)) ?_ ep
          rw [s4 _ _ e3']
          unfold treeB at h2
          rw [Bool.and_eq_true] at h2
          have := (treeB_some 0 (by simpa using h2.2)).1
          unfold optL natL
          rw [this, List.map_map, List.map_map, List.map_map, List.map_map]
          rfl
        · walk_at "rd"
          rw [if_neg (by rw [h2]; decide)] at ep
          exact qn H4 sa ep

/-! ### pieces -/
def pcOk (t : List Nat) (q : Pc) : Bool := decide (q.s ≤ t.length) && decide (q.r ≤ 1000) && decide (q.g ≤ t.length) && (wayOf t q.s q.g).isSome
def pcOk3 (t : List Nat) : Option Nat → Option Nat → Option Nat → Bool
  | some s, some r, some g => pcOk t ⟨s, r, g⟩
  | _, _, _ => false
def N_is_piece : List Str := [("tree" : Str), ("value" : Str), ("source" : Str), ("ready" : Str), ("target" : Str)]
theorem sc_is_piece : FnScope N_is_piece ["tree", "value"] (defScope s_is_piece) := ⟨rfl, rfl, rfl, by decide +kernel, rfl, by decide +kernel, by decide +kernel⟩
def sp_is_piece : Sp := fun vs H Q _ => ∃ (a b : Addr) (t : List Nat) (x y z : Option Nat), vs = [.ref a, .ref b] ∧ H a = some (.tup (natL t)) ∧ TreeOk t ∧ H b = some (.tup [optN x, optN y, optN z]) ∧ ∀ H', Same H H' → Q (.bl (pcOk3 t x y z)) H'
theorem numB_opt (x : Option Nat) (n : Nat) : numB (optN x) 0 (n : Int) = match x with | some s => decide (s ≤ n) | none => false := by
  cases x with
  | none => rfl
  | some s =>
    show (decide ((0 : Int) ≤ (s : Int)) && decide ((s : Int) ≤ (n : Int))) = _
    rw [decide_eq_true (by omega), Bool.true_and]
    exact decide_eq_decide.mpr (by omega)
theorem dc_is_piece (T : Txt K mg) : Dc P w K mg base CX0 "is_piece" 3 ["tree", "value"] sp_is_piece := by
  refine dc_of0 T.f_is_piece (fun F => FunD.bindsN F fun _ _ _ _ _ _ us hl => match us, hl with | [_, _], _ => rfl) sc_is_piece (fun vs H Q E h => ?_) (fun f cdv A outer s0 H vs Q E hr h => ?_)
  · obtain ⟨a, b, t, x, y, z, rfl, _⟩ := h; rfl
  · obtain ⟨a, b, t, x, y, z, rfl, ht, ok, hb, q⟩ := h
    refine ⟨_, (pss_cons (ps_if (PW.pt (pw_or (pt_not (pt_val (pe_callB (show CallR _ _ (rIsiU K) from u_isi) (by rfl) T.b_isinstance Rd.boot_isinstance (pa_cons (pv 1) (pa_cons (pe_bltn (v := .ty "tuple") (by rfl) T.b_tuple Rd.boot_tuple rfl) pa_nil))))) (pw_or1 (pt_cmpR (show OpR _ _ (rNeU K) from u_ne hr.units) (pe_callB (show CallR _ _ (rLenU K) from u_len) (by rfl) T.b_len Rd.boot_len (pa_cons (pv 1) pa_nil)) pe_int (nomark _))))) (pss_one (ps_ret pe_bl)) pss_nil)
      (pss_cons (ps_asg (pv 1) (show PG _ _ (gTup K _ _) from pg_tup (n := 3) rfl (pgs_cons (pg_name (i := 2) sc_is_piece.nd rfl (.inl rfl)) (pgs_cons (pg_name (i := 3) sc_is_piece.nd rfl (.inl rfl)) (pgs_cons (pg_name (i := 4) sc_is_piece.nd rfl (.inl rfl)) pgs_nil)))))
      (pss_cons (ps_if (PW.pt (pw_or (pt_not (pt_val (pe_fn (dc_is_station T) (hr.mono (by decide)) (by rfl) pass0 (pa_cons (pv 0) (pa_cons (pv 2) pa_nil))))) (pw_or (pt_not (pt_val (pe_fn (dc_is_number T) (hr.mono (by decide)) (by rfl) pass0 (pa_cons (pv 3) (pa_cons pe_int (pa_cons (pe_gi T.c_MAX_TICK) pa_nil)))))) (pw_or1 (pt_not (pt_val (pe_fn (dc_is_station T) (hr.mono (by decide)) (by rfl) pass0 (pa_cons (pv 0) (pa_cons (pv 4) pa_nil))))))))) (pss_one (ps_ret pe_bl)) pss_nil)
      (pss_one (ps_ret (pe_cmpR (show OpR _ _ rNotN from o_notN) (pe_fn (dc_way_of T) (hr.mono (by decide)) (by rfl) pass0 (pa_cons (pv 0) (pa_cons (pv 2) (pa_cons (pv 4) pa_nil)))) pe_non (nomark _))))))), ?_⟩
    refine Rd.rd_start (σ' := [some (V.ref a), some (V.ref b), none, none, none]) rfl ?_
    walk_at "rd"
    refine rd_ndec (fun h1 => absurd rfl h1) fun _ => ?_
    walk_at "rd"
    refine ⟨a, t, _, rfl, ht, optN_k x, ?_⟩
    rw [numB_opt]
    have e := q H (Same.refl H)
    cases x with
    | none => walk_at "rd"; exact e
    | some s =>
      refine rd_bl ?_
      walk_at "rd"
      refine rd_ndec (fun h1 => ?_) fun h1 => ?_
      · walk_at "rd"
        have : pcOk3 t (some s) y z = false := by
          cases y <;> cases z <;> first | rfl | (simp only [pcOk3, pcOk]; rw [decide_eq_false h1]; rfl)
        rw [this] at e
        exact e
      · walk_at "rd"
        refine ⟨_, 0, 1000, rfl, optN_k y, ?_⟩
        rw [show (1000 : Int) = ((1000 : Nat) : Int) from rfl, numB_opt]
        cases y with
        | none => walk_at "rd"; exact e
        | some r =>
          refine rd_bl ?_
          walk_at "rd"
          refine rd_ndec (fun h2 => ?_) fun h2 => ?_
          · walk_at "rd"
            have : pcOk3 t (some s) (some r) z = false := by
              cases z <;> first | rfl | (simp only [pcOk3, pcOk]; rw [decide_eq_false h2]; simp)
            rw [this] at e
            exact e
          · walk_at "rd"
            refine ⟨a, t, _, rfl, ht, optN_k z, ?_⟩
            rw [numB_opt]
            cases z with
            | none => walk_at "rd"; exact e
            | some g =>
              refine rd_bl ?_
              walk_at "rd"
              refine rd_ndec (fun h3 => ?_) fun h3 => ?_
              · walk_at "rd"
                have : pcOk3 t (some s) (some r) (some g) = false := by
                  simp only [pcOk3, pcOk]; rw [decide_eq_false h3]; simp
                rw [this] at e
                exact e
              · walk_at "rd"
                have ep : pcOk3 t (some s) (some r) (some g) = (wayOf t s g).isSome := by
                  simp only [pcOk3, pcOk]; rw [decide_eq_true h1, decide_eq_true h2, decide_eq_true h3]; rfl
                refine ⟨a, t, s, g, rfl, ht, ok, h1, fun H1 s1 e1 => ?_, fun p H1 s1 np e1 ew => ?_⟩
                · walk_at "rd"
                  have := q H1 s1
                  rw [ep, e1] at this
                  exact this
                · walk_at "rd"
                  have := q H1 s1
                  rw [ep, ew] at this
                  exact this
def pPiece (t w : List Nat) : Option Pc :=
  match Mt.par 64 w with
  | none => none
  | some (a, rest) => match Mt.par 62 rest with
    | none => none
    | some (b, c) => match Mt.pNum 10 a, Mt.pNum 10 b, Mt.pNum 10 c with
      | some s, some r, some g => if pcOk t ⟨s, r, g⟩ = true then some ⟨s, r, g⟩ else none
      | _, _, _ => none
def N_parse_piece : List Str := [("tree" : Str), ("word" : Str), ("source" : Str), ("found" : Str), ("rest" : Str), ("ready" : Str), ("more" : Str), ("target" : Str), ("piece" : Str), ("part" : Str)]
theorem sc_parse_piece : FnScope N_parse_piece ["tree", "word"] (defScope s_parse_piece) := ⟨rfl, rfl, rfl, by decide +kernel, rfl, by decide +kernel, by decide +kernel⟩
def sp_parse_piece : Sp := fun vs H Q _ => ∃ (a : Addr) (t w : List Nat), vs = [.ref a, .str (Mt.S w)] ∧ H a = some (.tup (natL t)) ∧ TreeOk t ∧ w.length ≤ 90000 ∧ (∀ H', Same H H' → pPiece t w = none → Q .non H') ∧
  ∀ p H' c, Same H H' → H p = none → H' p = some (.tup c.vs) → pPiece t w = some c → Q (.ref p) H'
theorem TL_par_len : ∀ (L acc : List Nat) (c : Nat) (a b : List Nat), TL.par [c] acc L = some (a, b) → a.length + b.length + 1 = acc.length + L.length ∧ a ++ c :: b = acc ++ L
  | [], acc, c, a, b, h => by rw [TL.par_none (p := []) (by simp)] at h; cases h
  | x :: r, acc, c, a, b, h => by
    by_cases hp : TL.pre [c] (x :: r) = true
    · rw [TL.par_hit hp] at h
      have hx : c = x := by
        have : [x] = [c] := by simpa [TL.pre] using hp
        injection this with e; exact e.symm
      injection h with h; injection h with h1 h2
      subst h1; subst h2; subst hx
      simp
      omega
    · rw [TL.par_miss (by simpa using hp)] at h
      have := TL_par_len r _ c a b h
      simp at this ⊢
      exact ⟨by omega, this.2⟩
theorem par_len {c : Nat} {w a b : List Nat} (h : Mt.par c w = some (a, b)) : a.length + b.length + 1 = w.length ∧ a ++ c :: b = w := by
  have := TL_par_len w [] c a b h
  simp at this
  exact this
theorem par3_len {c : Nat} {w : List Nat} {n : Nat} (h : w.length ≤ n) : (Mt.par3 c w).1.length ≤ n ∧ (Mt.par3 c w).2.2.length ≤ n := by
  unfold Mt.par3
  cases e : Mt.par c w with
  | none => exact ⟨h, by simp⟩
  | some p =>
    obtain ⟨a, b⟩ := p
    have := (par_len e).1
    exact ⟨by show a.length ≤ n; omega, by show b.length ≤ n; omega⟩
theorem dc_parse_piece (T : Txt K mg) : Dc P w K mg base CX0 "parse_piece" 4 ["tree", "word"] sp_parse_piece := by
  refine dc_of0 T.f_parse_piece (fun F => FunD.bindsN F fun _ _ _ _ _ _ us hl => match us, hl with | [_, _], _ => rfl) sc_parse_piece (fun vs H Q E h => ?_) (fun f cdv A outer s0 H vs Q E hr h => ?_)
  · obtain ⟨a, t, w, rfl, _⟩ := h; rfl
  · obtain ⟨a, t, w, rfl, ht, ok, hw, qn, q⟩ := h
    refine ⟨_, (pss_cons (ps_asg (show PE _ _ (tBM K _ _ _ _) from pe_bm PySem.F.plainAttrs_str PySem.F.slot_str_partition PySem.F.type_str_partition (show MtR _ _ rPartn from m_partn) (pv 1) (pa_cons pe_str pa_nil)) (show PG _ _ (gTup K _ _) from pg_tup (n := 3) rfl (pgs_cons (pg_name (i := 2) sc_parse_piece.nd rfl (.inl rfl)) (pgs_cons (pg_name (i := 3) sc_parse_piece.nd rfl (.inl rfl)) (pgs_cons (pg_name (i := 4) sc_parse_piece.nd rfl (.inl rfl)) pgs_nil)))))
      (pss_cons (ps_asg (show PE _ _ (tBM K _ _ _ _) from pe_bm PySem.F.plainAttrs_str PySem.F.slot_str_partition PySem.F.type_str_partition (show MtR _ _ rPartn from m_partn) (pv 4) (pa_cons pe_str pa_nil)) (show PG _ _ (gTup K _ _) from pg_tup (n := 3) rfl (pgs_cons (pg_name (i := 5) sc_parse_piece.nd rfl (.inl rfl)) (pgs_cons (pg_name (i := 6) sc_parse_piece.nd rfl (.inl rfl)) (pgs_cons (pg_name (i := 7) sc_parse_piece.nd rfl (.inl rfl)) pgs_nil)))))
      (pss_cons (ps_set (i := 8) sc_parse_piece.nd rfl (.inl rfl) (pe_callTy (show CallR _ _ (rTupU K) from u_tup) (by rfl) T.b_tuple Rd.boot_tuple (pa_cons (pe_lc (own := [("part", 9)]) rfl sc_parse_piece.nd (show PI _ _ _ (iTup K _) from pi_tup (pe_tup (pa_cons (pv 2) (pa_cons (pv 5) (pa_cons (pv 7) pa_nil))))) (blkOk_by (own := [("part", 9)]) (N := N_parse_piece) (sc := defScope s_parse_piece) (by decide +kernel)) (fun _ _ _ _ _ => (pg_name (i := 9) sc_parse_piece.nd rfl (.inl rfl))) (fun _ _ _ _ _ => pts_nil) (fun _ _ _ _ _ => (pe_fn (dc_parse_number T) (hr.mono (by decide)) (by rfl) pass0 (pa_cons (pv 9) (pa_cons (pe_gi T.c_LONGEST) pa_nil))))) pa_nil)))
      (pss_one (ps_ret (pe_ifExp (PW.pt (pw_and (pt_cmpR (show OpR _ _ (rNeU K) from u_ne hr.units) (pv 3) pe_str (nomark _)) (pw_and (pt_cmpR (show OpR _ _ (rNeU K) from u_ne hr.units) (pv 6) pe_str (nomark _)) (pw_and1 (pt_val (pe_fn (dc_is_piece T) (hr.mono (by decide)) (by rfl) pass0 (pa_cons (pv 0) (pa_cons (pv 8) pa_nil)))))))) (pv 8) pe_non)))))), ?_⟩
    refine Rd.rd_start (σ' := [some (V.ref a), some (V.str (Mt.S w)), none, none, none, none, none, none, none, none]) rfl ?_
    walk_at "rd"
    rw [k_at]
    obtain ⟨x1, f1, r1, E1, L1⟩ : ∃ x f r : List Nat, Mt.par3 64 w = (x, f, r) ∧ x.length ≤ 90000 ∧ r.length ≤ 90000 := ⟨_, _, _, rfl, par3_len hw⟩
    refine rd_partition (by omega) fun p1 H1 np1 s1 fr1 e1 => ?_
    have P1 := Mt.par3_par (c := 64) (w := w)
    rw [E1] at e1 P1
    walk_at "rd"
    rw [k_gt]
    obtain ⟨x2, f2, r2, E2, L2⟩ : ∃ x f r : List Nat, Mt.par3 62 r1 = (x, f, r) ∧ x.length ≤ 90000 ∧ r.length ≤ 90000 := ⟨_, _, _, rfl, par3_len L1.2⟩
    refine rd_partition (by omega) fun p2 H2 np2 s2 fr2 e2 => ?_
    have P2 := Mt.par3_par (c := 62) (w := r1)
    rw [E2] at e2 P2
    walk_at "rd"
    refine rd_t3 fun p3 H3 np3 s3 fr3 e3 => ?_
    walk_at "rd"
    refine comp_T (l := [x1, x2, r2]) (F := fun u => .str (Mt.S u)) (fun u => optN (Mt.pNum 10 u)) e3 (by simp) (fun u H4 KV N hu s4 hk => ?_) fun D H4 nD s4 hD => ?_
    · walk_at "rd"
      refine ⟨Mt.S u, 10, rfl, by decide, ?_, fun H4 s4 => hk H4 s4⟩
      rw [Mt.S_len]
      simp at hu
      rcases hu with rfl | rfl | rfl <;> omega
    · walk_at "rd"
      refine rd_tupL hD fun p5 H5 np5 s5 fr5 e5 => ?_
      walk_at "rd"
      rw [k_emp]
      have sa : Same H H5 := (((s1.trans s2).trans s3).trans s4).trans s5
      have np : H p5 = none := s1.free (s2.free (s3.free (s4.free np5)))
      refine rd_ndec (fun h1 => ?_) fun h1 => ?_
      · have h1' : f1 ≠ [] := fun z => h1 (by rw [z])
        rw [if_neg h1'] at P1
        walk_at "rd"
        refine rd_ndec (fun h2 => ?_) fun h2 => ?_
        · have h2' : f2 ≠ [] := fun z => h2 (by rw [z])
          rw [if_neg h2'] at P2
          have ep : pPiece t w = match Mt.pNum 10 x1, Mt.pNum 10 x2, Mt.pNum 10 r2 with
            | some s, some r, some g => if pcOk t ⟨s, r, g⟩ = true then some ⟨s, r, g⟩ else none
            | _, _, _ => none := by
            unfold pPiece
            rw [P1]
            simp only
            rw [P2]
          walk_at "rd"
          refine ⟨a, p5, t, _, _, _, rfl, sa _ _ ht, ok, e5, fun H6 s6 => ?_⟩
          have e6 := s6 _ _ e5
          have fin := q p5 H6
          have fin0 := qn H6 (sa.trans s6)
          rw [ep] at fin fin0
          cases hx1 : Mt.pNum 10 x1 with
          | none => rw [hx1] at fin0; walk_at "rd"; exact fin0 rfl
          | some v1 =>
            cases hx2 : Mt.pNum 10 x2 with
            | none => rw [hx1, hx2] at fin0; walk_at "rd"; exact fin0 rfl
            | some v2 =>
              cases hx3 : Mt.pNum 10 r2 with
              | none => rw [hx1, hx2, hx3] at fin0; walk_at "rd"; exact fin0 rfl
              | some v3 =>
                rw [hx1, hx2, hx3] at fin fin0
                simp only at fin fin0
                rw [show pcOk3 t (some v1) (some v2) (some v3) = pcOk t ⟨v1, v2, v3⟩ from rfl]
                refine rd_bl ?_
                refine rd_ite (fun h3 => ?_) fun h3 => ?_
                · walk_at "rd"
                  rw [if_pos h3] at fin
                  refine fin ⟨v1, v2, v3⟩ (sa.trans s6) np ?_ rfl
                  rw [e6]
                  simp [hx1, hx2, hx3, Pc.vs, optN]
                · walk_at "rd"
                  rw [if_neg (by rw [h3]; decide)] at fin0
                  exact fin0 rfl
        · walk_at "rd"
          rw [if_pos (Mt.S_inj.mp h2)] at P2
          refine qn H5 sa ?_
          unfold pPiece
          rw [P1]
          simp only
          rw [P2]
      · walk_at "rd"
        rw [if_pos (Mt.S_inj.mp h1)] at P1
        refine qn H5 sa ?_
        unfold pPiece
        rw [P1]

/-! ### what the law makes -/
def N_Ltree : List Str := [("_law_deck_here" : Str), ("_law_most" : Str), ("_law_n" : Str), ("_law_way_here" : Str), ("_law_k" : Str)]
theorem sc_Ltree : FnScope N_Ltree ["_law_deck_here", "_law_most"] (defScope s_Ltree) := ⟨rfl, rfl, rfl, by decide +kernel, rfl, by decide +kernel, by decide +kernel⟩
def sp_Ltree : Sp := fun vs H Q _ => ∃ (d c : Addr) (m k : Nat), vs = [.ref d, .int (m : Int)] ∧ 0 < m ∧ m ≤ 100 ∧ DeckAt d c (k + m + 2) H ∧
  ∀ (p : Addr) (t : List Nat) H', Mod [d, c] H H' → H p = none → H' p = some (.tup (natL t)) → t.length < m → (∀ k, k < t.length → t.getD k 0 ≤ k) → DeckAt d c k H' → Q (.ref p) H'
theorem dc_Ltree (T : Txt K mg) : Dc P w K mg base CX0 "_law_tree" 2 ["_law_deck_here", "_law_most"] sp_Ltree := by
  refine dc_of0 T.f_Ltree (fun F => FunD.bindsN F fun _ _ _ _ _ _ us hl => match us, hl with | [_, _], _ => rfl) sc_Ltree (fun vs H Q E h => ?_) (fun f cdv A outer s0 H vs Q E hr h => ?_)
  · obtain ⟨d, c, m, k, rfl, _⟩ := h; rfl
  · obtain ⟨d, c, m, k, rfl, hm0, hm, hk, q⟩ := h
    refine ⟨_, (pss_cons (ps_asg (pe_tup (pa_cons (pe_op (show OpR _ _ (rAddU K) from u_add) pe_int (pe_fn (dc_Ldraw T) (hr.mono (by decide)) (by rfl) pass0 (pa_cons (pv 0) (pa_cons (pv 1) pa_nil)))) (pa_cons (pe_fn (dc_Ldraw T) (hr.mono (by decide)) (by rfl) pass0 (pa_cons (pv 0) (pa_cons pe_int pa_nil))) pa_nil))) (show PG _ _ (gTup K _ _) from pg_tup (n := 2) rfl (pgs_cons (pg_name (i := 2) sc_Ltree.nd rfl (.inl rfl)) (pgs_cons (pg_name (i := 3) sc_Ltree.nd rfl (.inr rfl)) pgs_nil))))
      (pss_one (ps_ret (pe_callTy (show CallR _ _ (rTupU K) from u_tup) (by rfl) T.b_tuple Rd.boot_tuple (pa_cons (pe_lc (own := [("_law_k", 4)]) rfl sc_Ltree.nd (pi_range1 (by rfl) T.b_range (pa_cons (pe_op op_sub (pv 2) pe_int) pa_nil)) (blkOk_by (own := [("_law_k", 4)]) (N := N_Ltree) (sc := defScope s_Ltree) (by decide +kernel)) (fun _ _ _ _ _ => (pg_name (i := 4) sc_Ltree.nd rfl (.inl rfl))) (fun _ _ _ _ _ => pts_nil) (fun _ _ _ _ _ => (pe_ix (show IxR _ (rIx K) from ix_seq) (pe_lst (pa_cons (pv 4) (pa_cons pe_int (pa_cons (pe_fn (dc_Ldraw T) (hr.mono (by decide)) (by rfl) pass0 (pa_cons (pv 0) (pa_cons (pe_op (show OpR _ _ (rAddU K) from u_add) (pv 4) pe_int) pa_nil))) pa_nil)))) (pv 3) (fun _ _ => rfl)))) pa_nil))))), ?_⟩
    refine Rd.rd_start (σ' := [some (V.ref d), some (V.int (m : Int)), none, none, none]) rfl ?_
    walk_at "rd"
    refine ⟨d, c, m, k + m + 1, rfl, hm0, by omega, hk, fun n H1 m1 k1 hn => ?_⟩
    walk_at "rd"
    refine ⟨d, c, 3, k + m, rfl, by decide, by decide, k1, fun way H20 m20 k20 hw => ?_⟩
    walk_at "rd"
    refine rd_t2 fun p2 H2 np2 s2 f2 e2 => ?_
    have m2 := m20.trans (s2.mod _)
    have k2 := k20.same s2
    walk_at "rd"
    refine rd_r1 (n := n) (by omega) (by omega) ?_
    have m02 := m1.trans m2
    have hd : ∃ o, H2 d = some o := by obtain ⟨_, _, _, e, _⟩ := k2; exact ⟨_, e⟩
    have hc : ∃ o, H2 c = some o := by obtain ⟨_, _, _, _, e, _⟩ := k2; exact ⟨_, e⟩
    refine comp_map (n := n) walk_range (by omega) [d, c] (fun i y _ => ∃ v : Nat, y = .int (v : Int) ∧ v ≤ i) (fun i H => DeckAt d c (k + m - i) H) (by simp [hd, hc]) (fun _ _ => trivial) (fun _ _ _ _ _ h => h)
      (fun H D nD s => by rw [Nat.sub_zero]; exact k2.same s) (fun i D H H' nD b h => ?_) (fun i H x H' y => yfn_same y) (fun i x H3 H4 KV N hi m3 k3 hy hk => ?_) (fun D H3 ys nD m3 hD hl hR _ => ?_)
    · have nd := k2.nd nD
      exact h.but b nd.1.symm nd.2.symm
    · obtain ⟨rfl, rfl⟩ := hy
      walk_at "rd"
      refine ⟨d, c, i + 1, k + m - (i + 1), ?_, by omega, by omega, ?_, fun v H5 m5 k5 hv => ?_⟩
      · show [V.ref d, V.int (0 + (i : Int) + 1)] = _
        congr 3
        omega
      · rw [show k + m - (i + 1) + 1 = k + m - i by omega]; exact k3
      walk_at "rd"
      refine rd_l3 fun p H6 np s6 f6 e6 => ?_
      walk_at "rd"
      have m6 : Mod [d, c] H4 H6 := m5.trans (s6.mod _)
      have k6 := k5.same s6
      have hw' : way = 0 ∨ way = 1 ∨ way = 2 := by omega
      rcases hw' with rfl | rfl | rfl
      · exact rd_ixL e6 (atI_nat (j := 0) rfl) (hk _ H6 m6 k6 ⟨i, by congr 1; omega, Nat.le_refl _⟩)
      · exact rd_ixL e6 (atI_nat (j := 1) rfl) (hk _ H6 m6 k6 ⟨0, rfl, Nat.zero_le _⟩)
      · exact rd_ixL e6 (atI_nat (j := 2) rfl) (hk _ H6 m6 k6 ⟨v, rfl, by omega⟩)
    · walk_at "rd"
      refine rd_tupL hD fun p H6 np s6 f6 e6 => ?_
      obtain ⟨t, et, lt, ht⟩ := nats_of fun i y e => hR i y e
      subst et
      rw [natL_len] at hl
      have k3 : DeckAt d c k H3 := by rename_i kk; exact kk.mono (by omega)
      refine q p t H6 ((m02.trans m3).trans (s6.mod _)) (m02.free _ (m3.free _ np)) e6 (by omega) (fun j hj => ?_) (k3.same s6)
      rw [List.getD_eq_getElem?_getD, List.getElem?_eq_getElem hj]
      exact ht j _ (List.getElem?_eq_getElem hj)
/-- the law's own way: on to the target or to the root -/
def lwayP (t : List Nat) (g s : Nat) : List Nat × Nat :=
  if h : (s ≠ g ∧ s ≠ 0) ∧ t.getD (s - 1) 0 < s then (s :: (lwayP t g (t.getD (s - 1) 0)).1, (lwayP t g (t.getD (s - 1) 0)).2) else ([], s)
termination_by s
decreasing_by all_goals exact h.2
theorem lwayP_step {t : List Nat} {g s : Nat} (ok : TreeOk t) (h : s ≠ g ∧ s ≠ 0) (hs : s ≤ t.length) : lwayP t g s = (s :: (lwayP t g (t.getD (s - 1) 0)).1, (lwayP t g (t.getD (s - 1) 0)).2) := by
  have u := ok.up (s - 1) (by omega)
  rw [lwayP, dif_pos ⟨h, by omega⟩]
theorem lwayP_end {t : List Nat} {g s : Nat} (h : ¬ (s ≠ g ∧ s ≠ 0)) : lwayP t g s = ([], s) := by
  rw [lwayP, dif_neg fun z => h z.1]
theorem lwayP_len {t : List Nat} {g : Nat} : ∀ s, (lwayP t g s).1.length ≤ s := by
  intro s
  induction s using Nat.strongRecOn with
  | ind s ih =>
    rw [lwayP]
    split
    · rename_i h
      have := ih _ h.2
      show _ + 1 ≤ s
      omega
    · exact Nat.zero_le _
theorem lway_wayOf {t : List Nat} (ok : TreeOk t) {g : Nat} : ∀ s, s ≤ t.length → (if (lwayP t g s).2 = g then some (lwayP t g s).1 else none) = wayOf t s g := by
  intro s
  induction s using Nat.strongRecOn with
  | ind s ih =>
    intro hs
    unfold wayOf
    by_cases h1 : g < s
    · have up := ok.up (s - 1) (by omega)
      have := ih (t.getD (s - 1) 0) (by omega) (by omega)
      rw [lwayP_step ok (by omega) hs, wayP_step ok h1 hs]
      unfold wayOf at this
      simp only
      by_cases h2 : (lwayP t g (t.getD (s - 1) 0)).2 = g
      · rw [if_pos h2] at this ⊢
        by_cases h3 : (wayP t g (t.getD (s - 1) 0)).2 = g
        · rw [if_pos h3] at this ⊢
          injection this with e; rw [e]
        · rw [if_neg h3] at this; cases this
      · rw [if_neg h2] at this ⊢
        by_cases h3 : (wayP t g (t.getD (s - 1) 0)).2 = g
        · rw [if_pos h3] at this; cases this
        · rw [if_neg h3]
    · rw [wayP_end h1]
      by_cases h2 : s = g
      · rw [lwayP_end (by omega)]
      · have hlt : s < g := by omega
        rw [if_neg (show ¬ (([], s) : List Nat × Nat).2 = g from h2)]
        have : ∀ u, u ≤ t.length → u < g → (lwayP t g u).2 < g := by
          intro u
          induction u using Nat.strongRecOn with
          | ind u ihu =>
            intro hu hug
            by_cases h0 : u = 0
            · rw [lwayP_end (by omega)]; exact hug
            · have up := ok.up (u - 1) (by omega)
              rw [lwayP_step ok (by omega) hu]
              exact ihu _ (by omega) (by omega) (by omega)
        have := this s hs hlt
        rw [if_neg (by omega)]
def N_Lway : List Str := [("_law_tree_here" : Str), ("_law_source" : Str), ("_law_target" : Str), ("_law_found" : Str), ("_law_station" : Str)]
theorem sc_Lway : FnScope N_Lway ["_law_tree_here", "_law_source", "_law_target"] (defScope s_Lway) := ⟨rfl, rfl, rfl, by decide +kernel, rfl, by decide +kernel, by decide +kernel⟩
/-- the tracks up to the target or the root -/
def sp_Lway : Sp := fun vs H Q _ => ∃ (a : Addr) (t : List Nat) (s g : Nat), vs = [.ref a, .int s, .int g] ∧ H a = some (.tup (natL t)) ∧ TreeOk t ∧ s ≤ t.length ∧
  (∀ H', Same H H' → (lwayP t g s).2 ≠ g → Q .non H') ∧ ∀ p H', Same H H' → H p = none → H' p = some (.tup (natL (lwayP t g s).1)) → (lwayP t g s).2 = g → Q (.ref p) H'
theorem dc_Lway (T : Txt K mg) : Dc P w K mg base CX0 "_law_way" 1 ["_law_tree_here", "_law_source", "_law_target"] sp_Lway := by
  refine dc_of0 T.f_Lway (fun F => FunD.bindsN F fun _ _ _ _ _ _ us hl => match us, hl with | [_, _, _], _ => rfl) sc_Lway (fun vs H Q E h => ?_) (fun f cdv A outer s0 H vs Q E hr h => ?_)
  · obtain ⟨a, t, s, g, rfl, _⟩ := h; rfl
  · obtain ⟨a, t, s, g, rfl, ht, ok, hs, qn, q⟩ := h
    refine ⟨_, (pss_cons (ps_par (i := 3) (j := 4) rfl sc_Lway.nd rfl rfl (by decide) rfl rfl (pa_cons (pe_lst pa_nil) (pa_cons (pv 1) pa_nil)) (by rfl))
      (pss_cons (ps_while PassesOwn.never (PW.pt (pw_and (pt_cmpR (show OpR _ _ (rNeU K) from u_ne hr.units) (pv 4) (pv 2) (nomark _)) (pw_and1 (pt_cmpR (show OpR _ _ (rNeU K) from u_ne hr.units) (pv 4) pe_int (nomark _))))) (pss_cons (ps_expr (show PE _ _ (tBM K _ _ _ _) from pe_bm PySem.F.plainAttrs_list PySem.F.slot_list_append PySem.F.type_list_append mt_append (pv 3) (pa_cons (pv 4) pa_nil)))
      (pss_one (ps_set (i := 4) sc_Lway.nd rfl (.inl rfl) (pe_ix (show IxR _ (rIx K) from ix_seq) (pv 0) (pe_op op_sub (pv 4) pe_int) (fun _ _ => rfl))))))
      (pss_one (ps_ret (pe_ifExp (pt_cmpR (show OpR _ _ (rEqU K) from u_eq hr.units) (pv 4) (pv 2) (nomark _)) (pe_callTy (show CallR _ _ (rTupU K) from u_tup) (by rfl) T.b_tuple Rd.boot_tuple (pa_cons (pv 3) pa_nil)) pe_non))))), ?_⟩
    refine Rd.rd_start (σ' := [some (V.ref a), some (V.int s), some (V.int g), none, none]) rfl ?_
    walk_at "rd"
    refine rd_newL (Nat.zero_le _) fun p H1 np s1 f1 e1 => ?_
    walk_at "rd"
    refine rd_while (fun m σ H' => ∃ (u : Nat) (acc : List Nat), σ = [some (.ref a), some (.int s), some (.int g), some (.ref p), some (.int u)] ∧ m = u ∧ u ≤ t.length ∧ Same H H' ∧ H' p = some (.lst (natL acc)) ∧ acc.length + (lwayP t g u).1.length ≤ 9 ∧
      lwayP t g s = (acc ++ (lwayP t g u).1, (lwayP t g u).2)) s ⟨s, [], rfl, rfl, hs, s1, e1, by have := @lwayP_len t g s; have := ok.len; simp; omega, by simp⟩ ?_
    rintro m σ H2 ⟨u, acc, rfl, rfl, hu, s2, e2, hl, ew⟩
    have ha2 := s2 _ _ ht
    have fin : m = g ∨ m = 0 → tRet (tIf (tTest (tOp (rEqU K) (tVar 4) (tVar 2))) (tCB (rTupU K) (tCons (tVar 3) tNil)) (tC .non)) { nx := fun _ H' => Q .non H', rt := Q } [some (.ref a), some (.int s), some (.int g), some (.ref p), some (.int m)] H2 := by
      intro hh
      have es : lwayP t g m = ([], m) := lwayP_end (by omega)
      rw [es] at ew
      simp at ew
      walk_at "rd"
      refine rd_dec (fun he => ?_) fun he => ?_
      · walk_at "rd"
        refine rd_tupL e2 fun p3 H3 np3 s3 f3 e3 => ?_
        exact q p3 H3 (s2.trans s3) (s2.free np3) (by rw [ew]; exact e3) (by rw [ew]; show m = g; omega)
      · walk_at "rd"
        exact qn H2 s2 (by rw [ew]; show m ≠ g; omega)
    walk_at "rd"
    refine rd_ndec (fun hg => ?_) fun hg => ?_
    · walk_at "rd"
      refine rd_ndec (fun hg0 => ?_) fun hg0 => ?_
      · have es := lwayP_step ok (g := g) (s := m) (by omega) hu
        refine ⟨_, fun _ _ h => h, ?_⟩
        walk_at "rd"
        refine rd_append e2 (szl (by rw [natL_len]; omega)) fun H3 b3 e3 => ?_
        have ha3 := b3.tups _ _ ha2
        walk_at "rd"
        refine rd_ixT ha3 (at_nat (j := m - 1) (by omega) (natL_get (by omega))) ?_
        walk_at "rd"
        have hup := ok.up (m - 1) (by omega)
        refine ⟨t.getD (m - 1) 0, by omega, t.getD (m - 1) 0, acc ++ [m], rfl, rfl, by omega, Same.but s2 b3 np, by rw [natL_app]; exact e3, ?_, ?_⟩
        · rw [es] at hl
          simp at hl ⊢
          omega
        · rw [ew, es]
          simp
      · exact fin (.inr (by omega))
    · first
        | exact fin (.inl (by omega))
        | (refine L2.iteF ?_; exact fin (.inl (by omega)))

def N_Lpiece : List Str := [("_law_deck_here" : Str), ("_law_tree_here" : Str), ("_law_late" : Str), ("_law_source" : Str), ("_law_above" : Str), ("_law_station" : Str)]
theorem sc_Lpiece : FnScope N_Lpiece ["_law_deck_here", "_law_tree_here", "_law_late"] (defScope s_Lpiece) := ⟨rfl, rfl, rfl, by decide +kernel, rfl, by decide +kernel, by decide +kernel⟩
def sp_Lpiece : Sp := fun vs H Q _ => ∃ (d c a : Addr) (t : List Nat) (L k : Nat), vs = [.ref d, .ref a, .int (L : Int)] ∧ H a = some (.tup (natL t)) ∧ TreeOk t ∧ 0 < L ∧ L ≤ 1000000 ∧ DeckAt d c (k + 4) H ∧
  ∀ (p : Addr) (q : Pc) H', Mod [d, c] H H' → H p = none → H' p = some (.tup q.vs) → q.s ≤ t.length → q.g ≤ q.s → (wayOf t q.s q.g).isSome = true → (q.r < 4 ∨ q.r < L) → DeckAt d c k H' → Q (.ref p) H'
theorem wayOf_self {t : List Nat} {s : Nat} : wayOf t s s = some [] := by
  unfold wayOf
  rw [wayP_end (by omega), if_pos rfl]
theorem dc_Lpiece (T : Txt K mg) : Dc P w K mg base CX0 "_law_piece" 2 ["_law_deck_here", "_law_tree_here", "_law_late"] sp_Lpiece := by
  refine dc_of0 T.f_Lpiece (fun F => FunD.bindsN F fun _ _ _ _ _ _ us hl => match us, hl with | [_, _, _], _ => rfl) sc_Lpiece (fun vs H Q E h => ?_) (fun f cdv A outer s0 H vs Q E hr h => ?_)
  · obtain ⟨d, c, a, t, L, k, rfl, _⟩ := h; rfl
  · obtain ⟨d, c, a, t, L, k, rfl, ha, ok, hL0, hL, hk, q⟩ := h
    have hlen := ok.len
    refine ⟨_, (pss_cons (ps_set (i := 3) sc_Lpiece.nd rfl (.inr rfl) (pe_fn (dc_Ldraw T) (hr.mono (by decide)) (by rfl) pass0 (pa_cons (pv 0) (pa_cons (pe_op (show OpR _ _ (rAddU K) from u_add) (pe_callB (show CallR _ _ (rLenU K) from u_len) (by rfl) T.b_len Rd.boot_len (pa_cons (pv 1) pa_nil)) pe_int) pa_nil))))
      (pss_cons (ps_setLc (i := 4) (own := [("_law_station", 5)]) rfl sc_Lpiece.nd rfl rfl (sw_true rfl rfl rfl (by decide +kernel)) (pi_range1 (by rfl) T.b_range (pa_cons (pe_op (show OpR _ _ (rAddU K) from u_add) (pv 3) pe_int) pa_nil)) (blkOk_by (own := [("_law_station", 5)]) (N := N_Lpiece) (sc := defScope s_Lpiece) (by decide +kernel)) (fun _ _ _ _ _ => (pg_name (i := 5) sc_Lpiece.nd rfl (.inl rfl))) (fun _ _ _ _ _ => (pts_one (pt_cmpR (show OpR _ _ rNotN from o_notN) (pe_fn (dc_Lway T) (hr.mono (by decide)) (by rfl) pass0 (pa_cons (pv 1) (pa_cons (pv 3) (pa_cons (pv 5) pa_nil)))) pe_non (nomark _)))) (fun _ _ _ _ _ => (pv 5)))
      (pss_one (ps_ret (pe_tup (pa_cons (pv 3) (pa_cons (pe_fn (dc_Ldraw T) (hr.mono (by decide)) (by rfl) pass0 (pa_cons (pv 0) (pa_cons (pe_ix (show IxR _ (rIx K) from ix_seq) (pe_lst (pa_cons pe_int (pa_cons pe_int (pa_cons (pv 2) pa_nil)))) (pe_fn (dc_Ldraw T) (hr.mono (by decide)) (by rfl) pass0 (pa_cons (pv 0) (pa_cons pe_int pa_nil))) (fun _ _ => rfl)) pa_nil))) (pa_cons (pe_ix (show IxR _ (rIx K) from ix_seq) (pv 4) (pe_fn (dc_Ldraw T) (hr.mono (by decide)) (by rfl) pass0 (pa_cons (pv 0) (pa_cons (pe_callB (show CallR _ _ (rLenU K) from u_len) (by rfl) T.b_len Rd.boot_len (pa_cons (pv 4) pa_nil)) pa_nil))) (fun _ _ => rfl)) pa_nil)))))))), ?_⟩
    refine Rd.rd_start (σ' := [some (V.ref d), some (V.ref a), some (V.int (L : Int)), none, none, none]) rfl ?_
    walk_at "rd"
    refine ⟨d, c, t.length + 1, k + 3, by rw [natL_len]; rfl, by omega, by omega, hk, fun s H1 m1 k1 hs => ?_⟩
    have ha1 := m1.tups _ _ ha
    walk_at "rd"
    refine rd_r1 (n := s + 1) (by omega) (by omega) ?_
    refine comp_it (l := List.range (s + 1)) (by rw [List.length_range]; exact walk_range) (by rw [List.length_range]; omega) (fun g => if (wayOf t s g).isSome = true then some (V.int (g : Int)) else none) (fun _ _ => trivial) (fun _ _ _ _ => yfn_same) (fun i g x H2 H3 KV N eg s2 y hk hn => ?_) fun D H2 nD s2 hD => ?_
    · obtain ⟨rfl, rfl⟩ := yrng0 y
      have hgi : i = g ∧ i < s + 1 := by
        obtain ⟨h1, h2⟩ := List.getElem?_eq_some_iff.mp eg
        simp at h1 h2
        exact ⟨h2, h1⟩
      obtain ⟨rfl, hi⟩ := hgi
      have lw := lway_wayOf ok (g := i) s (by omega)
      walk_at "rd"
      refine ⟨a, t, s, i, rfl, s2 _ _ ha1, ok, by omega, fun H4 s4 e4 => ?_, fun p H4 s4 np4 e5 e4 => ?_⟩
      · walk_at "rd"
        rw [if_neg e4] at lw
        exact hn H4 s4 (by rw [← lw]; rfl)
      · walk_at "rd"
        rw [if_pos e4] at lw
        exact hk _ H4 s4 (by rw [← lw]; rfl)
    · let ab := (List.range (s + 1)).filter fun g => (wayOf t s g).isSome
      have eab : (List.range (s + 1)).filterMap (fun g => if (wayOf t s g).isSome = true then some (V.int (g : Int)) else none) = natL ab := by
        show _ = ((List.range (s + 1)).filter _).map _
        induction List.range (s + 1) with
        | nil => rfl
        | cons x xs ih =>
          rw [List.filterMap_cons, List.filter_cons, ih]
          cases (wayOf t s x).isSome <;> rfl
      rw [eab] at hD
      have hab : ∀ g ∈ ab, g ≤ s ∧ (wayOf t s g).isSome = true := fun g hg => by
        obtain ⟨h1, h2⟩ := List.mem_filter.mp hg
        exact ⟨by simp at h1; omega, h2⟩
      have hne : 0 < ab.length := List.length_pos_of_mem (List.mem_filter.mpr ⟨List.mem_range.mpr (show s < s + 1 by omega), by rw [wayOf_self]; rfl⟩)
      have hle : ab.length ≤ s + 1 := by
        have := List.length_filter_le (fun g => (wayOf t s g).isSome) (List.range (s + 1))
        rw [List.length_range] at this
        exact this
      have k2 := k1.same s2
      walk_at "rd"
      refine rd_l3 fun p3 H3 np3 s3 f3 e3 => ?_
      walk_at "rd"
      refine ⟨d, c, 3, k + 2, rfl, by decide, by decide, k2.same s3, fun way H4 m4 k4 hw => ?_⟩
      have nd3 := k2.nd np3
      have e4 := m4.at2 e3 nd3.1 nd3.2
      have hex : ∃ M : Nat, atI [V.int 1, V.int 4, V.int (L : Int)] (way : Int) = some (.int (M : Int)) ∧ 0 < M ∧ M ≤ 1000000 ∧ (M ≤ 4 ∨ M ≤ L) := by
        have hw' : way = 0 ∨ way = 1 ∨ way = 2 := by omega
        rcases hw' with rfl | rfl | rfl
        · exact ⟨1, rfl, by omega, by omega, by omega⟩
        · exact ⟨4, rfl, by omega, by omega, by omega⟩
        · exact ⟨L, rfl, by omega, by omega, by omega⟩
      obtain ⟨M, eM, hM0, hM1, hM⟩ := hex
      refine rd_ixL e4 eM ?_
      walk_at "rd"
      refine ⟨d, c, M, k + 1, rfl, hM0, hM1, k4, fun r H5 m5 k5 hr5 => ?_⟩
      have nD1 := k1.nd nD
      have hD5 : H5 D = some (.lst (natL ab)) := m5.at2 (m4.at2 (s3 _ _ hD) nD1.1 nD1.2) nD1.1 nD1.2
      walk_at "rd"
      refine ⟨d, c, ab.length, k, congrArg (fun n : Nat => [V.ref d, V.int (n : Int)]) (natL_len ab), hne, by omega, k5, fun j H6 m6 k6 hj => ?_⟩
      have hD6 := m6.at2 hD5 nD1.1 nD1.2
      refine rd_ixL hD6 (atI_nat (natL_get hj)) ?_
      walk_at "rd"
      refine rd_t3 fun p7 H7 np7 s7 f7 e7 => ?_
      have hg := hab (ab.getD j 0) (by rw [List.getD_eq_getElem?_getD, List.getElem?_eq_getElem hj]; exact List.getElem_mem hj)
      refine q p7 ⟨s, r, ab.getD j 0⟩ H7 ((((((m1.trans (s2.mod _)).trans (s3.mod _)).trans m4).trans m5).trans m6).trans (s7.mod _)) ?_ e7 (by show s ≤ _; omega) hg.1 hg.2 (by show r < 4 ∨ r < L; omega) (k6.same s7)
      exact (((((m1.trans (s2.mod _)).trans (s3.mod _)).trans m4).trans m5).trans m6).free _ np7
/-- whether pieces fit a tree -/
structure PcOk (t : List Nat) (L : Nat) (q : Pc) : Prop where
  s : q.s ≤ t.length
  g : q.g ≤ q.s
  way : (wayOf t q.s q.g).isSome = true
  r : q.r < 4 ∨ q.r < L
def pdPc (q : Pc) : PyData := .tuple [.int (q.s : Int), .int (q.r : Int), .int (q.g : Int)]
theorem pd1_pc (q : Pc) : Pd1 (pdPc q) 1 := pd1_tuple fun x hx => by
  simp at hx
  rcases hx with rfl | rfl | rfl <;> exact pd1_int
theorem dp_pc {H : Hp} {a : Addr} {q : Pc} (h : H a = some (.tup q.vs)) : Dp K H (.ref a) (pdPc q) := .tup (SqT.of h) (.cons (.int _) (.cons (.int _) (.cons (.int _) .nil)))
def N_Lpieces : List Str := [("_law_deck_here" : Str), ("_law_tree_here" : Str), ("_law_most" : Str), ("_law_late" : Str), ("_law_found" : Str), ("_law_k" : Str), ("_law_piece_here" : Str)]
theorem sc_Lpieces : FnScope N_Lpieces ["_law_deck_here", "_law_tree_here", "_law_most", "_law_late"] (defScope s_Lpieces) := ⟨rfl, rfl, rfl, by decide +kernel, rfl, by decide +kernel, by decide +kernel⟩
def sp_Lpieces : Sp := fun vs H Q _ => ∃ (d c a : Addr) (t : List Nat) (M L k : Nat), vs = [.ref d, .ref a, .int (M : Int), .int (L : Int)] ∧ H a = some (.tup (natL t)) ∧ TreeOk t ∧ M ≤ 100 ∧ 0 < L ∧ L ≤ 1000000 ∧ DeckAt d c (k + 5 * M + 1) H ∧
  ∀ (p : Addr) (ps : List Pc) H', Mod [d, c] H H' → H p = none → PcsAt H' p ps → ps.length ≤ M → (∀ q ∈ ps, PcOk t L q) → DeckAt d c k H' → Q (.ref p) H'
theorem dc_Lpieces (T : Txt K mg) : Dc P w K mg base CX0 "_law_pieces" 3 ["_law_deck_here", "_law_tree_here", "_law_most", "_law_late"] sp_Lpieces := by
  refine dc_of0 T.f_Lpieces (fun F => FunD.bindsN F fun _ _ _ _ _ _ us hl => match us, hl with | [_, _, _, _], _ => rfl) sc_Lpieces (fun vs H Q E h => ?_) (fun f cdv A outer s0 H vs Q E hr h => ?_)
  · obtain ⟨d, c, a, t, M, L, k, rfl, _⟩ := h; rfl
  · obtain ⟨d, c, a, t, M, L, k, rfl, ha, ok, hM, hL0, hL, hk, q⟩ := h
    refine ⟨_, (pss_cons (ps_set (i := 4) sc_Lpieces.nd rfl (.inl rfl) (pe_lst pa_nil))
      (pss_cons (ps_for PassesOwn.never rfl (pi_range1 (by rfl) T.b_range (pa_cons (pe_fn (dc_Ldraw T) (hr.mono (by decide)) (by rfl) pass0 (pa_cons (pv 0) (pa_cons (pe_op (show OpR _ _ (rAddU K) from u_add) (pv 2) pe_int) pa_nil))) pa_nil)) (pg_name (i := 5) sc_Lpieces.nd rfl (.inl rfl)) (pss_cons (ps_set (i := 6) sc_Lpieces.nd rfl (.inl rfl) (pe_fn (dc_Lpiece T) (hr.mono (by decide)) (by rfl) pass0 (pa_cons (pv 0) (pa_cons (pv 1) (pa_cons (pv 3) pa_nil)))))
      (pss_one (ps_expr (show PE _ _ (tBM K _ _ _ _) from pe_bm PySem.F.plainAttrs_list PySem.F.slot_list_append PySem.F.type_list_append mt_append (pv 4) (pa_cons (pe_ifExp (PW.pt (pw_and (pt_cmpR (show OpR _ _ (rNeU K) from u_ne hr.units) (pv 4) (pe_lst pa_nil) (nomark _)) (pw_and1 (pt_cmpR (show OpR _ _ (rEqU K) from u_eq hr.units) (pe_fn (dc_Ldraw T) (hr.mono (by decide)) (by rfl) pass0 (pa_cons (pv 0) (pa_cons pe_int pa_nil))) pe_int (nomark _))))) (pe_ix (show IxR _ (rIx K) from ix_seq) (pv 4) pe_int (fun _ _ => rfl)) (pv 6)) pa_nil))))))
      (pss_one (ps_ret (pe_callTy (show CallR _ _ (rTupU K) from u_tup) (by rfl) T.b_tuple Rd.boot_tuple (pa_cons (pv 4) pa_nil)))))), ?_⟩
    refine Rd.rd_start (σ' := [some (V.ref d), some (V.ref a), some (V.int (M : Int)), some (V.int (L : Int)), none, none, none]) rfl ?_
    walk_at "rd"
    refine rd_l0 fun P H1 nP s1 f1 e1 => ?_
    walk_at "rd"
    refine ⟨d, c, M + 1, k + 5 * M, rfl, by omega, by omega, hk.same s1, fun n H2 m2 k2 hn => ?_⟩
    have nd := hk.nd nP
    have e2 := m2.at2 e1 nd.1 nd.2
    walk_at "rd"
    refine rd_r1 (n := n) (by omega) (by omega) ?_
    refine for_w walk_range (fun i σ H' => ∃ (l : List (Addr × Pc)) (x y : Option V), σ = [some (.ref d), some (.ref a), some (.int (M : Int)), some (.int (L : Int)), some (.ref P), x, y] ∧ H' P = some (.lst (l.map fun x => V.ref x.1)) ∧ l.length = i ∧
        (∀ x ∈ l, H' x.1 = some (.tup x.2.vs) ∧ PcOk t L x.2) ∧ Mod [d, c, P] H1 H' ∧ Mod [d, c] H H' ∧ DeckAt d c (k + 5 * (M - i)) H')
      ⟨[], _, _, rfl, e2, rfl, by simp, m2.sub (by simp), (s1.mod _).trans m2, k2.mono (by omega)⟩ (fun _ _ _ _ _ => trivial) (fun i x σ H3 H4 hi h y => ?_) fun σ H3 h => ?_
    · obtain ⟨l, x1, y1, rfl, eP, el, hl, m3, m3', k3⟩ := h
      obtain ⟨rfl, rfl⟩ := yrng0 y
      walk_at "rd"
      refine ⟨d, c, a, t, L, k + 5 * (M - (i + 1)) + 1, rfl, m3'.tups _ _ ha, ok, hL0, hL, by rw [show k + 5 * (M - (i + 1)) + 1 + 4 = k + 5 * (M - i) by omega]; exact k3, fun p q5 H5 m5 np5 e5 h1 h2 h3 h4 k5 => ?_⟩
      have eP5 := m5.at2 eP nd.1 nd.2
      have hl5 : ∀ x ∈ l, H5 x.1 = some (.tup x.2.vs) ∧ PcOk t L x.2 := fun x hx => ⟨m5.tups _ _ (hl x hx).1, (hl x hx).2⟩
      have okq : PcOk t L q5 := ⟨h1, h2, h3, h4⟩
      have fin : ∀ (y : Addr × Pc) (H6 : Hp), Mod [d, c] H5 H6 → DeckAt d c (k + 5 * (M - (i + 1))) H6 → H6 y.1 = some (.tup y.2.vs) → PcOk t L y.2 → rAppend (.ref P) [.ref y.1] H6 fun _ H7 => ∃ (l' : List (Addr × Pc)) (x y : Option V), [some (V.ref d), some (.ref a), some (.int (M : Int)), some (.int (L : Int)), some (.ref P), some (.int (i : Int)), some (.ref p)] = [some (.ref d), some (.ref a), some (.int (M : Int)), some (.int (L : Int)), some (.ref P), x, y] ∧
          H7 P = some (.lst (l'.map fun x => V.ref x.1)) ∧ l'.length = i + 1 ∧ (∀ x ∈ l', H7 x.1 = some (.tup x.2.vs) ∧ PcOk t L x.2) ∧ Mod [d, c, P] H1 H7 ∧ Mod [d, c] H H7 ∧ DeckAt d c (k + 5 * (M - (i + 1))) H7 := by
        intro y H6 m6 k6 ey oky
        have eP6 := m6.at2 eP5 nd.1 nd.2
        refine rd_append eP6 (szl (by rw [List.length_map]; omega)) fun H7 b7 e7 => ?_
        have sub : ∀ x ∈ [d, c], x ∈ [d, c, P] := by simp
        refine ⟨l ++ [y], _, _, rfl, by rw [e7, List.map_append]; rfl, by simp [el], fun x hx => ?_, ((m3.trans (m5.sub (by simp))).trans (m6.sub (by simp))).trans (b7.mod (by simp)), ((m3'.trans m5).trans m6).dropFresh b7 nP, k6.but b7 nd.1.symm nd.2.symm⟩
        rcases List.mem_append.mp hx with hx | hx
        · exact ⟨b7.tups _ _ (m6.tups _ _ (hl5 x hx).1), (hl5 x hx).2⟩
        · simp at hx
          subst hx
          exact ⟨b7.tups _ _ ey, oky⟩
      walk_at "rd"
      refine rd_l0 fun p6 H6 np6 s6 f6 e6 => ?_
      have hl6 : ∀ x ∈ l, Dp K H6 (.ref x.1) (pdPc x.2) := fun x hx => dp_pc (s6 _ _ (hl5 x hx).1)
      refine rd_neNilL (dpL_of (s6 _ _ eP5) hl6) ((pd1_list (n := 1) fun x hx => by
        obtain ⟨y, _, rfl⟩ := List.mem_map.mp hx
        exact pd1_pc _).pd (by decide)) e6 ?_
      refine rd_bl ?_
      refine rd_ndec (fun hne => ?_) fun hne => ?_
      · walk_at "rd"
        refine ⟨d, c, 4, k + 5 * (M - (i + 1)), rfl, by decide, by decide, k5.same s6, fun v H7 m7 k7 hv => ?_⟩
        have m57 : Mod [d, c] H5 H7 := (s6.mod _).trans m7
        walk_at "rd"
        refine rd_dec (fun h0 => ?_) fun h0 => ?_
        · cases l with
          | nil => simp at hne
          | cons y0 l0 =>
            have hy0 := hl5 y0 (List.mem_cons_self ..)
            have eP7 : H7 P = some (.lst (.ref y0.1 :: l0.map fun x => V.ref x.1)) := m57.at2 eP5 nd.1 nd.2
            walk_at "rd"
            exact fin y0 H7 m57 k7 (m57.tups _ _ hy0.1) hy0.2
        · walk_at "rd"
          exact fin (p, q5) H7 m57 k7 (m57.tups _ _ e5) okq
      · walk_at "rd"
        exact fin (p, q5) H6 (s6.mod _) (by have := k5.same s6; exact this.mono (by omega)) (s6 _ _ e5) okq
    · obtain ⟨l, x1, y1, rfl, eP, el, hl, m3, m3', k3⟩ := h
      walk_at "rd"
      refine rd_tupL eP fun p4 H4 np4 s4 f4 e4 => ?_
      refine q p4 (l.map fun x => x.2) H4 (m3'.trans (s4.mod _)) (m3'.free _ np4) ⟨l, rfl, e4, fun x hx => s4 _ _ (hl x hx).1⟩ (by rw [List.length_map]; omega) (fun q hq => ?_) ((k3.mono (by omega)).same s4)
      obtain ⟨x, hx, rfl⟩ := List.mem_map.mp hq
      exact (hl x hx).2

def N_Ltask : List Str := [("_law_deck_here" : Str), ("_law_stations" : Str), ("_law_most" : Str), ("_law_late" : Str), ("_law_tree_here" : Str)]
theorem sc_Ltask : FnScope N_Ltask ["_law_deck_here", "_law_stations", "_law_most", "_law_late"] (defScope s_Ltask) := ⟨rfl, rfl, rfl, by decide +kernel, rfl, by decide +kernel, by decide +kernel⟩
def sp_Ltask : Sp := fun vs H Q _ => ∃ (d c : Addr) (N M L k : Nat), vs = [.ref d, .int (N : Int), .int (M : Int), .int (L : Int)] ∧ 0 < N ∧ N ≤ 10 ∧ M ≤ 100 ∧ 0 < L ∧ L ≤ 1000000 ∧ DeckAt d c (k + 5 * M + N + 3) H ∧
  ∀ (p a b : Addr) (t : List Nat) (ps : List Pc) H', Mod [d, c] H H' → H p = none → H' p = some (.tup [.ref a, .ref b]) → H' a = some (.tup (natL t)) → t.length < N → TreeOk t → PcsAt H' b ps → ps.length ≤ M → (∀ q ∈ ps, PcOk t L q) → DeckAt d c k H' → Q (.ref p) H'
theorem dc_Ltask (T : Txt K mg) : Dc P w K mg base CX0 "_law_task" 4 ["_law_deck_here", "_law_stations", "_law_most", "_law_late"] sp_Ltask := by
  refine dc_of0 T.f_Ltask (fun F => FunD.bindsN F fun _ _ _ _ _ _ us hl => match us, hl with | [_, _, _, _], _ => rfl) sc_Ltask (fun vs H Q E h => ?_) (fun f cdv A outer s0 H vs Q E hr h => ?_)
  · obtain ⟨d, c, N, M, L, k, rfl, _⟩ := h; rfl
  · obtain ⟨d, c, N, M, L, k, rfl, hN0, hN, hM, hL0, hL, hk, q⟩ := h
    refine ⟨_, (pss_cons (ps_set (i := 4) sc_Ltask.nd rfl (.inl rfl) (pe_fn (dc_Ltree T) (hr.mono (by decide)) (by rfl) pass0 (pa_cons (pv 0) (pa_cons (pv 1) pa_nil))))
      (pss_one (ps_ret (pe_tup (pa_cons (pv 4) (pa_cons (pe_fn (dc_Lpieces T) (hr.mono (by decide)) (by rfl) pass0 (pa_cons (pv 0) (pa_cons (pv 4) (pa_cons (pv 2) (pa_cons (pv 3) pa_nil))))) pa_nil)))))), ?_⟩
    refine Rd.rd_start (σ' := [some (V.ref d), some (V.int (N : Int)), some (V.int (M : Int)), some (V.int (L : Int)), none]) rfl ?_
    walk_at "rd"
    refine ⟨d, c, N, k + 5 * M + 1, rfl, hN0, by omega, by rw [show k + 5 * M + 1 + N + 2 = k + 5 * M + N + 3 by omega]; exact hk, fun a t H1 m1 na ea lt ut k1 => ?_⟩
    have ok : TreeOk t := ⟨by omega, ut⟩
    walk_at "rd"
    refine ⟨d, c, a, t, M, L, k, rfl, ea, ok, hM, hL0, hL, k1, fun b ps H2 m2 nb eb lb hps k2 => ?_⟩
    walk_at "rd"
    refine rd_t2 fun p H3 np s3 f3 e3 => ?_
    have m02 := m1.trans m2
    exact q p a b t ps H3 (m02.trans (s3.mod _)) (m02.free _ np) e3 (s3 _ _ (m2.tups _ _ ea)) lt ok (eb.ts s3.ts) lb hps (k2.same s3)
def N_Lbent : List Str := [("_law_deck_here" : Str), ("_law_text" : Str), ("_law_words" : Str), ("_law_at" : Str), ("_law_way_here" : Str), ("_law_place" : Str), ("_law_sign" : Str)]
theorem sc_Lbent : FnScope N_Lbent ["_law_deck_here", "_law_text"] (defScope s_Lbent) := ⟨rfl, rfl, rfl, by decide +kernel, rfl, by decide +kernel, by decide +kernel⟩
def sp_Lbent : Sp := fun vs H Q _ => ∃ (d c : Addr) (w : List Nat) (k : Nat), vs = [.ref d, .str (Mt.S w)] ∧ w.length ≤ 40000 ∧ DeckAt d c (k + 6) H ∧ ∀ (u : List Nat) H', Mod [d, c] H H' → u.length ≤ 2 * w.length + 2 → DeckAt d c k H' → Q (.str (Mt.S u)) H'
theorem spl_sum (c : Nat) : ∀ (L acc : List Nat), ((TL.spl [c] 0 acc L).map List.length).sum + (TL.spl [c] 0 acc L).length = acc.length + L.length + 1
  | [], acc => by rw [TL.spl_nil]; simp
  | x :: r, acc => by
    by_cases h : TL.pre [c] (x :: r) = true
    · rw [TL.spl_hit h]
      have := spl_sum c r []
      simp at this ⊢
      omega
    · rw [TL.spl_miss (by simpa using h)]
      have := spl_sum c r (acc ++ [x])
      simp at this ⊢
      omega
theorem take_sum {n : Nat} : ∀ (l : List (List Nat)), ((l.take n).map List.length).sum + ((l.drop n).map List.length).sum = (l.map List.length).sum := fun l => by
  rw [← List.sum_append, ← List.map_append, List.take_append_drop]
theorem twelve : [V.str (Str.ofString "0"), V.str (Str.ofString "1"), V.str (Str.ofString "9"), V.str (Str.ofString "-"), V.str (Mt.S [32]), V.str (Str.ofString "+"), V.str (Str.ofString "_"), V.str (Str.ofString "@"), V.str (Str.ofString ">"), V.str (Str.ofString ";"), V.str (Str.ofString ","), V.str (Str.ofString "x")] =
    [48, 49, 57, 45, 32, 43, 95, 64, 62, 59, 44, 120].map fun c => V.str (Mt.S [c]) := by
  have h : ∀ {z : Str} {c : Nat}, Mt.tl z = [c] → V.str z = V.str (Mt.S [c]) := fun {z c} e => by have := Mt.S_tl z; rw [e] at this; rw [this]
  rw [h (z := Str.ofString "0") (c := 48) (by decide +kernel), h (z := Str.ofString "1") (c := 49) (by decide +kernel), h (z := Str.ofString "9") (c := 57) (by decide +kernel), h (z := Str.ofString "-") (c := 45) (by decide +kernel), h (z := Str.ofString "+") (c := 43) (by decide +kernel), h (z := Str.ofString "_") (c := 95) (by decide +kernel), h (z := Str.ofString "@") (c := 64) (by decide +kernel), h (z := Str.ofString ">") (c := 62) (by decide +kernel), h (z := Str.ofString ";") (c := 59) (by decide +kernel), h (z := Str.ofString ",") (c := 44) (by decide +kernel), h (z := Str.ofString "x") (c := 120) (by decide +kernel)]
  rfl
theorem dc_Lbent (T : Txt K mg) : Dc P w K mg base CX0 "_law_bent" 2 ["_law_deck_here", "_law_text"] sp_Lbent := by
  refine dc_of0 T.f_Lbent (fun F => FunD.bindsN F fun _ _ _ _ _ _ us hl => match us, hl with | [_, _], _ => rfl) sc_Lbent (fun vs H Q E h => ?_) (fun f cdv A outer s0 H vs Q E hr h => ?_)
  · obtain ⟨d, c, w, k, rfl, _⟩ := h; rfl
  · obtain ⟨d, c, w, k, rfl, hw, hk, q⟩ := h
    refine ⟨_, (pss_cons (ps_set (i := 2) sc_Lbent.nd rfl (.inl rfl) (show PE _ _ (tBM K _ _ _ _) from pe_bm PySem.F.plainAttrs_str PySem.F.slot_str_split PySem.F.type_str_split (show MtR _ _ rSplit from m_split) (pv 1) (pa_cons pe_str pa_nil)))
      (pss_cons (ps_set (i := 3) sc_Lbent.nd rfl (.inl rfl) (pe_fn (dc_Ldraw T) (hr.mono (by decide)) (by rfl) pass0 (pa_cons (pv 0) (pa_cons (pe_callB (show CallR _ _ (rLenU K) from u_len) (by rfl) T.b_len Rd.boot_len (pa_cons (pv 2) pa_nil)) pa_nil))))
      (pss_cons (ps_set (i := 4) sc_Lbent.nd rfl (.inl rfl) (pe_fn (dc_Ldraw T) (hr.mono (by decide)) (by rfl) pass0 (pa_cons (pv 0) (pa_cons pe_int pa_nil))))
      (pss_cons (ps_if (pt_cmpR (show OpR _ _ (rEqU K) from u_eq hr.units) (pv 4) pe_int (nomark _)) (pss_one (ps_ret (show PE _ _ (tBM K _ _ _ _) from pe_bm PySem.F.plainAttrs_str PySem.F.slot_str_join PySem.F.type_str_join (show MtR _ _ (rJoin K) from m_join) pe_str (pa_cons (pe_op (show OpR _ _ (rAddU K) from u_add) (pe_op (show OpR _ _ (rAddU K) from u_add) (pe_slice (show SlR _ (rSlL K) from sl_list) (pv 2) po_none (po_some (pv 3))) (pe_slice (show SlR _ (rSlL K) from sl_list) (pv 2) (po_some (pv 3)) (po_some (pe_op (show OpR _ _ (rAddU K) from u_add) (pv 3) pe_int)))) (pe_slice (show SlR _ (rSlL K) from sl_list) (pv 2) (po_some (pv 3)) po_none)) pa_nil)))) pss_nil)
      (pss_cons (ps_if (pt_cmpR (show OpR _ _ (rEqU K) from u_eq hr.units) (pv 4) pe_int (nomark _)) (pss_one (ps_ret (show PE _ _ (tBM K _ _ _ _) from pe_bm PySem.F.plainAttrs_str PySem.F.slot_str_join PySem.F.type_str_join (show MtR _ _ (rJoin K) from m_join) pe_str (pa_cons (pe_op (show OpR _ _ (rAddU K) from u_add) (pe_slice (show SlR _ (rSlL K) from sl_list) (pv 2) (po_some (pv 3)) po_none) (pe_slice (show SlR _ (rSlL K) from sl_list) (pv 2) po_none (po_some (pv 3)))) pa_nil)))) pss_nil)
      (pss_cons (ps_if (pt_cmpR (show OpR _ _ (rEqU K) from u_eq hr.units) (pv 4) pe_int (nomark _)) (pss_one (ps_ret (show PE _ _ (tBM K _ _ _ _) from pe_bm PySem.F.plainAttrs_str PySem.F.slot_str_join PySem.F.type_str_join (show MtR _ _ (rJoin K) from m_join) pe_str (pa_cons (pe_op (show OpR _ _ (rAddU K) from u_add) (pe_slice (show SlR _ (rSlL K) from sl_list) (pv 2) po_none (po_some (pv 3))) (pe_slice (show SlR _ (rSlL K) from sl_list) (pv 2) (po_some (pe_op (show OpR _ _ (rAddU K) from u_add) (pv 3) pe_int)) po_none)) pa_nil)))) pss_nil)
      (pss_cons (ps_set (i := 5) sc_Lbent.nd rfl (.inl rfl) (pe_fn (dc_Ldraw T) (hr.mono (by decide)) (by rfl) pass0 (pa_cons (pv 0) (pa_cons (pe_op (show OpR _ _ (rAddU K) from u_add) (pe_callB (show CallR _ _ (rLenU K) from u_len) (by rfl) T.b_len Rd.boot_len (pa_cons (pv 1) pa_nil)) pe_int) pa_nil))))
      (pss_cons (ps_set (i := 6) sc_Lbent.nd rfl (.inl rfl) (pe_ix (show IxR _ (rIx K) from ix_seq) (pe_lst (pa_cons pe_str (pa_cons pe_str (pa_cons pe_str (pa_cons pe_str (pa_cons pe_str (pa_cons pe_str (pa_cons pe_str (pa_cons pe_str (pa_cons pe_str (pa_cons pe_str (pa_cons pe_str (pa_cons pe_str pa_nil))))))))))))) (pe_fn (dc_Ldraw T) (hr.mono (by decide)) (by rfl) pass0 (pa_cons (pv 0) (pa_cons pe_int pa_nil))) (fun _ _ => rfl)))
      (pss_one (ps_ret (pe_op (show OpR _ _ (rAddU K) from u_add) (pe_op (show OpR _ _ (rAddU K) from u_add) (pe_slice sl_str (pv 1) po_none (po_some (pv 5))) (pe_op (show OpR _ _ rMulS from op_mulS) (pv 6) (pe_fn (dc_Ldraw T) (hr.mono (by decide)) (by rfl) pass0 (pa_cons (pv 0) (pa_cons pe_int pa_nil))))) (pe_slice sl_str (pv 1) (po_some (pe_op (show OpR _ _ (rAddU K) from u_add) (pv 5) (pe_fn (dc_Ldraw T) (hr.mono (by decide)) (by rfl) pass0 (pa_cons (pv 0) (pa_cons pe_int pa_nil))))) po_none)))))))))))), ?_⟩
    refine Rd.rd_start (σ' := [some (V.ref d), some (V.str (Mt.S w)), none, none, none, none, none]) rfl ?_
    have hs : ((Mt.spl 32 w).map List.length).sum + (Mt.spl 32 w).length = w.length + 1 := by
      have := spl_sum 32 w []
      rw [show ([] : List Nat).length = 0 from rfl, Nat.zero_add] at this
      exact this
    have hsl := (spl_len 32 w).1
    have hsl0 : 0 < (Mt.spl 32 w).length := by
      have : ∀ (L acc : List Nat), 0 < (TL.spl [32] 0 acc L).length := fun L => by
        induction L with
        | nil => intro acc; rw [TL.spl_nil]; simp
        | cons x r ih =>
          intro acc
          by_cases h : TL.pre [32] (x :: r) = true
          · rw [TL.spl_hit h]; simp
          · rw [TL.spl_miss (by simpa using h)]; exact ih _
      exact this w []
    walk_at "rd"
    rw [k_sp]
    refine rd_split1 (by omega) (by decide) fun p H1 np s1 f1 e1 => ?_
    have nd := hk.nd np
    generalize Mt.spl 32 w = ws at *
    walk_at "rd"
    refine ⟨d, c, ws.length, k + 5, by rw [List.length_map]; rfl, hsl0, by omega, hk.same s1, fun at_ H2 m2 k2 hat => ?_⟩
    have e2 := m2.at2 e1 nd.1 nd.2
    walk_at "rd"
    refine ⟨d, c, 5, k + 4, rfl, by decide, by decide, k2, fun way H3 m3 k3 hway => ?_⟩
    have e3 := m3.at2 e2 nd.1 nd.2
    have m03 := ((s1.mod [d, c]).trans m2).trans m3
    have hl3 : ws.length ≤ 40001 := by omega
    have ews : ∀ n : Nat, (ws.map fun u => V.str (Mt.S u)).take n = (ws.take n).map fun u => V.str (Mt.S u) := fun n => (List.map_take ..).symm
    have ewd : ∀ n : Nat, (ws.map fun u => V.str (Mt.S u)).drop n = (ws.drop n).map fun u => V.str (Mt.S u) := fun n => (List.map_drop ..).symm
    have fin : ∀ (l : List (List Nat)) (a : Addr) (H5 : Hp), Mod [d, c] H H5 → DeckAt d c k H5 → H5 a = some (.lst (l.map fun u => V.str (Mt.S u))) → (l.map List.length).sum + l.length ≤ 2 * w.length + 2 → rJoin K (.str (Mt.S [32])) [.ref a] H5 Q := by
      intro l a H5 m5 k5 ea hl
      have := joinL_len [32] l
      refine rd_join1 ea (by simp; omega) (q _ H5 m5 (by simp at this; omega) k5)
    have hcut : ∀ n : Nat, ((ws.take n).map List.length).sum + ((ws.drop n).map List.length).sum = (ws.map List.length).sum := fun n => take_sum ws
    have k3' : DeckAt d c k H3 := k3.mono (by omega)
    walk_at "rd"
    refine rd_dec (fun h0 => ?_) fun h0 => ?_
    · walk_at "rd"
      refine rd_slL e3 fun p4 H4 np4 s4 f4 e4 => ?_
      rw [cut_to, ews] at e4
      have e3' := s4 _ _ e3
      walk_at "rd"
      refine rd_slL e3' fun p5 H5 np5 s5 f5 e5 => ?_
      rw [cut_one, ewd, ← List.map_take] at e5
      have e4' := s5 _ _ e4
      walk_at "rd"
      refine rd_addL e4' e5 (by simp; rw [sizeLine_eq]; omega) fun p6 H6 np6 s6 f6 e6 => ?_
      rw [← List.map_append] at e6
      have e3'' := s6 _ _ (s5 _ _ e3')
      walk_at "rd"
      refine rd_slL e3'' fun p7 H7 np7 s7 f7 e7 => ?_
      rw [cut_from, ewd] at e7
      walk_at "rd"
      refine rd_addL (s7 _ _ e6) e7 (by simp; rw [sizeLine_eq]; omega) fun p8 H8 np8 s8 f8 e8 => ?_
      rw [← List.map_append] at e8
      walk_at "rd"
      have sa := (((s4.trans s5).trans s6).trans s7).trans s8
      refine fin _ p8 H8 (m03.trans (sa.mod _)) (k3'.same sa) e8 ?_
      have h1 := hcut at_
      have h2 := take_sum (n := 1) (ws.drop at_)
      simp at *
      omega
    · walk_at "rd"
      refine rd_dec (fun h1 => ?_) fun h1 => ?_
      · walk_at "rd"
        refine rd_slL e3 fun p4 H4 np4 s4 f4 e4 => ?_
        rw [cut_from, ewd] at e4
        have e3' := s4 _ _ e3
        walk_at "rd"
        refine rd_slL e3' fun p5 H5 np5 s5 f5 e5 => ?_
        rw [cut_to, ews] at e5
        have e4' := s5 _ _ e4
        walk_at "rd"
        refine rd_addL e4' e5 (by simp; rw [sizeLine_eq]; omega) fun p6 H6 np6 s6 f6 e6 => ?_
        rw [← List.map_append] at e6
        walk_at "rd"
        have sa := (s4.trans s5).trans s6
        refine fin _ p6 H6 (m03.trans (sa.mod _)) (k3'.same sa) e6 ?_
        have h1 := hcut at_
        simp at *
        omega
      · walk_at "rd"
        refine rd_dec (fun h2 => ?_) fun h2 => ?_
        · walk_at "rd"
          refine rd_slL e3 fun p4 H4 np4 s4 f4 e4 => ?_
          rw [cut_to, ews] at e4
          have e3' := s4 _ _ e3
          walk_at "rd"
          refine rd_slL e3' fun p5 H5 np5 s5 f5 e5 => ?_
          rw [show ((at_ : Int) + 1) = ((at_ + 1 : Nat) : Int) by omega, cut_from, ewd] at e5
          have e4' := s5 _ _ e4
          walk_at "rd"
          refine rd_addL e4' e5 (by simp; rw [sizeLine_eq]; omega) fun p6 H6 np6 s6 f6 e6 => ?_
          rw [← List.map_append] at e6
          walk_at "rd"
          have sa := (s4.trans s5).trans s6
          refine fin _ p6 H6 (m03.trans (sa.mod _)) (k3'.same sa) e6 ?_
          have h1 := hcut at_
          have h3 := take_sum (n := 1) (ws.drop at_)
          rw [List.drop_drop] at h3
          simp at *
          omega
        · walk_at "rd"
          refine rd_lenS (by rw [Mt.S_len]; exact sz (by omega)) ?_
          walk_at "rd"
          refine ⟨d, c, w.length + 1, k + 3, by rw [Mt.S_len]; rfl, by omega, by omega, k3, fun pl H4 m4 k4 hpl => ?_⟩
          walk_at "rd"
          rw [twelve]
          refine rd_newL (by rw [sizeLine_eq]; decide) fun p5 H5 np5 s5 f5 e5 => ?_
          have nd5 := k4.nd np5
          walk_at "rd"
          refine ⟨d, c, 12, k + 2, rfl, by decide, by decide, k4.same s5, fun j H6 m6 k6 hj => ?_⟩
          have e6 := m6.at2 e5 nd5.1 nd5.2
          obtain ⟨x, ex⟩ : ∃ x, [48, 49, 57, 45, 32, 43, 95, 64, 62, 59, 44, 120][j]? = some x := ⟨_, List.getElem?_eq_getElem (by simpa using hj)⟩
          refine rd_ixL e6 (atI_nat (v := V.str (Mt.S [x])) (by rw [List.getElem?_map, ex]; rfl)) ?_
          walk_at "rd"
          refine rd_slS (by rw [Mt.S_len]; exact sz (by omega)) ?_
          rw [cutS_to]
          walk_at "rd"
          refine ⟨d, c, 2, k + 1, rfl, by decide, by decide, k6, fun n2 H7 m7 k7 hn2 => ?_⟩
          refine rd_mulS (by omega) (by rw [Mt.S_len]; simp) ?_
          obtain ⟨u, eu, hu⟩ : ∃ u : List Nat, Txt.mul (Mt.S [x]) (n2 : Int) = Mt.S u ∧ u.length ≤ 1 := by
            have : n2 = 0 ∨ n2 = 1 := by omega
            rcases this with rfl | rfl
            · exact ⟨[], mul_0, by decide⟩
            · exact ⟨[x], mul_1, by simp⟩
          rw [eu]
          refine rd_addT (by rw [Mt.S_len, Mt.S_len, sizeLine_eq]; simp; omega) ?_
          rw [Mt.S_app]
          walk_at "rd"
          refine ⟨d, c, 2, k, rfl, by decide, by decide, k7, fun n3 H8 m8 k8 hn3 => ?_⟩
          walk_at "rd"
          refine rd_slS (by rw [Mt.S_len]; exact sz (by omega)) ?_
          rw [show ((pl : Int) + (n3 : Int)) = ((pl + n3 : Nat) : Int) by omega, cutS_from]
          refine rd_addT (by rw [Mt.S_len, Mt.S_len, sizeLine_eq]; simp; omega) ?_
          rw [Mt.S_app]
          refine q _ H8 (((((m03.trans m4).trans (s5.mod _)).trans m6).trans m7).trans m8) ?_ k8
          simp
          omega

/-! ### tasks that are read -/
def addP (l : List Pc) : Nat ⊕ List Pc → Nat ⊕ List Pc
  | .inl j => .inl j
  | .inr ps => .inr (l ++ ps)
def withT (t : List Nat) : Nat ⊕ List Pc → Nat ⊕ (List Nat × List Pc)
  | .inl j => .inl j
  | .inr ps => .inr (t, ps)
theorem addP_addP {l m : List Pc} {x : Nat ⊕ List Pc} : addP l (addP m x) = addP (l ++ m) x := by cases x <;> simp [addP]
theorem addP_nil {x : Nat ⊕ List Pc} : addP [] x = x := by cases x <;> rfl
def pWords (t : List Nat) : Nat → List (List Nat) → Nat ⊕ List Pc
  | _, [] => .inr []
  | i, w :: r => match pPiece t w with
    | none => .inl i
    | some p => if 16 < i then .inl i else addP [p] (pWords t (i + 1) r)
def pTask (w : List Nat) : Nat ⊕ (List Nat × List Pc) := match Mt.spl 32 w with
  | [] => .inl 0
  | h :: ws => if h.getLast? = some 59 then (match pTree h.dropLast with
    | none => .inl 0
    | some t => withT t (pWords t 1 ws)) else .inl 0
def N_BadText___init__ : List Str := [("self" : Str), ("index" : Str)]
theorem sc_BadText___init__ : FnScope N_BadText___init__ ["self", "index"] (defScope s_BadText___init__) := ⟨rfl, rfl, rfl, by decide +kernel, rfl, by decide +kernel, by decide +kernel⟩
theorem er_BadText (T : Txt K mg) : ErI P w K mg base "BadText" "index" := by
  obtain ⟨fd, F⟩ := T.i_BadText
  refine ⟨T.e_BadText, fd, ["self", "index"], F.ok sc_BadText___init__ (fun vs H Q E h => ?_) (fun cdv A outer s0 H vs Q E hr h => ?_), (fun F => FunD.bindsN F fun _ _ _ _ _ _ us hl => match us, hl with | [_, _], _ => rfl) F⟩
  · obtain ⟨a, v, rfl, _⟩ := h; rfl
  · obtain ⟨a, v, rfl, ha, q⟩ := h
    refine ⟨_, pss_one (ps_ost (pv 0) (pv 1)), ?_⟩
    refine Rd.rd_start (σ' := [some (V.ref a), some v]) rfl ?_
    refine rd_ost ?_
    walk_at "rd"
    exact rd_ostP T.e_BadText.oex T.e_BadText.noF ha q

def N_parse_task : List Str := [("value" : Str), ("head" : Str), ("words" : Str), ("tree" : Str), ("pieces" : Str), ("index" : Str), ("word" : Str), ("piece" : Str)]
theorem sc_parse_task : FnScope N_parse_task ["value"] (defScope s_parse_task) := ⟨rfl, rfl, rfl, by decide +kernel, rfl, by decide +kernel, by decide +kernel⟩
def sp_parse_task (K : PySem.W.Frag) : Sp := fun vs H Q E => ∃ (w : List Nat), vs = [.str (Mt.S w)] ∧ w.length ≤ 15000 ∧
  (∀ e d H', pTask w = .inl e → Same H H' → H d = none → H' d = some (.xd [("index", .int (e : Int))]) → E (.ref (He.ga K "BadText")) (some d) H') ∧
  ∀ t ps p a b H', pTask w = .inr (t, ps) → Same H H' → H p = none → H' p = some (.tup [.ref a, .ref b]) → H' a = some (.tup (natL t)) → PcsAt H' b ps → Q (.ref p) H'
theorem spl_ne (c : Nat) (w : List Nat) : 0 < (Mt.spl c w).length := by
  have : ∀ (L acc : List Nat), 0 < (TL.spl [c] 0 acc L).length := fun L => by
    induction L with
    | nil => intro acc; rw [TL.spl_nil]; simp
    | cons x r ih =>
      intro acc
      by_cases h : TL.pre [c] (x :: r) = true
      · rw [TL.spl_hit h]; simp
      · rw [TL.spl_miss (by simpa using h)]; exact ih _
  exact this w []
theorem dc_parse_task (T : Txt K mg) : Dc P w K mg base (L2.CX P w) "parse_task" 5 ["value"] (sp_parse_task K) := by
  refine dc_of T.f_parse_task (fun F => FunD.bindsN F fun _ _ _ _ _ _ us hl => match us, hl with | [_], _ => rfl) sc_parse_task (fun vs H Q E h => ?_) (fun f cdv A outer s0 H vs Q E hr h => ?_)
  · obtain ⟨w, rfl, _⟩ := h; rfl
  · obtain ⟨w, rfl, hw, qe, q⟩ := h
    refine ⟨_, (pss_cons (ps_if (pt_not (pt_val (pe_callB (show CallR _ _ (rIsiU K) from u_isi) (by rfl) T.b_isinstance Rd.boot_isinstance (pa_cons (pv 0) (pa_cons (pe_bltn (v := .ty "str") (by rfl) T.b_str Rd.boot_str rfl) pa_nil))))) (pss_one (show PS _ _ (tRaise (tErr K _ _ _) _) from ps_raise rfl (takes_of rfl rfl rfl rfl) (pmk_err (er_BadText T) hr (by decide) (by rfl) (pa_cons pe_non pa_nil)))) pss_nil)
      (pss_cons (ps_asg (show PE _ _ (tBM K _ _ _ _) from pe_bm PySem.F.plainAttrs_str PySem.F.slot_str_split PySem.F.type_str_split (show MtR _ _ rSplit from m_split) (pv 0) (pa_cons pe_str pa_nil)) (show PG _ _ (gStar K _ _) from pg_star (i := 1) (j := 2) sc_parse_task.nd rfl rfl (.inl rfl) (.inl rfl) rfl))
      (pss_cons (ps_set (i := 3) sc_parse_task.nd rfl (.inl rfl) (pe_ifExp (pt_val (show PE _ _ (tBM K _ _ _ _) from pe_bm PySem.F.plainAttrs_str PySem.F.slot_str_endswith PySem.F.type_str_endswith (show MtR _ _ rEndsw from m_endsw) (pv 1) (pa_cons (pe_gs T.c_BEHIND) pa_nil))) (pe_fn (dc_parse_tree T) (hr.mono (by decide)) (by rfl) pass0 (pa_cons (pe_slice sl_str (pv 1) po_none (po_some (pe_un un_neg pe_int))) pa_nil)) pe_non))
      (pss_cons (ps_if (pt_cmpR (show OpR _ _ rIsN from o_isN) (pv 3) pe_non (nomark _)) (pss_one (show PS _ _ (tRaise (tErr K _ _ _) _) from ps_raise rfl (takes_of rfl rfl rfl rfl) (pmk_err (er_BadText T) hr (by decide) (by rfl) (pa_cons pe_int pa_nil)))) pss_nil)
      (pss_cons (ps_set (i := 4) sc_parse_task.nd rfl (.inl rfl) (pe_lst pa_nil))
      (pss_cons (ps_for (passes_of rfl) rfl (show PI _ _ _ (iEnumS K _ _) from pi_enumS false (by rfl) T.b_enumerate (pa_cons (pv 2) (pa_cons pe_int pa_nil))) (show PG _ _ (gTup K _ _) from pg_tup (n := 2) rfl (pgs_cons (pg_name (i := 5) sc_parse_task.nd rfl (.inl rfl)) (pgs_cons (pg_name (i := 6) sc_parse_task.nd rfl (.inl rfl)) pgs_nil))) (pss_cons (ps_set (i := 7) sc_parse_task.nd rfl (.inl rfl) (pe_fn (dc_parse_piece T) (hr.mono (by decide)) (by rfl) pass0 (pa_cons (pv 3) (pa_cons (pv 6) pa_nil))))
      (pss_cons (ps_if (PW.pt (pw_or (pt_cmpR (show OpR _ _ rIsN from o_isN) (pv 7) pe_non (nomark _)) (pw_or1 (pt_cmpR op_gt (pv 5) (pe_gi T.c_MAX_PIECES) (nomark _))))) (pss_one (show PS _ _ (tRaise (tErr K _ _ _) _) from ps_raise rfl (takes_of rfl rfl rfl rfl) (pmk_err (er_BadText T) hr (by decide) (by rfl) (pa_cons (pv 5) pa_nil)))) pss_nil)
      (pss_one (ps_expr (show PE _ _ (tBM K _ _ _ _) from pe_bm PySem.F.plainAttrs_list PySem.F.slot_list_append PySem.F.type_list_append mt_append (pv 4) (pa_cons (pv 7) pa_nil)))))))
      (pss_one (ps_ret (pe_tup (pa_cons (pv 3) (pa_cons (pe_callTy (show CallR _ _ (rTupU K) from u_tup) (by rfl) T.b_tuple Rd.boot_tuple (pa_cons (pv 4) pa_nil)) pa_nil))))))))))), ?_⟩
    refine Rd.rd_start (σ' := [some (V.str (Mt.S w)), none, none, none, none, none, none, none]) rfl ?_
    obtain ⟨sl, sw⟩ := spl_len 32 w
    have sn := spl_ne 32 w
    walk_at "rd"
    rw [k_sp]
    refine rd_split1 (by omega) (by decide) fun p H1 np s1 f1 e1 => ?_
    cases ew : Mt.spl 32 w with
    | nil => rw [ew] at sn; simp at sn
    | cons hd ws =>
      rw [ew] at e1 sl sw sn
      simp at sl
      have hdl := sw hd (List.mem_cons_self ..)
      have ep : pTask w = if hd.getLast? = some 59 then (match pTree hd.dropLast with
        | none => .inl 0
        | some t => withT t (pWords t 1 ws)) else .inl 0 := by unfold pTask; rw [ew]
      rw [List.map_cons] at e1
      refine rd_starL e1 (by rw [List.length_map]; omega) fun p2 H2 np2 s2 f2 e2 => ?_
      walk_at "rd"
      rw [k_semi, ends1]
      have bad : ∀ (n : Nat) (z : Int) (H3 : Hp), z = (n : Int) → pTask w = .inl n → Same H H3 → ErrV K "BadText" "index" (fun cls d H' => E cls d H') [V.int z] H3 := by
        rintro n z H3 rfl e s3
        refine rd_errV fun d H4 nd s4 f4 e4 => ?_
        exact qe n d H4 e (s3.trans s4) (s3.free nd) e4
      have s02 := s1.trans s2
      refine rd_dec (fun h1 => ?_) fun h1 => ?_
      · rw [if_pos h1] at ep
        walk_at "rd"
        refine rd_slS (by rw [Mt.S_len]; exact sz (by omega)) ?_
        rw [cutS_init]
        walk_at "rd"
        have hdrop : hd.dropLast.length ≤ hd.length := by rw [List.length_dropLast]; omega
        refine ⟨hd.dropLast, rfl, by omega, fun H3 s3 e3 => ?_, fun a H3 t s3 na ea et => ?_⟩
        · rw [e3] at ep
          walk_at "rd"
          exact bad 0 0 H3 rfl ep (s02.trans s3)
        · rw [et] at ep
          have ok := pTree_ok et
          have ep : pTask w = withT t (pWords t 1 ws) := ep
          walk_at "rd"
          refine rd_l0 fun P H4 nP s4 f4 e4 => ?_
          have s04 := (s02.trans s3).trans s4
          have e2' := s4 _ _ (s3 _ _ e2)
          walk_at "rd"
          refine rd_e2L e2' (by omega) ?_
          have w0 := walk_enumK (K := K) (t := false) (a := p2) (k := 1) (xs := ws.map fun u => V.str (Mt.S u))
          rw [List.length_map] at w0
          refine for_w w0 (fun i σ H' => ∃ (l : List (Addr × Pc)) (x y z : Option V), σ = [some (.str (Mt.S w)), some (.str (Mt.S hd)), some (.ref p2), some (.ref a), some (.ref P), x, y, z] ∧ Mod [P] H4 H' ∧ Same H H' ∧ H' P = some (.lst (l.map fun x => V.ref x.1)) ∧ l.length = i ∧ (∀ x ∈ l, H' x.1 = some (.tup x.2.vs)) ∧
            pWords t 1 ws = addP (l.map fun x => x.2) (pWords t (1 + i) (ws.drop i)))
            ⟨[], _, _, _, rfl, Mod.refl _ _, s04, e4, rfl, by simp, addP_nil.symm⟩ (fun i σ H' _ h => ?_) (fun i x σ H5 H6 hi h y => ?_) fun σ H5 h => ?_
          · obtain ⟨l, _, _, _, _, m, _⟩ := h
            exact SqL.of (m.keep _ _ (by simp; exact ne_of_none (s3 _ _ e2) nP) e2')
          · obtain ⟨l, x1, y1, z1, rfl, m5, s5, eP, el, hl, ewp⟩ := h
            obtain ⟨TT, x, z, rfl, s6, e6, ex, ez⟩ := ypair_d y
            injection ex with ex
            subst ex
            rw [List.getElem?_map, List.getElem?_eq_getElem hi] at ez
            injection ez with ez
            subst ez
            have ed : ws.drop i = ws[i] :: ws.drop (i + 1) := List.drop_eq_getElem_cons hi
            rw [ed] at ewp
            have hwi := sw ws[i] (List.mem_cons_of_mem _ (List.getElem_mem hi))
            have ea6 := s6 _ _ (m5.tups _ _ (s4 _ _ ea))
            have sa : Same H H6 := s5.trans s6
            walk_at "rd"
            refine ⟨a, t, ws[i], rfl, ea6, ok, by omega, fun H7 s7 e7 => ?_, fun p7 H7 c7 s7 n7 e7 ec => ?_⟩
            · walk_at "rd"
              have ew2 : pWords t (1 + i) (ws[i] :: ws.drop (i + 1)) = .inl (1 + i) := by rw [pWords, e7]
              rw [ew2] at ewp
              refine bad (1 + i) (1 + (i : Int)) H7 (by omega) ?_ (sa.trans s7)
              rw [ep, ewp]; rfl
            · walk_at "rd"
              refine rd_dec (fun h9 => ?_) fun h9 => ?_
              · walk_at "rd"
                have ew2 : pWords t (1 + i) (ws[i] :: ws.drop (i + 1)) = .inl (1 + i) := by
                  rw [pWords, ec]
                  show (if 16 < 1 + i then _ else _) = _
                  rw [if_pos (by omega)]
                rw [ew2] at ewp
                refine bad (1 + i) (1 + (i : Int)) H7 (by omega) ?_ (sa.trans s7)
                rw [ep, ewp]; rfl
              · have ew2 : pWords t (1 + i) (ws[i] :: ws.drop (i + 1)) = addP [c7] (pWords t (1 + i + 1) (ws.drop (i + 1))) := by
                  rw [pWords, ec]
                  show (if 16 < 1 + i then _ else _) = _
                  rw [if_neg (by omega)]
                rw [ew2, addP_addP] at ewp
                have eP7 := s7 _ _ (s6 _ _ eP)
                walk_at "rd"
                refine rd_append eP7 (szl (by rw [List.length_map]; omega)) fun H8 b8 e8 => ?_
                have nPH : H P = none := s02.free (s3.free nP)
                refine ⟨l ++ [(p7, c7)], _, _, _, rfl, ((m5.trans (s6.mod _)).trans (s7.mod _)).trans (b8.mod (by simp)), Same.but (sa.trans s7) b8 nPH, by rw [e8, List.map_append]; rfl, by simp [el], fun x hx => ?_, ?_⟩
                · rcases List.mem_append.mp hx with hx | hx
                  · exact b8.tups _ _ (s7 _ _ (s6 _ _ (hl x hx)))
                  · simp at hx
                    subst hx
                    exact b8.tups _ _ e7
                · rw [ewp, List.map_append, show 1 + (i + 1) = 1 + i + 1 by omega]; rfl
          · obtain ⟨l, x1, y1, z1, rfl, m5, s5, eP, el, hl, ewp⟩ := h
            rw [List.drop_eq_nil_of_le (Nat.le_refl _), pWords] at ewp
            have ea5 := m5.tups _ _ (s4 _ _ ea)
            walk_at "rd"
            refine rd_tupL eP fun p6 H6 np6 s6 f6 e6 => ?_
            walk_at "rd"
            refine rd_t2 fun p7 H7 np7 s7 f7 e7 => ?_
            refine q t (l.map fun x => x.2) p7 a p6 H7 ?_ ((s5.trans s6).trans s7) (s5.free (s6.free np7)) e7 (s7 _ _ (s6 _ _ ea5)) ⟨l, rfl, s7 _ _ e6, fun x hx => s7 _ _ (s6 _ _ (hl x hx))⟩
            rw [ep, ewp]
            show withT t (.inr _) = _
            rw [List.append_nil]; rfl
      · rw [if_neg h1] at ep
        walk_at "rd"
        exact bad 0 0 H2 rfl ep s02

/-! ### texts there and back -/
theorem dig_ofNat {c : Nat} (h : 48 ≤ c ∧ c ≤ 57) : (Char.ofNat c).toNat = c := by
  have : c = 48 ∨ c = 49 ∨ c = 50 ∨ c = 51 ∨ c = 52 ∨ c = 53 ∨ c = 54 ∨ c = 55 ∨ c = 56 ∨ c = 57 := by omega
  rcases this with rfl | rfl | rfl | rfl | rfl | rfl | rfl | rfl | rfl | rfl <;> rfl
theorem num_pNum {m : Nat} {w : List Nat} {n : Nat} (h : Mt.pNum m w = some n) : TL.numL n = w := by
  unfold Mt.pNum at h
  split at h
  · rename_i hw
    split at h
    · cases h
    · rename_i hz
      injection h with h
      subst h
      have ad := Mt.digits_of hw.2
      have hl : w.length = (w.length - 1) + 1 := by omega
      have e := NumText.toDigits_digitsVal (w.length - 1) w hl ad (by
        cases w with
        | nil => simp at hw
        | cons c r =>
          have hc := ad.head
          by_cases h0 : r = []
          · left; subst h0; rfl
          · right
            refine ⟨c, r, rfl, ?_⟩
            have : ¬ c = 48 := fun z => hz ⟨by rw [z]; rfl, by intro e; injection e with _ e; exact h0 e⟩
            omega)
      unfold TL.numL
      rw [e, List.map_map]
      refine (List.map_congr_left fun c hc => ?_).trans (List.map_id' w)
      exact dig_ofNat (ad c hc)
  · cases h
theorem numL_head : ∀ n : Nat, 1 ≤ n → (TL.numL n).head? ≠ some 48 := by
  intro n
  induction n using Nat.strongRecOn with
  | ind n ih =>
    intro h
    by_cases h10 : n < 10
    · rw [TL.numL_lt h10]
      intro e
      injection e with e
      omega
    · rw [TL.numL_step (by omega)]
      have := ih (n / 10) (by omega) (by omega)
      cases e : TL.numL (n / 10) with
      | nil => exact absurd e (TL.numL_ne _)
      | cons c r => rw [e] at this; exact this
theorem isDig_of {w : List Nat} (h : NumText.AllDigits w) : w.all Mt.isDig = true := by
  rw [List.all_eq_true]
  intro c hc
  exact decide_eq_true (h c hc)
theorem pNum_num {n : Nat} (h : n < 10 ^ 10) : Mt.pNum 10 (TL.numL n) = some n := by
  unfold Mt.pNum
  have hl := TL.numL_len (n := n) (k := 10) (by decide) h
  have hn := TL.numL_ne n
  have hp : 1 ≤ (TL.numL n).length := by
    cases e : TL.numL n with
    | nil => exact absurd e hn
    | cons c r => simp
  rw [if_pos ⟨⟨hp, hl⟩, isDig_of (TL.numL_digits n)⟩]
  rw [if_neg, TL.numL_val]
  rintro ⟨h1, h2⟩
  by_cases h0 : n = 0
  · subst h0; exact h2 (by decide)
  · exact numL_head n (by omega) h1
theorem joinL_cons {s : List Nat} {p : List Nat} {r : List (List Nat)} (h : r ≠ []) : TL.joinL s (p :: r) = p ++ (s ++ TL.joinL s r) := by
  cases r with
  | nil => exact absurd rfl h
  | cons q r => simp [TL.joinL]
theorem TL_spl_ne (c : Nat) : ∀ (L acc : List Nat), TL.spl [c] 0 acc L ≠ []
  | [], acc => by rw [TL.spl_nil]; simp
  | x :: r, acc => by
    by_cases h : TL.pre [c] (x :: r) = true
    · rw [TL.spl_hit h]; simp
    · rw [TL.spl_miss (by simpa using h)]; exact TL_spl_ne c r _
theorem TL_join_spl (c : Nat) : ∀ (L acc : List Nat), TL.joinL [c] (TL.spl [c] 0 acc L) = acc ++ L
  | [], acc => by rw [TL.spl_nil]; simp [TL.joinL]
  | x :: r, acc => by
    by_cases h : TL.pre [c] (x :: r) = true
    · rw [TL.spl_hit h]
      have hx : c = x := by
        have : [x] = [c] := by simpa [TL.pre] using h
        injection this with e; exact e.symm
      have ih := TL_join_spl c r []
      rw [show ([c].length - 1) = 0 from rfl, joinL_cons (TL_spl_ne c r []), ih]
      subst hx
      simp
    · rw [TL.spl_miss (by simpa using h), TL_join_spl c r]
      simp
theorem join_spl {c : Nat} {w : List Nat} : TL.joinL [c] (Mt.spl c w) = w := TL_join_spl c w []
theorem spl_join {c : Nat} {ps : List (List Nat)} (h : ps ≠ []) (hc : ∀ p ∈ ps, c ∉ p) : Mt.spl c (TL.joinL [c] ps) = ps := TL.spl_join h hc
theorem TL_spl_free (c : Nat) : ∀ (L acc : List Nat), c ∉ acc → ∀ u ∈ TL.spl [c] 0 acc L, c ∉ u
  | [], acc, h => by rw [TL.spl_nil]; intro u hu; simp at hu; subst hu; exact h
  | x :: r, acc, h => by
    by_cases hp : TL.pre [c] (x :: r) = true
    · rw [TL.spl_hit hp]
      intro u hu
      rcases List.mem_cons.mp hu with rfl | hu
      · exact h
      · exact TL_spl_free c r [] (by simp) u hu
    · rw [TL.spl_miss (by simpa using hp)]
      have hx : c ≠ x := fun z => hp (by subst z; simp [TL.pre])
      exact TL_spl_free c r _ (by simp [h, hx])
theorem treeB_of {t : List Nat} (h : TreeOk t) : treeB (t.map some) = true := by
  have : ∀ (l : List Nat) (b : Nat), (∀ k, k < l.length → l.getD k 0 ≤ b + k) → badAt b (l.map some) = none := by
    intro l
    induction l with
    | nil => intro b _; rfl
    | cons x l ih =>
      intro b hb
      have h0 := hb 0 (by simp)
      rw [List.map_cons, badAt, if_pos (by simpa using h0)]
      exact ih (b + 1) fun k hk => by
        have := hb (k + 1) (by simpa using hk)
        simp at this
        simp
        omega
  unfold treeB
  rw [this t 0 (fun k hk => by have := h.up k hk; omega), List.length_map, decide_eq_true (by have := h.len; omega)]
  rfl
theorem TreeOk.lt {t : List Nat} (h : TreeOk t) : ∀ x ∈ t, x ≤ 8 := by
  intro x hx
  obtain ⟨i, hi, rfl⟩ := List.getElem_of_mem hx
  have := h.up i hi
  have := h.len
  rw [List.getD_eq_getElem?_getD, List.getElem?_eq_getElem hi] at *
  simp at *
  omega
theorem pTree_treeT {t : List Nat} (h : TreeOk t) : pTree (treeT t) = some t := by
  unfold pTree treeT
  by_cases h0 : t = []
  · subst h0; rfl
  · rw [if_neg h0]
    have hne : t.map TL.numL ≠ [] := by simpa using h0
    have hfree : ∀ p ∈ t.map TL.numL, (44 : Nat) ∉ p := by
      intro p hp
      obtain ⟨n, _, rfl⟩ := List.mem_map.mp hp
      exact TL.numL_free (.inl (by decide))
    have hl : (t.map TL.numL).map (Mt.pNum 10) = t.map some := by
      rw [List.map_map]
      exact List.map_congr_left fun n hn => pNum_num (by have := h.lt n hn; omega)
    rw [if_neg, spl_join hne hfree, hl, if_pos (treeB_of h)]
    · congr 1
      rw [List.map_map]
      refine (List.map_congr_left fun n hn => ?_).trans (List.map_id' t)
      show (Mt.pNum 10 (TL.numL n)).getD 0 = n
      rw [pNum_num (by have := h.lt n hn; omega)]
      rfl
    · cases t with
      | nil => exact absurd rfl h0
      | cons n r =>
        intro e
        have hd : (TL.joinL [44] ((n :: r).map TL.numL)).head? = (TL.numL n).head? := by
          cases r with
          | nil => simp [TL.joinL]
          | cons m r =>
            rw [List.map_cons, joinL_cons (by simp)]
            cases en : TL.numL n with
            | nil => exact absurd en (TL.numL_ne n)
            | cons c l => rfl
        rw [e] at hd
        cases en : TL.numL n with
        | nil => exact absurd en (TL.numL_ne n)
        | cons c l =>
          rw [en] at hd
          injection hd with hd
          have := TL.numL_digits n c (by rw [en]; exact List.mem_cons_self ..)
          omega
theorem treeT_pTree {w t : List Nat} (h : pTree w = some t) : treeT t = w := by
  unfold pTree at h
  split at h
  · rename_i e; cases h; rw [e]; rfl
  · split at h
    · rename_i hb
      injection h with h
      unfold treeB at hb
      rw [Bool.and_eq_true] at hb
      have e := (treeB_some 0 (by simpa using hb.2)).1
      rw [List.map_map] at e
      have hne : Mt.spl 44 w ≠ [] := TL_spl_ne 44 w []
      have ht : t ≠ [] := by
        rw [← h]
        intro z
        exact hne (by simpa using z)
      unfold treeT
      rw [if_neg ht]
      have : t.map TL.numL = Mt.spl 44 w := by
        rw [← h, List.map_map]
        refine (List.map_congr_left fun u hu => ?_).trans (List.map_id' _)
        have hu' : Mt.pNum 10 u = some ((Mt.pNum 10 u).getD 0) := by
          have hm := List.mem_map_of_mem (f := Mt.pNum 10) hu
          rw [e] at hm
          obtain ⟨x, hx, ex⟩ := List.mem_map.mp hm
          rw [← ex]; rfl
        exact num_pNum hu'
      rw [this, join_spl]
    · cases h
theorem par_of {c : Nat} {p r : List Nat} (h : c ∉ p) : Mt.par c (p ++ c :: r) = some (p, r) := by
  have := TL.par_part1 (s := c) (S := []) (p := p) (rest := r) (acc := []) h
  simpa [Mt.par] using this
theorem pPiece_pieceT {t : List Nat} {q : Pc} (ht : TreeOk t) (h : pcOk t q = true) : pPiece t (pieceT q) = some q := by
  have h' := h
  unfold pcOk at h'
  rw [Bool.and_eq_true, Bool.and_eq_true, Bool.and_eq_true, decide_eq_true_eq, decide_eq_true_eq, decide_eq_true_eq] at h'
  obtain ⟨⟨⟨h1, h2⟩, h3⟩, _⟩ := h'
  have hl := ht.len
  unfold pPiece pieceT
  rw [show TL.numL q.s ++ 64 :: TL.numL q.r ++ 62 :: TL.numL q.g = TL.numL q.s ++ 64 :: (TL.numL q.r ++ 62 :: TL.numL q.g) by simp]
  rw [par_of (TL.numL_free (.inr (by decide)))]
  simp only
  rw [par_of (TL.numL_free (.inr (by decide)))]
  simp only
  rw [pNum_num (by omega), pNum_num (by omega), pNum_num (by omega)]
  simp only
  rw [if_pos h]
theorem pieceT_pPiece {t w : List Nat} {q : Pc} (h : pPiece t w = some q) : pieceT q = w ∧ pcOk t q = true := by
  unfold pPiece at h
  cases e1 : Mt.par 64 w with
  | none => rw [e1] at h; cases h
  | some p =>
    obtain ⟨a, r⟩ := p
    rw [e1] at h
    simp only at h
    cases e2 : Mt.par 62 r with
    | none => rw [e2] at h; cases h
    | some p =>
      obtain ⟨b, c⟩ := p
      rw [e2] at h
      simp only at h
      cases ea : Mt.pNum 10 a with
      | none => rw [ea] at h; cases h
      | some s =>
        cases eb : Mt.pNum 10 b with
        | none => rw [ea, eb] at h; cases h
        | some y =>
          cases ec : Mt.pNum 10 c with
          | none => rw [ea, eb, ec] at h; cases h
          | some z =>
            rw [ea, eb, ec] at h
            simp only at h
            split at h
            · rename_i hok
              injection h with h
              subst h
              refine ⟨?_, hok⟩
              unfold pieceT
              rw [num_pNum ea, num_pNum eb, num_pNum ec, ← (par_len e1).2, ← (par_len e2).2]
              simp
            · cases h
theorem pieceT_free {q : Pc} {c : Nat} (h : c < 48 ∨ (57 < c ∧ c ≠ 64 ∧ c ≠ 62)) : c ∉ pieceT q := by
  unfold pieceT
  simp only [List.mem_append, List.mem_cons, not_or]
  have hc : c < 48 ∨ 57 < c := by omega
  exact ⟨⟨TL.numL_free hc, by omega, TL.numL_free hc⟩, by omega, TL.numL_free hc⟩
theorem joinL_free {c : Nat} {s : List Nat} : ∀ {ps : List (List Nat)}, c ∉ s → (∀ p ∈ ps, c ∉ p) → c ∉ TL.joinL s ps
  | [], _, _ => by simp [TL.joinL]
  | [p], _, h => by simpa [TL.joinL] using h p (List.mem_cons_self ..)
  | p :: q :: r, hs, h => by
    rw [joinL_cons (by simp)]
    have := joinL_free hs fun x hx => h x (List.mem_cons_of_mem p hx)
    simp only [List.mem_append, not_or]
    exact ⟨h p (List.mem_cons_self ..), hs, this⟩
theorem treeT_free {t : List Nat} {c : Nat} (h : c < 48 ∧ c ≠ 44) : c ∉ treeT t := by
  unfold treeT
  split
  · simp; omega
  · exact joinL_free (by simp; omega) fun p hp => by
      obtain ⟨n, _, rfl⟩ := List.mem_map.mp hp
      exact TL.numL_free (.inl h.1)
theorem task_words {t : List Nat} {ps : List Pc} : Mt.spl 32 (taskT t ps) = (treeT t ++ [59]) :: ps.map pieceT := by
  unfold taskT
  refine spl_join (by simp) fun p hp => ?_
  rcases List.mem_cons.mp hp with rfl | hp
  · simp only [List.mem_append, not_or]
    exact ⟨treeT_free (by decide), by simp⟩
  · obtain ⟨q, _, rfl⟩ := List.mem_map.mp hp
    exact pieceT_free (.inl (by decide))
theorem pWords_pieces {t : List Nat} (ht : TreeOk t) : ∀ (ps : List Pc) (i : Nat), i + ps.length ≤ 17 → (∀ q ∈ ps, pcOk t q = true) → pWords t i (ps.map pieceT) = .inr ps
  | [], _, _, _ => rfl
  | q :: ps, i, hi, h => by
    rw [List.map_cons, pWords, pPiece_pieceT ht (h q (List.mem_cons_self ..))]
    simp only
    simp at hi
    rw [if_neg (by omega), pWords_pieces ht ps (i + 1) (by omega) fun x hx => h x (List.mem_cons_of_mem _ hx)]
    rfl
theorem pTask_taskT {t : List Nat} {ps : List Pc} (ht : TreeOk t) (hl : ps.length ≤ 16) (h : ∀ q ∈ ps, pcOk t q = true) : pTask (taskT t ps) = .inr (t, ps) := by
  unfold pTask
  rw [task_words]
  simp only
  have ed : (treeT t ++ [59]).dropLast = treeT t := by simp
  rw [if_pos (by simp), ed, pTree_treeT ht]
  simp only
  rw [pWords_pieces ht ps 1 (by omega) h]
  rfl
theorem pWords_texts {t : List Nat} : ∀ (ws : List (List Nat)) (i : Nat) (ps : List Pc), pWords t i ws = .inr ps → ps.map pieceT = ws ∧ (∀ q ∈ ps, pcOk t q = true) ∧ (i ≤ 17 → i + ws.length ≤ 17)
  | [], i, ps, h => by
    rw [pWords] at h
    cases h
    exact ⟨rfl, by simp, by simp⟩
  | w :: r, i, ps, h => by
    rw [pWords] at h
    cases e : pPiece t w with
    | none => rw [e] at h; cases h
    | some q =>
      rw [e] at h
      simp only at h
      split at h
      · cases h
      · rename_i hi
        cases er : pWords t (i + 1) r with
        | inl j => rw [er] at h; cases h
        | inr qs =>
          rw [er] at h
          injection h with h
          subst h
          obtain ⟨h1, h2, h3⟩ := pWords_texts r (i + 1) qs er
          obtain ⟨h4, h5⟩ := pieceT_pPiece e
          refine ⟨by simp [h1, h4], fun x hx => ?_, fun _ => ?_⟩
          · simp at hx
            rcases hx with rfl | hx
            · exact h5
            · exact h2 x hx
          · have := h3 (by omega)
            simp
            omega
theorem taskT_pTask {w t : List Nat} {ps : List Pc} (h : pTask w = .inr (t, ps)) : taskT t ps = w ∧ TreeOk t ∧ ps.length ≤ 16 ∧ ∀ q ∈ ps, pcOk t q = true := by
  unfold pTask at h
  cases e : Mt.spl 32 w with
  | nil => rw [e] at h; cases h
  | cons hd ws =>
    rw [e] at h
    simp only at h
    split at h
    · rename_i hl
      cases et : pTree hd.dropLast with
      | none => rw [et] at h; cases h
      | some t' =>
        rw [et] at h
        simp only at h
        cases ew : pWords t' 1 ws with
        | inl j => rw [ew] at h; cases h
        | inr qs =>
          rw [ew] at h
          injection h with h
          injection h with h1 h2
          subst h1; subst h2
          obtain ⟨g1, g2, g3⟩ := pWords_texts ws 1 qs ew
          refine ⟨?_, pTree_ok et, by have := g3 (by omega); rw [← g1, List.length_map] at this; omega, g2⟩
          unfold taskT
          rw [g1, treeT_pTree et]
          have : hd.dropLast ++ [59] = hd := by
            obtain ⟨l, rfl⟩ : ∃ l, hd = l ++ [59] := by
              rcases List.eq_nil_or_concat hd with rfl | ⟨l, x, rfl⟩
              · cases hl
              · simp at hl; exact ⟨l, by simp [hl]⟩
            simp
          rw [this, ← e, join_spl]
    · cases h
theorem pcOk_small {t : List Nat} {q : Pc} (ht : TreeOk t) (h : pcOk t q = true) : Small q := by
  unfold pcOk at h
  rw [Bool.and_eq_true, Bool.and_eq_true, Bool.and_eq_true, decide_eq_true_eq, decide_eq_true_eq, decide_eq_true_eq] at h
  have := ht.len
  exact ⟨by omega, by omega, by omega⟩

def N_Laccepted_right : List Str := [("_law_text" : Str), ("_law_found" : Str)]
theorem sc_Laccepted_right : FnScope N_Laccepted_right ["_law_text"] (defScope s_Laccepted_right) := ⟨rfl, rfl, rfl, by decide +kernel, rfl, by decide +kernel, by decide +kernel⟩
def sp_Laccepted_right : Sp := fun vs H Q _ => ∃ (w : List Nat), vs = [.str (Mt.S w)] ∧ w.length ≤ 15000 ∧ ∀ H', Same H H' → Q (.bl true) H'
theorem dc_Laccepted_right (T : Txt K mg) : Dc P w K mg base CX0 "_law_accepted_right" 6 ["_law_text"] sp_Laccepted_right := by
  refine dc_of0 T.f_Laccepted_right (fun F => FunD.bindsN F fun _ _ _ _ _ _ us hl => match us, hl with | [_], _ => rfl) sc_Laccepted_right (fun vs H Q E h => ?_) (fun f cdv A outer s0 H vs Q E hr h => ?_)
  · obtain ⟨w, rfl, _⟩ := h; rfl
  · obtain ⟨w, rfl, hw, q⟩ := h
    refine ⟨_, (pss_cons (show PS _ _ (tTryO K _ _ _ _) from ps_try_only rfl rfl ⟨by rfl, by decide, .inl T.g_BadText⟩ takes0 (fun W pn xe tk po => (pss_one (ps_set (i := 1) sc_Laccepted_right.nd rfl (.inl rfl) (pe_fnS (dc_parse_task T) (hr.mono (by decide)) (by rfl) (fun σ => passAt tk σ) (pa_cons (pv 0) pa_nil))))) (fun a oe cls d pn hz hf => (pss_one (ps_ret pe_bl))))
      (pss_one (ps_ret (pe_cmpR (show OpR _ _ (rEqU K) from u_eq hr.units) (pe_fn (dc_task_text T) (hr.mono (by decide)) (by rfl) pass0 (pa_cons (pe_ix (show IxR _ (rIx K) from ix_seq) (pv 1) pe_int (fun _ _ => rfl)) (pa_cons (pe_ix (show IxR _ (rIx K) from ix_seq) (pv 1) pe_int (fun _ _ => rfl)) pa_nil))) (pv 0) (nomark _))))), ?_⟩
    refine Rd.rd_start (σ' := [some (V.str (Mt.S w)), none]) rfl ?_
    walk_at "rd"
    refine ⟨w, rfl, hw, fun e d H1 he s1 nd e1 => ?_, fun t ps p a b H1 he s1 np e1 ea eb => ?_⟩
    · refine rd_caught T.x_BadText_BadText fun _ _ => ?_
      walk_at "rd"
      exact q H1 s1
    · obtain ⟨et, ok, hl, hp⟩ := taskT_pTask he
      walk_at "rd"
      have hx : ∀ x ∈ t, x ≤ 10000000000 := fun x hx => by have := ok.lt x hx; omega
      refine ⟨a, b, t, ps, rfl, ea, by have := ok.len; omega, hx, eb, by omega, fun x hx => pcOk_small ok (hp x hx), fun H2 s2 => ?_⟩
      rw [et]
      walk_at "rd"
      have := q H2 (s1.trans s2)
      rw [decide_eq_true rfl]
      exact this

/-! ### the law's own equality -/
def Eq2 : Nat → Hp → V → V → Prop
  | 0, _, x, y => ∃ i : Int, x = .int i ∧ y = .int i
  | n + 1, H, x, y => (∃ i : Int, x = .int i ∧ y = .int i) ∨ ∃ (a b : Addr) (xs ys : List V), x = .ref a ∧ y = .ref b ∧ H a = some (.tup xs) ∧ H b = some (.tup ys) ∧ xs.length = ys.length ∧ xs.length ≤ 100000 ∧ ∀ (i : Nat) (u v : V), xs[i]? = some u → ys[i]? = some v → Eq2 n H u v
theorem Eq2_ts {H H' : Hp} (s : Ts H H') : ∀ (n : Nat) (x y : V), Eq2 n H x y → Eq2 n H' x y
  | 0, _, _, h => h
  | n + 1, _, _, .inl h => .inl h
  | n + 1, _, _, .inr ⟨a, b, xs, ys, e1, e2, h1, h2, h3, h4, h5⟩ => .inr ⟨a, b, xs, ys, e1, e2, s _ _ h1, s _ _ h2, h3, h4, fun i u v hu hv => Eq2_ts s n u v (h5 i u v hu hv)⟩
def N_Lsame : List Str := [("_law_found" : Str), ("_law_due" : Str), ("_law_one" : Str), ("_law_other" : Str)]
theorem sc_Lsame : FnScope N_Lsame ["_law_found", "_law_due"] (defScope s_Lsame) := ⟨rfl, rfl, rfl, by decide +kernel, rfl, by decide +kernel, by decide +kernel⟩
def sp_Lsame : Nat → Sp
  | 0, _, _, _, _ => False
  | n + 1, vs, H, Q, _ => ∃ x y, vs = [x, y] ∧ Eq2 n H x y ∧ ∀ H', Same H H' → Q (.bl true) H'
theorem dc_Lsame_n (T : Txt K mg) : ∀ n : Nat, Dc P w K mg base CX0 "_law_same" (n + 1) ["_law_found", "_law_due"] (sp_Lsame n)
  | 0 => by
    refine dc_of0 T.f_Lsame (fun F => FunD.bindsN F fun _ _ _ _ _ _ us hl => match us, hl with | [_, _], _ => rfl) sc_Lsame (fun vs H Q E h => ?_) (fun f cdv A outer s0 H vs Q E hr h => ?_)
    · cases h
    · cases h
  | n + 1 => by
    have IH := dc_Lsame_n T n
    refine dc_of0 T.f_Lsame (fun F => FunD.bindsN F fun _ _ _ _ _ _ us hl => match us, hl with | [_, _], _ => rfl) sc_Lsame (fun vs H Q E h => ?_) (fun f cdv A outer s0 H vs Q E hr h => ?_)
    · obtain ⟨x, y, rfl, _⟩ := h; rfl
    · obtain ⟨x, y, rfl, he, q⟩ := h
      refine ⟨_, (pss_cons (ps_if (pt_val (pe_callB (show CallR _ _ (rIsiU K) from u_isi) (by rfl) T.b_isinstance Rd.boot_isinstance (pa_cons (pv 1) (pa_cons (pe_bltn (v := .ty "tuple") (by rfl) T.b_tuple Rd.boot_tuple rfl) pa_nil)))) (pss_cons (ps_if (PW.pt (pw_or (pt_not (pt_val (pe_callB (show CallR _ _ (rIsiU K) from u_isi) (by rfl) T.b_isinstance Rd.boot_isinstance (pa_cons (pv 0) (pa_cons (pe_bltn (v := .ty "tuple") (by rfl) T.b_tuple Rd.boot_tuple rfl) pa_nil))))) (pw_or1 (pt_cmpR (show OpR _ _ (rNeU K) from u_ne hr.units) (pe_callB (show CallR _ _ (rLenU K) from u_len) (by rfl) T.b_len Rd.boot_len (pa_cons (pv 0) pa_nil)) (pe_callB (show CallR _ _ (rLenU K) from u_len) (by rfl) T.b_len Rd.boot_len (pa_cons (pv 1) pa_nil)) (nomark _))))) (pss_one (ps_ret pe_bl)) pss_nil)
      (pss_one (ps_ret (pe_cmpR (show OpR _ _ (rEqU K) from u_eq hr.units) (pe_lc (own := [("_law_one", 2), ("_law_other", 3)]) rfl sc_Lsame.nd (show PI _ _ _ (RZ.iZipA K _) from RZ.pi_zipA (by rfl) T.b_zip (pa_cons (pv 0) (pa_cons (pv 1) pa_nil))) (blkOk_by (own := [("_law_one", 2), ("_law_other", 3)]) (N := N_Lsame) (sc := defScope s_Lsame) (by decide +kernel)) (fun _ _ _ _ _ => (show PG _ _ (gTup K _ _) from pg_tup (n := 2) rfl (pgs_cons (pg_name (i := 2) sc_Lsame.nd rfl (.inl rfl)) (pgs_cons (pg_name (i := 3) sc_Lsame.nd rfl (.inl rfl)) pgs_nil)))) (fun _ _ _ _ _ => (pts_one (pt_not (pt_val (pe_fn IH (hr.mono (by omega)) (by rfl) pass0 (pa_cons (pv 2) (pa_cons (pv 3) pa_nil))))))) (fun _ _ _ _ _ => pe_int)) (pe_lst pa_nil) (nomark _))))) pss_nil)
      (pss_cons (ps_if (pt_cmpR (show OpR _ _ rIsN from o_isN) (pv 1) pe_non (nomark _)) (pss_one (ps_ret (pe_cmpR (show OpR _ _ rIsN from o_isN) (pv 0) pe_non (nomark _)))) pss_nil)
      (pss_cons (ps_if (pt_val (pe_callB (show CallR _ _ (rIsiU K) from u_isi) (by rfl) T.b_isinstance Rd.boot_isinstance (pa_cons (pv 1) (pa_cons (pe_bltn (v := .ty "str") (by rfl) T.b_str Rd.boot_str rfl) pa_nil)))) (pss_one (ps_ret (pe_and (pe_callB (show CallR _ _ (rIsiU K) from u_isi) (by rfl) T.b_isinstance Rd.boot_isinstance (pa_cons (pv 0) (pa_cons (pe_bltn (v := .ty "str") (by rfl) T.b_str Rd.boot_str rfl) pa_nil))) (pe_one (pe_cmpR (show OpR _ _ (rEqU K) from u_eq hr.units) (pv 0) (pv 1) (nomark _)))))) pss_nil)
      (pss_one (ps_ret (pe_and (pe_callB (show CallR _ _ (rIsiU K) from u_isi) (by rfl) T.b_isinstance Rd.boot_isinstance (pa_cons (pv 0) (pa_cons (pe_bltn (v := .ty "int") (by rfl) T.b_int Rd.boot_int rfl) pa_nil))) (pe_and (pe_cmpR (show OpR _ _ (rEqU K) from u_eq hr.units) (pe_callB (show CallR _ _ (rIsiU K) from u_isi) (by rfl) T.b_isinstance Rd.boot_isinstance (pa_cons (pv 0) (pa_cons (pe_bltn (v := .ty "bool") (by rfl) T.b_bool Rd.boot_bool rfl) pa_nil))) (pe_callB (show CallR _ _ (rIsiU K) from u_isi) (by rfl) T.b_isinstance Rd.boot_isinstance (pa_cons (pv 1) (pa_cons (pe_bltn (v := .ty "bool") (by rfl) T.b_bool Rd.boot_bool rfl) pa_nil))) (nomark _)) (pe_one (pe_cmpR (show OpR _ _ (rEqU K) from u_eq hr.units) (pv 0) (pv 1) (nomark _)))))))))), ?_⟩
      refine Rd.rd_start (σ' := [some (x), some (y), none, none]) rfl ?_
      by_cases hi : ∃ i : Int, x = .int i ∧ y = .int i
      · obtain ⟨i, rfl, rfl⟩ := hi
        walk_at "rd"
        refine rd_eqB ?_
        rw [decide_eq_true rfl]
        walk_at "rd"
        have := q H (Same.refl H)
        rw [decide_eq_true rfl]
        exact this
      · cases n with
        | zero => exact absurd he hi
        | succ n =>
          rcases he with h | ⟨a, b, xs, ys, rfl, rfl, ha, hb, hl, hl2, hxy⟩
          · exact absurd h hi
          · walk_at "rd"
            have w0 := walk_zT (K := K) (a := a) (b := b) (xs := xs) (ys := ys) (n := (xs.zip ys).length) (by rw [List.length_zip])
            refine comp_it (l := xs.zip ys) w0 (by rw [List.length_zip]; omega) (fun _ => none) (fun H s => ⟨SqT.of (s _ _ ha), SqT.of (s _ _ hb)⟩) (fun _ _ _ _ => ypair_same) (fun i c x H2 H3 KV N ec s2 y hk hn => ?_) fun D H2 nD s2 hD => ?_
            · obtain ⟨TT, u, v, rfl, s3, e3, eu, ev⟩ := ypair_d y
              walk_at "rd"
              refine ⟨u, v, rfl, Eq2_ts (s2.trans s3).ts _ _ _ (hxy i u v eu ev), fun H4 s4 => ?_⟩
              walk_at "rd"
              exact hn H4 s4 rfl
            · have e0 : (xs.zip ys).filterMap (fun _ => (none : Option V)) = [] := by
                induction xs.zip ys with
                | nil => rfl
                | cons x l ih => exact ih
              rw [e0] at hD
              walk_at "rd"
              refine rd_l0 fun p H3 np s3 f3 e3 => ?_
              refine rd_eqNilL (ds := []) (.lst (SqL.of (s3 _ _ hD)) .nil) ((pd1_list (l := []) (n := 0) (by simp)).pd (by decide)) e3 ?_
              exact q H3 (s2.trans s3)
theorem dc_Lsame (T : Txt K mg) : Dc P w K mg base CX0 "_law_same" 6 ["_law_found", "_law_due"] (sp_Lsame 5) := dc_Lsame_n T 5

/-! ### hung, joined: where they raise nothing -/
def N_hung : List Str := [("tree" : Str), ("station" : Str), ("other" : Str), ("names" : Str), ("parent" : Str)]
theorem sc_hung : FnScope N_hung ["tree", "station", "other"] (defScope s_hung) := ⟨rfl, rfl, rfl, by decide +kernel, rfl, by decide +kernel, by decide +kernel⟩
/-- a tree hung on -/
def hungT (t u : List Nat) (s : Nat) : List Nat := t ++ u.map fun p => (s :: List.range' (t.length + 1) u.length).getD p 0
def sp_hung : Sp := fun vs H Q _ => ∃ (a b : Addr) (t u : List Nat) (s : Nat), vs = [.ref a, .int (s : Int), .ref b] ∧ H a = some (.tup (natL t)) ∧ H b = some (.tup (natL u)) ∧ TreeOk u ∧ t.length + u.length < 10 ∧ ∀ p H', Same H H' → H p = none → H' p = some (.tup (natL (hungT t u s))) → Q (.ref p) H'
theorem dc_hung (T : Txt K mg) : Dc P w K mg base CX0 "hung" 1 ["tree", "station", "other"] sp_hung := by
  refine dc_of0 T.f_hung (fun F => FunD.bindsN F fun _ _ _ _ _ _ us hl => match us, hl with | [_, _, _], _ => rfl) sc_hung (fun vs H Q E h => ?_) (fun f cdv A outer s0 H vs Q E hr h => ?_)
  · obtain ⟨a, b, t, u, s, rfl, _⟩ := h; rfl
  · obtain ⟨a, b, t, u, s, rfl, ha, hb, ou, hl, q⟩ := h
    refine ⟨_, (pss_cons (ps_if (pt_cmpR op_ge (pe_op (show OpR _ _ (rAddU K) from u_add) (pe_callB (show CallR _ _ (rLenU K) from u_len) (by rfl) T.b_len Rd.boot_len (pa_cons (pv 0) pa_nil)) (pe_callB (show CallR _ _ (rLenU K) from u_len) (by rfl) T.b_len Rd.boot_len (pa_cons (pv 2) pa_nil))) (pe_gi T.c_MAX_STATIONS) (nomark _)) (pss_one ps_never) pss_nil)
      (pss_cons (ps_set (i := 3) sc_hung.nd rfl (.inr rfl) (pe_op (show OpR _ _ (rAddU K) from u_add) (pe_lst (pa_cons (pv 1) pa_nil)) (pe_listRg rfl (by rfl) T.b_list (prg_2 (by rfl) T.b_range (pe_op (show OpR _ _ (rAddU K) from u_add) (pe_callB (show CallR _ _ (rLenU K) from u_len) (by rfl) T.b_len Rd.boot_len (pa_cons (pv 0) pa_nil)) pe_int) (pe_op (show OpR _ _ (rAddU K) from u_add) (pe_op (show OpR _ _ (rAddU K) from u_add) (pe_callB (show CallR _ _ (rLenU K) from u_len) (by rfl) T.b_len Rd.boot_len (pa_cons (pv 0) pa_nil)) (pe_callB (show CallR _ _ (rLenU K) from u_len) (by rfl) T.b_len Rd.boot_len (pa_cons (pv 2) pa_nil))) pe_int)))))
      (pss_one (ps_ret (pe_tup (show PA _ _ (StX.tStar K _ _) from StX.pa_star (pv 0) (show PA _ _ (StX.tStar K _ _) from StX.pa_star (pe_lc (own := [("parent", 4)]) rfl sc_hung.nd (show PI _ _ _ (iTup K _) from pi_tup (pv 2)) (blkOk_by (own := [("parent", 4)]) (N := N_hung) (sc := defScope s_hung) (by decide +kernel)) (fun _ _ _ _ _ => (pg_name (i := 4) sc_hung.nd rfl (.inl rfl))) (fun _ _ _ _ _ => pts_nil) (fun _ _ _ _ _ => (pe_ix (show IxR _ (rIx K) from ix_seq) (pv 3) (pv 4) (fun _ _ => rfl)))) pa_nil))))))), ?_⟩
    refine Rd.rd_start (σ' := [some (V.ref a), some (V.int (s : Int)), some (V.ref b), none, none]) rfl ?_
    walk_at "rd"
    rw [natL_len, natL_len]
    walk_at "rd"
    refine rd_l1 fun p1 H1 np1 s1 f1 e1 => ?_
    have ha1 := s1 _ _ ha
    have hb1 := s1 _ _ hb
    walk_at "rd"
    rw [natL_len, natL_len]
    refine rd_lrV (by omega) fun p2 H2 np2 s2 f2 e2 => ?_
    rw [show ((t.length : Nat) : Int) + 1 = ((t.length + 1 : Nat) : Int) by omega, show ((t.length : Nat) : Int) + ((u.length : Nat) : Int) + 1 = ((t.length + u.length + 1 : Nat) : Int) by omega, rgV_nat] at e2
    refine rd_addL (s2 _ _ e1) e2 (by rw [natL_len, List.length_range', sizeLine_eq]; simp; omega) fun p3 H3 np3 s3 f3 e3 => ?_
    have ha3 := s3 _ _ (s2 _ _ ha1)
    have hb3 := s3 _ _ (s2 _ _ hb1)
    have e3' : H3 p3 = some (.lst (natL (s :: List.range' (t.length + 1) u.length))) := e3
    walk_at "rd"
    refine comp_T (l := u) (fun p => .int (((s :: List.range' (t.length + 1) u.length).getD p 0 : Nat) : Int)) hb3 (by omega) (fun p H4 KV N hp s4 hk => ?_) fun D H4 nD s4 hD => ?_
    · walk_at "rd"
      have hpu : p < (s :: List.range' (t.length + 1) u.length).length := by
        obtain ⟨i, hi, rfl⟩ := List.getElem_of_mem hp
        have := ou.up i hi
        rw [List.getD_eq_getElem?_getD, List.getElem?_eq_getElem hi] at this
        simp at this ⊢
        omega
      exact rd_ixL (s4 _ _ e3') (atI_nat (natL_get hpu)) (hk H4 (Same.refl _))
    · walk_at "rd"
      refine rd_newT (by rw [List.append_nil, List.length_append, natL_len, List.length_map, sizeLine_eq]; omega) fun p5 H5 np5 s5 f5 e5 => ?_
      refine q p5 H5 ((((s1.trans s2).trans s3).trans s4).trans s5) (s1.free (s2.free (s3.free (s4.free np5)))) ?_
      rw [e5]
      unfold hungT natL
      rw [List.append_nil, List.map_append, List.map_map]
      rfl

def N_joined : List Str := [("later" : Str), ("parts" : Str), ("found" : Str), ("number" : Str), ("part" : Str), ("source" : Str), ("ready" : Str), ("target" : Str)]
theorem sc_joined : FnScope N_joined ["later", "parts"] (defScope s_joined) := ⟨rfl, rfl, rfl, by decide +kernel, rfl, by decide +kernel, by decide +kernel⟩
def sp_joined : Sp := fun vs H Q _ => ∃ (a b : Addr) (ps qs : List Pc), vs = [.ref a, .ref b] ∧ PcsAt H a ps ∧ PcsAt H b qs ∧ ps.length + qs.length ≤ 16 ∧ (∀ q ∈ ps ++ qs, q.r ≤ 1000) ∧ ∀ p H', Same H H' → H p = none → PcsAt H' p (ps ++ qs) → Q (.ref p) H'
def sp_joined' : Sp := fun vs H Q _ => ∃ (P a b : Addr) (ps qs : List Pc), vs = [.int 0, .ref P] ∧ H P = some (.tup [.ref a, .ref b]) ∧ PcsAt H a ps ∧ PcsAt H b qs ∧ ps.length + qs.length ≤ 16 ∧ (∀ q ∈ ps ++ qs, q.r ≤ 1000) ∧ ∀ p H', Same H H' → H p = none → PcsAt H' p (ps ++ qs) → Q (.ref p) H'
theorem fn_joined (T : Txt K mg) : ∃ f, FnR P w K mg base CX0 1 f (fun vs H Q E => vs.length = 2 ∧ ∀ p, H p = none → sp_joined' [.int 0, .ref p] (upd H p (.tup vs)) Q E) ∧ mg "joined" = some (.ref f) ∧ PySem.W.keepIn K (.ref f) = true := by
  obtain ⟨f, fd, F, hm⟩ := T.f_joined
  refine ⟨f, fn_varkw F sc_joined StX.cxUp_none (fun D doc pm an cdv ct us hl => ?_) (fun cdv A outer s0 H vs Q E hr h => ?_), hm, F.kp⟩
  · match us, hl with
    | [x, y], _ => exact ⟨_, _, _, _, _, rfl, fun v => ⟨_, _, rfl, rfl, rfl⟩⟩
  · obtain ⟨P, a, b, ps, qs, rfl, hP, ha, hb, hl, hR, q⟩ := h
    suffices h : ∃ t, PSs (cxOf CX0 _ _ K mg base N_joined "joined" (defScope s_joined) f cdv A outer s0 H E).nox (defBody s_joined) t ∧ t { nx := fun _ H' => Q .non H', rt := Q } (start N_joined [.int 0, .ref P]) H by
      obtain ⟨t, h1, h2⟩ := h; exact ⟨t, h1.nox, h2⟩
    refine ⟨_, (pss_cons (ps_if (pt_cmpR op_gt (pe_callB (show CallR _ _ (rSum K) from cr_sum rfl) (by rfl) T.b_sum Rd.boot_sum (pa_cons (pe_lc (own := [("part", 4)]) rfl sc_joined.nd (show PI _ _ _ (iTup K _) from pi_tup (pv 1)) (blkOk_by (own := [("part", 4)]) (N := N_joined) (sc := defScope s_joined) (by decide +kernel)) (fun _ _ _ _ _ => (pg_name (i := 4) sc_joined.nd rfl (.inl rfl))) (fun _ _ _ _ _ => pts_nil) (fun _ _ _ _ _ => (pe_callB (show CallR _ _ (rLenU K) from u_len) (by rfl) T.b_len Rd.boot_len (pa_cons (pv 4) pa_nil)))) pa_nil)) (pe_gi T.c_MAX_PIECES) (nomark _)) (pss_one ps_never) pss_nil)
      (pss_cons (ps_set (i := 2) sc_joined.nd rfl (.inl rfl) (pe_lst pa_nil))
      (pss_cons (ps_for PassesOwn.never rfl (show PI _ _ _ (iEnumK K _ _) from pi_enumK true (by rfl) T.b_enumerate (pa_cons (pv 1) pa_nil)) (show PG _ _ (gTup K _ _) from pg_tup (n := 2) rfl (pgs_cons (pg_name (i := 3) sc_joined.nd rfl (.inl rfl)) (pgs_cons (pg_name (i := 4) sc_joined.nd rfl (.inl rfl)) pgs_nil))) (pss_one (ps_for PassesOwn.never rfl (show PI _ _ _ (iTup K _) from pi_tup (pv 4)) (show PG _ _ (gTup K _ _) from pg_tup (n := 3) rfl (pgs_cons (pg_name (i := 5) sc_joined.nd rfl (.inl rfl)) (pgs_cons (pg_name (i := 6) sc_joined.nd rfl (.inl rfl)) (pgs_cons (pg_name (i := 7) sc_joined.nd rfl (.inl rfl)) pgs_nil)))) (pss_cons (ps_if (pt_cmpR op_gt (pe_op (show OpR _ _ (rAddU K) from u_add) (pv 6) (pe_op (show OpR _ _ (rMulU K) from u_mul) (pv 3) (pv 0))) (pe_gi T.c_MAX_TICK) (nomark _)) (pss_one ps_never) pss_nil)
      (pss_one (ps_expr (show PE _ _ (tBM K _ _ _ _) from pe_bm PySem.F.plainAttrs_list PySem.F.slot_list_append PySem.F.type_list_append mt_append (pv 2) (pa_cons (pe_tup (pa_cons (pv 5) (pa_cons (pe_op (show OpR _ _ (rAddU K) from u_add) (pv 6) (pe_op (show OpR _ _ (rMulU K) from u_mul) (pv 3) (pv 0))) (pa_cons (pv 7) pa_nil)))) pa_nil))))))))
      (pss_one (ps_ret (pe_callTy (show CallR _ _ (rTupU K) from u_tup) (by rfl) T.b_tuple Rd.boot_tuple (pa_cons (pv 2) pa_nil))))))), ?_⟩
    refine Rd.rd_start (σ' := [some (V.int 0), some (V.ref P), none, none, none, none, none, none]) rfl ?_
    obtain ⟨L, eL, hL, hLs, hLr⟩ : ∃ L : List (Addr × List Pc), L.map (fun x => V.ref x.1) = [.ref a, .ref b] ∧ (∀ x ∈ L, PcsAt H x.1 x.2) ∧ L.flatMap (fun x => x.2) = ps ++ qs ∧ L.map (fun x => x.2.length) = [ps.length, qs.length] := ⟨[(a, ps), (b, qs)], rfl, by simp [ha, hb], by simp, rfl⟩
    rw [← eL] at hP
    have hLl : L.length = 2 := by have := congrArg List.length eL; simpa using this
    walk_at "rd"
    refine comp_T (l := L) (fun x => .int ((x.2.length : Nat) : Int)) hP (by omega) (fun x H2 KV N hx s2 hk => ?_) fun D H2 nD s2 hD => ?_
    · obtain ⟨l, el, hl', _⟩ := hL x hx
      have := s2 _ _ hl'
      walk_at "rd"
      rw [List.length_map]
      have e := hk H2 (Same.refl _)
      rw [← el, List.length_map] at e
      exact e
    · walk_at "rd"
      have e1 : L.map (fun x => V.int ((x.2.length : Nat) : Int)) = ([(ps.length : Int), (qs.length : Int)]).map V.int := by
        have := congrArg (List.map fun n : Nat => V.int (n : Int)) hLr
        rw [List.map_map] at this
        exact this
      rw [e1] at hD
      refine rd_sum hD ?_
      walk_at "rd"
      have e2 : ([(ps.length : Int), (qs.length : Int)]).sum = ((ps.length + qs.length : Nat) : Int) := by simp
      rw [e2]
      walk_at "rd"
      refine rd_l0 fun R H3 nR s3 f3 e3 => ?_
      have hP3 := s3 _ _ (s2 _ _ hP)
      have s03 := s2.trans s3
      have nR0 : H R = none := s2.free nR
      walk_at "rd"
      have w0 := walk_enumK (K := K) (t := true) (a := P) (k := 0) (xs := L.map fun x => V.ref x.1)
      rw [List.length_map] at w0
      let st (x3 x4 x5 x6 x7 : Option V) : L2.St := [some (.int 0), some (.ref P), some (.ref R), x3, x4, x5, x6, x7]
      refine for_w w0 (fun i σ H' => ∃ (l : List (Addr × Pc)) (x3 x4 x5 x6 x7 : Option V), σ = [some (.int 0), some (.ref P), some (.ref R), x3, x4, x5, x6, x7] ∧ Mod [R] H3 H' ∧ Same H H' ∧ H' R = some (.lst (l.map fun x => V.ref x.1)) ∧ (∀ x ∈ l, H' x.1 = some (.tup x.2.vs)) ∧ l.map (fun x => x.2) = (L.take i).flatMap (fun x => x.2))
        ⟨[], _, _, _, _, _, rfl, Mod.refl _ _, s03, e3, by simp, by simp⟩ (fun i σ H' _ h => ?_) (fun i x σ H4 H5 hi h y => ?_) fun σ H4 h => ?_
      · obtain ⟨l, _, _, _, _, _, _, m, _⟩ := h
        exact SqT.of (m.tups _ _ hP3)
      · obtain ⟨l, x3, x4, x5, x6, x7, rfl, m4, s4, eR, hls, elp⟩ := h
        obtain ⟨TT, x, z, rfl, s5, e5, ex, ez⟩ := ypair_d y
        injection ex with ex
        subst ex
        rw [List.getElem?_map, List.getElem?_eq_getElem hi] at ez
        injection ez with ez
        subst ez
        obtain ⟨pl, epl, hpl, hps⟩ := hL L[i] (List.getElem_mem hi)
        have sa := s4.trans s5
        have hpl5 := sa _ _ hpl
        have hlt : ∀ q ∈ pl, q.2.r ≤ 1000 := fun x hx => hR x.2 (by
          rw [← hLs]
          exact List.mem_flatMap.mpr ⟨L[i], List.getElem_mem hi, by rw [← epl]; exact List.mem_map_of_mem hx⟩)
        have htot : pl.length ≤ 16 := by
          have h1 : L[i].2.length ∈ L.map (fun x => x.2.length) := List.mem_map_of_mem (f := fun x : Addr × List Pc => x.2.length) (List.getElem_mem hi)
          rw [hLr] at h1
          have h2 : pl.length = L[i].2.length := by rw [← epl, List.length_map]
          simp at h1
          omega
        have hpre : (L.take i).flatMap (fun x => x.2) = [] ∨ ((L.take i).flatMap (fun x => x.2)).length ≤ 16 := .inr (by
          have h1 : (L.take i).flatMap (fun x => x.2) ++ (L.drop i).flatMap (fun x => x.2) = ps ++ qs := by rw [← hLs, ← List.flatMap_append, List.take_append_drop]
          have h2 := congrArg List.length h1
          rw [List.length_append, List.length_append] at h2
          omega)
        walk_at "rd"
        have w1 := walk_tup (K := K) (a := L[i].1) (xs := pl.map fun x => V.ref x.1)
        rw [List.length_map] at w1
        refine for_w w1 (fun j σ H' => ∃ (l' : List (Addr × Pc)) (x5 x6 x7 : Option V), σ = [some (.int 0), some (.ref P), some (.ref R), some (.int (0 + (i : Int))), some (.ref L[i].1), x5, x6, x7] ∧ Mod [R] H3 H' ∧ Same H H' ∧ H' R = some (.lst (l'.map fun x => V.ref x.1)) ∧ (∀ x ∈ l', H' x.1 = some (.tup x.2.vs)) ∧ l'.map (fun x => x.2) = (L.take i).flatMap (fun x => x.2) ++ (pl.take j).map (fun x => x.2))
          ⟨l, _, _, _, rfl, m4.trans (s5.mod _), sa, s5 _ _ eR, fun x hx => s5 _ _ (hls x hx), by simp [elp]⟩ (fun j σ H' _ h => ?_) (fun j x σ H6 H7 hj h y => ?_) fun σ H6 h => ?_
        · obtain ⟨l', _, _, _, _, _, s', _⟩ := h
          exact SqT.of (s' _ _ hpl)
        · obtain ⟨l', y5, y6, y7, rfl, m6, s6, eR6, hl6, el6⟩ := h
          obtain ⟨rfl, ex⟩ := y
          rw [List.getElem?_map, List.getElem?_eq_getElem hj] at ex
          injection ex with ex
          subst ex
          have hq := s6 _ _ (hps pl[j] (List.getElem_mem hj))
          have hr1 := hlt pl[j] (List.getElem_mem hj)
          have hq' : H7 pl[j].1 = some (.tup [.int ((pl[j].2.s : Nat) : Int), .int ((pl[j].2.r : Nat) : Int), .int ((pl[j].2.g : Nat) : Int)]) := hq
          walk_at "rd"
          refine rd_mul (.inr ⟨by decide, by decide⟩) ?_
          rw [Int.mul_zero]
          walk_at "rd"
          refine rd_mul (.inr ⟨by decide, by decide⟩) ?_
          rw [Int.mul_zero]
          walk_at "rd"
          rw [Int.add_zero]
          refine rd_t3 fun p8 H8 np8 s8 f8 e8 => ?_
          have eR8 := s8 _ _ eR6
          have hl' : l'.length ≤ 100 := by
            have := congrArg List.length el6
            rw [List.length_map, List.length_append, List.length_map, List.length_take] at this
            rcases hpre with h | h
            · rw [h] at this; simp at this; omega
            · omega
          walk_at "rd"
          refine rd_append eR8 (szl (by rw [List.length_map]; omega)) fun H9 b9 e9 => ?_
          refine ⟨l' ++ [(p8, pl[j].2)], _, _, _, rfl, (m6.trans (s8.mod _)).trans (b9.mod (by simp)), Same.but (s6.trans s8) b9 nR0, by rw [e9, List.map_append]; rfl, fun x hx => ?_, ?_⟩
          · rcases List.mem_append.mp hx with hx | hx
            · exact b9.tups _ _ (s8 _ _ (hl6 x hx))
            · simp at hx
              subst hx
              exact b9.tups _ _ e8
          · rw [List.map_append, el6, List.append_assoc, List.take_succ, List.getElem?_eq_getElem hj, List.map_append]
            rfl
        · obtain ⟨l', y5, y6, y7, rfl, m6, s6, eR6, hl6, el6⟩ := h
          walk_at "rd"
          refine ⟨l', _, _, _, _, _, rfl, m6, s6, eR6, hl6, ?_⟩
          rw [el6, List.take_of_length_le (Nat.le_refl _), epl, List.take_succ, List.getElem?_eq_getElem hi, List.flatMap_append]
          simp
      · obtain ⟨l, x3, x4, x5, x6, x7, rfl, m4, s4, eR, hls, elp⟩ := h
        rw [List.take_of_length_le (Nat.le_refl _), hLs] at elp
        walk_at "rd"
        refine rd_tupL eR fun p6 H6 np6 s6 f6 e6 => ?_
        exact q p6 H6 (s4.trans s6) (s4.free np6) ⟨l, elp, e6, fun x hx => s6 _ _ (hls x hx)⟩
theorem dc_joined (T : Txt K mg) : DcR P w K mg base CX0 "joined" 1 sp_joined := by
  obtain ⟨f, F, hm, hk⟩ := fn_joined (P := P) (w := w) (base := base) T
  refine ⟨f, fun A outer s H us vs Q E hr E0 hv hsp => F A outer s H us vs Q E hr E0 hv ?_, hm, hk⟩
  obtain ⟨a, b, ps, qs, rfl, ha, hb, hl, hR, q⟩ := hsp
  refine ⟨rfl, fun p np => ⟨p, a, b, ps, qs, rfl, upd_same, ha.ts (same_upd np).ts, hb.ts (same_upd np).ts, hl, hR, fun p2 H2 s2 n2 h2 => q p2 H2 ((same_upd np).trans s2) (free_upd _ n2) h2⟩⟩

/-! ### the words of a task -/
theorem TL_spl_mem (c : Nat) : ∀ (L acc : List Nat), ∀ u ∈ TL.spl [c] 0 acc L, ∀ x ∈ u, x ∈ acc ∨ x ∈ L
  | [], acc => by rw [TL.spl_nil]; intro u hu x hx; simp at hu; subst hu; exact .inl hx
  | y :: r, acc => by
    by_cases h : TL.pre [c] (y :: r) = true
    · rw [TL.spl_hit h]
      intro u hu x hx
      rcases List.mem_cons.mp hu with rfl | hu
      · exact .inl hx
      · rcases TL_spl_mem c r [] u hu x hx with h | h
        · simp at h
        · exact .inr (List.mem_cons_of_mem _ h)
    · rw [TL.spl_miss (by simpa using h)]
      intro u hu x hx
      rcases TL_spl_mem c r _ u hu x hx with h | h
      · rcases List.mem_append.mp h with h | h
        · exact .inl h
        · simp at h; subst h; exact .inr (List.mem_cons_self ..)
      · exact .inr (List.mem_cons_of_mem _ h)
theorem spl_mem {c : Nat} {w u : List Nat} (h : u ∈ Mt.spl c w) : ∀ x ∈ u, x ∈ w := fun x hx => by
  rcases TL_spl_mem c w [] u h x hx with h | h
  · simp at h
  · exact h
def Lo (w : List Nat) : Prop := ∀ c ∈ w, c < 1000000
theorem Lo.app {w v : List Nat} (a : Lo w) (b : Lo v) : Lo (w ++ v) := fun c hc => by
  rcases List.mem_append.mp hc with h | h
  · exact a c h
  · exact b c h
theorem Lo.cons {c : Nat} {w : List Nat} (h : c < 1000000) (a : Lo w) : Lo (c :: w) := fun x hx => by
  rcases List.mem_cons.mp hx with rfl | hx
  · exact h
  · exact a x hx
theorem lo_nil : Lo [] := fun c hc => by simp at hc
theorem lo_num (n : Nat) : Lo (TL.numL n) := fun c hc => by have := TL.numL_digits n c hc; omega
theorem lo_piece (q : Pc) : Lo (pieceT q) := ((lo_num _).app (.cons (by decide) (lo_num _))).app (.cons (by decide) (lo_num _))
theorem lo_join {s : List Nat} (hs : Lo s) : ∀ {ps : List (List Nat)}, (∀ p ∈ ps, Lo p) → Lo (TL.joinL s ps)
  | [], _ => by simp [TL.joinL]; exact lo_nil
  | [p], h => by simpa [TL.joinL] using h p (List.mem_cons_self ..)
  | p :: q :: r, h => by
    rw [joinL_cons (by simp)]
    exact (h p (List.mem_cons_self ..)).app (hs.app (lo_join hs fun x hx => h x (List.mem_cons_of_mem p hx)))
theorem lo_tree (t : List Nat) : Lo (treeT t) := by
  unfold treeT
  split
  · intro c hc; simp at hc; omega
  · exact lo_join (.cons (by decide) lo_nil) fun p hp => by
      obtain ⟨n, _, rfl⟩ := List.mem_map.mp hp
      exact lo_num n
theorem lo_task (t : List Nat) (ps : List Pc) : Lo (taskT t ps) := lo_join (.cons (by decide) lo_nil) fun p hp => by
  rcases List.mem_cons.mp hp with rfl | hp
  · exact (lo_tree t).app (.cons (by decide) lo_nil)
  · obtain ⟨q, _, rfl⟩ := List.mem_map.mp hp
    exact lo_piece q
theorem lo_spl {c : Nat} {w : List Nat} (h : Lo w) : ∀ u ∈ Mt.spl c w, ∀ x ∈ u, x < 1000000 := fun u hu x hx => h x (spl_mem hu x hx)
theorem treeT_yard {t : List Nat} (h : t ≠ []) : treeT t ≠ [121, 97, 114, 100] := by
  intro e
  unfold treeT at e
  rw [if_neg h] at e
  cases t with
  | nil => exact absurd rfl h
  | cons n r =>
    have hd : (TL.joinL [44] ((n :: r).map TL.numL)).head? = (TL.numL n).head? := by
      cases r with
      | nil => simp [TL.joinL]
      | cons m r =>
        rw [List.map_cons, joinL_cons (by simp)]
        cases en : TL.numL n with
        | nil => exact absurd en (TL.numL_ne n)
        | cons c l => rfl
    rw [e] at hd
    cases en : TL.numL n with
    | nil => exact absurd en (TL.numL_ne n)
    | cons c l =>
      rw [en] at hd
      injection hd with hd
      have := TL.numL_digits n c (by rw [en]; exact List.mem_cons_self ..)
      omega
theorem count_S {c : Nat} {w : List Nat} (hc : c < 256) (hw : 1 ≤ w.length) : Txt.count (Mt.S w) (Mt.S [c]) = ((Mt.spl c w).length : Int) - 1 := by
  have h := congrArg List.length (Mt.S_spl (w := w) hc)
  rw [List.length_map] at h
  rw [← h]
  have h1 : (decide ((Mt.S w).length < (Mt.S [c]).length) || decide (Builtin.Str.strKind (Mt.S w) < Builtin.Str.strKind (Mt.S [c]))) = false := by
    rw [Mt.S_len, Mt.S_len, decide_eq_false (show ¬ w.length < [c].length from Nat.not_lt.mpr hw), decide_eq_false (TL.kind_ok (by simp [Mt.S, hc]))]
    rfl
  unfold Txt.split Txt.count
  rw [h1, if_neg Bool.false_ne_true]
  generalize Builtin.Str.occurrences (Mt.S w) (Mt.S [c]) 0 (Mt.S w).length ((Mt.S w).length + 1) = oc
  cases oc with
  | nil => rfl
  | cons i r =>
    rw [if_neg (by simp)]
    unfold Builtin.Str.partsBetween
    simp
theorem cut_init {xs : List V} : cutV xs none (some (-1)) = xs.dropLast := by
  unfold cutV
  have : HT.sIx xs.length xs.length (some (-1)) = xs.length - 1 := by
    unfold HT.sIx
    simp only
    rw [if_pos (by decide)]
    omega
  rw [this]
  show List.take (xs.length - 1 - 0) (List.drop 0 xs) = _
  rw [List.drop_zero, Nat.sub_zero, List.dropLast_eq_take]
def tLoopW (K : PySem.W.Frag) : L2.TS :=
  tFor (iRng1 (tCons (tCB (rLenU K) (tCons (tVar 2) tNil)) tNil)) (gName 7)
    (tSeq (tAsg (tOp (rIx K) (tVar 2) (tVar 7)) (gTup K 3 (gCons (gName 8) (gCons (gName 9) (gCons (gName 10) gNil)))))
      (tIfS (tTest (tOp (rNeU K) (tBM K "str" rSplit (tRepl (tOp (rIx K) (tVar 3) (tOp (rAddU K) (tVar 7) (tC (V.int 1)))) (Str.ofString "@") (Str.ofString ">")) (tCons (tC (V.str (Str.ofString ">"))) tNil))
          (tLst (tCons (tCB rStrU (tCons (tVar 8) tNil)) (tCons (tCB rStrU (tCons (tVar 9) tNil)) (tCons (tCB rStrU (tCons (tVar 10) tNil)) tNil))))))
        (tRet (tC (V.bl false))) tNext))
theorem tLoopW_eq : tFor (iRng1 (tCons (tCB (rLenU K) (tCons (tVar 2) tNil)) tNil)) (gName 7)
    (tSeq (tAsg (tOp (rIx K) (tVar 2) (tVar 7)) (gTup K 3 (gCons (gName 8) (gCons (gName 9) (gCons (gName 10) gNil)))))
      (tIfS (tTest (tOp (rNeU K) (tBM K "str" rSplit (tRepl (tOp (rIx K) (tVar 3) (tOp (rAddU K) (tVar 7) (tC (V.int 1)))) (Str.ofString "@") (Str.ofString ">")) (tCons (tC (V.str (Str.ofString ">"))) tNil))
          (tLst (tCons (tCB rStrU (tCons (tVar 8) tNil)) (tCons (tCB rStrU (tCons (tVar 9) tNil)) (tCons (tCB rStrU (tCons (tVar 10) tNil)) tNil))))))
        (tRet (tC (V.bl false))) tNext)) = tLoopW K := rfl
theorem piece_cut {q : Pc} : ∃ w, Txt.replace (Mt.S (pieceT q)) (Mt.S [64]) (Mt.S [62]) = Mt.S w ∧ w.length ≤ (pieceT q).length ∧ Mt.spl 62 w = [TL.numL q.s, TL.numL q.r, TL.numL q.g] := by
  have f64 : ∀ n, (64 : Nat) ∉ TL.numL n := fun n => TL.numL_free (.inr (by decide))
  have f62 : ∀ n, (62 : Nat) ∉ TL.numL n := fun n => TL.numL_free (.inr (by decide))
  have e1 : Mt.spl 64 (pieceT q) = [TL.numL q.s, TL.numL q.r ++ 62 :: TL.numL q.g] := by
    have h := spl_join (c := 64) (ps := [TL.numL q.s, TL.numL q.r ++ 62 :: TL.numL q.g]) (by simp) (by
      intro p hp
      simp only [List.mem_cons, List.not_mem_nil, or_false] at hp
      rcases hp with rfl | rfl
      · exact f64 _
      · simp only [List.mem_append, List.mem_cons, not_or]
        exact ⟨f64 _, by decide, f64 _⟩)
    have e : TL.joinL [64] [TL.numL q.s, TL.numL q.r ++ 62 :: TL.numL q.g] = pieceT q := by
      rw [joinL_cons (by simp)]
      simp [TL.joinL, pieceT]
    rw [e] at h
    exact h
  refine ⟨TL.joinL [62] [TL.numL q.s, TL.numL q.r, TL.numL q.g], ?_, ?_, ?_⟩
  · have h : Mt.S [64] = ⟨#[64]⟩ := rfl
    rw [h, StrLaws.replace_one, ← h, Mt.S_spl (by decide), e1, ← TL.join_eq, Mt.S_join]
    have h1 : TL.joinL [62] [TL.numL q.s, TL.numL q.r ++ 62 :: TL.numL q.g] = TL.numL q.s ++ ([62] ++ (TL.numL q.r ++ 62 :: TL.numL q.g)) := by rw [joinL_cons (by simp)]; rfl
    have h2 : TL.joinL [62] [TL.numL q.s, TL.numL q.r, TL.numL q.g] = TL.numL q.s ++ ([62] ++ (TL.numL q.r ++ ([62] ++ TL.numL q.g))) := by rw [joinL_cons (by simp), joinL_cons (by simp)]; rfl
    rw [h1, h2]
    rfl
  · rw [joinL_cons (by simp), joinL_cons (by simp)]
    simp [TL.joinL, pieceT]
  · refine spl_join (by simp) fun p hp => ?_
    simp only [List.mem_cons, List.not_mem_nil, or_false] at hp
    rcases hp with rfl | rfl | rfl <;> exact f62 _
theorem words_loop {H : Hp} {D : Ends} {d a b pw : Addr} {lb : List (Addr × Pc)} {hd : List Nat} {x4 x5 x6 : Option V} (hlb : H b = some (.tup (lb.map fun x => V.ref x.1))) (hlbs : ∀ x ∈ lb, H x.1 = some (.tup x.2.vs)) (hsm : ∀ x ∈ lb, Small x.2) (hl : lb.length ≤ 16)
    (ew : H pw = some (.lst (V.str (Mt.S hd) :: ((lb.map fun x => x.2).map pieceT).map fun u => V.str (Mt.S u)))) (hnx : ∀ σ H', Same H H' → D.nx σ H') :
    tLoopW K D [some (.ref d), some (.ref a), some (.ref b), some (.ref pw), x4, x5, x6, none, none, none, none] H := by
  unfold tLoopW
  walk_at "rd"
  rw [List.length_map]
  refine rd_r1 (n := lb.length) (by omega) (by omega) ?_
  refine for_w walk_range (fun i σ H' => (∃ x7 x8 x9 x10, σ = [some (.ref d), some (.ref a), some (.ref b), some (.ref pw), x4, x5, x6, x7, x8, x9, x10]) ∧ Same H H') ⟨⟨_, _, _, _, rfl⟩, Same.refl H⟩ (fun _ _ _ _ _ => trivial) (fun i x σ H1 H2 hi h y => ?_) fun σ H1 h => hnx σ H1 h.2
  obtain ⟨⟨x7, x8, x9, x10, rfl⟩, s1⟩ := h
  obtain ⟨rfl, rfl⟩ := yrng0 y
  have hb2 := s1 _ _ hlb
  have hq := s1 _ _ (hlbs lb[i] (List.getElem_mem hi))
  obtain ⟨h1, h2, h3⟩ := hsm lb[i] (List.getElem_mem hi)
  have hq' : H2 lb[i].1 = some (.tup [.int ((lb[i].2.s : Nat) : Int), .int ((lb[i].2.r : Nat) : Int), .int ((lb[i].2.g : Nat) : Int)]) := hq
  have ew2 := s1 _ _ ew
  walk_at "rd"
  refine rd_ixT hb2 (at_nat (j := i) rfl (by rw [List.getElem?_map, List.getElem?_eq_getElem hi]; rfl)) ?_
  walk_at "rd"
  have hplen := pieceT_len (hsm lb[i] (List.getElem_mem hi))
  refine rd_ixL ew2 (at_nat (j := i + 1) (v := V.str (Mt.S (pieceT lb[i].2))) (by omega) (by
    rw [List.getElem?_cons_succ, List.getElem?_map, List.getElem?_map, List.getElem?_map, List.getElem?_eq_getElem hi]; rfl)) ?_
  walk_at "rd"
  rw [k_at, k_gt]
  obtain ⟨w, ew1, hwl, hws⟩ := piece_cut (q := lb[i].2)
  refine rd_isRp (by
    rw [Mt.S_len, Mt.S_len]
    show _ + _ * 1 ≤ _
    omega) ?_
  rw [ew1]
  walk_at "rd"
  refine rd_split1 (by omega) (by decide) fun p3 H3 np3 s3 f3 e3 => ?_
  rw [hws] at e3
  walk_at "rd"
  refine rd_strI (log2_lt (by rw [Int.natAbs_natCast]; exact Nat.lt_of_le_of_lt h1 (by decide))) ?_
  walk_at "rd"
  refine rd_strI (log2_lt (by rw [Int.natAbs_natCast]; exact Nat.lt_of_le_of_lt h2 (by decide))) ?_
  walk_at "rd"
  refine rd_strI (log2_lt (by rw [Int.natAbs_natCast]; exact Nat.lt_of_le_of_lt h3 (by decide))) ?_
  rw [Mt.S_num, Mt.S_num, Mt.S_num]
  walk_at "rd"
  refine rd_l3 fun p4 H4 np4 s4 f4 e4 => ?_
  have lo3 : ∀ u ∈ [TL.numL lb[i].2.s, TL.numL lb[i].2.r, TL.numL lb[i].2.g], ∀ x ∈ u, x < 1000000 := fun u hu => by
    simp only [List.mem_cons, List.not_mem_nil, or_false] at hu
    rcases hu with rfl | rfl | rfl <;> exact lo_num _
  refine rd_neStrs (l := [TL.numL lb[i].2.s, TL.numL lb[i].2.r, TL.numL lb[i].2.g]) (m := [TL.numL lb[i].2.s, TL.numL lb[i].2.r, TL.numL lb[i].2.g]) (s4 _ _ e3) e4 lo3 lo3 ?_
  rw [decide_eq_true rfl]
  walk_at "rd"
  exact ⟨⟨_, _, _, _, rfl⟩, (s1.trans s3).trans s4⟩
def N_Lwords_right : List Str := [("_law_deck_here" : Str), ("_law_tree_here" : Str), ("_law_pieces_here" : Str), ("_law_words" : Str), ("_law_cut" : Str), ("_law_parts" : Str), ("_law_more" : Str), ("_law_k" : Str), ("_law_source" : Str), ("_law_ready" : Str), ("_law_target" : Str)]
theorem sc_Lwords_right : FnScope N_Lwords_right ["_law_deck_here", "_law_tree_here", "_law_pieces_here"] (defScope s_Lwords_right) := ⟨rfl, rfl, rfl, by decide +kernel, rfl, by decide +kernel, by decide +kernel⟩
def sp_Lwords_right : Sp := fun vs H Q _ => ∃ (d c a b : Addr) (t : List Nat) (ps : List Pc) (k : Nat), vs = [.ref d, .ref a, .ref b] ∧ H a = some (.tup (natL t)) ∧ TreeOk t ∧ PcsAt H b ps ∧ ps.length ≤ 16 ∧ (∀ q ∈ ps, pcOk t q = true) ∧ DeckAt d c (k + 2) H ∧
  ∀ H', Mod [d, c] H H' → DeckAt d c k H' → Q (.bl true) H'
theorem dc_Lwords_right (T : Txt K mg) : Dc P w K mg base CX0 "_law_words_right" 3 ["_law_deck_here", "_law_tree_here", "_law_pieces_here"] sp_Lwords_right := by
  refine dc_of0 T.f_Lwords_right (fun F => FunD.bindsN F fun _ _ _ _ _ _ us hl => match us, hl with | [_, _, _], _ => rfl) sc_Lwords_right (fun vs H Q E h => ?_) (fun f cdv A outer s0 H vs Q E hr h => ?_)
  · obtain ⟨d, c, a, b, t, ps, k, rfl, _⟩ := h; rfl
  · obtain ⟨d, c, a, b, t, ps, k, rfl, ha, ok, hb, hl, hp, hk, q⟩ := h
    refine ⟨_, (pss_cons (ps_set (i := 3) sc_Lwords_right.nd rfl (.inl rfl) (show PE _ _ (tBM K _ _ _ _) from pe_bm PySem.F.plainAttrs_str PySem.F.slot_str_split PySem.F.type_str_split (show MtR _ _ rSplit from m_split) (pe_fn (dc_task_text T) (hr.mono (by decide)) (by rfl) pass0 (pa_cons (pv 1) (pa_cons (pv 2) pa_nil))) (pa_cons pe_str pa_nil)))
      (pss_cons (ps_set (i := 4) sc_Lwords_right.nd rfl (.inl rfl) (pe_fn (dc_Ldraw T) (hr.mono (by decide)) (by rfl) pass0 (pa_cons (pv 0) (pa_cons (pe_op (show OpR _ _ (rAddU K) from u_add) (pe_callB (show CallR _ _ (rLenU K) from u_len) (by rfl) T.b_len Rd.boot_len (pa_cons (pv 2) pa_nil)) pe_int) pa_nil))))
      (pss_cons (ps_set (i := 5) sc_Lwords_right.nd rfl (.inl rfl) (pe_fnR (dc_joined T) (hr.mono (by decide)) (by rfl) pass0 (pa_cons (pe_slice (show SlR _ (rSlA K) from sl_tupA) (pv 2) po_none (po_some (pv 4))) (pa_cons (pe_slice (show SlR _ (rSlA K) from sl_tupA) (pv 2) (po_some (pv 4)) po_none) pa_nil))))
      (pss_cons (ps_if (PW.pt (pw_or (pt_cmpR (show OpR _ _ (rNeU K) from u_ne hr.units) (show PE _ _ (tBM K _ _ _ _) from pe_bm PySem.F.plainAttrs_str PySem.F.slot_str_split PySem.F.type_str_split (show MtR _ _ rSplit from m_split) (pe_fn (dc_task_text T) (hr.mono (by decide)) (by rfl) pass0 (pa_cons (pv 1) (pa_cons (pv 5) pa_nil))) (pa_cons pe_str pa_nil)) (pv 3) (nomark _)) (pw_or1 (pt_cmpR (show OpR _ _ (rNeU K) from u_ne hr.units) (pe_slice (show SlR _ (rSlL K) from sl_list) (show PE _ _ (tBM K _ _ _ _) from pe_bm PySem.F.plainAttrs_str PySem.F.slot_str_split PySem.F.type_str_split (show MtR _ _ rSplit from m_split) (pe_fn (dc_task_text T) (hr.mono (by decide)) (by rfl) pass0 (pa_cons (pv 1) (pa_cons (show PE _ _ (tRvT K _) from pe_rvT (pv 2)) pa_nil))) (pa_cons pe_str pa_nil)) (po_some pe_int) po_none) (show PE _ _ (tRvL K _) from pe_rvL (pv 3)) (nomark _))))) (pss_one (ps_ret pe_bl)) pss_nil)
      (pss_cons (ps_if (PW.pt (pw_and (pt_cmpR (show OpR _ _ (rNeU K) from u_ne hr.units) (pe_ix (show IxR _ (rIx K) from ix_seq) (pv 3) pe_int (fun _ _ => rfl)) pe_str (nomark _)) (pw_and1 (pt_cmpR (show OpR _ _ (rNeU K) from u_ne hr.units) (show PE _ _ (tBM K _ _ _ _) from pe_bm PySem.F.plainAttrs_str PySem.F.slot_str_count PySem.F.type_str_count (show MtR _ _ rCount from m_count) (pe_ix (show IxR _ (rIx K) from ix_seq) (pv 3) pe_int (fun _ _ => rfl)) (pa_cons pe_str pa_nil)) (pe_op op_sub (pe_callB (show CallR _ _ (rLenU K) from u_len) (by rfl) T.b_len Rd.boot_len (pa_cons (pv 1) pa_nil)) pe_int) (nomark _))))) (pss_one (ps_ret pe_bl)) pss_nil)
      (pss_cons (ps_if (PW.pt (pw_and (pt_cmpR op_lt (pe_callB (show CallR _ _ (rLenU K) from u_len) (by rfl) T.b_len Rd.boot_len (pa_cons (pv 1) pa_nil)) pe_int (nomark _)) (pw_and1 (pt_cmpR (show OpR _ _ (rNeU K) from u_ne hr.units) (pv 1) (pe_tup pa_nil) (nomark _))))) (pss_cons (ps_set (i := 6) sc_Lwords_right.nd rfl (.inl rfl) (pe_ix (show IxR _ (rIx K) from ix_seq) (show PE _ _ (tBM K _ _ _ _) from pe_bm PySem.F.plainAttrs_str PySem.F.slot_str_split PySem.F.type_str_split (show MtR _ _ rSplit from m_split) (pe_fn (dc_task_text T) (hr.mono (by decide)) (by rfl) pass0 (pa_cons (pe_fn (dc_hung T) (hr.mono (by decide)) (by rfl) pass0 (pa_cons (pv 1) (pa_cons (pe_fn (dc_Ldraw T) (hr.mono (by decide)) (by rfl) pass0 (pa_cons (pv 0) (pa_cons (pe_op (show OpR _ _ (rAddU K) from u_add) (pe_callB (show CallR _ _ (rLenU K) from u_len) (by rfl) T.b_len Rd.boot_len (pa_cons (pv 1) pa_nil)) pe_int) pa_nil))) (pa_cons (pe_tup (pa_cons pe_int pa_nil)) pa_nil)))) (pa_cons (pe_tup pa_nil) pa_nil))) (pa_cons pe_str pa_nil)) pe_int (fun _ _ => rfl)))
      (pss_one (ps_if (pt_cmpR (show OpR _ _ (rNeU K) from u_ne hr.units) (pe_slice (show SlR _ (rSlL K) from sl_list) (show PE _ _ (tBM K _ _ _ _) from pe_bm PySem.F.plainAttrs_str PySem.F.slot_str_split PySem.F.type_str_split (show MtR _ _ rSplit from m_split) (pv 6) (pa_cons pe_str pa_nil)) po_none (po_some (pe_un un_neg pe_int))) (show PE _ _ (tBM K _ _ _ _) from pe_bm PySem.F.plainAttrs_str PySem.F.slot_str_split PySem.F.type_str_split (show MtR _ _ rSplit from m_split) (pe_slice sl_str (pe_ix (show IxR _ (rIx K) from ix_seq) (pv 3) pe_int (fun _ _ => rfl)) po_none (po_some (pe_un un_neg pe_int))) (pa_cons pe_str pa_nil)) (nomark _)) (pss_one (ps_ret pe_bl)) pss_nil))) pss_nil)
      (pss_cons (ps_for PassesOwn.never rfl (pi_range1 (by rfl) T.b_range (pa_cons (pe_callB (show CallR _ _ (rLenU K) from u_len) (by rfl) T.b_len Rd.boot_len (pa_cons (pv 2) pa_nil)) pa_nil)) (pg_name (i := 7) sc_Lwords_right.nd rfl (.inl rfl)) (pss_cons (ps_asg (pe_ix (show IxR _ (rIx K) from ix_seq) (pv 2) (pv 7) (fun _ _ => rfl)) (show PG _ _ (gTup K _ _) from pg_tup (n := 3) rfl (pgs_cons (pg_name (i := 8) sc_Lwords_right.nd rfl (.inl rfl)) (pgs_cons (pg_name (i := 9) sc_Lwords_right.nd rfl (.inl rfl)) (pgs_cons (pg_name (i := 10) sc_Lwords_right.nd rfl (.inl rfl)) pgs_nil)))))
      (pss_one (ps_if (pt_cmpR (show OpR _ _ (rNeU K) from u_ne hr.units) (show PE _ _ (tBM K _ _ _ _) from pe_bm PySem.F.plainAttrs_str PySem.F.slot_str_split PySem.F.type_str_split (show MtR _ _ rSplit from m_split) (show PE _ _ (tRepl _ _ _) from pe_repl1 (p1_ix (show IxR _ (rIx K) from ix_seq) (pv 3) (p1_op (show OpR _ _ (rAddU K) from u_add) (pv 7) p1_int) (fun _ _ => rfl))) (pa_cons pe_str pa_nil)) (pe_lst (pa_cons (pe_callTy u_str (by rfl) T.b_str Rd.boot_str (pa_cons (pv 8) pa_nil)) (pa_cons (pe_callTy u_str (by rfl) T.b_str Rd.boot_str (pa_cons (pv 9) pa_nil)) (pa_cons (pe_callTy u_str (by rfl) T.b_str Rd.boot_str (pa_cons (pv 10) pa_nil)) pa_nil)))) (nomark _)) (pss_one (ps_ret pe_bl)) pss_nil))))
      (pss_one (ps_ret pe_bl))))))))), ?_⟩
    refine Rd.rd_start (σ' := [some (V.ref d), some (V.ref a), some (V.ref b), none, none, none, none, none, none, none, none]) rfl ?_
    rw [tLoopW_eq]
    have hx : ∀ x ∈ t, x ≤ 10000000000 := fun x hx => by have := ok.lt x hx; omega
    have hlen := ok.len
    have hsm : ∀ q ∈ ps, Small q := fun q hq => pcOk_small ok (hp q hq)
    have hTl := taskT_len (by omega : t.length ≤ 100) hx (by omega : ps.length ≤ 100) hsm
    walk_at "rd"
    refine ⟨a, b, t, ps, rfl, ha, by omega, hx, hb, by omega, hsm, fun H1 s1 => ?_⟩
    walk_at "rd"
    rw [k_sp]
    refine rd_split1 (by omega) (by decide) fun pw H2 npw s2 f2 ew => ?_
    have k2 := hk.same (s1.trans s2)
    have ndw := (hk.same s1).nd npw
    obtain ⟨lb, elb, hlb, hlbs⟩ := hb.ts (s1.trans s2).ts
    walk_at "rd"
    have eW : Mt.spl 32 (taskT t ps) = (treeT t ++ [59]) :: ps.map pieceT := task_words
    have hlb16 : lb.length ≤ 16 := by rw [← elb, List.length_map] at hl; exact hl
    refine ⟨d, c, lb.length + 1, k + 1, by rw [List.length_map]; rfl, by omega, by omega, k2, fun cut H3 m3 k3 hcut => ?_⟩
    have m03 : Mod [d, c] H H3 := ((s1.trans s2).mod _).trans m3
    have ew3 := m3.at2 ew ndw.1 ndw.2
    have hlb3 := m3.tups _ _ hlb
    have hlbs3 : ∀ x ∈ lb, H3 x.1 = some (.tup x.2.vs) := fun x hx => m3.tups _ _ (hlbs x hx)
    walk_at "rd"
    refine rd_slT hlb3 fun p4 H4 s4 f4 e4 => ?_
    rw [cut_to, ← List.map_take] at e4
    have hlb4 := s4 _ _ hlb3
    walk_at "rd"
    refine rd_slT hlb4 fun p5 H5 s5 f5 e5 => ?_
    rw [cut_from, ← List.map_drop] at e5
    have s35 := s4.trans s5
    walk_at "rd"
    have hjoin : (lb.take cut).map (fun x => x.2) ++ (lb.drop cut).map (fun x => x.2) = ps := by rw [← List.map_append, List.take_append_drop, elb]
    refine ⟨p4, p5, (lb.take cut).map (fun x => x.2), (lb.drop cut).map (fun x => x.2), rfl, ⟨lb.take cut, rfl, s5 _ _ e4, fun x hx => s35 _ _ (hlbs3 x (List.mem_of_mem_take hx))⟩, ⟨lb.drop cut, rfl, e5, fun x hx => s35 _ _ (hlbs3 x (List.mem_of_mem_drop hx))⟩, by
      have := congrArg List.length hjoin
      rw [List.length_append] at this
      omega, fun x hx => ?_, fun p6 H6 s6 np6 h6 => ?_⟩
    · rw [hjoin] at hx
      have := hp x hx
      unfold pcOk at this
      rw [Bool.and_eq_true, Bool.and_eq_true, Bool.and_eq_true, decide_eq_true_eq, decide_eq_true_eq, decide_eq_true_eq] at this
      exact this.1.1.2
    rw [hjoin] at h6
    have s36 := s35.trans s6
    have ha6 := s36 _ _ (m03.tups _ _ ha)
    walk_at "rd"
    refine ⟨a, p6, t, ps, rfl, ha6, by omega, hx, h6, by omega, hsm, fun H7 s7 => ?_⟩
    walk_at "rd"
    refine rd_split1 (by omega) (by decide) fun p8 H8 np8 s8 f8 e8 => ?_
    have s38 := (s36.trans s7).trans s8
    have lo := lo_spl (c := 32) (lo_task t ps)
    walk_at "rd"
    refine rd_neStrs e8 (s38 _ _ ew3) lo lo ?_
    rw [decide_eq_true rfl]
    walk_at "rd"
    -- backwards
    have hlb8 := s38 _ _ hlb3
    refine rd_isTr hlb8 fun p9 H9 np9 s9 f9 e9 => ?_
    rw [← List.map_reverse] at e9
    have s39 := s38.trans s9
    have hpr : (lb.reverse).map (fun x => x.2) = ps.reverse := by rw [List.map_reverse, elb]
    walk_at "rd"
    refine ⟨a, p9, t, ps.reverse, rfl, s39 _ _ (m03.tups _ _ ha), by omega, hx, ⟨lb.reverse, hpr, e9, fun x hx => s39 _ _ (hlbs3 x (List.mem_reverse.mp hx))⟩, by rw [List.length_reverse]; omega, fun x hx => hsm x (List.mem_reverse.mp hx), fun H10 s10 => ?_⟩
    walk_at "rd"
    refine rd_split1 (by
      have := taskT_len (by omega : t.length ≤ 100) hx (by rw [List.length_reverse]; omega : ps.reverse.length ≤ 100) fun x hx => hsm x (List.mem_reverse.mp hx)
      omega) (by decide) fun p11 H11 np11 s11 f11 e11 => ?_
    rw [task_words] at e11
    walk_at "rd"
    refine rd_slL e11 fun p12 H12 np12 s12 f12 e12 => ?_
    have e12' : H12 p12 = some (.lst ((ps.reverse.map pieceT).map fun u => .str (Mt.S u))) := by
      rw [e12, show (1 : Int) = ((1 : Nat) : Int) from rfl, cut_from]; rfl
    have s3c := ((s39.trans s10).trans s11).trans s12
    have ew12 := s3c _ _ ew3
    walk_at "rd"
    refine rd_isLr ew12 fun p13 H13 np13 s13 f13 e13 => ?_
    have e13' : H13 p13 = some (.lst (((ps.map pieceT).reverse).map fun u => .str (Mt.S u))) := by
      rw [e13, eW, List.map_reverse]; rfl
    have lop : ∀ u ∈ ps.reverse.map pieceT, ∀ x ∈ u, x < 1000000 := fun u hu => by
      obtain ⟨q, _, rfl⟩ := List.mem_map.mp hu
      exact lo_piece q
    have lop2 : ∀ u ∈ (ps.map pieceT).reverse, ∀ x ∈ u, x < 1000000 := fun u hu => by
      obtain ⟨q, _, rfl⟩ := List.mem_map.mp (List.mem_reverse.mp hu)
      exact lo_piece q
    refine rd_neStrs (s13 _ _ e12') e13' lop lop2 ?_
    rw [decide_eq_true List.map_reverse]
    have s3d := s3c.trans s13
    have ew13 := s3d _ _ ew3
    rw [eW] at ew13
    have ew13' : H13 pw = some (.lst (V.str (Mt.S (treeT t ++ [59])) :: (ps.map pieceT).map fun u => V.str (Mt.S u))) := ew13
    have k13 := k3.same s3d
    have ha13 := s3d _ _ (m03.tups _ _ ha)
    have tail : ∀ (D : Ends) (x4 x5 x6 : Option V) (H' : Hp), Mod [d, c] H H' → Mod [d, c] H13 H' → DeckAt d c k H' → (∀ σ H'', Mod [d, c] H H'' → DeckAt d c k H'' → D.nx σ H'') → tLoopW K D [some (.ref d), some (.ref a), some (.ref b), some (.ref pw), x4, x5, x6, none, none, none, none] H' := by
      intro D x4 x5 x6 H' mH m13 kH hD
      refine words_loop (lb := lb) (hd := treeT t ++ [59]) (m13.tups _ _ (s3d _ _ hlb3)) (fun x hx => m13.tups _ _ (s3d _ _ (hlbs3 x hx))) (fun x hx => hsm x.2 (by rw [← elb]; exact List.mem_map_of_mem hx)) hlb16 ?_ fun σ H'' s => hD σ H'' (mH.trans (s.mod _)) (kH.same s)
      rw [elb]
      exact m13.at2 ew13' ndw.1 ndw.2
    have m0d : Mod [d, c] H H13 := m03.trans (s3d.mod _)
    have k13' : DeckAt d c k H13 := k13.mono (by omega)
    have kys : ("yard;" : Str) = Mt.S [121, 97, 114, 100, 59] := by decide +kernel
    have fin : ∀ (σ : L2.St) (H'' : Hp), Mod [d, c] H H'' → DeckAt d c k H'' → tRet (tC (.bl true)) { nx := fun _ H' => Q .non H', rt := Q } σ H'' := fun σ H'' m k' => q H'' m k'
    walk_at "rd"
    rw [kys]
    by_cases h0 : t = []
    · subst h0
      rw [decide_eq_true (show Mt.S (treeT [] ++ [59]) = Mt.S [121, 97, 114, 100, 59] from rfl)]
      walk_at "rd"
      rw [natL_len, show ((([] : List Nat).length : Nat) : Int) = 0 from rfl]
      walk_at "rd"
      refine rd_t0 fun p14 H14 np14 s14 f14 e14 => ?_
      refine rd_neInts (t := []) (u := []) (s14 _ _ ha13) e14 ?_
      rw [decide_eq_true rfl]
      walk_at "rd"
      exact tail _ _ _ _ H14 (m0d.trans (s14.mod _)) (s14.mod _) (k13'.same s14) fin
    · have hne : Mt.S (treeT t ++ [59]) ≠ Mt.S [121, 97, 114, 100, 59] := fun e => treeT_yard h0 (by
        have := Mt.S_inj.mp e
        exact List.append_cancel_right (this.trans (rfl : _ = [121, 97, 114, 100] ++ [59])))
      rw [decide_eq_false hne]
      walk_at "rd"
      rw [k_comma, natL_len]
      have etT : treeT t = TL.joinL [44] (t.map TL.numL) := by unfold treeT; rw [if_neg h0]
      have hne2 : t.map TL.numL ≠ [] := by simpa using h0
      have fr : ∀ p ∈ t.map TL.numL, (44 : Nat) ∉ p := fun p hp => by
        obtain ⟨n, _, rfl⟩ := List.mem_map.mp hp
        exact TL.numL_free (.inl (by decide))
      have eS : Mt.spl 44 (treeT t) = t.map TL.numL := by rw [etT]; exact spl_join hne2 fr
      have eS2 : (Mt.spl 44 (treeT t ++ [59])).length = t.length := by
        obtain ⟨l, x, el⟩ : ∃ l x, t.map TL.numL = l ++ [x] := by
          rcases List.eq_nil_or_concat (t.map TL.numL) with h | ⟨l, x, h⟩
          · exact absurd h hne2
          · exact ⟨l, x, by rw [h, List.concat_eq_append]⟩
        have hj : ∀ (l : List (List Nat)) (x : List Nat), TL.joinL [44] (l ++ [x]) ++ [59] = TL.joinL [44] (l ++ [x ++ [59]]) := by
          intro l x
          induction l with
          | nil => simp [TL.joinL]
          | cons y l ih =>
            rw [List.cons_append, List.cons_append, joinL_cons (by simp), joinL_cons (by simp), ← ih]
            simp
        rw [etT, el, hj, spl_join (by simp) fun p hp => ?_]
        · have := congrArg List.length el
          simp at this ⊢
          omega
        · rw [el] at fr
          rcases List.mem_append.mp hp with h | h
          · exact fr p (List.mem_append.mpr (.inl h))
          · simp at h
            subst h
            have := fr x (by simp)
            simpa using this
      rw [count_S (by decide) (by simp), eS2]
      walk_at "rd"
      rw [natL_len]
      refine rd_dec (fun h9 => ?_) fun h9 => ?_
      · walk_at "rd"
        refine rd_t0 fun p14 H14 np14 s14 f14 e14 => ?_
        refine rd_neInts (t := t) (u := []) (s14 _ _ ha13) e14 ?_
        rw [decide_eq_false h0]
        have ha14 := s14 _ _ ha13
        walk_at "rd"
        refine ⟨d, c, t.length + 1, k, by rw [natL_len]; rfl, by omega, by omega, k13.same s14, fun sv H15 m15 k15 hsv => ?_⟩
        have ha15 := m15.tups _ _ ha14
        walk_at "rd"
        refine rd_newT (xs := [V.int 0]) (by rw [sizeLine_eq]; decide) fun p16 H16 np16 s16 f16 e16 => ?_
        have ou : TreeOk [0] := ⟨by simp, fun k hk => by simp at hk; subst hk; simp⟩
        walk_at "rd"
        refine ⟨a, p16, t, [0], sv, rfl, s16 _ _ ha15, e16, ou, by simp; omega, fun p17 H17 s17 np17 e17 => ?_⟩
        have eh : hungT t [0] sv = t ++ [sv] := by simp [hungT]
        rw [eh] at e17
        have hu : TreeOk (t ++ [sv]) := ⟨by simp; omega, fun k hk => by
          by_cases h : k < t.length
          · rw [List.getD_eq_getElem?_getD, List.getElem?_append_left h, ← List.getD_eq_getElem?_getD]; exact ok.up k h
          · simp at hk
            have : k = t.length := by omega
            subst this
            simp
            omega⟩
        walk_at "rd"
        refine rd_t0 fun p18 H18 np18 s18 f18 e18 => ?_
        walk_at "rd"
        have hxu : ∀ x ∈ t ++ [sv], x ≤ 10000000000 := fun x hx => by have := hu.lt x hx; omega
        refine ⟨p17, p18, t ++ [sv], [], rfl, s18 _ _ e17, by simp; omega, hxu, ⟨[], rfl, e18, by simp⟩, by simp, by simp, fun H19 s19 => ?_⟩
        have eT0 : taskT (t ++ [sv]) [] = treeT (t ++ [sv]) ++ [59] := rfl
        rw [eT0]
        walk_at "rd"
        rw [k_semi]
        have hlu := treeT_len (by simp; omega : (t ++ [sv]).length ≤ 100) hxu
        refine rd_split1 (by simp; omega) (by decide) fun p20 H20 np20 s20 f20 e20 => ?_
        have es : Mt.spl 59 (treeT (t ++ [sv]) ++ [59]) = [treeT (t ++ [sv]), []] := by
          have f59 : (59 : Nat) ∉ treeT (t ++ [sv]) := by
            unfold treeT
            rw [if_neg (by simp)]
            exact joinL_free (by decide) fun p hp => by
              obtain ⟨n, _, rfl⟩ := List.mem_map.mp hp
              exact TL.numL_free (.inr (by decide))
          have h := spl_join (c := 59) (ps := [treeT (t ++ [sv]), []]) (by simp) (by
            intro p hp
            simp only [List.mem_cons, List.not_mem_nil, or_false] at hp
            rcases hp with rfl | rfl
            · exact f59
            · simp)
          have e : TL.joinL [59] [treeT (t ++ [sv]), []] = treeT (t ++ [sv]) ++ [59] := by rw [joinL_cons (by simp)]; rfl
          rw [e] at h
          exact h
        rw [es] at e20
        have e20' : H20 p20 = some (.lst [V.str (Mt.S (treeT (t ++ [sv]))), V.str (Mt.S [])]) := e20
        walk_at "rd"
        refine rd_split1 (by omega) (by decide) fun p21 H21 np21 s21 f21 e21 => ?_
        have eS' : Mt.spl 44 (treeT (t ++ [sv])) = (t ++ [sv]).map TL.numL := by
          unfold treeT
          rw [if_neg (by simp)]
          exact spl_join (by simp) fun p hp => by
            obtain ⟨n, _, rfl⟩ := List.mem_map.mp hp
            exact TL.numL_free (.inl (by decide))
        rw [eS'] at e21
        walk_at "rd"
        refine rd_slL e21 fun p22 H22 np22 s22 f22 e22 => ?_
        have e22' : H22 p22 = some (.lst ((t.map TL.numL).map fun u => .str (Mt.S u))) := by
          rw [e22, show (-1 : Int) = -1 from rfl, cut_init, List.map_append, List.map_append]
          exact congrArg (fun x => some (HO.lst x)) List.dropLast_concat
        have m22 : Mod [d, c] H13 H22 := ((((((((s14.mod _).trans m15).trans (s16.mod _)).trans (s17.mod _)).trans (s18.mod _)).trans (s19.mod _)).trans (s20.mod _)).trans (s21.mod _)).trans (s22.mod _)
        have k22 : DeckAt d c k H22 := ((((((k15.same s16).same s17).same s18).same s19).same s20).same s21).same s22
        have ew22 := m22.at2 ew13' ndw.1 ndw.2
        walk_at "rd"
        have hlt := treeT_len (by omega : t.length ≤ 100) hx
        refine rd_slS (by rw [Mt.S_len]; exact sz (by simp; omega)) ?_
        have ed : (treeT t ++ [59]).dropLast = treeT t := List.dropLast_concat
        rw [cutS_init, ed]
        walk_at "rd"
        refine rd_split1 (by omega) (by decide) fun p23 H23 np23 s23 f23 e23 => ?_
        rw [eS] at e23
        have lo9 : ∀ u ∈ t.map TL.numL, ∀ x ∈ u, x < 1000000 := fun u hu => by
          obtain ⟨n, _, rfl⟩ := List.mem_map.mp hu
          exact lo_num n
        refine rd_neStrs (s23 _ _ e22') e23 lo9 lo9 ?_
        rw [decide_eq_true rfl]
        walk_at "rd"
        exact tail _ _ _ _ H23 ((m0d.trans m22).trans (s23.mod _)) (m22.trans (s23.mod _)) (k22.same s23) fin
      · walk_at "rd"
        exact tail _ _ _ _ H13 m0d (Mod.refl _ _) k13' fin

/-! ### the law -/
theorem rd_slLq {H : Hp} {Q : VK} {a : Addr} {xs : List V} {lo hi : Option Int} (h : SqL K H a xs) (q : ∀ p H2, H p = none → Same H H2 → (∀ c, H2 c = none → H c = none) → H2 p = some (.lst (cutV xs lo hi)) → Q (.ref p) H2) : rSlL K (.ref a) lo hi H Q :=
  ⟨a, xs, rfl, h, fun p np => q p _ np (same_upd np) free_upd upd_same⟩
def N_Ldeck : List Str := [("_law_script" : Str), ("_law_cell" : Str)]
theorem sc_Ldeck : FnScope N_Ldeck ["_law_script"] (defScope s_Ldeck) := ⟨rfl, rfl, rfl, by decide +kernel, rfl, by decide +kernel, by decide +kernel⟩
def sp_Ldeck (K : PySem.W.Frag) : Sp := fun vs H Q _ => ∃ (a : Addr) (ns : List Int), vs = [.ref a] ∧ SqL K H a (ns.map V.int) ∧ ns.length ≤ 63 ∧ ∀ d c H', Same H H' → H d = none → DeckAt d c 900000000 H' → Q (.ref d) H'
theorem dc_Ldeck (T : Txt K mg) : Dc P w K mg base CX0 "_law_deck" 1 ["_law_script"] (sp_Ldeck K) := by
  refine dc_of0 T.f_Ldeck (fun F => FunD.bindsN F fun _ _ _ _ _ _ us hl => match us, hl with | [_], _ => rfl) sc_Ldeck (fun vs H Q E h => ?_) (fun f cdv A outer s0 H vs Q E hr h => ?_)
  · obtain ⟨a, ns, rfl, _⟩ := h; rfl
  · obtain ⟨a, ns, rfl, ha, hl, q⟩ := h
    refine ⟨_, (pss_one (ps_ret (pe_lst (pa_cons (pe_lc (own := [("_law_cell", 1)]) rfl sc_Ldeck.nd (show PI _ _ _ (iList K _) from pi_list (pe_slice (show SlR _ (rSlL K) from sl_list) (pv 0) po_none (po_some pe_int))) (blkOk_by (own := [("_law_cell", 1)]) (N := N_Ldeck) (sc := defScope s_Ldeck) (by decide +kernel)) (fun _ _ _ _ _ => (pg_name (i := 1) sc_Ldeck.nd rfl (.inl rfl))) (fun _ _ _ _ _ => pts_nil) (fun _ _ _ _ _ => (pe_callB u_abs (by rfl) T.b_abs Rd.boot_abs (pa_cons (pv 1) pa_nil)))) (pa_cons pe_int pa_nil))))), ?_⟩
    refine Rd.rd_start (σ' := [some (V.ref a), none]) rfl ?_
    walk_at "rd"
    refine rd_slLq ha fun p H1 np s1 f1 e1 => ?_
    rw [show (63 : Int) = ((63 : Nat) : Int) from rfl, cut_to, ← List.map_take] at e1
    walk_at "rd"
    refine comp_L (l := ns.take 63) (fun i => .int (if i < 0 then -i else i)) e1 (by rw [List.length_take]; omega) (fun i H2 KV N hi s2 hk => ?_) fun D H2 nD s2 hD => ?_
    · walk_at "rd"
      exact hk H2 (Same.refl _)
    · walk_at "rd"
      refine rd_l2 fun p3 H3 np3 s3 f3 e3 => ?_
      refine q p3 D H3 ((s1.trans s2).trans s3) (s1.free (s2.free np3)) ⟨fun z => ?_, (ns.take 63).map (fun i => if i < 0 then -i else i), 0, e3, ?_, fun x hx => ?_, by rw [List.length_map, List.length_take]; omega, by omega⟩
      · subst z; rw [np3] at hD; cases hD
      · rw [s3 _ _ hD]; unfold intL; rw [List.map_map]; rfl
      · obtain ⟨i, _, rfl⟩ := List.mem_map.mp hx
        split <;> omega
theorem eq2_ints {H : Hp} {a b : Addr} {t : List Nat} {n : Nat} (ha : H a = some (.tup (natL t))) (hb : H b = some (.tup (natL t))) (hl : t.length ≤ 100000) : Eq2 (n + 1) H (.ref a) (.ref b) :=
  .inr ⟨a, b, natL t, natL t, rfl, rfl, ha, hb, rfl, by rw [natL_len]; exact hl, fun i u v hu hv => by
    have : u = v := Option.some.inj (hu.symm.trans hv)
    subst this
    unfold natL at hu
    rw [List.getElem?_map] at hu
    cases e : t[i]? with
    | none => rw [e] at hu; cases hu
    | some x =>
      rw [e] at hu
      cases hu
      cases n
      · exact ⟨_, rfl, rfl⟩
      · exact .inl ⟨_, rfl, rfl⟩⟩
theorem eq2_pcs {H : Hp} {a b : Addr} {ps : List Pc} {n : Nat} (ha : PcsAt H a ps) (hb : PcsAt H b ps) (hl : ps.length ≤ 100000) : Eq2 (n + 2) H (.ref a) (.ref b) := by
  obtain ⟨l, el, h1, h2⟩ := ha
  obtain ⟨m, em, g1, g2⟩ := hb
  have ll : l.length = ps.length := by rw [← el, List.length_map]
  have lm : m.length = ps.length := by rw [← em, List.length_map]
  refine .inr ⟨a, b, _, _, rfl, rfl, h1, g1, by rw [List.length_map, List.length_map, ll, lm], by rw [List.length_map, ll]; exact hl, fun i u v hu hv => ?_⟩
  rw [List.getElem?_map] at hu hv
  cases e1 : l[i]? with
  | none => rw [e1] at hu; cases hu
  | some x =>
    cases e2 : m[i]? with
    | none => rw [e2] at hv; cases hv
    | some y =>
      rw [e1] at hu
      rw [e2] at hv
      cases hu
      cases hv
      have hx := h2 x (List.mem_of_getElem? e1)
      have hy := g2 y (List.mem_of_getElem? e2)
      have e3 : x.2 = y.2 := by
        have a1 : ps[i]? = some x.2 := by rw [← el, List.getElem?_map, e1]; rfl
        have a2 : ps[i]? = some y.2 := by rw [← em, List.getElem?_map, e2]; rfl
        exact Option.some.inj (a1.symm.trans a2)
      rw [← e3] at hy
      refine .inr ⟨x.1, y.1, _, _, rfl, rfl, hx, hy, rfl, by simp [Pc.vs], fun j u v hu hv => ?_⟩
      have : u = v := Option.some.inj (hu.symm.trans hv)
      subst this
      have hm : u ∈ x.2.vs := List.mem_of_getElem? hu
      unfold Pc.vs at hm
      simp only [List.mem_cons, List.not_mem_nil, or_false] at hm
      have : ∃ z : Int, u = .int z := by rcases hm with rfl | rfl | rfl <;> exact ⟨_, rfl⟩
      obtain ⟨z, rfl⟩ := this
      cases n
      · exact ⟨_, rfl, rfl⟩
      · exact .inl ⟨_, rfl, rfl⟩
theorem taskT_len2 {t : List Nat} {ps : List Pc} (hx : ∀ x ∈ t, x ≤ 10000000000) (hq : ∀ q ∈ ps, Small q) : (taskT t ps).length ≤ 12 * t.length + 36 * ps.length + 20 := by
  have h1 : (treeT t).length ≤ 12 * t.length + 4 := by
    unfold treeT
    split
    · rename_i h; subst h; decide
    · have := joinL_len [44] (t.map TL.numL)
      have h2 := sum_le (l := t) (f := fun n => (TL.numL n).length) (k := 11) fun n hn => numL_le (hx n hn)
      rw [List.map_map, List.length_map] at this
      have h3 : (List.map (List.length ∘ TL.numL) t).sum ≤ t.length * 11 := h2
      simp at this
      omega
  unfold taskT
  have := joinL_len [32] ((treeT t ++ [59]) :: ps.map pieceT)
  have h2 := sum_le (l := ps) (f := fun n => (pieceT n).length) (k := 35) fun n hn => pieceT_len (hq n hn)
  rw [List.map_cons, List.map_map] at this
  have h4 : (List.map (List.length ∘ pieceT) ps).sum ≤ ps.length * 35 := h2
  simp at this
  omega
theorem PcOk.ok {t : List Nat} {q : Pc} (h : PcOk t 1001 q) : pcOk t q = true := by
  obtain ⟨h1, h2, h3, h4⟩ := h
  unfold pcOk
  rw [decide_eq_true h1, decide_eq_true (by omega : q.r ≤ 1000), decide_eq_true (by omega : q.g ≤ t.length), h3]
  rfl
def N_law : List Str := [("_law_script" : Str), ("_law_deck_here" : Str), ("_law_turn" : Str), ("_law_tree_here" : Str), ("_law_pieces_here" : Str), ("_law_text" : Str), ("_law_k" : Str), ("_law_once" : Str)]
theorem sc_law : FnScope N_law ["_law_script"] (defScope s_law) := ⟨rfl, rfl, rfl, by decide +kernel, rfl, by decide +kernel, by decide +kernel⟩
def sp_law (K : PySem.W.Frag) : Sp := fun vs H Q _ => ∃ (a : Addr) (ns : List Int), vs = [.ref a] ∧ SqL K H a (ns.map V.int) ∧ ns.length ≤ 63 ∧ ∀ H', Q (.bl true) H'
theorem ok_law {f : Addr} {fd : FuncData} (T : Txt K mg) (F : FnP K "law" "law" s_law f fd) : FnOk P w K mg base CX0 7 f fd ["_law_script"] (sp_law K) := by
  refine F.ok sc_law (fun vs H Q E h => ?_) (fun cdv A outer s0 H vs Q E hr h => ?_)
  · obtain ⟨a, ns, rfl, _⟩ := h; rfl
  · obtain ⟨a, ns, rfl, ha, hl, q⟩ := h
    suffices h : ∃ t, PSs (cxOf CX0 _ _ K mg base N_law "law" (defScope s_law) f cdv A outer s0 H E).nox (defBody s_law) t ∧ t { nx := fun _ H' => Q .non H', rt := Q } (start N_law [.ref a]) H by
      obtain ⟨t, h1, h2⟩ := h; exact ⟨t, h1.nox, h2⟩
    refine ⟨_, (pss_cons (ps_set (i := 1) sc_law.nd rfl (.inl rfl) (pe_fn (dc_Ldeck T) (hr.mono (by decide)) (by rfl) pass0 (pa_cons (pv 0) pa_nil)))
      (pss_cons (ps_for PassesOwn.never rfl (pi_range1 (by rfl) T.b_range (pa_cons pe_int pa_nil)) (pg_name (i := 2) sc_law.nd rfl (.inl rfl)) (pss_cons (ps_asg (pe_fn (dc_Ltask T) (hr.mono (by decide)) (by rfl) pass0 (pa_cons (pv 1) (pa_cons pe_int (pa_cons pe_int (pa_cons pe_int pa_nil))))) (show PG _ _ (gTup K _ _) from pg_tup (n := 2) rfl (pgs_cons (pg_name (i := 3) sc_law.nd rfl (.inl rfl)) (pgs_cons (pg_name (i := 4) sc_law.nd rfl (.inl rfl)) pgs_nil))))
      (pss_cons (ps_set (i := 5) sc_law.nd rfl (.inl rfl) (pe_fn (dc_task_text T) (hr.mono (by decide)) (by rfl) pass0 (pa_cons (pv 3) (pa_cons (pv 4) pa_nil))))
      (pss_cons (ps_if (PW.pt (pw_or (pt_not (pt_val (pe_fn (dc_Lsame T) (hr.mono (by decide)) (by rfl) pass0 (pa_cons (pe_fn (E := E0) (dc_parse_task T) (hr.mono (by decide)) (by rfl) (passes_call takes0 (fun _ _ _ _ h => h)) (pa_cons (pv 5) pa_nil)) (pa_cons (pe_tup (pa_cons (pv 3) (pa_cons (pv 4) pa_nil))) pa_nil))))) (pw_or1 (pt_not (pt_val (pe_fn (dc_Lwords_right T) (hr.mono (by decide)) (by rfl) pass0 (pa_cons (pv 1) (pa_cons (pv 3) (pa_cons (pv 4) pa_nil))))))))) (pss_one (ps_ret pe_bl)) pss_nil)
      (pss_one (ps_for PassesOwn.never rfl (pi_range1 (by rfl) T.b_range (pa_cons pe_int pa_nil)) (pg_name (i := 6) sc_law.nd rfl (.inl rfl)) (pss_cons (ps_set (i := 7) sc_law.nd rfl (.inl rfl) (pe_fn (dc_Lbent T) (hr.mono (by decide)) (by rfl) pass0 (pa_cons (pv 1) (pa_cons (pv 5) pa_nil))))
      (pss_one (ps_if (PW.pt (pw_or (pt_not (pt_val (pe_fn (dc_Laccepted_right T) (hr.mono (by decide)) (by rfl) pass0 (pa_cons (pv 7) pa_nil)))) (pw_or1 (pt_not (pt_val (pe_fn (dc_Laccepted_right T) (hr.mono (by decide)) (by rfl) pass0 (pa_cons (pe_fn (dc_Lbent T) (hr.mono (by decide)) (by rfl) pass0 (pa_cons (pv 1) (pa_cons (pv 7) pa_nil))) pa_nil))))))) (pss_one (ps_ret pe_bl)) pss_nil)))))))))
      (pss_one (ps_ret pe_bl)))), ?_⟩
    refine Rd.rd_start (σ' := [some (V.ref a), none, none, none, none, none, none, none]) rfl ?_
    walk_at "rd"
    refine ⟨a, ns, rfl, ha, hl, fun d c H1 s1 nd k1 => ?_⟩
    walk_at "rd"
    refine rd_r1 (n := 4) rfl (by decide) ?_
    refine for_w walk_range (fun i σ H' => (∃ x2 x3 x4 x5 x6 x7, σ = [some (.ref a), some (.ref d), x2, x3, x4, x5, x6, x7]) ∧ DeckAt d c (900000000 - 1000 * i) H') ⟨⟨_, _, _, _, _, _, rfl⟩, k1⟩ (fun _ _ _ _ _ => trivial) (fun i x σ H2 H3 hi h y => ?_) fun σ H2 h => ?_
    · obtain ⟨⟨x2, x3, x4, x5, x6, x7, rfl⟩, k2⟩ := h
      obtain ⟨rfl, rfl⟩ := yrng0 y
      walk_at "rd"
      refine ⟨d, c, 10, 8, 1001, 900000000 - 1000 * i - 53, rfl, by decide, by decide, by decide, by decide, by decide, ?_, fun p ta pa t ps H4 m4 np4 e4 eta hlt ok hpa hlp hps k4 => ?_⟩
      · exact k2.mono (by omega)
      have hpo : ∀ q ∈ ps, pcOk t q = true := fun q hq => (hps q hq).ok
      have hx : ∀ x ∈ t, x ≤ 10000000000 := fun x hx => by have := ok.lt x hx; omega
      have hlen := ok.len
      have hsm : ∀ q ∈ ps, Small q := fun q hq => pcOk_small ok (hpo q hq)
      have hTl := taskT_len2 hx hsm
      walk_at "rd"
      refine ⟨ta, pa, t, ps, rfl, eta, by omega, hx, hpa, by omega, hsm, fun H5 s5 => ?_⟩
      have eta5 := s5 _ _ eta
      have hpa5 := hpa.ts s5.ts
      walk_at "rd"
      have epT := pTask_taskT ok (by omega : ps.length ≤ 16) hpo
      refine ⟨taskT t ps, rfl, by omega, fun e d H6 he => ?_, fun t2 ps2 p2 a2 b2 H6 he s6 np6 e6 ea6 eb6 => ?_⟩
      · rw [epT] at he; cases he
      rw [epT] at he
      injection he with he
      injection he with h1 h2
      subst h1
      subst h2
      walk_at "rd"
      refine rd_t2 fun p7 H7 np7 s7 f7 e7 => ?_
      have s57 := s6.trans s7
      walk_at "rd"
      refine ⟨.ref p2, .ref p7, rfl, .inr ⟨p2, p7, _, _, rfl, rfl, s7 _ _ e6, e7, rfl, by simp, fun j u v hu hv => ?_⟩, fun H8 s8 => ?_⟩
      · have hj : j = 0 ∨ j = 1 ∨ 2 ≤ j := by omega
        rcases hj with rfl | rfl | hj
        · cases hu
          cases hv
          exact eq2_ints (s7 _ _ ea6) (s57 _ _ eta5) (by omega)
        · cases hu
          cases hv
          exact eq2_pcs (eb6.ts s7.ts) (hpa5.ts s57.ts) (by omega)
        · rw [List.getElem?_eq_none (by simpa using hj)] at hu
          cases hu
      have s58 := s57.trans s8
      walk_at "rd"
      refine ⟨d, c, ta, pa, t, ps, 900000000 - 1000 * i - 60, rfl, s58 _ _ eta5, ok, hpa5.ts s58.ts, by omega, hpo, ((k4.same s5).same s58).mono (by omega), fun H9 m9 k9 => ?_⟩
      walk_at "rd"
      refine rd_r1 (n := 10) rfl (by decide) ?_
      refine for_w walk_range (fun j σ H' => (∃ x6 x7, σ = [some (.ref a), some (.ref d), some (.int (i : Int)), some (.ref ta), some (.ref pa), some (.str (Mt.S (taskT t ps))), x6, x7]) ∧ DeckAt d c (900000000 - 1000 * i - 60 - 12 * j) H') ⟨⟨_, _, rfl⟩, k9⟩ (fun _ _ _ _ _ => trivial) (fun j x σ H10 H11 hj h y => ?_) fun σ H10 h => ?_
      · obtain ⟨⟨x6, x7, rfl⟩, k10⟩ := h
        obtain ⟨rfl, rfl⟩ := yrng0 y
        walk_at "rd"
        refine ⟨d, c, taskT t ps, 900000000 - 1000 * i - 60 - 12 * j - 6, rfl, by omega, k10.mono (by omega), fun u H12 m12 hu k12 => ?_⟩
        walk_at "rd"
        refine ⟨u, rfl, by omega, fun H13 s13 => ?_⟩
        walk_at "rd"
        refine ⟨d, c, u, 900000000 - 1000 * i - 60 - 12 * (j + 1), rfl, by omega, (k12.same s13).mono (by omega), fun v H14 m14 hv k14 => ?_⟩
        walk_at "rd"
        refine ⟨v, rfl, by omega, fun H15 s15 => ?_⟩
        walk_at "rd"
        exact ⟨⟨_, _, rfl⟩, k14.same s15⟩
      · obtain ⟨⟨x6, x7, rfl⟩, k10⟩ := h
        exact ⟨⟨_, _, _, _, _, _, rfl⟩, k10.mono (by omega)⟩
    · obtain ⟨⟨x2, x3, x4, x5, x6, x7, rfl⟩, k2⟩ := h
      walk_at "rd"
      exact q H2

end
end Pf
set_option maxHeartbeats 0
namespace Pf
open PySem L2 Rd
open PyProof.Rows hiding St
def d_TooLarge___init__ : He.DefD := ⟨("TooLarge", some "__init__"), "__init__", "TooLarge.__init__", defArgs s_TooLarge___init__, defBody s_TooLarge___init__, defScope s_TooLarge___init__, [], []⟩
def d_BadText___init__ : He.DefD := ⟨("BadText", some "__init__"), "__init__", "BadText.__init__", defArgs s_BadText___init__, defBody s_BadText___init__, defScope s_BadText___init__, [], []⟩
def d_is_number : He.DefD := ⟨("is_number", none), "is_number", "is_number", defArgs s_is_number, defBody s_is_number, defScope s_is_number, [], []⟩
def d_tree_error : He.DefD := ⟨("tree_error", none), "tree_error", "tree_error", defArgs s_tree_error, defBody s_tree_error, defScope s_tree_error, [], []⟩
def d_is_tree : He.DefD := ⟨("is_tree", none), "is_tree", "is_tree", defArgs s_is_tree, defBody s_is_tree, defScope s_is_tree, [], []⟩
def d_is_station : He.DefD := ⟨("is_station", none), "is_station", "is_station", defArgs s_is_station, defBody s_is_station, defScope s_is_station, [], []⟩
def d_way_of : He.DefD := ⟨("way_of", none), "way_of", "way_of", defArgs s_way_of, defBody s_way_of, defScope s_way_of, [], []⟩
def d_hung : He.DefD := ⟨("hung", none), "hung", "hung", defArgs s_hung, defBody s_hung, defScope s_hung, [], []⟩
def d_is_piece : He.DefD := ⟨("is_piece", none), "is_piece", "is_piece", defArgs s_is_piece, defBody s_is_piece, defScope s_is_piece, [], []⟩
def d_joined : He.DefD := ⟨("joined", none), "joined", "joined", defArgs s_joined, defBody s_joined, defScope s_joined, [], [("later", .int 0)]⟩
def d_parse_number : He.DefD := ⟨("parse_number", none), "parse_number", "parse_number", defArgs s_parse_number, defBody s_parse_number, defScope s_parse_number, [], []⟩
def d_tree_text : He.DefD := ⟨("tree_text", none), "tree_text", "tree_text", defArgs s_tree_text, defBody s_tree_text, defScope s_tree_text, [], []⟩
def d_piece_text : He.DefD := ⟨("piece_text", none), "piece_text", "piece_text", defArgs s_piece_text, defBody s_piece_text, defScope s_piece_text, [], []⟩
def d_task_text : He.DefD := ⟨("task_text", none), "task_text", "task_text", defArgs s_task_text, defBody s_task_text, defScope s_task_text, [], []⟩
def d_parse_tree : He.DefD := ⟨("parse_tree", none), "parse_tree", "parse_tree", defArgs s_parse_tree, defBody s_parse_tree, defScope s_parse_tree, [], []⟩
def d_parse_piece : He.DefD := ⟨("parse_piece", none), "parse_piece", "parse_piece", defArgs s_parse_piece, defBody s_parse_piece, defScope s_parse_piece, [], []⟩
def d_parse_task : He.DefD := ⟨("parse_task", none), "parse_task", "parse_task", defArgs s_parse_task, defBody s_parse_task, defScope s_parse_task, [], []⟩
def d_Ldeck : He.DefD := ⟨("_law_deck", none), "_law_deck", "_law_deck", defArgs s_Ldeck, defBody s_Ldeck, defScope s_Ldeck, [], []⟩
def d_Ldraw : He.DefD := ⟨("_law_draw", none), "_law_draw", "_law_draw", defArgs s_Ldraw, defBody s_Ldraw, defScope s_Ldraw, [], []⟩
def d_Ltree : He.DefD := ⟨("_law_tree", none), "_law_tree", "_law_tree", defArgs s_Ltree, defBody s_Ltree, defScope s_Ltree, [], []⟩
def d_Lway : He.DefD := ⟨("_law_way", none), "_law_way", "_law_way", defArgs s_Lway, defBody s_Lway, defScope s_Lway, [], []⟩
def d_Lpiece : He.DefD := ⟨("_law_piece", none), "_law_piece", "_law_piece", defArgs s_Lpiece, defBody s_Lpiece, defScope s_Lpiece, [], []⟩
def d_Lpieces : He.DefD := ⟨("_law_pieces", none), "_law_pieces", "_law_pieces", defArgs s_Lpieces, defBody s_Lpieces, defScope s_Lpieces, [], []⟩
def d_Lsame : He.DefD := ⟨("_law_same", none), "_law_same", "_law_same", defArgs s_Lsame, defBody s_Lsame, defScope s_Lsame, [], []⟩
def d_Ltask : He.DefD := ⟨("_law_task", none), "_law_task", "_law_task", defArgs s_Ltask, defBody s_Ltask, defScope s_Ltask, [], []⟩
def d_Lbent : He.DefD := ⟨("_law_bent", none), "_law_bent", "_law_bent", defArgs s_Lbent, defBody s_Lbent, defScope s_Lbent, [], []⟩
def d_Laccepted_right : He.DefD := ⟨("_law_accepted_right", none), "_law_accepted_right", "_law_accepted_right", defArgs s_Laccepted_right, defBody s_Laccepted_right, defScope s_Laccepted_right, [], []⟩
def d_Lwords_right : He.DefD := ⟨("_law_words_right", none), "_law_words_right", "_law_words_right", defArgs s_Lwords_right, defBody s_Lwords_right, defScope s_Lwords_right, [], []⟩
def d_law : He.DefD := ⟨("law", none), "law", "law", defArgs s_law, defBody s_law, defScope s_law, [], []⟩
def fnL : List He.DefD := [d_TooLarge___init__, d_BadText___init__, d_is_number, d_tree_error, d_is_tree, d_is_station, d_way_of, d_hung, d_is_piece, d_joined, d_parse_number, d_tree_text, d_piece_text, d_task_text, d_parse_tree, d_parse_piece, d_parse_task, d_Ldeck, d_Ldraw, d_Ltree, d_Lway, d_Lpiece, d_Lpieces, d_Lsame, d_Ltask, d_Lbent, d_Laccepted_right, d_Lwords_right, d_law]
def exL : PySem.W.Frag → Bool := fun K => erB K "TooLarge" "bound" && erB K "BadText" "index"
def faL : List He.Fa := [.glo "is_number", .glo "tree_error", .glo "is_tree", .glo "is_station", .glo "way_of", .glo "hung", .glo "is_piece", .glo "joined", .glo "parse_number", .glo "tree_text", .glo "piece_text", .glo "task_text", .glo "parse_tree", .glo "parse_piece", .glo "parse_task", .glo "_law_deck", .glo "_law_draw", .glo "_law_tree", .glo "_law_way", .glo "_law_piece", .glo "_law_pieces", .glo "_law_same", .glo "_law_task", .glo "_law_bent", .glo "_law_accepted_right", .glo "_law_words_right", .glo "law", .glo "LiftError", .glo "TooLarge", .glo "BadText", .free "ValueError", .free "abs", .free "all", .free "bool", .free "enumerate", .free "int", .free "isinstance", .free "len", .free "list", .free "range", .free "str", .free "sum", .free "tuple", .free "zip", .int "MAX_STATIONS" 10, .int "MAX_PIECES" 16, .int "MAX_TICK" 1000, .str "FIGURES" "0123456789", .int "LONGEST" 10, .str "ALONE" "yard", .str "BEHIND" ";", .exm "TooLarge" "TooLarge" true, .exm "TooLarge" "LiftError" true, .exm "BadText" "BadText" true, .exm "BadText" "LiftError" true]
abbrev R : PySem.W.OpenRow := PySem.W.OpenLaw.row PySem.Challenge.rw_tracklifts_k63_whole_texts_there_and_bac
abbrev hk : PySem.W.Hook := He.hookX 6 faL fnL [] [] exL
def ob (s : PySem.W.SharedT) : He.AlX := He.obsX 6 faL fnL [] [] exL (HandSHeadRun.getT s)
theorem ob_eq (s : PySem.W.SharedT) : ob s = hk.obs s.abs := He.obsX_eq (HandSHeadRun.getT_eq s)
def loose0 : List Str := [("MAX_STATIONS" : Str), ("MAX_PIECES" : Str), ("MAX_TICK" : Str), ("LiftError" : Str), ("TooLarge" : Str), ("BadText" : Str), ("is_number" : Str), ("tree_error" : Str), ("is_tree" : Str), ("is_station" : Str), ("way_of" : Str), ("hung" : Str), ("is_piece" : Str), ("joined" : Str), ("FIGURES" : Str), ("LONGEST" : Str), ("ALONE" : Str), ("BEHIND" : Str), ("parse_number" : Str), ("tree_text" : Str), ("piece_text" : Str), ("task_text" : Str), ("parse_tree" : Str), ("parse_piece" : Str), ("parse_task" : Str), ("_law_deck" : Str), ("_law_draw" : Str), ("_law_tree" : Str), ("_law_way" : Str), ("_law_piece" : Str), ("_law_pieces" : Str), ("_law_same" : Str), ("_law_task" : Str), ("_law_bent" : Str), ("_law_accepted_right" : Str), ("_law_words_right" : Str)]
abbrev looseL : List Str := loose0
theorem run (w : World) : HandSHeadRun.RunEq R (PySem.W.view R.prog [41]) hk ob 2500 looseL w := by
  intro os
  kernel_rfl
theorem txt_of {w : World} {h : Heap} {K : PySem.W.Frag} {mg : Str → Option Value} (KX : K.In h) (G : h.Ns mainGlobals mg) (c : He.SaysX faL fnL [] [] exL w h K) : Txt K mg := by
  have ex := c.more
  unfold exL at ex
  simp only [Bool.and_eq_true] at ex
  obtain ⟨x0, x1⟩ := ex
  exact {
    f_is_number := by obtain ⟨fd, F⟩ := c.t.d.def_ 2 (d := d_is_number) rfl; exact ⟨_, fd, F, He.glo_ok KX G (c.t.d.fact 0 (f := .glo "is_number") rfl)⟩
    f_tree_error := by obtain ⟨fd, F⟩ := c.t.d.def_ 3 (d := d_tree_error) rfl; exact ⟨_, fd, F, He.glo_ok KX G (c.t.d.fact 1 (f := .glo "tree_error") rfl)⟩
    f_is_tree := by obtain ⟨fd, F⟩ := c.t.d.def_ 4 (d := d_is_tree) rfl; exact ⟨_, fd, F, He.glo_ok KX G (c.t.d.fact 2 (f := .glo "is_tree") rfl)⟩
    f_is_station := by obtain ⟨fd, F⟩ := c.t.d.def_ 5 (d := d_is_station) rfl; exact ⟨_, fd, F, He.glo_ok KX G (c.t.d.fact 3 (f := .glo "is_station") rfl)⟩
    f_way_of := by obtain ⟨fd, F⟩ := c.t.d.def_ 6 (d := d_way_of) rfl; exact ⟨_, fd, F, He.glo_ok KX G (c.t.d.fact 4 (f := .glo "way_of") rfl)⟩
    f_hung := by obtain ⟨fd, F⟩ := c.t.d.def_ 7 (d := d_hung) rfl; exact ⟨_, fd, F, He.glo_ok KX G (c.t.d.fact 5 (f := .glo "hung") rfl)⟩
    f_is_piece := by obtain ⟨fd, F⟩ := c.t.d.def_ 8 (d := d_is_piece) rfl; exact ⟨_, fd, F, He.glo_ok KX G (c.t.d.fact 6 (f := .glo "is_piece") rfl)⟩
    f_joined := by obtain ⟨fd, F⟩ := c.t.d.def_ 9 (d := d_joined) rfl; exact ⟨_, fd, F, He.glo_ok KX G (c.t.d.fact 7 (f := .glo "joined") rfl)⟩
    f_parse_number := by obtain ⟨fd, F⟩ := c.t.d.def_ 10 (d := d_parse_number) rfl; exact ⟨_, fd, F, He.glo_ok KX G (c.t.d.fact 8 (f := .glo "parse_number") rfl)⟩
    f_tree_text := by obtain ⟨fd, F⟩ := c.t.d.def_ 11 (d := d_tree_text) rfl; exact ⟨_, fd, F, He.glo_ok KX G (c.t.d.fact 9 (f := .glo "tree_text") rfl)⟩
    f_piece_text := by obtain ⟨fd, F⟩ := c.t.d.def_ 12 (d := d_piece_text) rfl; exact ⟨_, fd, F, He.glo_ok KX G (c.t.d.fact 10 (f := .glo "piece_text") rfl)⟩
    f_task_text := by obtain ⟨fd, F⟩ := c.t.d.def_ 13 (d := d_task_text) rfl; exact ⟨_, fd, F, He.glo_ok KX G (c.t.d.fact 11 (f := .glo "task_text") rfl)⟩
    f_parse_tree := by obtain ⟨fd, F⟩ := c.t.d.def_ 14 (d := d_parse_tree) rfl; exact ⟨_, fd, F, He.glo_ok KX G (c.t.d.fact 12 (f := .glo "parse_tree") rfl)⟩
    f_parse_piece := by obtain ⟨fd, F⟩ := c.t.d.def_ 15 (d := d_parse_piece) rfl; exact ⟨_, fd, F, He.glo_ok KX G (c.t.d.fact 13 (f := .glo "parse_piece") rfl)⟩
    f_parse_task := by obtain ⟨fd, F⟩ := c.t.d.def_ 16 (d := d_parse_task) rfl; exact ⟨_, fd, F, He.glo_ok KX G (c.t.d.fact 14 (f := .glo "parse_task") rfl)⟩
    f_Ldeck := by obtain ⟨fd, F⟩ := c.t.d.def_ 17 (d := d_Ldeck) rfl; exact ⟨_, fd, F, He.glo_ok KX G (c.t.d.fact 15 (f := .glo "_law_deck") rfl)⟩
    f_Ldraw := by obtain ⟨fd, F⟩ := c.t.d.def_ 18 (d := d_Ldraw) rfl; exact ⟨_, fd, F, He.glo_ok KX G (c.t.d.fact 16 (f := .glo "_law_draw") rfl)⟩
    f_Ltree := by obtain ⟨fd, F⟩ := c.t.d.def_ 19 (d := d_Ltree) rfl; exact ⟨_, fd, F, He.glo_ok KX G (c.t.d.fact 17 (f := .glo "_law_tree") rfl)⟩
    f_Lway := by obtain ⟨fd, F⟩ := c.t.d.def_ 20 (d := d_Lway) rfl; exact ⟨_, fd, F, He.glo_ok KX G (c.t.d.fact 18 (f := .glo "_law_way") rfl)⟩
    f_Lpiece := by obtain ⟨fd, F⟩ := c.t.d.def_ 21 (d := d_Lpiece) rfl; exact ⟨_, fd, F, He.glo_ok KX G (c.t.d.fact 19 (f := .glo "_law_piece") rfl)⟩
    f_Lpieces := by obtain ⟨fd, F⟩ := c.t.d.def_ 22 (d := d_Lpieces) rfl; exact ⟨_, fd, F, He.glo_ok KX G (c.t.d.fact 20 (f := .glo "_law_pieces") rfl)⟩
    f_Lsame := by obtain ⟨fd, F⟩ := c.t.d.def_ 23 (d := d_Lsame) rfl; exact ⟨_, fd, F, He.glo_ok KX G (c.t.d.fact 21 (f := .glo "_law_same") rfl)⟩
    f_Ltask := by obtain ⟨fd, F⟩ := c.t.d.def_ 24 (d := d_Ltask) rfl; exact ⟨_, fd, F, He.glo_ok KX G (c.t.d.fact 22 (f := .glo "_law_task") rfl)⟩
    f_Lbent := by obtain ⟨fd, F⟩ := c.t.d.def_ 25 (d := d_Lbent) rfl; exact ⟨_, fd, F, He.glo_ok KX G (c.t.d.fact 23 (f := .glo "_law_bent") rfl)⟩
    f_Laccepted_right := by obtain ⟨fd, F⟩ := c.t.d.def_ 26 (d := d_Laccepted_right) rfl; exact ⟨_, fd, F, He.glo_ok KX G (c.t.d.fact 24 (f := .glo "_law_accepted_right") rfl)⟩
    f_Lwords_right := by obtain ⟨fd, F⟩ := c.t.d.def_ 27 (d := d_Lwords_right) rfl; exact ⟨_, fd, F, He.glo_ok KX G (c.t.d.fact 25 (f := .glo "_law_words_right") rfl)⟩
    e_TooLarge := erB_ok (He.glo_ok KX G (c.t.d.fact 28 (f := .glo "TooLarge") rfl)) x0
    i_TooLarge := by obtain ⟨fd, F⟩ := c.t.d.def_ 0 (d := d_TooLarge___init__) rfl; exact ⟨fd, F⟩
    e_BadText := erB_ok (He.glo_ok KX G (c.t.d.fact 29 (f := .glo "BadText") rfl)) x1
    i_BadText := by obtain ⟨fd, F⟩ := c.t.d.def_ 1 (d := d_BadText___init__) rfl; exact ⟨fd, F⟩
    x_TooLarge_TooLarge := He.exm_ok (c.t.d.fact 51 (f := .exm "TooLarge" "TooLarge" true) rfl)
    x_TooLarge_LiftError := He.exm_ok (c.t.d.fact 52 (f := .exm "TooLarge" "LiftError" true) rfl)
    x_BadText_BadText := He.exm_ok (c.t.d.fact 53 (f := .exm "BadText" "BadText" true) rfl)
    x_BadText_LiftError := He.exm_ok (c.t.d.fact 54 (f := .exm "BadText" "LiftError" true) rfl)
    g_LiftError := He.glo_ok KX G (c.t.d.fact 27 (f := .glo "LiftError") rfl)
    g_TooLarge := He.glo_ok KX G (c.t.d.fact 28 (f := .glo "TooLarge") rfl)
    g_BadText := He.glo_ok KX G (c.t.d.fact 29 (f := .glo "BadText") rfl)
    b_ValueError := He.free_ok KX G (c.t.d.fact 30 (f := .free "ValueError") rfl)
    b_abs := He.free_ok KX G (c.t.d.fact 31 (f := .free "abs") rfl)
    b_all := He.free_ok KX G (c.t.d.fact 32 (f := .free "all") rfl)
    b_bool := He.free_ok KX G (c.t.d.fact 33 (f := .free "bool") rfl)
    b_enumerate := He.free_ok KX G (c.t.d.fact 34 (f := .free "enumerate") rfl)
    b_int := He.free_ok KX G (c.t.d.fact 35 (f := .free "int") rfl)
    b_isinstance := He.free_ok KX G (c.t.d.fact 36 (f := .free "isinstance") rfl)
    b_len := He.free_ok KX G (c.t.d.fact 37 (f := .free "len") rfl)
    b_list := He.free_ok KX G (c.t.d.fact 38 (f := .free "list") rfl)
    b_range := He.free_ok KX G (c.t.d.fact 39 (f := .free "range") rfl)
    b_str := He.free_ok KX G (c.t.d.fact 40 (f := .free "str") rfl)
    b_sum := He.free_ok KX G (c.t.d.fact 41 (f := .free "sum") rfl)
    b_tuple := He.free_ok KX G (c.t.d.fact 42 (f := .free "tuple") rfl)
    b_zip := He.free_ok KX G (c.t.d.fact 43 (f := .free "zip") rfl)
    c_MAX_STATIONS := He.int_ok KX G (c.t.d.fact 44 (f := .int "MAX_STATIONS" 10) rfl)
    c_MAX_PIECES := He.int_ok KX G (c.t.d.fact 45 (f := .int "MAX_PIECES" 16) rfl)
    c_MAX_TICK := He.int_ok KX G (c.t.d.fact 46 (f := .int "MAX_TICK" 1000) rfl)
    c_FIGURES := He.str_ok KX G (c.t.d.fact 47 (f := .str "FIGURES" "0123456789") rfl)
    c_LONGEST := He.int_ok KX G (c.t.d.fact 48 (f := .int "LONGEST" 10) rfl)
    c_ALONE := He.str_ok KX G (c.t.d.fact 49 (f := .str "ALONE" "yard") rfl)
    c_BEHIND := He.str_ok KX G (c.t.d.fact 50 (f := .str "BEHIND" ";") rfl)
  }
theorem facts {P : Program} {w : World} {h : Heap} {K : PySem.W.Frag} {mg : Str → Option Value} {fa : Addr} (KX : K.In h) (G : h.Ns mainGlobals mg) (hfa : mg ("law" : Str) = some (.ref fa)) (c : He.SaysX faL fnL [] [] exL w h K) :
    ∃ fd : FuncData, (∀ (s : Shared) (v : Value), BindsTo s fd ⟨[v], []⟩ [("_law_script", v)]) ∧ ∀ base : Heap, K.In base → base.Ns mainGlobals mg → FnOk P w K mg base CX0 7 fa fd ["_law_script"] (sp_law K) := by
  obtain ⟨fd, F⟩ := c.t.d.def_ 28 (d := d_law) rfl
  have e := hfa.symm.trans (He.glo_ok KX G (c.t.d.fact 26 (f := .glo "law") rfl))
  cases e
  have b := FunD.bindsA (ps := ["_law_script"]) F fun _ _ _ _ _ _ us hl => match us, hl with | [_], _ => rfl
  exact ⟨fd, fun s v => b s [v] rfl, fun base _ _ => ok_law (txt_of KX G c) F⟩
end Pf
open PySem PySem.W PySem.Calls PyProof.Rows
theorem PySem.Challenge.cw_tracklifts_k63_whole_texts_there_and_bac_holds : PySem.Challenge.rw_tracklifts_k63_whole_texts_there_and_bac.Holds := by
  w_on; o_law
  refine HandSHeadRun.head_any (r := OpenLaw.row PySem.Challenge.rw_tracklifts_k63_whole_texts_there_and_bac) (q := view (OpenLaw.row PySem.Challenge.rw_tracklifts_k63_whole_texts_there_and_bac).prog [41]) (H := Pf.hk) (ob := Pf.ob) (M := 2500) (loose := Pf.looseL) (d := HandSHeadRun.topDef (OpenLaw.row PySem.Challenge.rw_tracklifts_k63_whole_texts_there_and_bac).prog 41) (kwd := []) Pf.ob_eq
    (by kernel_rfl) (fun s => by kernel_rfl) Pf.run (by kernel_rfl) (by kernel_rfl) (by kernel_rfl) (by rfl) (by first | assumption | decide +kernel) (by decide +kernel) ⟨rfl, rfl, rfl, rfl, rfl, by decide +kernel⟩ ?hw ?hc
  case hw => w_witness2
  case hc =>
    refine L2.walk_ofE (l := PySem.Challenge.rw_tracklifts_k63_whole_texts_there_and_bac) (n := 63) (k := 7) (x := "_law_script") (CX := L2.CX0) rfl (by decide) (by kernel_rfl) ⟨rfl, by decide, by decide⟩ ?F (fun _ _ _ _ z => z)
    intro w mg fa h Y G hmg0
    obtain ⟨K, KX, c⟩ := Y
    have hmg : mg ("law" : PySem.Str) = some (.ref fa) := by
      have e : (HandSHeadRun.topDef (OpenLaw.row PySem.Challenge.rw_tracklifts_k63_whole_texts_there_and_bac).prog 41).name = ("law" : PySem.Str) := by kernel_rfl
      rw [← e]
      exact hmg0
    obtain ⟨fd, hb, hF⟩ := Pf.facts (P := (PySem.Challenge.rw_tracklifts_k63_whole_texts_there_and_bac).prog) (w := w) KX G hmg c
    exact ⟨K, fd, Pf.sp_law K, KX, hb, fun H a ns hl _ hS => ⟨a, ns, rfl, hS, hl, fun _ => rfl⟩, hF⟩

