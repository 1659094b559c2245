import PyProof.Rows.All
import Wide.All
import OpenK.AllK
import Wide.FinOn
import HandS.ForMost
import HandS.Exc
import HandS.TryOnly
import HandS.ExcOwn
import HandS.WordsExc
import HandS.IsInst
import HandS.Evl
import PySem.Challenge.RW_fairsplit_k01_worth_of_a_heap
set_option Elab.async false
set_option linter.all false
set_option maxRecDepth 100000
set_option maxHeartbeats 4000000
namespace Fz
open PySem PySem.Spec PyProof.Rows L2

/-! ### readings under names of one's own -/
def rLenQ (K : PySem.W.Frag) : List V → Hp → VK → Prop := fun xs H Q => ∃ p ys, xs = [.ref p] ∧ (SqL K H p ys ∨ SqT K H p ys) ∧ Q (.int ys.length) H
def rListQ (K : PySem.W.Frag) : List V → Hp → VK → Prop := fun xs H Q => ∃ p ys, xs = [.ref p] ∧ (SqL K H p ys ∨ SqT K H p ys) ∧ ∀ l, H l = none → Q (.ref l) (upd H l (.lst ys))
def rMax2Q : List V → Hp → VK → Prop := fun xs H Q => ∃ i j, xs = [.int i, .int j] ∧ Q (.int (if j > i then j else i)) H
def rMin2Q : List V → Hp → VK → Prop := fun xs H Q => ∃ i j, xs = [.int i, .int j] ∧ Q (.int (if j < i then j else i)) H
def rIsNQ : R2 := fun x y H Q => y = .non ∧ Q (.bl (decide (x = .non))) H
section
variable {X : Cx}
theorem cl_len : CallR X (.builtin "len") (rLenQ X.K) := call_len_seq
theorem cl_list : CallR X (.type "list") (rListQ X.K) := call_list_of
theorem cl_max2 (hc : X.calm = true) : CallR X (.builtin "max") rMax2Q := call_max2 hc
theorem cl_min2 (hc : X.calm = true) : CallR X (.builtin "min") rMin2Q := call_min2 hc
theorem cl_isN : OpR X (compareOp .Is) rIsNQ := op_isN
end

/-! ### the rules that read K, K told -/
section
variable {X : Cx}
theorem z_ixL (K : PySem.W.Frag) (h : X.K = K := by rfl) : IxR X (rIxL K) := by subst h; exact ix_list
theorem z_ixT (K : PySem.W.Frag) (h : X.K = K := by rfl) : IxR X (rIxT K) := by subst h; exact ix_tup
theorem z_slL (K : PySem.W.Frag) (h : X.K = K := by rfl) : SlR X (rSlL K) := by subst h; exact sl_list
theorem z_len (K : PySem.W.Frag) (h : X.K = K := by rfl) : CallR X (.builtin "len") (rLenQ K) := by subst h; exact cl_len
theorem z_list (K : PySem.W.Frag) (h : X.K = K := by rfl) : CallR X (.type "list") (rListQ K) := by subst h; exact cl_list
theorem z_sum (K : PySem.W.Frag) (h : X.K = K := by rfl) (hc : X.calm = true := by rfl) : CallR X (.builtin "sum") (rSum K) := by subst h; exact cr_sum hc
theorem z_max (K : PySem.W.Frag) (h : X.K = K := by rfl) (hc : X.calm = true := by rfl) : CallR X (.builtin "max") (rMax K) := by subst h; exact cr_max hc
theorem z_isi (K : PySem.W.Frag) (h : X.K = K := by rfl) : CallR X (.builtin "isinstance") (rIsi K) := by subst h; exact call_isi
theorem z_eqD (K : PySem.W.Frag) (hu : X.A.units + 64 < cLine) (h : X.K = K := by rfl) : OpR X (compareOp .Eq) (rEqD K) := by subst h; exact op_eqD hu
theorem z_neD (K : PySem.W.Frag) (hu : X.A.units + 64 < cLine) (h : X.K = K := by rfl) : OpR X (compareOp .NotEq) (rNeD K) := by subst h; exact op_neD hu
theorem z_in (K : PySem.W.Frag) (h : X.K = K := by rfl) : OpR X (compareOp .In) (rIn K false) := by subst h; exact op_in_seq
theorem z_notIn (K : PySem.W.Frag) (h : X.K = K := by rfl) : OpR X (compareOp .NotIn) (rIn K true) := by subst h; exact op_notIn_seq
theorem z_index (K : PySem.W.Frag) (h : X.K = K := by rfl) : MtR X "list.index" (rIndex K) := by subst h; exact mt_index
theorem z_piL (K : PySem.W.Frag) {tg l : Expr} {tl : TE} (hl : PE X l tl) (h : X.K = K := by rfl) : PI X tg l (iList K tl) := by subst h; exact pi_list hl
theorem z_piT (K : PySem.W.Frag) {tg l : Expr} {tl : TE} (hl : PE X l tl) (h : X.K = K := by rfl) : PI X tg l (iTup K tl) := by subst h; exact pi_tup hl
theorem z_bm0 (K : PySem.W.Frag) {o : Expr} {to : TE} {name : Str} {apos cpos : Pos} {T id : String} {r : V → List V → Hp → VK → Prop} (pa : PlainAttrs T) (slot : Slot T name id) (hty : typeOf (.builtin id) = pure (.type "method_descriptor")) (hm : MtR X id r) (ho : PE X o to)
    (hbase : attributeBase o name X.env (eval o X.env) = eval o X.env := by rfl) (hline : (apos.endLine == cpos.line) = true := by rfl) (h : X.K = K := by rfl) : PE X (.Call (.Attribute o name apos) [] [] cpos) (tBM0 K T r to) := by
  subst h; exact pe_bm0 pa slot hty hm ho hbase hline
theorem z_bm (K : PySem.W.Frag) {o e : Expr} {es : List Expr} {to : TE} {t : TA} {name : Str} {apos cpos : Pos} {T id : String} {r : V → List V → Hp → VK → Prop} (pa : PlainAttrs T) (slot : Slot T name id) (hty : typeOf (.builtin id) = pure (.type "method_descriptor")) (hm : MtR X id r) (ho : PE X o to) (ha : PA X (e :: es) t)
    (hbase : attributeBase o name X.env (eval o X.env) = eval o X.env := by rfl)
    (hfew : ((backTo cpos (starEach (e :: es) X.env)).all (fun x => !x.1) && (backToKw cpos (keywordEach [] X.env)).all (fun x => x.1.isSome)
      && decide ((e :: es).length + ([] : List Keyword).length + (if ([] : List Keyword).isEmpty then 0 else 1) < 30)) = true := by rfl)
    (hline : (apos.endLine == cpos.line) = true := by rfl) (hs : starEach (e :: es) X.env = (false, eval e X.env) :: starEach es X.env := by rfl) (hplain : (backTo cpos (starEach es X.env)).any (·.1) = false := by rfl) (h : X.K = K := by rfl) :
    PE X (.Call (.Attribute o name apos) (e :: es) [] cpos) (tBM K T r to t) := by
  subst h; exact pe_bm pa slot hty hm ho ha hbase hfew hline hs hplain
end

/-! ### heaps -/
/-- a list of whole numbers stands at p -/
def LI (K : PySem.W.Frag) (H : Hp) (p : Addr) (ns : List Int) : Prop := SqL K H p (ns.map V.int)
theorem LI.mono {K : PySem.W.Frag} {H H' : Hp} {p : Addr} {ns : List Int} (e : Same H H') (h : LI K H p ns) : LI K H' p ns := e.seq h
theorem LI.of {K : PySem.W.Frag} {H : Hp} {p : Addr} {ns : List Int} (h : H p = some (.lst (ns.map V.int))) : LI K H p ns := SqL.of h
/-- the item at i -/
def ix (ns : List Int) (i : Int) : Int := ns.getD i.toNat 0
theorem ix_nat (ns : List Int) (i : Nat) : ix ns (i : Int) = ns.getD i 0 := rfl
theorem same_new {H : Hp} {p : Addr} {o : HO} (h : H p = none) : Same H (upd H p o) := fun b x e => by
  rw [upd_ne (ne_of_none e h)]
  exact e
theorem same_mut {H H' : Hp} {p : Addr} {o : HO} (e : Same H H') (h : H p = none) : Same H (upd H' p o) := fun b x q => by
  rw [upd_ne (ne_of_none q h)]
  exact e b x q
theorem Same.at {H H' : Hp} {a : Addr} {o : HO} (e : Same H H') (h : H a = some o) : H' a = some o := e a o h
theorem Same.sqT {K : PySem.W.Frag} {H H' : Hp} {a : Addr} {xs : List V} (e : Same H H') (h : SqT K H a xs) : SqT K H' a xs := by
  rcases h with (h | ⟨o, h⟩) | h
  · exact .inl (.inl (e _ _ h))
  · exact .inl (.inr ⟨o, e _ _ h⟩)
  · exact .inr h
theorem Same.sq {K : PySem.W.Frag} {H H' : Hp} {a : Addr} {xs : List V} (e : Same H H') (h : SqL K H a xs) : SqL K H' a xs := e.seq h

/-! ### a def of the text, its promise -/
structure Here (K : PySem.W.Frag) (mg : Str → Option Value) (x : Str) (st : Stmt) : Prop where
  ex : ∃ (f : Addr) (fd : FuncData), Fun K x x st f fd ∧ mg x = some (.ref f)
structure Fn (P : Program) (w : World) (K : PySem.W.Frag) (mg : Str → Option Value) (base : Heap) (CX : CXT) (k : Nat) (x : Str) (ps : List Str) (sp : Sp) : Prop where
  ex : ∃ (f : Addr) (fd : FuncData), FnOk P w K mg base CX k f fd ps sp ∧ mg x = some (.ref f) ∧ PySem.W.keepIn K (.ref f) = true ∧ Binds K fd ps []
section
variable {P : Program} {w : World} {K : PySem.W.Frag} {mg : Str → Option Value} {base : Heap}
theorem Fn.of0 {x : Str} {st : Stmt} {N ps : List Str} {k : Nat} {sp : Sp} (h : Here K mg x st) (S : FnScope N ps (defScope st))
    (hb : ∀ (kV doc pm : Value) (an : Option Addr) (cdv ct : Value) (us : List Value), us.length = ps.length → bindArgs (PySem.W.fnOf x x (defArgs st) (defBody st) (defScope st) .none kV doc pm an cdv ct) ⟨us, []⟩ = pure (ps.zip us))
    (len : ∀ vs H Q E, sp vs H Q E → vs.length = ps.length)
    (hbody : ∀ (f : Addr) (cdv : Value) (A : Around) (outer : List Env) (s : Shared) (H : Hp) (vs : List V) (Q : VK) (E : XK), Room k (A.deeper (envOfC x (defScope st) s.heap.objs.size f cdv)) → sp vs H Q E →
      ∃ t, PSs (cxOf CX0 P w K mg base N x (defScope st) f cdv A outer s H E).nox (defBody st) t ∧ t { nx := fun _ H' => Q .non H', rt := Q } (start N vs) H) : Fn P w K mg base CX0 (k + 1) x ps sp := by
  obtain ⟨f, fd, F, hm⟩ := h.ex
  exact ⟨f, fd, F.ok S len fun cdv A outer s H vs Q E hr hs => hbody f cdv A outer s H vs Q E hr hs, hm, F.kp, F.binds hb⟩
theorem Fn.ofX {x : Str} {st : Stmt} {N ps : List Str} {k : Nat} {sp : Sp} (h : Here K mg x st) (S : FnScope N ps (defScope st))
    (hb : ∀ (kV doc pm : Value) (an : Option Addr) (cdv ct : Value) (us : List Value), us.length = ps.length → bindArgs (PySem.W.fnOf x x (defArgs st) (defBody st) (defScope st) .none kV doc pm an cdv ct) ⟨us, []⟩ = pure (ps.zip us))
    (len : ∀ vs H Q E, sp vs H Q E → vs.length = ps.length)
    (hbody : ∀ (f : Addr) (cdv : Value) (A : Around) (outer : List Env) (s : Shared) (H : Hp) (vs : List V) (Q : VK) (E : XK), Room k (A.deeper (envOfC x (defScope st) s.heap.objs.size f cdv)) → sp vs H Q E →
      ∃ t, PSs (cxOf (L2.CX P w) P w K mg base N x (defScope st) f cdv A outer s H E) (defBody st) t ∧ t { nx := fun _ H' => Q .non H', rt := Q } (start N vs) H) : Fn P w K mg base (L2.CX P w) (k + 1) x ps sp := by
  obtain ⟨f, fd, F, hm⟩ := h.ex
  exact ⟨f, fd, F.okX S len fun cdv A outer s H vs Q E hr hs => hbody f cdv A outer s H vs Q E hr hs, hm, F.kp, F.binds hb⟩
end
theorem pe_fn {X : Cx} {CX : CXT} {k : Nat} {ps : List Str} {sp : Sp} {E : XK} {x : Str} {p pos : Pos} {e : Expr} {es : List Expr} {t : TA} (F : Fn X.prog X.w X.K X.mg X.base CX k x ps sp) (hr : Room k X.A) (hx : Passes CX X E)
    (ha : PA X (e :: es) t) (hg : Gl X x := by rfl) (hdb : (x == ("__debug__" : Str)) = false := by decide) (he : starEach (e :: es) X.env = (false, eval e X.env) :: starEach es X.env := by rfl) (hpl : (backTo pos (starEach es X.env)).any (·.1) = false := by rfl) :
    PE X (.Call (.Name x p) (e :: es) [] pos) (tCall sp [] E t) := by
  obtain ⟨f, fd, h1, h2, h3, h4⟩ := F.ex
  exact pe_call h1 hr hg h2 h3 h4 .nil hx ha hdb he hpl
/-- o.append(e) -/
theorem pe_append {X : Cx} {o e : Expr} {to te : TE} {apos pos : Pos} (ho : PE X o to) (he : PE X e te) (h : PE X (.Call (.Attribute o "append" apos) [e] [] pos) (tBM X.K "list" rAppend to (tCons te tNil)) := by exact pe_bm PySem.F.plainAttrs_list PySem.F.slot_list_append PySem.F.type_list_append mt_append (by assumption) (pa_cons (by assumption) pa_nil)) :
    PE X (.Call (.Attribute o "append" apos) [e] [] pos) (tBM X.K "list" rAppend to (tCons te tNil)) := h

/-! ### steps -/
section
variable {D : Ends} {σ : L2.St} {H : Hp} {Q : VK} {x y v : V}
theorem k_seq {t u : TS} (q : t ⟨u D, D.rt, D.bk, D.ct⟩ σ H) : tSeq t u D σ H := q
theorem k_next (q : D.nx σ H) : tNext D σ H := q
theorem k_nx {n : L2.St → Hp → Prop} {r : VK} {b c : L2.St → Hp → Prop} (q : n σ H) : Ends.nx ⟨n, r, b, c⟩ σ H := q
theorem k_rt {n : L2.St → Hp → Prop} {r : VK} {b c : L2.St → Hp → Prop} (q : r v H) : Ends.rt ⟨n, r, b, c⟩ v H := q
theorem k_bk {n : L2.St → Hp → Prop} {r : VK} {b c : L2.St → Hp → Prop} (q : b σ H) : Ends.bk ⟨n, r, b, c⟩ σ H := q
theorem k_ct {n : L2.St → Hp → Prop} {r : VK} {b c : L2.St → Hp → Prop} (q : c σ H) : Ends.ct ⟨n, r, b, c⟩ σ H := q
theorem k_asg {te : TE} {i : Nat} (q : te σ H fun x H1 => D.nx (σ.set i (some x)) H1) : tAsg te (gName i) D σ H := q
theorem k_asgG {te : TE} {g : TG} (q : te σ H fun x H1 => g x σ H1 D.nx) : tAsg te g D σ H := q
theorem k_gName {i : Nat} {Q : L2.St → Hp → Prop} (q : Q (σ.set i (some v)) H) : gName i v σ H Q := q
theorem k_drop {te : TE} (q : te σ H fun _ H1 => D.nx σ H1) : tDrop te D σ H := q
theorem k_ret {te : TE} (q : te σ H D.rt) : tRet te D σ H := q
theorem k_retN (q : D.rt .non H) : tRetN D σ H := q
theorem k_brk (q : D.bk σ H) : tBreak D σ H := q
theorem k_cont (q : D.ct σ H) : tCont D σ H := q
theorem k_ifS {c : TT} {t u : TS} (q : c σ H fun b H1 => if b = true then t D σ H1 else u D σ H1) : tIfS c t u D σ H := q
theorem k_var {i : Nat} (h : σ[i]? = some (some v)) (q : Q v H) : tVar i σ H Q := ⟨v, h, q⟩
theorem k_c (q : Q v H) : tC v σ H Q := q
theorem k_op {r : R2} {ta tb : TE} (q : ta σ H fun x H1 => tb σ H1 fun y H2 => r x y H2 Q) : tOp r ta tb σ H Q := q
theorem k_un {r : V → Hp → VK → Prop} {ta : TE} (q : ta σ H fun x H1 => r x H1 Q) : tUn r ta σ H Q := q
theorem k_rU {g : Int → V} {i : Int} (q : Q (g i) H) : rU g (.int i) H Q := ⟨i, rfl, q⟩
theorem k_rI0 {g : Int → Int → V} {i j : Int} (q : Q (g i j) H) : rI0 g (.int i) (.int j) H Q := ⟨i, j, rfl, rfl, q⟩
theorem k_rI {C : Int → Int → Prop} {g : Int → Int → V} {i j : Int} (hc : C i j) (q : Q (g i j) H) : rI C g (.int i) (.int j) H Q := ⟨i, j, rfl, rfl, hc, q⟩
theorem k_eqI {i j : Int} (q : Q (.bl (decide (i = j))) H) : rEq (.int i) (.int j) H Q := ⟨rfl, by rw [dec_int, Bool.beq_eq_decide_eq]; exact q⟩
theorem k_neI {i j : Int} (q : Q (.bl (!decide (i = j))) H) : rNe (.int i) (.int j) H Q := ⟨rfl, by rw [dec_int, Bool.beq_eq_decide_eq]; exact q⟩
theorem k_eqS {i j : Str} (q : Q (.bl (decide (i = j))) H) : rEq (.str i) (.str j) H Q := ⟨rfl, by rw [dec_str]; rw [Bool.beq_eq_decide_eq]; exact q⟩
theorem k_neS {i j : Str} (q : Q (.bl (!decide (i = j))) H) : rNe (.str i) (.str j) H Q := ⟨rfl, by rw [dec_str]; rw [Bool.beq_eq_decide_eq]; exact q⟩
theorem k_test {te : TE} {Q : Bool → Hp → Prop} (q : te σ H fun x H' => ∃ k, x = .bl k ∧ Q k H') : tTest te σ H Q := q
theorem k_tB {te : TE} {Q : Bool → Hp → Prop} (q : te σ H fun x H' => ∃ k, x = .bl k ∧ Q k H') : tB te σ H Q := q
theorem k_bl {b : Bool} {R : Bool → Prop} (q : R b) : ∃ k, V.bl b = .bl k ∧ R k := ⟨b, rfl, q⟩
theorem k_and {t u : TT} {Q : Bool → Hp → Prop} (q : t σ H fun c H1 => if c = true then u σ H1 Q else Q false H1) : tAnd t u σ H Q := q
theorem k_or {t u : TT} {Q : Bool → Hp → Prop} (q : t σ H fun c H1 => if c = true then Q true H1 else u σ H1 Q) : tOr t u σ H Q := q
theorem k_not {t : TT} {Q : Bool → Hp → Prop} (q : t σ H fun c H1 => Q (!c) H1) : tNot t σ H Q := q
theorem k_andV {ta tb : TE} (q : ta σ H fun x H1 => ∃ c, x = .bl c ∧ if c = true then tb σ H1 Q else Q (.bl false) H1) : tAndV ta tb σ H Q := q
theorem k_orV {ta tb : TE} (q : ta σ H fun x H1 => ∃ c, x = .bl c ∧ if c = true then Q (.bl true) H1 else tb σ H1 Q) : tOrV ta tb σ H Q := q
theorem k_notV {ta : TE} (q : ta σ H fun x H1 => ∃ c, x = .bl c ∧ Q (.bl (!c)) H1) : tNotV ta σ H Q := q
theorem k_if {t : TT} {ta tb : TE} (q : t σ H fun c H1 => if c = true then ta σ H1 Q else tb σ H1 Q) : tIf t ta tb σ H Q := q
theorem k_nil {Q : List V → Hp → Prop} (q : Q [] H) : tNil σ H Q := q
theorem k_cons {te : TE} {tr : TA} {Q : List V → Hp → Prop} (q : te σ H fun x H1 => tr σ H1 fun xs H2 => Q (x :: xs) H2) : tCons te tr σ H Q := q
theorem k_call {sp : Sp} {E : XK} {t : TA} (q : t σ H fun vs H1 => sp vs H1 Q E) : tCall sp [] E t σ H Q := by
  show t σ H fun vs H1 => sp (vs ++ []) H1 Q E
  simpa only [List.append_nil] using q
theorem k_cb {r : List V → Hp → VK → Prop} {t : TA} (q : t σ H fun vs H1 => r vs H1 Q) : tCB r t σ H Q := q
theorem k_yes {Q : Bool → Hp → Prop} (q : Q true H) : tYes σ H Q := q
theorem k_dT {A B : Prop} (h : A) : if true = true then A else B := by rw [if_pos rfl]; exact h
theorem k_dF {A B : Prop} (h : B) : if false = true then A else B := by rw [if_neg Bool.false_ne_true]; exact h
theorem k_nT {A B : Prop} (h : B) : if (!true) = true then A else B := h
theorem k_nF {A B : Prop} (h : A) : if (!false) = true then A else B := h
theorem k_dec {p A B : Prop} [Decidable p] (h1 : p → A) (h2 : ¬ p → B) : if decide p = true then A else B := by
  by_cases h : p
  · rw [decide_eq_true h, if_pos rfl]; exact h1 h
  · rw [decide_eq_false h, if_neg Bool.false_ne_true]; exact h2 h
theorem k_ndec {p A B : Prop} [Decidable p] (h1 : ¬ p → A) (h2 : p → B) : if (!decide p) = true then A else B := by
  by_cases h : p
  · rw [decide_eq_true h]; exact h2 h
  · rw [decide_eq_false h]; exact h1 h
variable {K : PySem.W.Frag}
theorem k_ixI {p : Addr} {ns : List Int} {i : Int} (h : LI K H p ns) (h0 : 0 ≤ i) (h1 : i < ns.length) (q : Q (.int (ix ns i)) H) : rIxL K (.ref p) (.int i) H Q := by
  refine ⟨p, ns.map V.int, i, .int (ix ns i), rfl, rfl, h, ?_, q⟩
  obtain ⟨j, rfl⟩ : ∃ j : Nat, i = (j : Int) := ⟨i.toNat, by omega⟩
  have hj : j < ns.length := by omega
  refine atI_nat ?_
  rw [List.getElem?_map, List.getElem?_eq_getElem hj]
  show some (V.int ns[j]) = some (.int (ns.getD j 0))
  rw [List.getD_eq_getElem?_getD, List.getElem?_eq_getElem hj]
  rfl
theorem k_lenI {p : Addr} {ns : List Int} (h : LI K H p ns) (q : Q (.int (ns.length : Int)) H) : rLenQ K [.ref p] H Q :=
  ⟨p, _, rfl, .inl h, by rw [List.length_map]; exact q⟩
theorem k_lenL {p : Addr} {ys : List V} (h : SqL K H p ys) (q : Q (.int (ys.length : Int)) H) : rLenQ K [.ref p] H Q := ⟨p, _, rfl, .inl h, q⟩
theorem k_sumI {p : Addr} {ns : List Int} (h : LI K H p ns) (q : Q (.int ns.sum) H) : rSum K [.ref p] H Q := ⟨p, ns, rfl, h, q⟩
/-- what a for has to do, its walked thing told -/
def ForOk (J : It) (g : TG) (tb : TS) (D : Ends) (σ : L2.St) (H : Hp) : Prop := ∃ W : Nat → Nat → L2.St → Hp → Prop, (∃ m, W 0 m σ H) ∧ ∀ i m σ H, W i m σ H →
  (J.stop i H ∧ D.nx σ H) ∨ (J.go i H ∧ ∃ N : L2.St → Hp → Prop, (∀ σ' H', N σ' H' → ∃ m', m' < m ∧ W (i + 1) m' σ' H') ∧ ∀ x H', J.yld i H x H' → g x σ H' fun σ2 H2 => tb { D with nx := N, ct := N, bk := D.nx } σ2 H2)
theorem k_forL {tl : TE} {g : TG} {tb : TS} (q : tl σ H fun x H1 => ∃ a, x = .ref a ∧ (∃ xs, SqL K H1 a xs) ∧ ForOk (Itl K a) g tb D σ H1) : tFor (iList K tl) g tb D σ H := q
theorem k_forR {ta : TA} {g : TG} {tb : TS} (q : ta σ H fun vs H1 => ∃ j : Int, vs = [.int j] ∧ -(2 ^ 62) ≤ j ∧ j < 2 ^ 62 ∧ ForOk (Itr 0 j.toNat) g tb D σ H1) : tFor (iRng1 ta) g tb D σ H := q
theorem k_rng {j : Int} {R : Int → Prop} (h0 : 0 ≤ j) (h1 : j < 2 ^ 62) (q : R j) : ∃ j' : Int, [V.int j] = [.int j'] ∧ -(2 ^ 62) ≤ j' ∧ j' < 2 ^ 62 ∧ R j' := ⟨j, rfl, by omega, h1, q⟩
theorem forR {n : Nat} {tb : TS} {j : Nat} (Pv : Nat → L2.St → Hp → Prop) (h0 : Pv 0 σ H)
    (hs : ∀ i σ H, i < n → Pv i σ H → tb ⟨Pv (i + 1), D.rt, D.nx, Pv (i + 1)⟩ (σ.set j (some (.int (i : Int)))) H) (hd : ∀ σ H, Pv n σ H → D.nx σ H) : ForOk (Itr 0 n) (gName j) tb D σ H :=
  for_range (lo := 0) Pv h0 (fun i σ H hi p => by
    have e : (0 : Int) + (i : Int) = (i : Int) := by omega
    rw [e]
    exact hs i σ H hi p) hd
theorem forL {a : Addr} {xs : List V} {tb : TS} {j : Nat} (Pv : Nat → L2.St → Hp → Prop) (h0 : Pv 0 σ H) (hl : ∀ i σ H, i ≤ xs.length → Pv i σ H → SqL K H a xs)
    (hs : ∀ i x σ H, xs[i]? = some x → Pv i σ H → tb ⟨Pv (i + 1), D.rt, D.nx, Pv (i + 1)⟩ (σ.set j (some x)) H) (hd : ∀ σ H, Pv xs.length σ H → D.nx σ H) : ForOk (Itl K a) (gName j) tb D σ H :=
  for_list Pv h0 hl hs hd
/-- over a list of whole numbers -/
theorem forI {a : Addr} {ns : List Int} {tb : TS} {j : Nat} (Pv : Nat → L2.St → Hp → Prop) (h0 : Pv 0 σ H) (hl : ∀ i σ H, i ≤ ns.length → Pv i σ H → LI K H a ns)
    (hs : ∀ i σ H, i < ns.length → Pv i σ H → tb ⟨Pv (i + 1), D.rt, D.nx, Pv (i + 1)⟩ (σ.set j (some (.int (ix ns (i : Nat))))) H) (hd : ∀ σ H, Pv ns.length σ H → D.nx σ H) : ForOk (Itl K a) (gName j) tb D σ H := by
  refine forL (xs := ns.map V.int) Pv h0 (fun i σ H hi p => hl i σ H (by rw [List.length_map] at hi; exact hi) p) (fun i x σ H hi p => ?_) (fun σ H p => hd σ H (by rw [List.length_map] at p; exact p))
  rw [List.getElem?_map] at hi
  have hj : i < ns.length := by
    rcases Nat.lt_or_ge i ns.length with h | h
    · exact h
    · rw [List.getElem?_eq_none h] at hi; cases hi
  rw [List.getElem?_eq_getElem hj] at hi
  have e : x = .int (ix ns (i : Nat)) := by
    rw [ix_nat, List.getD_eq_getElem?_getD, List.getElem?_eq_getElem hj]
    exact (Option.some.inj hi).symm
  rw [e]
  exact hs i σ H hj p
end
/-! ### comprehensions: I, what is known of the items so far and the heap without the list that grows -/
def del (H : Hp) (D : Addr) : Hp := fun a => if a = D then none else H a
theorem del_ne {H : Hp} {D a : Addr} (h : a ≠ D) : del H D a = H a := by unfold del; rw [if_neg h]
theorem del_same_of {H H' : Hp} {D : Addr} (h : H D = none) (e : Same H H') : Same H (del H' D) := fun b o q => by rw [del_ne (ne_of_none q h)]; exact e b o q
theorem del_le {H : Hp} {D : Addr} : Same (del H D) H := fun b o q => by
  by_cases h : b = D
  · subst h; unfold del at q; rw [if_pos rfl] at q; cases q
  · rw [del_ne h] at q; exact q
theorem del_upd {H : Hp} {D : Addr} {o : HO} : del (upd H D o) D = del H D := by
  funext a
  by_cases h : a = D
  · subst h; unfold del; rw [if_pos rfl, if_pos rfl]
  · rw [del_ne h, del_ne h, upd_ne h]
theorem del_none {H : Hp} {D : Addr} (h : H D = none) : del H D = H := by
  funext a
  by_cases e : a = D
  · subst e; unfold del; rw [if_pos rfl, h]
  · rw [del_ne e]
section
variable {K : PySem.W.Frag} {σ : L2.St} {H : Hp} {Q : VK}
/-- [te for x in xs if tt] -/
def LcOk (J : It) (g : TG) (tt : TT) (te : TE) (vs : List Nat) (σ : L2.St) (H1 : Hp) (Q : VK) : Prop := ∀ D, H1 D = none → ∃ W : Nat → Nat → Hp → Prop, (∃ m, W 0 m (upd H1 D (.lst []))) ∧ ∀ i m H, W i m H →
  (J.stop i H ∧ Q (.ref D) H) ∨ (J.go i H ∧ ∃ Nx : Hp → Prop, (∀ H', Nx H' → ∃ m', m' < m ∧ W (i + 1) m' H') ∧ ∀ x H', J.yld i H x H' → g x (wipe σ vs) H' fun σ2 H2 => wipe σ2 vs = wipe σ vs ∧ tt σ2 H2 fun b H3 =>
    if b = true then te σ2 H3 fun y H4 => ∃ acc, H4 D = some (.lst acc) ∧ acc.length < sizeLine ∧ Nx (upd H4 D (.lst (acc ++ [y]))) else Nx H3)
theorem k_lcL {tl : TE} {g : TG} {tt : TT} {te : TE} {vs : List Nat} (q : tl σ H fun x H1 => ∃ a, x = .ref a ∧ (∃ xs, SqL K H1 a xs) ∧ LcOk (Itl K a) g tt te vs σ H1 Q) : tLc (iList K tl) g tt te vs σ H Q := q
theorem k_lcR {ta : TA} {g : TG} {tt : TT} {te : TE} {vs : List Nat} (q : ta σ H fun ws H1 => ∃ j : Int, ws = [.int j] ∧ -(2 ^ 62) ≤ j ∧ j < 2 ^ 62 ∧ LcOk (Itr 0 j.toNat) g tt te vs σ H1 Q) : tLc (iRng1 ta) g tt te vs σ H Q := q
theorem wipe_set (σ : L2.St) (j : Nat) (v : V) : wipe ((wipe σ [j]).set j (some v)) [j] = wipe σ [j] := by
  show (((σ.set j none).set j (some v)).set j none) = σ.set j none
  rw [List.set_set, List.set_set]
/-- over range(n), no test -/
theorem lcR {n : Nat} {te : TE} {j : Nat} (I : Nat → List V → Hp → Prop) (hn : n ≤ 100000) (h0 : I 0 [] H)
    (hs : ∀ (i : Nat) (ys : List V) (D : Addr) (H' : Hp), i < n → ys.length = i → H D = none → H' D = some (.lst ys) → Same H H' → I i ys (del H' D) →
      ∀ Q' : VK, (∀ y H2, Same H' H2 → I (i + 1) (ys ++ [y]) (del H2 D) → Q' y H2) → te ((wipe σ [j]).set j (some (.int (i : Int)))) H' Q')
    (hd : ∀ (ys : List V) (D : Addr) (H' : Hp), ys.length = n → H D = none → Same H H' → H' D = some (.lst ys) → I n ys (del H' D) → Q (.ref D) H') : LcOk (Itr 0 n) (gName j) tYes te [j] σ H Q := by
  intro D hD
  refine lc_range (lo := 0) (n := n) (fun i H' => ∃ ys, ys.length = i ∧ H' D = some (.lst ys) ∧ Same H H' ∧ I i ys (del H' D))
    ⟨[], rfl, upd_same, same_new hD, by rw [del_upd, del_none hD]; exact h0⟩ (fun i H' hi ⟨ys, hl, hy, sm, hI⟩ => ?_) (fun H' ⟨ys, hl, hy, sm, hI⟩ => hd ys D H' hl hD sm hy hI)
  have e : (0 : Int) + (i : Int) = (i : Int) := by omega
  rw [e]
  refine ⟨wipe_set _ _ _, ?_⟩
  refine k_yes (k_dT ?_)
  refine hs i ys D H' hi hl hD hy sm hI _ fun y H2 s2 hI2 => ?_
  exact ⟨ys, s2 _ _ hy, by rw [hl]; exact Nat.lt_of_lt_of_le (Nat.lt_of_lt_of_le hi hn) (by decide), ys ++ [y], by rw [List.length_append, hl]; rfl, upd_same, same_mut (sm.trans s2) hD, by rw [del_upd]; exact hI2⟩
theorem lcL {a : Addr} {xs : List V} {te : TE} {j : Nat} (I : Nat → List V → Hp → Prop) (hx : SqL K H a xs) (hn : xs.length ≤ 100000) (h0 : I 0 [] H)
    (hs : ∀ (i : Nat) (x : V) (ys : List V) (D : Addr) (H' : Hp), xs[i]? = some x → ys.length = i → H D = none → H' D = some (.lst ys) → Same H H' → I i ys (del H' D) →
      ∀ Q' : VK, (∀ y H2, Same H' H2 → I (i + 1) (ys ++ [y]) (del H2 D) → Q' y H2) → te ((wipe σ [j]).set j (some x)) H' Q')
    (hd : ∀ (ys : List V) (D : Addr) (H' : Hp), ys.length = xs.length → H D = none → Same H H' → H' D = some (.lst ys) → I xs.length ys (del H' D) → Q (.ref D) H') : LcOk (Itl K a) (gName j) tYes te [j] σ H Q := by
  intro D hD
  refine lc_list (xs := xs) (fun i H' => ∃ ys, ys.length = i ∧ H' D = some (.lst ys) ∧ Same H H' ∧ I i ys (del H' D))
    ⟨[], rfl, upd_same, same_new hD, by rw [del_upd, del_none hD]; exact h0⟩ (fun i H' _ ⟨ys, hl, hy, sm, hI⟩ => sm.seq hx) (fun i x H' hi ⟨ys, hl, hy, sm, hI⟩ => ?_) (fun H' ⟨ys, hl, hy, sm, hI⟩ => hd ys D H' hl hD sm hy hI)
  refine ⟨wipe_set _ _ _, ?_⟩
  refine k_yes (k_dT ?_)
  have hi' : i < xs.length := by
    rcases Nat.lt_or_ge i xs.length with h | h
    · exact h
    · rw [List.getElem?_eq_none h] at hi; cases hi
  refine hs i x ys D H' hi hl hD hy sm hI _ fun y H2 s2 hI2 => ?_
  exact ⟨ys, s2 _ _ hy, by rw [hl]; exact Nat.lt_of_lt_of_le (Nat.lt_of_lt_of_le hi' hn) (by decide), ys ++ [y], by rw [List.length_append, hl]; rfl, upd_same, same_mut (sm.trans s2) hD, by rw [del_upd]; exact hI2⟩
end

/-! ### more steps -/
section
variable {D : Ends} {σ : L2.St} {H : Hp} {Q : VK} {x y v : V} {K : PySem.W.Frag}
theorem cmul_l {i j : Int} (h : -18446744073709551616 < i ∧ i < 18446744073709551616) : CMul i j := Or.inl h
theorem cmul_r {i j : Int} (h : -18446744073709551616 < j ∧ j < 18446744073709551616) : CMul i j := Or.inr h
theorem k_mul {g : Int → Int → V} {i j : Int} (hc : CMul i j) (q : Q (g i j) H) : rI CMul g (.int i) (.int j) H Q := k_rI hc q
theorem k_div {g : Int → Int → V} {i j : Int} (h : 0 < j ∧ j < 1073741824) (q : Q (g i j) H) : rI CDiv g (.int i) (.int j) H Q := k_rI h q
theorem k_decT {p A B : Prop} [Decidable p] (h : p) (q : A) : if decide p = true then A else B := by rw [decide_eq_true h, if_pos rfl]; exact q
theorem k_decF {p A B : Prop} [Decidable p] (h : ¬ p) (q : B) : if decide p = true then A else B := by rw [decide_eq_false h, if_neg Bool.false_ne_true]; exact q
theorem k_ndecT {p A B : Prop} [Decidable p] (h : p) (q : B) : if (!decide p) = true then A else B := by rw [decide_eq_true h]; exact q
theorem k_ndecF {p A B : Prop} [Decidable p] (h : ¬ p) (q : A) : if (!decide p) = true then A else B := by rw [decide_eq_false h]; exact q
theorem k_refL {p : Addr} {xs : List V} {R : Addr → Prop} (h : SqL K H p xs) (q : R p) : ∃ a, V.ref p = .ref a ∧ (∃ xs, SqL K H a xs) ∧ R a := ⟨p, rfl, ⟨xs, h⟩, q⟩
theorem LI.sq {p : Addr} {ns : List Int} (h : LI K H p ns) : SqL K H p (ns.map V.int) := h
/-- a new list, a new tuple -/
def NewL (xs : List V) (H : Hp) (Q : VK) : Prop := xs.length ≤ sizeLine ∧ ∀ p, H p = none → Q (.ref p) (upd H p (.lst xs))
def NewT (xs : List V) (H : Hp) (Q : VK) : Prop := xs.length ≤ sizeLine ∧ ∀ p, H p = none → Q (.ref p) (upd H p (.tup xs))
theorem k_tLst {t : TA} (q : t σ H fun xs H1 => NewL xs H1 Q) : tLst t σ H Q := q
theorem k_tTup {t : TA} (q : t σ H fun xs H1 => NewT xs H1 Q) : tTup t σ H Q := q
theorem k_newL {xs : List V} (q : ∀ p H', H p = none → Same H H' → H' p = some (.lst xs) → Q (.ref p) H') (hl : Nat.ble xs.length 1000 = true := by rfl) : NewL xs H Q :=
  ⟨Nat.le_trans (Nat.le_of_ble_eq_true hl) (by decide), fun p hp => q p _ hp (same_new hp) upd_same⟩
theorem k_newT {xs : List V} (q : ∀ p H', H p = none → Same H H' → H' p = some (.tup xs) → Q (.ref p) H') (hl : Nat.ble xs.length 1000 = true := by rfl) : NewT xs H Q :=
  ⟨Nat.le_trans (Nat.le_of_ble_eq_true hl) (by decide), fun p hp => q p _ hp (same_new hp) upd_same⟩
theorem k_listL {p : Addr} {xs : List V} (h : SqL K H p xs) (q : ∀ l H', H l = none → Same H H' → H' l = some (.lst xs) → Q (.ref l) H') : rListQ K [.ref p] H Q :=
  ⟨p, xs, rfl, .inl h, fun l hl => q l _ hl (same_new hl) upd_same⟩
theorem k_bm {T : String} {r : V → List V → Hp → VK → Prop} {to : TE} {t : TA} (q : to σ H fun x H1 => tyV K T x H1 ∧ t σ H1 fun xs H2 => r x xs H2 Q) : tBM K T r to t σ H Q := q
theorem k_bm0 {T : String} {r : V → List V → Hp → VK → Prop} {to : TE} (q : to σ H fun x H1 => tyV K T x H1 ∧ r x [] H1 Q) : tBM0 K T r to σ H Q := q
theorem k_tyL {p : Addr} {xs : List V} {R : Prop} (h : SqL K H p xs) (q : R) : tyV K "list" (.ref p) H ∧ R := ⟨.inl ⟨rfl, _, h⟩, q⟩
theorem k_append {p : Addr} {xs : List V} {y : V} (h : H p = some (.lst xs)) (hl : xs.length ≤ 100000) (q : Q .non (upd H p (.lst (xs ++ [y])))) : rAppend (.ref p) [y] H Q := ⟨p, xs, y, rfl, rfl, h, Nat.lt_of_le_of_lt hl (by decide), q⟩
/-- isinstance of a plain value, a list, a tuple -/
def scT : V → Option String
  | .non => some "NoneType" | .bl _ => some "bool" | .int _ => some "int" | .str _ => some "str" | _ => none
theorem tyx_sc {x : V} {n : String} (h : scT x = some n) : TyX K H x (.type n) := by
  cases x with
  | non => cases h; exact .base .non
  | bl b => cases h; exact .base (.bl b)
  | int i => cases h; exact .base (.int i)
  | str s => cases h; exact .base (.str s)
  | byt _ => cases h
  | flt _ => cases h
  | ref _ => cases h
  | ty _ => cases h
theorem tyx_L {p : Addr} {xs : List V} (h : SqL K H p xs) : TyX K H (.ref p) (.type "list") := by
  rcases h with (h | ⟨o, h⟩) | ⟨o, its, n, hk, hc, _⟩
  · exact .base (.lst h)
  · exact .base (.frz h)
  · exact .kList hk hc
theorem tyx_T {p : Addr} {xs : List V} (h : SqT K H p xs) : TyX K H (.ref p) (.type "tuple") := by
  rcases h with (h | ⟨o, h⟩) | ⟨o, its, n, hk, hc, _⟩
  · exact .base (.tup h)
  · exact .fTuple h
  · exact .kTuple hk hc
theorem kt_int_int : kitB "int" "int" = some true := by decide +kernel
theorem kt_bool_int : kitB "bool" "int" = some true := by decide +kernel
theorem kt_str_int : kitB "str" "int" = some false := by decide +kernel
theorem kt_none_int : kitB "NoneType" "int" = some false := by decide +kernel
theorem kt_list_int : kitB "list" "int" = some false := by decide +kernel
theorem kt_tup_int : kitB "tuple" "int" = some false := by decide +kernel
theorem kt_int_bool : kitB "int" "bool" = some false := by decide +kernel
theorem kt_bool_bool : kitB "bool" "bool" = some true := by decide +kernel
theorem kt_str_bool : kitB "str" "bool" = some false := by decide +kernel
theorem kt_none_bool : kitB "NoneType" "bool" = some false := by decide +kernel
theorem kt_list_list : kitB "list" "list" = some true := by decide +kernel
theorem kt_tup_list : kitB "tuple" "list" = some false := by decide +kernel
theorem kt_str_list : kitB "str" "list" = some false := by decide +kernel
theorem kt_none_list : kitB "NoneType" "list" = some false := by decide +kernel
theorem kt_tup_tup : kitB "tuple" "tuple" = some true := by decide +kernel
theorem kt_list_tup : kitB "list" "tuple" = some false := by decide +kernel
theorem kt_str_tup : kitB "str" "tuple" = some false := by decide +kernel
theorem kt_str_str : kitB "str" "str" = some true := by decide +kernel
theorem kt_none_str : kitB "NoneType" "str" = some false := by decide +kernel
theorem kt_list_str : kitB "list" "str" = some false := by decide +kernel
theorem k_isi {x : V} {a n : String} {b : Bool} (ht : TyX K H x (.type a)) (hb : kitB a n = some b) (q : Q (.bl b) H) : rIsi K [x, .ty n] H Q := ⟨x, .ty n, _, _, b, rfl, .ty n, ht, kit_ty hb, q⟩
theorem k_isi_int {i : Int} (q : Q (.bl true) H) : rIsi K [.int i, .ty "int"] H Q := k_isi (tyx_sc rfl) kt_int_int q
theorem k_isi_int_bool {i : Int} (q : Q (.bl false) H) : rIsi K [.int i, .ty "bool"] H Q := k_isi (tyx_sc rfl) kt_int_bool q
theorem k_isi_list {p : Addr} {xs : List V} (h : SqL K H p xs) (q : Q (.bl true) H) : rIsi K [.ref p, .ty "list"] H Q := k_isi (tyx_L h) kt_list_list q
theorem k_isi_tup {p : Addr} {xs : List V} (h : SqT K H p xs) (q : Q (.bl true) H) : rIsi K [.ref p, .ty "tuple"] H Q := k_isi (tyx_T h) kt_tup_tup q
end
/-! ### data -/
theorem canAll {α : Type} {f : α → PyData} (h : ∀ x, (f x).canLay0 = true) : ∀ l : List α, PyData.canLayAll0 (l.map f) = true
  | [] => by simp [PyData.canLayAll0]
  | x :: r => by simp [PyData.canLayAll0, h x, canAll h r]
theorem depAll {α : Type} {f : α → PyData} {n : Nat} (h : ∀ x, (f x).depth ≤ n) : ∀ l : List α, PyData.depthAll (l.map f) ≤ n
  | [] => by simp [PyData.depthAll]
  | x :: r => by
    have := depAll h r
    have := h x
    simp only [List.map_cons, PyData.depthAll]
    omega
theorem eqvAll_map {α : Type} [DecidableEq α] {f : α → PyData} (h : ∀ x y, PyData.eqv (f x) (f y) = decide (x = y)) : ∀ l m : List α, PyData.eqvAll (l.map f) (m.map f) = decide (l = m)
  | [], [] => by simp [PyData.eqvAll]
  | [], y :: m => by simp [PyData.eqvAll]
  | x :: l, [] => by simp [PyData.eqvAll]
  | x :: l, y :: m => by
    simp only [List.map_cons, PyData.eqvAll, h x y, eqvAll_map h l m, List.cons.injEq]
    by_cases a : x = y <;> by_cases b : l = m <;> simp [a, b]
def dI (ns : List Int) : PyData := .list (ns.map PyData.int)
def dR (rs : List (List Int)) : PyData := .list (rs.map dI)
theorem can_dI (ns : List Int) : (dI ns).canLay0 = true := by unfold dI; simp only [PyData.canLay0]; exact canAll (fun _ => by simp [PyData.canLay0]) ns
theorem dep_dI (ns : List Int) : (dI ns).depth ≤ 1 := by
  unfold dI
  simp only [PyData.depth]
  have := depAll (f := PyData.int) (n := 0) (fun _ => by simp [PyData.depth]) ns
  omega
theorem eqv_dI (a b : List Int) : PyData.eqv (dI a) (dI b) = decide (a = b) := by
  unfold dI
  simp only [PyData.eqv]
  refine eqvAll_map (fun x y => ?_) a b
  simp [PyData.eqv, Bool.beq_eq_decide_eq]
theorem can_dR (rs : List (List Int)) : (dR rs).canLay0 = true := by unfold dR; simp only [PyData.canLay0]; exact canAll can_dI rs
theorem dep_dR (rs : List (List Int)) : (dR rs).depth ≤ 2 := by
  unfold dR
  simp only [PyData.depth]
  have := depAll dep_dI rs
  omega
theorem eqv_dR (a b : List (List Int)) : PyData.eqv (dR a) (dR b) = decide (a = b) := by
  unfold dR
  simp only [PyData.eqv]
  exact eqvAll_map eqv_dI a b
theorem shaped_of {d : PyData} {n : Nat} (h : d.canLay0 = true) (h2 : d.depth ≤ n) (h3 : n ≤ 64) : SeqAt.shaped d = true := by
  unfold SeqAt.shaped
  rw [h, decide_eq_true (by omega : d.depth ≤ 64)]
  rfl
section
variable {σ : L2.St} {H : Hp} {Q : VK} {K : PySem.W.Frag}
theorem dp_ints : ∀ ns : List Int, DpAll K H (ns.map V.int) (ns.map PyData.int)
  | [] => .nil
  | n :: r => .cons (.int n) (dp_ints r)
theorem LI.dp {p : Addr} {ns : List Int} (h : LI K H p ns) : Dp K H (.ref p) (dI ns) := .lst h (dp_ints ns)
/-- == of what stands at x and y as the data d and e -/
theorem k_eqD {x y : V} {d e : PyData} {b : Bool} (hx : Dp K H x d) (hy : Dp K H y e) (sd : SeqAt.shaped d = true) (se : SeqAt.shaped e = true) (hb : PyData.eqv d e = b) (q : Q (.bl b) H) : rEqD K x y H Q := ⟨d, e, hx, hy, sd, se, by rw [hb]; exact q⟩
theorem k_neD {x y : V} {d e : PyData} {b : Bool} (hx : Dp K H x d) (hy : Dp K H y e) (sd : SeqAt.shaped d = true) (se : SeqAt.shaped e = true) (hb : PyData.eqv d e = b) (q : Q (.bl (!b)) H) : rNeD K x y H Q := ⟨d, e, hx, hy, sd, se, by rw [hb]; exact q⟩
theorem k_eqLI {p r : Addr} {ns ms : List Int} (hp : LI K H p ns) (hr : LI K H r ms) (q : Q (.bl (decide (ns = ms))) H) : rEqD K (.ref p) (.ref r) H Q :=
  k_eqD hp.dp hr.dp (shaped_of (can_dI _) (dep_dI _) (by decide)) (shaped_of (can_dI _) (dep_dI _) (by decide)) (eqv_dI _ _) q
theorem k_neLI {p r : Addr} {ns ms : List Int} (hp : LI K H p ns) (hr : LI K H r ms) (q : Q (.bl (!decide (ns = ms))) H) : rNeD K (.ref p) (.ref r) H Q :=
  k_neD hp.dp hr.dp (shaped_of (can_dI _) (dep_dI _) (by decide)) (shaped_of (can_dI _) (dep_dI _) (by decide)) (eqv_dI _ _) q
theorem k_ixC {p : Addr} {xs : List V} {i : Int} {v : V} (h : SqL K H p xs) (ha : atI xs i = some v) (q : Q v H) : rIxL K (.ref p) (.int i) H Q := ⟨p, xs, i, v, rfl, rfl, h, ha, q⟩
theorem k_ixT {p : Addr} {xs : List V} {i : Int} {v : V} (h : SqT K H p xs) (ha : atI xs i = some v) (q : Q v H) : rIxT K (.ref p) (.int i) H Q := ⟨p, xs, i, v, rfl, rfl, h, ha, q⟩
/-! ### comprehensions of whole numbers -/
theorem map_range_succ {α : Type} (f : Nat → α) (i : Nat) : (List.range (i + 1)).map f = (List.range i).map f ++ [f i] := by rw [List.range_succ, List.map_append]; rfl
/-- [f(j) for j in range(n)] -/
theorem lcRI {n : Nat} {te : TE} {j : Nat} (f : Nat → Int) (hn : n ≤ 100000)
    (hs : ∀ (i : Nat) (D : Addr) (H' : Hp), i < n → H D = none → Same H H' → ∀ Q' : VK, (∀ H2, Same H' H2 → Q' (.int (f i)) H2) → te ((wipe σ [j]).set j (some (.int (i : Int)))) H' Q')
    (hd : ∀ (D : Addr) (H' : Hp), H D = none → Same H H' → H' D = some (.lst (((List.range n).map f).map V.int)) → Q (.ref D) H') : LcOk (Itr 0 n) (gName j) tYes te [j] σ H Q := by
  refine lcR (fun i ys _ => ys = ((List.range i).map f).map V.int) hn rfl (fun i ys D H' hi hl nD hD sm e Q' q' => ?_) fun ys D H' hl nD sm hD e => hd D H' nD sm (by rw [← e]; exact hD)
  refine hs i D H' hi nD sm Q' fun H2 s2 => q' _ _ s2 ?_
  rw [e, map_range_succ, List.map_append]
  rfl
/-- [f(x) for x in ns] -/
theorem lcLI {a : Addr} {ns : List Int} {te : TE} {j : Nat} (f : Int → Int) (hx : LI K H a ns) (hn : ns.length ≤ 100000)
    (hs : ∀ (x : Int) (D : Addr) (H' : Hp), x ∈ ns → H D = none → Same H H' → ∀ Q' : VK, (∀ H2, Same H' H2 → Q' (.int (f x)) H2) → te ((wipe σ [j]).set j (some (.int x))) H' Q')
    (hd : ∀ (D : Addr) (H' : Hp), H D = none → Same H H' → H' D = some (.lst ((ns.map f).map V.int)) → Q (.ref D) H') : LcOk (Itl K a) (gName j) tYes te [j] σ H Q := by
  refine lcL (xs := ns.map V.int) (fun i ys _ => ys = ((ns.take i).map f).map V.int) hx (by rw [List.length_map]; exact hn) rfl (fun i x ys D H' hi hl nD hD sm e Q' q' => ?_) fun ys D H' hl nD sm hD e => ?_
  · rw [List.getElem?_map] at hi
    obtain ⟨g, hg, rfl⟩ := Option.map_eq_some_iff.mp hi
    refine hs g D H' (List.mem_of_getElem? hg) nD sm Q' fun H2 s2 => q' _ _ s2 ?_
    rw [e, List.take_succ, hg]
    simp
  · rw [List.length_map, List.take_length] at e
    exact hd D H' nD sm (by rw [← e]; exact hD)
/-- [f(j) for j in range(n) if p(j)] -/
theorem lcRF {n : Nat} {te : TE} {tt : TT} {j : Nat} (p : Nat → Bool) (f : Nat → Int) (hn : n ≤ 100000)
    (ht : ∀ (i : Nat) (D : Addr) (H' : Hp), i < n → H D = none → Same H H' → ∀ Q' : Bool → Hp → Prop, (∀ H2, Same H' H2 → Q' (p i) H2) → tt ((wipe σ [j]).set j (some (.int (i : Int)))) H' Q')
    (hs : ∀ (i : Nat) (D : Addr) (H' : Hp), i < n → H D = none → Same H H' → ∀ Q' : VK, (∀ H2, Same H' H2 → Q' (.int (f i)) H2) → te ((wipe σ [j]).set j (some (.int (i : Int)))) H' Q')
    (hd : ∀ (D : Addr) (H' : Hp), H D = none → Same H H' → H' D = some (.lst ((((List.range n).filter p).map f).map V.int)) → Q (.ref D) H') : LcOk (Itr 0 n) (gName j) tt te [j] σ H Q := by
  intro D hD
  refine lc_range (lo := 0) (n := n) (fun i H' => H' D = some (.lst ((((List.range i).filter p).map f).map V.int)) ∧ Same H H') ⟨upd_same, same_new hD⟩ (fun i H' hi ⟨hy, sm⟩ => ?_) (fun H' ⟨hy, sm⟩ => hd D H' hD sm hy)
  have e : (0 : Int) + (i : Int) = (i : Int) := by omega
  rw [e]
  refine ⟨wipe_set _ _ _, ht i D H' hi hD sm _ fun H2 s2 => ?_⟩
  have er : (List.range (i + 1)).filter p = (List.range i).filter p ++ [i].filter p := by rw [List.range_succ, List.filter_append]
  cases hp : p i with
  | true =>
    refine k_dT (hs i D H2 hi hD (sm.trans s2) _ fun H3 s3 => ?_)
    refine ⟨_, s3 _ _ (s2 _ _ hy), ?_, ?_, same_mut ((sm.trans s2).trans s3) hD⟩
    · rw [List.length_map, List.length_map]
      have := List.length_filter_le p (List.range i)
      rw [List.length_range] at this
      exact Nat.lt_of_le_of_lt (by omega : _ ≤ 100000) (by decide)
    · rw [upd_same, er, List.filter_cons, if_pos hp, List.map_append, List.map_append]
      rfl
  | false =>
    refine k_dF ⟨?_, sm.trans s2⟩
    rw [er, List.filter_cons, if_neg (by rw [hp]; decide), List.filter_nil, List.append_nil]
    exact s2 _ _ hy
/-! ### +, *, slices of lists -/
theorem k_cat {p r : Addr} {xs ys : List V} (hp : H p = some (.lst xs)) (hr : H r = some (.lst ys)) (hl : xs.length + ys.length ≤ 100000) (q : ∀ l H', H l = none → Same H H' → H' l = some (.lst (xs ++ ys)) → Q (.ref l) H') : rCat (.ref p) (.ref r) H Q :=
  ⟨p, r, xs, ys, rfl, rfl, hp, hr, Nat.le_trans hl (by decide), fun l hl => q l _ hl (same_new hl) upd_same⟩
theorem k_rep {p : Addr} {xs : List V} {k : Int} (hp : H p = some (.lst xs)) (h0 : 0 ≤ k) (h1 : k ≤ 1000) (hl : xs.length ≤ 1000) (q : ∀ l H', H l = none → Same H H' → H' l = some (.lst (List.replicate k.toNat xs).flatten) → Q (.ref l) H') : rRep (.ref p) (.int k) H Q :=
  ⟨p, k, xs, rfl, rfl, hp, by omega, by omega, Nat.le_trans (Nat.mul_le_mul hl (by omega : k.toNat ≤ 1000)) (by decide), fun l hl => q l _ hl (same_new hl) upd_same⟩
theorem k_slice {p : Addr} {xs : List V} {lo hi : Option Int} (hp : SqL K H p xs) (q : ∀ l H', H l = none → Same H H' → H' l = some (.lst (cutV xs lo hi)) → Q (.ref l) H') : rSlL K (.ref p) lo hi H Q :=
  ⟨p, xs, rfl, hp, fun l hl => q l _ hl (same_new hl) upd_same⟩
theorem k_sl {r : V → Option Int → Option Int → Hp → VK → Prop} {te : TE} {tl th : TO} (q : te σ H fun x H1 => tl σ H1 fun l H2 => th σ H2 fun u H3 => r x l u H3 Q) : tSl r te tl th σ H Q := q
theorem k_noPart {Q : Option Int → Hp → Prop} (q : Q none H) : tNoPart σ H Q := q
theorem k_part {te : TE} {Q : Option Int → Hp → Prop} (q : te σ H fun x H1 => ∃ i, x = .int i ∧ Q (some i) H1) : tPart te σ H Q := q
theorem k_pint {i : Int} {R : Int → Prop} (q : R i) : ∃ j, V.int i = .int j ∧ R j := ⟨i, rfl, q⟩
theorem k_cut {D : Ends} {t u : TS} (Mid : L2.St → Hp → Prop) (h1 : t ⟨Mid, D.rt, D.bk, D.ct⟩ σ H) (h2 : ∀ σ' H', Mid σ' H' → u D σ' H') : Evl.tCut t u D σ H := ⟨Mid, h1, h2⟩
end
/-- the law's own promise -/
def spLaw (K : PySem.W.Frag) : Sp := fun vs H Q _ => ∃ (a : Addr) (ns : List Int), vs = [.ref a] ∧ LI K H a ns ∧ ns.length ≤ 63 ∧ ∀ H', Q (.bl true) H'
end Fz

/-! ### the walk -/
local macro_rules | `(tactic| fail "zup") => `(tactic| first
  | with_reducible assumption
  | with_reducible exact L2.SqL.of (by assumption)
  | with_reducible exact L2.SqT.of (by assumption)
  | with_reducible exact Fz.LI.of (by assumption)
  | with_reducible exact Fz.LI.sq (by assumption)
  | ((with_reducible refine' Fz.LI.mono (by assumption) ?hh); (case hh => fail "zup"))
  | ((with_reducible refine' Fz.Same.sq (by assumption) ?hh); (case hh => fail "zup"))
  | ((with_reducible refine' Fz.Same.sqT (by assumption) ?hh); (case hh => fail "zup"))
  | ((with_reducible refine' Fz.Same.at (by assumption) ?hh); (case hh => fail "zup"))
  | fail "up")
local macro_rules | `(tactic| fail "zside") => `(tactic| first | assumption | omega | decide | exact Fz.cmul_l (by omega) | exact Fz.cmul_r (by omega) | fail "side")
local macro_rules | `(tactic| fail "zs1") => `(tactic| first
  | with_reducible refine Fz.k_seq ?_
  | with_reducible refine Fz.k_nx ?_
  | with_reducible refine Fz.k_rt ?_
  | with_reducible refine Fz.k_bk ?_
  | with_reducible refine Fz.k_ct ?_
  | with_reducible refine Fz.k_next ?_
  | with_reducible refine Fz.k_asg ?_
  | with_reducible refine Fz.k_asgG ?_
  | with_reducible refine Fz.k_gName ?_
  | with_reducible refine Fz.k_drop ?_
  | with_reducible refine Fz.k_ret ?_
  | with_reducible refine Fz.k_retN ?_
  | with_reducible refine Fz.k_brk ?_
  | with_reducible refine Fz.k_cont ?_
  | with_reducible refine Fz.k_ifS ?_
  | with_reducible refine Fz.k_var (by with_unfolding_all exact rfl) ?_
  | with_reducible refine Fz.k_c ?_
  | with_reducible refine Fz.k_op ?_
  | with_reducible refine Fz.k_un ?_
  | with_reducible refine Fz.k_rU ?_
  | with_reducible refine Fz.k_rI0 ?_
  | ((with_reducible refine' Fz.k_mul ?hc ?_); (case hc => fail "zside"))
  | ((with_reducible refine' Fz.k_div ?hc ?_); (case hc => fail "zside"))
  | ((with_reducible refine' Fz.k_rI ?hc ?_); (case hc => fail "zside"))
  | with_reducible refine Fz.k_eqI ?_
  | with_reducible refine Fz.k_neI ?_
  | with_reducible refine Fz.k_eqS ?_
  | with_reducible refine Fz.k_neS ?_
  | with_reducible refine Fz.k_test ?_
  | with_reducible refine Fz.k_tB ?_
  | with_reducible refine Fz.k_bl ?_
  | with_reducible refine Fz.k_and ?_
  | with_reducible refine Fz.k_or ?_
  | with_reducible refine Fz.k_not ?_
  | with_reducible refine Fz.k_andV ?_
  | with_reducible refine Fz.k_orV ?_
  | with_reducible refine Fz.k_notV ?_
  | with_reducible refine Fz.k_if ?_
  | with_reducible refine Fz.k_nil ?_
  | with_reducible refine Fz.k_cons ?_
  | with_reducible refine Fz.k_call ?_
  | with_reducible refine Fz.k_cb ?_
  | with_reducible refine Fz.k_tLst ?_
  | with_reducible refine Fz.k_tTup ?_
  | with_reducible refine Fz.k_dT ?_
  | with_reducible refine Fz.k_dF ?_
  | with_reducible refine Fz.k_nT ?_
  | with_reducible refine Fz.k_nF ?_
  | ((with_reducible refine' Fz.k_decT ?hc ?_); (case hc => first | assumption | with_reducible exact rfl | omega | fail "no"))
  | ((with_reducible refine' Fz.k_decF ?hc ?_); (case hc => first | assumption | with_reducible exact rfl | omega | fail "no"))
  | ((with_reducible refine' Fz.k_ndecT ?hc ?_); (case hc => first | assumption | with_reducible exact rfl | omega | fail "no"))
  | ((with_reducible refine' Fz.k_ndecF ?hc ?_); (case hc => first | assumption | with_reducible exact rfl | omega | fail "no"))
  | ((with_reducible refine' Fz.k_ixI ?h ?h0 ?h1 ?_); (case h => fail "zup"); (case h0 => fail "zside"); (case h1 => fail "zside"))
  | ((with_reducible refine' Fz.k_lenI ?h ?_); (case h => fail "zup"))
  | ((with_reducible refine' Fz.k_lenL ?h ?_); (case h => fail "zup"))
  | ((with_reducible refine' Fz.k_sumI ?h ?_); (case h => fail "zup"))
  | ((with_reducible refine' Fz.k_ixC ?h ?ha ?_); (case h => fail "zup"); (case ha => exact rfl))
  | ((with_reducible refine' Fz.k_ixT ?h ?ha ?_); (case h => fail "zup"); (case ha => exact rfl))
  | ((with_reducible refine' Fz.k_eqLI ?h ?h1 ?_); (case h => fail "zup"); (case h1 => fail "zup"))
  | ((with_reducible refine' Fz.k_neLI ?h ?h1 ?_); (case h => fail "zup"); (case h1 => fail "zup"))
  | with_reducible refine Fz.k_sl ?_
  | with_reducible refine Fz.k_noPart ?_
  | with_reducible refine Fz.k_part ?_
  | with_reducible refine Fz.k_pint ?_
  | with_reducible refine Fz.k_forL ?_
  | with_reducible refine Fz.k_forR ?_
  | with_reducible refine Fz.k_lcL ?_
  | with_reducible refine Fz.k_lcR ?_
  | ((with_reducible refine' Fz.k_rng ?h0 ?h1 ?_); (case h0 => fail "zside"); (case h1 => fail "zside"))
  | ((with_reducible refine' Fz.k_refL ?h ?_); (case h => fail "zup"))
  | with_reducible refine Fz.k_bm ?_
  | with_reducible refine Fz.k_bm0 ?_
  | ((with_reducible refine' Fz.k_tyL ?h ?_); (case h => fail "zup"))
  | with_reducible refine Fz.k_isi_int ?_
  | with_reducible refine Fz.k_isi_int_bool ?_
  | ((with_reducible refine' Fz.k_isi_list ?h ?_); (case h => fail "zup"))
  | ((with_reducible refine' Fz.k_isi_tup ?h ?_); (case h => fail "zup"))
  | fail "no step")
local macro_rules | `(tactic| fail "zst") => `(tactic| repeat' (fail "zs1"))
namespace Fz
open PySem PySem.Spec PyProof.Rows L2
def top (i : Nat) : Stmt := PySem.Challenge.pw_fairsplit_k01_worth_of_a_heap.main.body.getD i (.Pass ⟨0, 0, 0, 0⟩)
abbrev s__law_draws : Stmt := top 5
abbrev s_worth : Stmt := top 1
abbrev s__law_cell : Stmt := top 4
abbrev s__law_bid : Stmt := top 6
abbrev s__law_whole : Stmt := top 3
abbrev s__law_worth : Stmt := top 7
abbrev s_law : Stmt := top 8
structure Txt (K : PySem.W.Frag) (mg : Str → Option Value) : Prop where
  f__law_draws : Here K mg "_law_draws" s__law_draws
  f_worth : Here K mg "worth" s_worth
  f__law_cell : Here K mg "_law_cell" s__law_cell
  f__law_bid : Here K mg "_law_bid" s__law_bid
  f__law_whole : Here K mg "_law_whole" s__law_whole
  f__law_worth : Here K mg "_law_worth" s__law_worth
  f_law : Here K mg "law" s_law
  b_sum : mg "sum" = none
  b_range : mg "range" = none
  b_isinstance : mg "isinstance" = none
  b_int : mg "int" = none
  b_len : mg "len" = none
  b_list : mg "list" = none
  b_bool : mg "bool" = none
section
variable {P : Program} {w : World} {K : PySem.W.Frag} {mg : Str → Option Value} {base : Heap}
/-! ### _law_draws -/
def drawsF (c : Int) : Nat → List Int
  | 0 => []
  | n + 1 => drawsF c n ++ [(seedF c (n + 1)) / 16]
where seedF (c : Int) : Nat → Int
  | 0 => c
  | n + 1 => (seedF c n * 48271 + 12345) % 2147483647
theorem drawsF_len (c : Int) : ∀ n, (drawsF c n).length = n
  | 0 => rfl
  | n + 1 => by rw [drawsF, List.length_append, drawsF_len c n]; rfl
def sp__law_draws (K : PySem.W.Frag) : Sp := fun vs H Q _ => ∃ (c n : Int), vs = [.int c, .int n] ∧ 0 ≤ n ∧ n ≤ 1000 ∧ ∀ p H', H p = none → Same H H' → H' p = some (.lst ((drawsF c n.toNat).map V.int)) → Q (.ref p) H'
theorem sc__law_draws : FnScope ["_law_cell_here", "_law_many", "_law_found", "_law_k"] ["_law_cell_here", "_law_many"] (defScope s__law_draws) := ⟨rfl, rfl, rfl, by decide +kernel, rfl, by decide +kernel, by decide +kernel⟩
theorem ok__law_draws (T : Txt K mg) : Fn P w K mg base CX0 1 "_law_draws" ["_law_cell_here", "_law_many"] (sp__law_draws K) := by
  refine Fn.of0 T.f__law_draws sc__law_draws (fun _ _ _ _ _ _ us hl => match us, hl with | [_, _], _ => rfl) (fun vs H Q E h => ?_) (fun f cdv A outer s H vs Q E hr h => ⟨_, (pss_cons (ps_set (i := 2) sc__law_draws.nd rfl (by first | exact Or.inl rfl | exact Or.inr rfl) (pe_lst pa_nil))
      (pss_cons (ps_for PassesOwn.never rfl (pi_range1 (by rfl) T.b_range (pa_cons (pv 1) pa_nil)) (pg_name (i := 3) sc__law_draws.nd rfl (by first | exact Or.inl rfl | exact Or.inr rfl)) (pss_cons (ps_set (i := 0) sc__law_draws.nd rfl (by first | exact Or.inl rfl | exact Or.inr rfl) (pe_op op_mod (pe_op op_add (pe_op op_mul (pv 0) pe_int) pe_int) pe_int))
      (pss_one (ps_expr (z_bm K PySem.F.plainAttrs_list PySem.F.slot_list_append PySem.F.type_list_append mt_append (pv 2) (pa_cons (pe_op op_fdiv (pv 0) pe_int) pa_nil))))))
      (pss_one (ps_ret (pv 2))))), ?_⟩)
  · (first | (obtain ⟨rfl, _⟩ := h; rfl) | (obtain ⟨_, rfl, _⟩ := h; rfl) | (obtain ⟨_, _, rfl, _⟩ := h; rfl) | (obtain ⟨_, _, _, rfl, _⟩ := h; rfl) | (obtain ⟨_, _, _, _, rfl, _⟩ := h; rfl) | (obtain ⟨_, _, _, _, _, rfl, _⟩ := h; rfl) | (obtain ⟨_, _, _, _, _, _, rfl, _⟩ := h; rfl) | (obtain ⟨_, _, _, _, _, _, _, rfl, _⟩ := h; rfl) | (obtain ⟨_, _, _, _, _, _, _, _, rfl, _⟩ := h; rfl) | (obtain ⟨_, _, _, _, _, _, _, _, _, rfl, _⟩ := h; rfl) | (obtain ⟨_, _, _, _, _, _, _, _, _, _, rfl, _⟩ := h; rfl) | (obtain ⟨_, _, _, _, _, _, _, _, _, _, _, rfl, _⟩ := h; rfl) | (obtain ⟨_, _, _, _, _, _, _, _, _, _, _, _, rfl, _⟩ := h; rfl) | (obtain ⟨_, _, _, _, _, _, _, _, _, _, _, _, _, rfl, _⟩ := h; rfl))
  · obtain ⟨c, n, rfl, h0, h1, q⟩ := h
    fail "zst"
    refine k_newL fun p H1 np s1 hp => ?_
    fail "zst"
    refine forR (fun i σ H2 => ∃ v, σ = [some (.int (drawsF.seedF c i)), some (.int n), some (.ref p), v] ∧ Same H H2 ∧ H2 p = some (.lst ((drawsF c i).map V.int))) ⟨none, rfl, s1, hp⟩ ?_ ?_
    · rintro i σ H2 hi ⟨v, rfl, s2, h2⟩
      fail "zst"
      refine k_append h2 (by rw [List.length_map, drawsF_len]; omega) ?_
      fail "zst"
      refine ⟨_, rfl, same_mut s2 np, ?_⟩
      rw [upd_same, drawsF, List.map_append]
      rfl
    · rintro σ H2 ⟨v, rfl, s2, h2⟩
      fail "zst"
      exact q p H2 np s2 h2
/-! ### worth -/
def worthF (ns gs : List Int) : Int := (gs.map (ix ns)).sum
/-- the goods of a heap are there -/
def Goods (gs : List Int) (n : Nat) : Prop := ∀ g, g ∈ gs → 0 ≤ g ∧ g < (n : Int)
theorem ix_mem {gs : List Int} {i : Nat} (h : i < gs.length) : ix gs (i : Int) ∈ gs := by
  rw [ix_nat, List.getD_eq_getElem?_getD, List.getElem?_eq_getElem h]
  exact List.getElem_mem h
theorem take_succ_ix {gs : List Int} {i : Nat} (h : i < gs.length) : gs.take (i + 1) = gs.take i ++ [ix gs (i : Int)] := by
  rw [List.take_succ, ix_nat, List.getD_eq_getElem?_getD, List.getElem?_eq_getElem h]
  rfl
theorem worthF_succ {ns gs : List Int} {i : Nat} (h : i < gs.length) : worthF ns (gs.take (i + 1)) = worthF ns (gs.take i) + ix ns (ix gs (i : Int)) := by
  unfold worthF
  rw [take_succ_ix h, List.map_append, List.sum_append]
  simp
def sp_worth (K : PySem.W.Frag) : Sp := fun vs H Q _ => ∃ (a b : Addr) (ns gs : List Int), vs = [.ref a, .ref b] ∧ LI K H a ns ∧ LI K H b gs ∧ Goods gs ns.length ∧ gs.length ≤ 100000 ∧ ∀ H', Same H H' → Q (.int (worthF ns gs)) H'
theorem sc_worth : FnScope ["row", "heap", "good"] ["row", "heap"] (defScope s_worth) := ⟨rfl, rfl, rfl, by decide +kernel, rfl, by decide +kernel, by decide +kernel⟩
theorem ok_worth (T : Txt K mg) : Fn P w K mg base CX0 1 "worth" ["row", "heap"] (sp_worth K) := by
  refine Fn.of0 T.f_worth sc_worth (fun _ _ _ _ _ _ us hl => match us, hl with | [_, _], _ => rfl) (fun vs H Q E h => ?_) (fun f cdv A outer s H vs Q E hr h => ⟨_, (pss_one (ps_ret (pe_callB (z_sum K) (by rfl) T.b_sum PyProof.Rows.boot_sum (pa_cons (pe_lc (own := [("good", 2)]) (g := (gName 2)) rfl sc_worth.nd (z_piL K (pv 1)) (blkOk_by (own := [("good", 2)]) (N := ["row", "heap", "good"]) (sc := defScope s_worth) (by decide +kernel)) (fun _ _ _ _ _ => (pg_name (i := 2) sc_worth.nd rfl (by first | exact Or.inl rfl | exact Or.inr rfl))) (fun _ _ _ _ _ => pts_nil) (fun _ _ _ _ _ => (pe_ix (z_ixL K) (pv 0) (pv 2) (fun _ _ => rfl)))) pa_nil)))), ?_⟩)
  · (first | (obtain ⟨rfl, _⟩ := h; rfl) | (obtain ⟨_, rfl, _⟩ := h; rfl) | (obtain ⟨_, _, rfl, _⟩ := h; rfl) | (obtain ⟨_, _, _, rfl, _⟩ := h; rfl) | (obtain ⟨_, _, _, _, rfl, _⟩ := h; rfl) | (obtain ⟨_, _, _, _, _, rfl, _⟩ := h; rfl) | (obtain ⟨_, _, _, _, _, _, rfl, _⟩ := h; rfl) | (obtain ⟨_, _, _, _, _, _, _, rfl, _⟩ := h; rfl) | (obtain ⟨_, _, _, _, _, _, _, _, rfl, _⟩ := h; rfl) | (obtain ⟨_, _, _, _, _, _, _, _, _, rfl, _⟩ := h; rfl) | (obtain ⟨_, _, _, _, _, _, _, _, _, _, rfl, _⟩ := h; rfl) | (obtain ⟨_, _, _, _, _, _, _, _, _, _, _, rfl, _⟩ := h; rfl) | (obtain ⟨_, _, _, _, _, _, _, _, _, _, _, _, rfl, _⟩ := h; rfl) | (obtain ⟨_, _, _, _, _, _, _, _, _, _, _, _, _, rfl, _⟩ := h; rfl))
  · obtain ⟨a, b, ns, gs, rfl, hA, hB, hg, hl, q⟩ := h
    fail "zst"
    refine lcL (xs := gs.map V.int) (fun i ys _ => ys = ((gs.take i).map (ix ns)).map V.int) hB (by rw [List.length_map]; exact hl) (by rfl) ?_ ?_
    · intro i x ys D H' hi hy nD hD sm hI Q' q'
      rw [List.getElem?_map] at hi
      obtain ⟨g, hg', rfl⟩ := Option.map_eq_some_iff.mp hi
      have hm := hg g (List.mem_of_getElem? hg')
      fail "zst"
      refine q' _ _ (Same.refl _) ?_
      rw [hI, List.take_succ, hg']
      simp
    · intro ys D H' hy nD sm hD hI
      rw [List.length_map, List.take_length] at hI
      subst hI
      fail "zst"
      exact q _ sm
/-! ### _law_cell -/
def cellF (ns : List Int) (k : Int) : Int := if k < ns.length then ix ns k else if ns.length = 0 then k * 7919 else (ix ns (k * 7 % ns.length) * 48271 + k * 7919) % 2147483647
def sp__law_cell (K : PySem.W.Frag) : Sp := fun vs H Q _ => ∃ (a : Addr) (ns : List Int) (k : Int), vs = [.ref a, .int k] ∧ LI K H a ns ∧ 0 ≤ k ∧ k ≤ 1000000 ∧ Q (.int (cellF ns k)) H
theorem sc__law_cell : FnScope ["_law_script", "_law_k"] ["_law_script", "_law_k"] (defScope s__law_cell) := ⟨rfl, rfl, rfl, by decide +kernel, rfl, by decide +kernel, by decide +kernel⟩
theorem ok__law_cell (T : Txt K mg) : Fn P w K mg base CX0 1 "_law_cell" ["_law_script", "_law_k"] (sp__law_cell K) := by
  refine Fn.of0 T.f__law_cell sc__law_cell (fun _ _ _ _ _ _ us hl => match us, hl with | [_, _], _ => rfl) (fun vs H Q E h => ?_) (fun f cdv A outer s H vs Q E hr h => ⟨_, (pss_cons (ps_if (pt_cmpR op_lt (pv 1) (pe_callB (z_len K) (by rfl) T.b_len PySem.boot_len (pa_cons (pv 0) pa_nil)) (nomark _)) (pss_one (ps_ret (pe_ix (z_ixL K) (pv 0) (pv 1) (fun _ _ => rfl)))) pss_nil)
      (pss_cons (ps_if (pt_cmpR op_eq (pe_callB (z_len K) (by rfl) T.b_len PySem.boot_len (pa_cons (pv 0) pa_nil)) pe_int (nomark _)) (pss_one (ps_ret (pe_op op_mul (pv 1) pe_int))) pss_nil)
      (pss_one (ps_ret (pe_op op_mod (pe_op op_add (pe_op op_mul (pe_ix (z_ixL K) (pv 0) (pe_op op_mod (pe_op op_mul (pv 1) pe_int) (pe_callB (z_len K) (by rfl) T.b_len PySem.boot_len (pa_cons (pv 0) pa_nil))) (fun _ _ => rfl)) pe_int) (pe_op op_mul (pv 1) pe_int)) pe_int))))), ?_⟩)
  · (first | (obtain ⟨rfl, _⟩ := h; rfl) | (obtain ⟨_, rfl, _⟩ := h; rfl) | (obtain ⟨_, _, rfl, _⟩ := h; rfl) | (obtain ⟨_, _, _, rfl, _⟩ := h; rfl) | (obtain ⟨_, _, _, _, rfl, _⟩ := h; rfl) | (obtain ⟨_, _, _, _, _, rfl, _⟩ := h; rfl) | (obtain ⟨_, _, _, _, _, _, rfl, _⟩ := h; rfl) | (obtain ⟨_, _, _, _, _, _, _, rfl, _⟩ := h; rfl) | (obtain ⟨_, _, _, _, _, _, _, _, rfl, _⟩ := h; rfl) | (obtain ⟨_, _, _, _, _, _, _, _, _, rfl, _⟩ := h; rfl) | (obtain ⟨_, _, _, _, _, _, _, _, _, _, rfl, _⟩ := h; rfl) | (obtain ⟨_, _, _, _, _, _, _, _, _, _, _, rfl, _⟩ := h; rfl) | (obtain ⟨_, _, _, _, _, _, _, _, _, _, _, _, rfl, _⟩ := h; rfl) | (obtain ⟨_, _, _, _, _, _, _, _, _, _, _, _, _, rfl, _⟩ := h; rfl))
  · obtain ⟨a, ns, k, rfl, hA, h0, h1, q⟩ := h
    fail "zst"
    refine k_dec (fun c => ?_) (fun c => ?_)
    · fail "zst"
      unfold cellF at q
      rw [if_pos c] at q
      exact q
    · unfold cellF at q
      rw [if_neg c] at q
      fail "zst"
      refine k_dec (fun d => ?_) (fun d => ?_)
      · rw [if_pos (by omega)] at q
        fail "zst"
        exact q
      · rw [if_neg (by omega)] at q
        have e1 := Int.emod_nonneg (k * 7) (b := (ns.length : Int)) (by omega)
        have e2 := Int.emod_lt_of_pos (k * 7) (b := (ns.length : Int)) (by omega)
        fail "zst"
        exact q
/-! ### _law_bid -/
def bidF (c k : Int) : Int := if k = 0 then c % 3 else if k = 1 then c % 100 else if k = 2 then c % 1000000000001 else 1000000000000 - c % 3 * (c / 3 % 2 * 499999999999 + 1)
theorem bidF_ok (c k : Int) : 0 ≤ bidF c k ∧ bidF c k ≤ 1000000000000 := by
  unfold bidF
  have a1 : 0 ≤ c % 3 ∧ c % 3 < 3 := ⟨Int.emod_nonneg _ (by decide), Int.emod_lt_of_pos _ (by decide)⟩
  have a2 : 0 ≤ c / 3 % 2 ∧ c / 3 % 2 < 2 := ⟨Int.emod_nonneg _ (by decide), Int.emod_lt_of_pos _ (by decide)⟩
  split
  · omega
  · split
    · omega
    · split
      · omega
      · rcases (show c / 3 % 2 = 0 ∨ c / 3 % 2 = 1 by omega) with e | e
        · rw [e]; omega
        · rw [e]
          omega
def sp__law_bid (K : PySem.W.Frag) : Sp := fun vs H Q _ => ∃ (c k : Int), vs = [.int c, .int k] ∧ Q (.int (bidF c k)) H
theorem sc__law_bid : FnScope ["_law_cell_here", "_law_kind"] ["_law_cell_here", "_law_kind"] (defScope s__law_bid) := ⟨rfl, rfl, rfl, by decide +kernel, rfl, by decide +kernel, by decide +kernel⟩
theorem ok__law_bid (T : Txt K mg) : Fn P w K mg base CX0 1 "_law_bid" ["_law_cell_here", "_law_kind"] (sp__law_bid K) := by
  refine Fn.of0 T.f__law_bid sc__law_bid (fun _ _ _ _ _ _ us hl => match us, hl with | [_, _], _ => rfl) (fun vs H Q E h => ?_) (fun f cdv A outer s H vs Q E hr h => ⟨_, (pss_cons (ps_if (pt_cmpR op_eq (pv 1) pe_int (nomark _)) (pss_one (ps_ret (pe_op op_mod (pv 0) pe_int))) pss_nil)
      (pss_cons (ps_if (pt_cmpR op_eq (pv 1) pe_int (nomark _)) (pss_one (ps_ret (pe_op op_mod (pv 0) pe_int))) pss_nil)
      (pss_cons (ps_if (pt_cmpR op_eq (pv 1) pe_int (nomark _)) (pss_one (ps_ret (pe_op op_mod (pv 0) pe_int))) pss_nil)
      (pss_one (ps_ret (pe_op op_sub pe_int (pe_op op_mul (pe_op op_mod (pv 0) pe_int) (pe_op op_add (pe_op op_mul (pe_op op_mod (pe_op op_fdiv (pv 0) pe_int) pe_int) pe_int) pe_int)))))))), ?_⟩)
  · (first | (obtain ⟨rfl, _⟩ := h; rfl) | (obtain ⟨_, rfl, _⟩ := h; rfl) | (obtain ⟨_, _, rfl, _⟩ := h; rfl) | (obtain ⟨_, _, _, rfl, _⟩ := h; rfl) | (obtain ⟨_, _, _, _, rfl, _⟩ := h; rfl) | (obtain ⟨_, _, _, _, _, rfl, _⟩ := h; rfl) | (obtain ⟨_, _, _, _, _, _, rfl, _⟩ := h; rfl) | (obtain ⟨_, _, _, _, _, _, _, rfl, _⟩ := h; rfl) | (obtain ⟨_, _, _, _, _, _, _, _, rfl, _⟩ := h; rfl) | (obtain ⟨_, _, _, _, _, _, _, _, _, rfl, _⟩ := h; rfl) | (obtain ⟨_, _, _, _, _, _, _, _, _, _, rfl, _⟩ := h; rfl) | (obtain ⟨_, _, _, _, _, _, _, _, _, _, _, rfl, _⟩ := h; rfl) | (obtain ⟨_, _, _, _, _, _, _, _, _, _, _, _, rfl, _⟩ := h; rfl) | (obtain ⟨_, _, _, _, _, _, _, _, _, _, _, _, _, rfl, _⟩ := h; rfl))
  · obtain ⟨c, k, rfl, q⟩ := h
    unfold bidF at q
    fail "zst"
    refine k_dec (fun d => ?_) (fun d => ?_)
    · rw [if_pos d] at q
      fail "zst"
      exact q
    · rw [if_neg d] at q
      fail "zst"
      refine k_dec (fun d => ?_) (fun d => ?_)
      · rw [if_pos d] at q
        fail "zst"
        exact q
      · rw [if_neg d] at q
        fail "zst"
        refine k_dec (fun d => ?_) (fun d => ?_)
        · rw [if_pos d] at q
          fail "zst"
          exact q
        · rw [if_neg d] at q
          fail "zst"
          exact q
/-! ### _law_whole -/
/-- of a whole number -/
def sp__law_whole (K : PySem.W.Frag) : Sp := fun vs H Q _ => ∃ (i : Int), vs = [.int i] ∧ Q (.bl true) H
theorem sc__law_whole : FnScope ["_law_found"] ["_law_found"] (defScope s__law_whole) := ⟨rfl, rfl, rfl, by decide +kernel, rfl, by decide +kernel, by decide +kernel⟩
theorem ok__law_whole (T : Txt K mg) : Fn P w K mg base CX0 1 "_law_whole" ["_law_found"] (sp__law_whole K) := by
  refine Fn.of0 T.f__law_whole sc__law_whole (fun _ _ _ _ _ _ us hl => match us, hl with | [_], _ => rfl) (fun vs H Q E h => ?_) (fun f cdv A outer s H vs Q E hr h => ⟨_, (pss_one (ps_ret (pe_and (pe_callB (z_isi K) (by rfl) T.b_isinstance PyProof.Rows.boot_isinstance (pa_cons (pv 0) (pa_cons (pe_bltn (v := .ty "int") (by rfl) T.b_int PyProof.Rows.boot_int rfl) pa_nil))) (pe_one (pe_not (pe_callB (z_isi K) (by rfl) T.b_isinstance PyProof.Rows.boot_isinstance (pa_cons (pv 0) (pa_cons (pe_bltn (v := .ty "bool") (by rfl) T.b_bool PyProof.Rows.boot_bool rfl) pa_nil)))))))), ?_⟩)
  · (first | (obtain ⟨rfl, _⟩ := h; rfl) | (obtain ⟨_, rfl, _⟩ := h; rfl) | (obtain ⟨_, _, rfl, _⟩ := h; rfl) | (obtain ⟨_, _, _, rfl, _⟩ := h; rfl) | (obtain ⟨_, _, _, _, rfl, _⟩ := h; rfl) | (obtain ⟨_, _, _, _, _, rfl, _⟩ := h; rfl) | (obtain ⟨_, _, _, _, _, _, rfl, _⟩ := h; rfl) | (obtain ⟨_, _, _, _, _, _, _, rfl, _⟩ := h; rfl) | (obtain ⟨_, _, _, _, _, _, _, _, rfl, _⟩ := h; rfl) | (obtain ⟨_, _, _, _, _, _, _, _, _, rfl, _⟩ := h; rfl) | (obtain ⟨_, _, _, _, _, _, _, _, _, _, rfl, _⟩ := h; rfl) | (obtain ⟨_, _, _, _, _, _, _, _, _, _, _, rfl, _⟩ := h; rfl) | (obtain ⟨_, _, _, _, _, _, _, _, _, _, _, _, rfl, _⟩ := h; rfl) | (obtain ⟨_, _, _, _, _, _, _, _, _, _, _, _, _, rfl, _⟩ := h; rfl))
  · obtain ⟨i, rfl, q⟩ := h
    fail "zst"
    exact q
/-! ### _law_worth -/
def sp__law_worth (K : PySem.W.Frag) : Sp := fun vs H Q _ => ∃ (a b : Addr) (ns gs : List Int), vs = [.ref a, .ref b] ∧ LI K H a ns ∧ LI K H b gs ∧ Goods gs ns.length ∧ Q (.int (worthF ns gs)) H
theorem sc__law_worth : FnScope ["_law_row", "_law_heap", "_law_total", "_law_good"] ["_law_row", "_law_heap"] (defScope s__law_worth) := ⟨rfl, rfl, rfl, by decide +kernel, rfl, by decide +kernel, by decide +kernel⟩
theorem ok__law_worth (T : Txt K mg) : Fn P w K mg base CX0 1 "_law_worth" ["_law_row", "_law_heap"] (sp__law_worth K) := by
  refine Fn.of0 T.f__law_worth sc__law_worth (fun _ _ _ _ _ _ us hl => match us, hl with | [_, _], _ => rfl) (fun vs H Q E h => ?_) (fun f cdv A outer s H vs Q E hr h => ⟨_, (pss_cons (ps_set (i := 2) sc__law_worth.nd rfl (by first | exact Or.inl rfl | exact Or.inr rfl) pe_int)
      (pss_cons (ps_for PassesOwn.never rfl (z_piL K (pv 1)) (pg_name (i := 3) sc__law_worth.nd rfl (by first | exact Or.inl rfl | exact Or.inr rfl)) (pss_one (ps_set (i := 2) sc__law_worth.nd rfl (by first | exact Or.inl rfl | exact Or.inr rfl) (pe_op op_add (pv 2) (pe_ix (z_ixL K) (pv 0) (pv 3) (fun _ _ => rfl))))))
      (pss_one (ps_ret (pv 2))))), ?_⟩)
  · (first | (obtain ⟨rfl, _⟩ := h; rfl) | (obtain ⟨_, rfl, _⟩ := h; rfl) | (obtain ⟨_, _, rfl, _⟩ := h; rfl) | (obtain ⟨_, _, _, rfl, _⟩ := h; rfl) | (obtain ⟨_, _, _, _, rfl, _⟩ := h; rfl) | (obtain ⟨_, _, _, _, _, rfl, _⟩ := h; rfl) | (obtain ⟨_, _, _, _, _, _, rfl, _⟩ := h; rfl) | (obtain ⟨_, _, _, _, _, _, _, rfl, _⟩ := h; rfl) | (obtain ⟨_, _, _, _, _, _, _, _, rfl, _⟩ := h; rfl) | (obtain ⟨_, _, _, _, _, _, _, _, _, rfl, _⟩ := h; rfl) | (obtain ⟨_, _, _, _, _, _, _, _, _, _, rfl, _⟩ := h; rfl) | (obtain ⟨_, _, _, _, _, _, _, _, _, _, _, rfl, _⟩ := h; rfl) | (obtain ⟨_, _, _, _, _, _, _, _, _, _, _, _, rfl, _⟩ := h; rfl) | (obtain ⟨_, _, _, _, _, _, _, _, _, _, _, _, _, rfl, _⟩ := h; rfl))
  · obtain ⟨a, b, ns, gs, rfl, hA, hB, hg, q⟩ := h
    fail "zst"
    refine forI (ns := gs) (fun i σ H2 => ∃ v, σ = [some (.ref a), some (.ref b), some (.int (worthF ns (gs.take i))), v] ∧ H2 = H) ⟨none, rfl, rfl⟩ (fun i σ H2 _ ⟨_, _, e⟩ => by rw [e]; exact hB) ?_ ?_
    · rintro i σ H2 hi ⟨v, rfl, rfl⟩
      have hm := hg _ (ix_mem hi)
      fail "zst"
      exact ⟨some (.int (ix gs (i : Int))), by rw [worthF_succ hi]; rfl, rfl⟩
    · rintro σ H2 ⟨v, rfl, rfl⟩
      rw [List.take_length]
      fail "zst"
      exact q
/-! ### law -/
theorem cut_mem {ns : List Int} {lo hi : Option Int} {v : V} (h : v ∈ cutV (ns.map V.int) lo hi) : ∃ g ∈ ns, v = V.int g := by
  unfold cutV at h
  obtain ⟨g, hg, e⟩ := List.mem_map.mp (List.mem_of_mem_drop (List.mem_of_mem_take h))
  exact ⟨g, hg, e.symm⟩
/-- a list of values that are numbers from gs -/
theorem ints_from {gs : List Int} : ∀ {vs : List V}, (∀ v ∈ vs, ∃ g ∈ gs, v = V.int g) → ∃ hs : List Int, vs = hs.map V.int ∧ ∀ h ∈ hs, h ∈ gs
  | [], _ => ⟨[], rfl, fun _ h => nomatch h⟩
  | v :: r, h => by
    obtain ⟨g, hg, rfl⟩ := h v List.mem_cons_self
    obtain ⟨hs, e, hh⟩ := ints_from (vs := r) fun u hu => h u (List.mem_cons_of_mem _ hu)
    refine ⟨g :: hs, by rw [e]; rfl, fun x hx => ?_⟩
    rcases List.mem_cons.mp hx with rfl | hx
    · exact hg
    · exact hh x hx
theorem sc_law : FnScope ["_law_script", "_law_goods", "_law_kind", "_law_row", "_law_draws_here", "_law_heap", "_law_handed", "_law_found", "_law_j"] ["_law_script"] (defScope s_law) := ⟨rfl, rfl, rfl, by decide +kernel, rfl, by decide +kernel, by decide +kernel⟩
theorem okL (T : Txt K mg) {f : Addr} {fd : FuncData} (F : Fun K "law" "law" s_law f fd) : FnOk P w K mg base CX0 2 f fd ["_law_script"] (spLaw K) := by
  refine F.ok sc_law (fun vs H Q E h => ?_) (fun cdv A outer s H vs Q E hr h => ⟨_, (pss_cons (ps_set (i := 1) sc_law.nd rfl (by first | exact Or.inl rfl | exact Or.inr rfl) (pe_op op_mod (pe_fn (ok__law_cell (K := K) T) (hr.mono (by decide)) pass0 (pa_cons (pv 0) (pa_cons pe_int pa_nil))) pe_int))
      (pss_cons (ps_set (i := 2) sc_law.nd rfl (by first | exact Or.inl rfl | exact Or.inr rfl) (pe_op op_mod (pe_fn (ok__law_cell (K := K) T) (hr.mono (by decide)) pass0 (pa_cons (pv 0) (pa_cons pe_int pa_nil))) pe_int))
      (pss_cons (ps_setLc (i := 3) (own := [("_law_j", 8)]) (g := (gName 8)) rfl sc_law.nd rfl rfl (sw_true rfl rfl rfl (by decide +kernel)) (pi_range1 (by rfl) T.b_range (pa_cons (pv 1) pa_nil)) (blkOk_by (own := [("_law_j", 8)]) (N := ["_law_script", "_law_goods", "_law_kind", "_law_row", "_law_draws_here", "_law_heap", "_law_handed", "_law_found", "_law_j"]) (sc := defScope s_law) (by decide +kernel)) (fun _ _ _ _ _ => (pg_name (i := 8) sc_law.nd rfl (by first | exact Or.inl rfl | exact Or.inr rfl))) (fun _ _ _ _ _ => pts_nil) (fun _ _ _ _ _ => (pe_fn (ok__law_bid (K := K) T) (hr.mono (by decide)) pass0 (pa_cons (pe_fn (ok__law_cell (K := K) T) (hr.mono (by decide)) pass0 (pa_cons (pv 0) (pa_cons (pe_op op_add pe_int (pv 8)) pa_nil))) (pa_cons (pv 2) pa_nil)))))
      (pss_cons (ps_set (i := 4) sc_law.nd rfl (by first | exact Or.inl rfl | exact Or.inr rfl) (pe_fn (ok__law_draws (K := K) T) (hr.mono (by decide)) pass0 (pa_cons (pe_fn (ok__law_cell (K := K) T) (hr.mono (by decide)) pass0 (pa_cons (pv 0) (pa_cons pe_int pa_nil))) (pa_cons (pv 1) pa_nil))))
      (pss_cons (ps_setLc (i := 5) (own := [("_law_j", 8)]) (g := (gName 8)) rfl sc_law.nd rfl rfl (sw_true rfl rfl rfl (by decide +kernel)) (pi_range1 (by rfl) T.b_range (pa_cons (pv 1) pa_nil)) (blkOk_by (own := [("_law_j", 8)]) (N := ["_law_script", "_law_goods", "_law_kind", "_law_row", "_law_draws_here", "_law_heap", "_law_handed", "_law_found", "_law_j"]) (sc := defScope s_law) (by decide +kernel)) (fun _ _ _ _ _ => (pg_name (i := 8) sc_law.nd rfl (by first | exact Or.inl rfl | exact Or.inr rfl))) (fun _ _ _ _ _ => (pts_one (pt_cmpR op_lt (pe_op op_mod (pe_ix (z_ixL K) (pv 4) (pv 8) (fun _ _ => rfl)) pe_int) pe_int (nomark _)))) (fun _ _ _ _ _ => (pv 8)))
      (Evl.pss_cut (ps_if (pt_cmpR op_eq (pe_op op_mod (pe_fn (ok__law_cell (K := K) T) (hr.mono (by decide)) pass0 (pa_cons (pv 0) (pa_cons pe_int pa_nil))) pe_int) pe_int (nomark _)) (pss_one (ps_setLc (i := 5) (own := [("_law_j", 8)]) (g := (gName 8)) rfl sc_law.nd rfl rfl (sw_true rfl rfl rfl (by decide +kernel)) (z_piL K (pv 5)) (blkOk_by (own := [("_law_j", 8)]) (N := ["_law_script", "_law_goods", "_law_kind", "_law_row", "_law_draws_here", "_law_heap", "_law_handed", "_law_found", "_law_j"]) (sc := defScope s_law) (by decide +kernel)) (fun _ _ _ _ _ => (pg_name (i := 8) sc_law.nd rfl (by first | exact Or.inl rfl | exact Or.inr rfl))) (fun _ _ _ _ _ => pts_nil) (fun _ _ _ _ _ => (pe_op op_sub (pe_op op_sub (pv 1) pe_int) (pv 8))))) pss_nil)
      (Evl.pss_cut (ps_if (pt_cmpR op_eq (pe_op op_mod (pe_op op_fdiv (pe_fn (ok__law_cell (K := K) T) (hr.mono (by decide)) pass0 (pa_cons (pv 0) (pa_cons pe_int pa_nil))) pe_int) pe_int) pe_int (nomark _)) (pss_one (ps_set (i := 5) sc_law.nd rfl (by first | exact Or.inl rfl | exact Or.inr rfl) (pe_op op_cat (pv 5) (pe_op op_rep (pe_slice (z_slL K) (pv 5) (po_some pe_int) (po_some pe_int)) (pe_op op_mod (pe_op op_fdiv (pe_fn (ok__law_cell (K := K) T) (hr.mono (by decide)) pass0 (pa_cons (pv 0) (pa_cons pe_int pa_nil))) pe_int) pe_int))))) pss_nil)
      (pss_cons (ps_set (i := 6) sc_law.nd rfl (by first | exact Or.inl rfl | exact Or.inr rfl) (pe_lst (pa_cons (pe_callTy (z_list K) (by rfl) T.b_list PyProof.Rows.boot_list (pa_cons (pv 3) pa_nil)) (pa_cons (pe_callTy (z_list K) (by rfl) T.b_list PyProof.Rows.boot_list (pa_cons (pv 5) pa_nil)) pa_nil))))
      (pss_cons (ps_set (i := 7) sc_law.nd rfl (by first | exact Or.inl rfl | exact Or.inr rfl) (pe_fn (ok_worth (K := K) T) (hr.mono (by decide)) pass0 (pa_cons (pe_ix (z_ixL K) (pv 6) pe_int (fun _ _ => rfl)) (pa_cons (pe_ix (z_ixL K) (pv 6) pe_int (fun _ _ => rfl)) pa_nil))))
      (pss_cons (ps_if (PW.pt (pw_or (pt_cmpR (z_neD K hr.units) (pe_ix (z_ixL K) (pv 6) pe_int (fun _ _ => rfl)) (pv 3) (nomark _)) (pw_or1 (pt_cmpR (z_neD K hr.units) (pe_ix (z_ixL K) (pv 6) pe_int (fun _ _ => rfl)) (pv 5) (nomark _))))) (pss_one (ps_ret pe_bl)) pss_nil)
      (pss_one (ps_ret (pe_and (pe_fn (ok__law_whole (K := K) T) (hr.mono (by decide)) pass0 (pa_cons (pv 7) pa_nil)) (pe_one (pe_cmpR op_eq (pv 7) (pe_fn (ok__law_worth (K := K) T) (hr.mono (by decide)) pass0 (pa_cons (pv 3) (pa_cons (pv 5) pa_nil))) (nomark _)))))))))))))))), ?_⟩)
  · (first | (obtain ⟨rfl, _⟩ := h; rfl) | (obtain ⟨_, rfl, _⟩ := h; rfl) | (obtain ⟨_, _, rfl, _⟩ := h; rfl) | (obtain ⟨_, _, _, rfl, _⟩ := h; rfl) | (obtain ⟨_, _, _, _, rfl, _⟩ := h; rfl) | (obtain ⟨_, _, _, _, _, rfl, _⟩ := h; rfl) | (obtain ⟨_, _, _, _, _, _, rfl, _⟩ := h; rfl) | (obtain ⟨_, _, _, _, _, _, _, rfl, _⟩ := h; rfl) | (obtain ⟨_, _, _, _, _, _, _, _, rfl, _⟩ := h; rfl) | (obtain ⟨_, _, _, _, _, _, _, _, _, rfl, _⟩ := h; rfl) | (obtain ⟨_, _, _, _, _, _, _, _, _, _, rfl, _⟩ := h; rfl) | (obtain ⟨_, _, _, _, _, _, _, _, _, _, _, rfl, _⟩ := h; rfl) | (obtain ⟨_, _, _, _, _, _, _, _, _, _, _, _, rfl, _⟩ := h; rfl) | (obtain ⟨_, _, _, _, _, _, _, _, _, _, _, _, _, rfl, _⟩ := h; rfl))
  · obtain ⟨a, ns, rfl, hA, hl, q⟩ := h
    fail "zst"
    refine ⟨a, ns, 0, rfl, hA, by decide, by decide, ?_⟩
    have g1 : 0 ≤ cellF ns 0 % 41 ∧ cellF ns 0 % 41 < 41 := ⟨Int.emod_nonneg _ (by decide), Int.emod_lt_of_pos _ (by decide)⟩
    fail "zst"
    generalize hgo : cellF ns 0 % 41 = go at g1
    refine ⟨a, ns, 1, rfl, hA, by decide, by decide, ?_⟩
    fail "zst"
    generalize cellF ns 1 % 4 = kind
    -- the row
    refine lcRI (fun j => bidF (cellF ns (4 + (j : Int))) kind) (by omega) (fun i D H' hi nD sm Q' q' => ?_) fun D H1 nD s1 hD => ?_
    · fail "zst"
      refine ⟨a, ns, 4 + (i : Int), rfl, LI.mono sm hA, by omega, by omega, ?_⟩
      fail "zst"
      refine ⟨_, _, rfl, ?_⟩
      exact q' _ (Same.refl _)
    generalize hrow : (List.range go.toNat).map (fun j : Nat => bidF (cellF ns (4 + (j : Int))) kind) = row at hD
    have lrow : row.length = go.toNat := by rw [← hrow, List.length_map, List.length_range]
    fail "zst"
    refine ⟨a, ns, 3, rfl, LI.mono s1 hA, by decide, by decide, ?_⟩
    fail "zst"
    refine ⟨_, _, rfl, g1.1, by omega, fun p H2 np s2 hp => ?_⟩
    have ldr := drawsF_len (cellF ns 3) go.toNat
    generalize drawsF (cellF ns 3) go.toNat = dr at hp ldr
    fail "zst"
    -- the heap
    refine lcRF (fun j => decide (ix dr (j : Int) % 5 < 2)) (fun j => (j : Int)) (by omega) (fun i D H' hi nD sm Q' q' => ?_) (fun i D H' hi nD sm Q' q' => ?_) fun e H3 ne s3 he => ?_
    · fail "zst"
      exact q' _ (Same.refl _)
    · fail "zst"
      exact q' _ (Same.refl _)
    have hg3 : ∃ hs : List Int, H3 e = some (.lst (hs.map V.int)) ∧ Goods hs row.length ∧ hs.length ≤ 40 := by
      refine ⟨_, he, fun g hg => ?_, ?_⟩
      · obtain ⟨j, hj, rfl⟩ := List.mem_map.mp hg
        have := List.mem_range.mp (List.mem_filter.mp hj).1
        omega
      · rw [List.length_map]
        have := List.length_filter_le (fun j : Nat => decide (ix dr (j : Int) % 5 < 2)) (List.range go.toNat)
        rw [List.length_range] at this
        omega
    clear he
    obtain ⟨hs, he, hgs, hhl⟩ := hg3
    fail "zst"
    -- turned about
    refine k_cut (fun σ H4 => ∃ (b : Addr) (gs : List Int), σ = [some (.ref a), some (.int go), some (.int kind), some (.ref D), some (.ref p), some (.ref b), none, none, none] ∧ Same H3 H4 ∧ H4 b = some (.lst (gs.map V.int)) ∧ Goods gs row.length ∧ gs.length ≤ 40) ?_ ?_
    · fail "zst"
      refine ⟨a, ns, 2, rfl, LI.mono s3 (LI.mono s2 (LI.mono s1 hA)), by decide, by decide, ?_⟩
      fail "zst"
      refine k_dec (fun c => ?_) (fun c => ?_)
      · fail "zst"
        refine lcLI (ns := hs) (fun x => go - 1 - x) (LI.of he) (by omega) (fun x D H' hx nD sm Q' q' => ?_) fun b H4 nb s4 hb => ?_
        · fail "zst"
          exact q' _ (Same.refl _)
        · fail "zst"
          refine ⟨b, _, rfl, s4, hb, fun g hg => ?_, by rw [List.length_map]; exact hhl⟩
          obtain ⟨x, hx, rfl⟩ := List.mem_map.mp hg
          have := hgs x hx
          omega
      · fail "zst"
        exact ⟨e, hs, rfl, Same.refl _, he, hgs, hhl⟩
    clear he hgs hhl
    rintro σ H4 ⟨b, gs, rfl, s4, hb, hgs, hgl⟩
    fail "zst"
    -- some of them oftener
    refine k_cut (fun σ H5 => ∃ (b : Addr) (gs : List Int), σ = [some (.ref a), some (.int go), some (.int kind), some (.ref D), some (.ref p), some (.ref b), none, none, none] ∧ Same H4 H5 ∧ H5 b = some (.lst (gs.map V.int)) ∧ Goods gs row.length ∧ gs.length ≤ 2000) ?_ ?_
    · fail "zst"
      refine ⟨a, ns, 2, rfl, LI.mono s4 (LI.mono s3 (LI.mono s2 (LI.mono s1 hA))), by decide, by decide, ?_⟩
      fail "zst"
      refine k_dec (fun c => ?_) (fun c => ?_)
      · fail "zst"
        refine k_slice (SqL.of hb) fun l H5 nl s5 hl5 => ?_
        fail "zst"
        refine ⟨a, ns, 2, rfl, LI.mono s5 (LI.mono s4 (LI.mono s3 (LI.mono s2 (LI.mono s1 hA)))), by decide, by decide, ?_⟩
        have g4 : 0 ≤ cellF ns 2 / 6 % 4 ∧ cellF ns 2 / 6 % 4 < 4 := ⟨Int.emod_nonneg _ (by decide), Int.emod_lt_of_pos _ (by decide)⟩
        generalize hk : cellF ns 2 / 6 % 4 = k at g4
        have cl := cutV_length (gs.map V.int) (some 1) (some 4)
        rw [List.length_map] at cl
        fail "zst"
        rw [hk]
        refine k_rep hl5 g4.1 (by omega) (by omega) fun m H6 nm s6 hm => ?_
        obtain ⟨us, eus, hus⟩ := ints_from (gs := gs) (vs := (List.replicate k.toNat (cutV (gs.map V.int) (some 1) (some 4))).flatten) (fun v hv => by
          obtain ⟨l, hl, hv⟩ := List.mem_flatten.mp hv
          rw [(List.mem_replicate.mp hl).2] at hv
          exact cut_mem hv)
        have ul : us.length ≤ 160 := by
          have e1 := congrArg List.length eus
          rw [List.length_map] at e1
          have : k.toNat * (cutV (gs.map V.int) (some 1) (some 4)).length ≤ 4 * 40 := Nat.mul_le_mul (by omega) (by omega)
          simp at e1
          omega
        rw [eus] at hm
        refine k_cat (s6 _ _ (s5 _ _ hb)) hm (by rw [List.length_map, List.length_map]; omega) fun r H7 nr s7 hr7 => ?_
        fail "zst"
        refine ⟨r, gs ++ us, rfl, (s5.trans s6).trans s7, by rw [List.map_append]; exact hr7, fun g hg => ?_, by rw [List.length_append]; omega⟩
        rcases List.mem_append.mp hg with hg | hg
        · exact hgs g hg
        · exact hgs g (hus g hg)
      · fail "zst"
        exact ⟨b, gs, rfl, Same.refl _, hb, hgs, by omega⟩
    clear hb hgs hgl
    rintro σ H5 ⟨b, gs, rfl, s5, hb, hgs, hgl⟩
    have hrow5 : LI K H5 D row := LI.mono s5 (LI.mono s4 (LI.mono s3 (LI.mono s2 (LI.of hD))))
    have hb5 : LI K H5 b gs := LI.of hb
    fail "zst"
    refine k_listL hrow5 fun l1 H6 n1 s6 hl1 => ?_
    fail "zst"
    refine k_listL (LI.mono s6 hb5) fun l2 H7 n2 s7 hl2 => ?_
    fail "zst"
    refine k_newL fun p2 H8 np2 s8 hp2 => ?_
    have w1 : LI K H8 l1 row := LI.of (s8 _ _ (s7 _ _ hl1))
    have w2 : LI K H8 l2 gs := LI.of (s8 _ _ hl2)
    have w3 : LI K H8 D row := LI.mono s8 (LI.mono s7 (LI.mono s6 hrow5))
    have w4 : LI K H8 b gs := LI.mono s8 (LI.mono s7 (LI.mono s6 hb5))
    fail "zst"
    refine ⟨l1, l2, row, gs, rfl, w1, w2, hgs, by omega, fun H9 s9 => ?_⟩
    fail "zst"
    refine ⟨_, rfl, ?_⟩
    fail "zst"
    refine ⟨D, b, row, gs, rfl, LI.mono s9 w3, LI.mono s9 w4, hgs, ?_⟩
    fail "zst"
    rw [decide_eq_true rfl]
    exact q _
end
end Fz
namespace Fz
open PySem PySem.Spec PyProof.Rows L2
theorem all_mk {P : Program} {w : World} {K : PySem.W.Frag} {h : Heap} {mg : Str → Option Value} {fa : Addr} (X : K.In h) (G : h.Ns mainGlobals mg) (hfa : mg "law" = some (.ref fa))
    {f1 : Addr} {od1 an1 : Option Addr} {sl1 : Array (Option Value)} {oc1 kV1 dc1 pm1 cd1 ct1 : Value}
    {f2 : Addr} {od2 an2 : Option Addr} {sl2 : Array (Option Value)} {oc2 kV2 dc2 pm2 cd2 ct2 : Value}
    {f3 : Addr} {od3 an3 : Option Addr} {sl3 : Array (Option Value)} {oc3 kV3 dc3 pm3 cd3 ct3 : Value}
    {f4 : Addr} {od4 an4 : Option Addr} {sl4 : Array (Option Value)} {oc4 kV4 dc4 pm4 cd4 ct4 : Value}
    {f5 : Addr} {od5 an5 : Option Addr} {sl5 : Array (Option Value)} {oc5 kV5 dc5 pm5 cd5 ct5 : Value}
    {f6 : Addr} {od6 an6 : Option Addr} {sl6 : Array (Option Value)} {oc6 kV6 dc6 pm6 cd6 ct6 : Value}
    {f7 : Addr} {od7 an7 : Option Addr} {sl7 : Array (Option Value)} {oc7 kV7 dc7 pm7 cd7 ct7 : Value}
    (a1 : PySem.W.nsIn K mainGlobals "_law_draws" = some (some (.ref f1)))
    (l1 : K.lookup f1 = some ⟨oc1, od1, .func (PySem.W.fnOf "_law_draws" "_law_draws" (defArgs s__law_draws) (defBody s__law_draws) (defScope s__law_draws) .none kV1 dc1 pm1 an1 cd1 ct1), sl1⟩)
    (c1 : PySem.W.codeIn K cd1 "_law_draws" = true)
    (k1 : PySem.W.keepIn K (.ref f1) = true)
    (a2 : PySem.W.nsIn K mainGlobals "worth" = some (some (.ref f2)))
    (l2 : K.lookup f2 = some ⟨oc2, od2, .func (PySem.W.fnOf "worth" "worth" (defArgs s_worth) (defBody s_worth) (defScope s_worth) .none kV2 dc2 pm2 an2 cd2 ct2), sl2⟩)
    (c2 : PySem.W.codeIn K cd2 "worth" = true)
    (k2 : PySem.W.keepIn K (.ref f2) = true)
    (a3 : PySem.W.nsIn K mainGlobals "_law_cell" = some (some (.ref f3)))
    (l3 : K.lookup f3 = some ⟨oc3, od3, .func (PySem.W.fnOf "_law_cell" "_law_cell" (defArgs s__law_cell) (defBody s__law_cell) (defScope s__law_cell) .none kV3 dc3 pm3 an3 cd3 ct3), sl3⟩)
    (c3 : PySem.W.codeIn K cd3 "_law_cell" = true)
    (k3 : PySem.W.keepIn K (.ref f3) = true)
    (a4 : PySem.W.nsIn K mainGlobals "_law_bid" = some (some (.ref f4)))
    (l4 : K.lookup f4 = some ⟨oc4, od4, .func (PySem.W.fnOf "_law_bid" "_law_bid" (defArgs s__law_bid) (defBody s__law_bid) (defScope s__law_bid) .none kV4 dc4 pm4 an4 cd4 ct4), sl4⟩)
    (c4 : PySem.W.codeIn K cd4 "_law_bid" = true)
    (k4 : PySem.W.keepIn K (.ref f4) = true)
    (a5 : PySem.W.nsIn K mainGlobals "_law_whole" = some (some (.ref f5)))
    (l5 : K.lookup f5 = some ⟨oc5, od5, .func (PySem.W.fnOf "_law_whole" "_law_whole" (defArgs s__law_whole) (defBody s__law_whole) (defScope s__law_whole) .none kV5 dc5 pm5 an5 cd5 ct5), sl5⟩)
    (c5 : PySem.W.codeIn K cd5 "_law_whole" = true)
    (k5 : PySem.W.keepIn K (.ref f5) = true)
    (a6 : PySem.W.nsIn K mainGlobals "_law_worth" = some (some (.ref f6)))
    (l6 : K.lookup f6 = some ⟨oc6, od6, .func (PySem.W.fnOf "_law_worth" "_law_worth" (defArgs s__law_worth) (defBody s__law_worth) (defScope s__law_worth) .none kV6 dc6 pm6 an6 cd6 ct6), sl6⟩)
    (c6 : PySem.W.codeIn K cd6 "_law_worth" = true)
    (k6 : PySem.W.keepIn K (.ref f6) = true)
    (a7 : PySem.W.nsIn K mainGlobals "law" = some (some (.ref f7)))
    (l7 : K.lookup f7 = some ⟨oc7, od7, .func (PySem.W.fnOf "law" "law" (defArgs s_law) (defBody s_law) (defScope s_law) .none kV7 dc7 pm7 an7 cd7 ct7), sl7⟩)
    (c7 : PySem.W.codeIn K cd7 "law" = true)
    (k7 : PySem.W.keepIn K (.ref f7) = true)
    (z_sum : PySem.W.nsIn K mainGlobals "sum" = some none)
    (z_range : PySem.W.nsIn K mainGlobals "range" = some none)
    (z_isinstance : PySem.W.nsIn K mainGlobals "isinstance" = some none)
    (z_int : PySem.W.nsIn K mainGlobals "int" = some none)
    (z_len : PySem.W.nsIn K mainGlobals "len" = some none)
    (z_list : PySem.W.nsIn K mainGlobals "list" = some none)
    (z_bool : PySem.W.nsIn K mainGlobals "bool" = some none) :
    ∃ fd : FuncData, (∀ (s : Shared) (v : Value), BindsTo s fd ⟨[v], []⟩ [("_law_script", v)]) ∧ ∀ base : Heap, K.In base → base.Ns mainGlobals mg → FnOk P w K mg base CX0 2 fa fd ["_law_script"] (spLaw K) := by
  have e := hfa.symm.trans (PySem.W.mg_of X G a7)
  cases e
  have T : Txt K mg := { f__law_draws := ⟨f1, _, fun_mk (st := s__law_draws) l1 c1 k1, PySem.W.mg_of X G a1⟩, f_worth := ⟨f2, _, fun_mk (st := s_worth) l2 c2 k2, PySem.W.mg_of X G a2⟩, f__law_cell := ⟨f3, _, fun_mk (st := s__law_cell) l3 c3 k3, PySem.W.mg_of X G a3⟩, f__law_bid := ⟨f4, _, fun_mk (st := s__law_bid) l4 c4 k4, PySem.W.mg_of X G a4⟩, f__law_whole := ⟨f5, _, fun_mk (st := s__law_whole) l5 c5 k5, PySem.W.mg_of X G a5⟩, f__law_worth := ⟨f6, _, fun_mk (st := s__law_worth) l6 c6 k6, PySem.W.mg_of X G a6⟩, f_law := ⟨fa, _, fun_mk (st := s_law) l7 c7 k7, hfa⟩, b_sum := PySem.W.mg_none_of X G z_sum, b_range := PySem.W.mg_none_of X G z_range, b_isinstance := PySem.W.mg_none_of X G z_isinstance, b_int := PySem.W.mg_none_of X G z_int, b_len := PySem.W.mg_none_of X G z_len, b_list := PySem.W.mg_none_of X G z_list, b_bool := PySem.W.mg_none_of X G z_bool }
  exact ⟨PySem.W.fnOf "law" "law" (defArgs s_law) (defBody s_law) (defScope s_law) .none kV7 dc7 pm7 an7 cd7 ct7, fun s v => .of_eq rfl, fun base _ _ => okL T (fun_mk (st := s_law) l7 c7 k7)⟩
end Fz
open PySem PySem.W PyProof.Rows
set_option maxHeartbeats 0 in
theorem PySem.Challenge.cw_fairsplit_k01_worth_of_a_heap_holds : PySem.Challenge.rw_fairsplit_k01_worth_of_a_heap.Holds := by
  w_on; o_law; k_head; (case hw => w_witness2)
  k_fill
  refine L2.walk_ofK (l := PySem.Challenge.rw_fairsplit_k01_worth_of_a_heap) (n := 63) (k := 2) (x := "_law_script") (CX := L2.CX0) (sp := Fz.spLaw) rfl (by decide) rfl ⟨rfl, by decide, by decide⟩ (fun w h Y => PySem.W.kIn_of Y) ?F (fun _ _ a ns hl _ hS => ⟨a, ns, rfl, hS, hl, fun _ => rfl⟩) (fun _ _ _ _ z => z)
  case F =>
    intro w mg fa h KX G hmg
    refine' Fz.all_mk KX G hmg ?a1 ?l1 ?c1 ?k1 ?a2 ?l2 ?c2 ?k2 ?a3 ?l3 ?c3 ?k3 ?a4 ?l4 ?c4 ?k4 ?a5 ?l5 ?c5 ?k5 ?a6 ?l6 ?c6 ?k6 ?a7 ?l7 ?c7 ?k7 ?z_sum ?z_range ?z_isinstance ?z_int ?z_len ?z_list ?z_bool
    (case a1 => k_is)
    (case l1 => k_is)
    (case c1 => k_is)
    (case k1 => k_is)
    (case a2 => k_is)
    (case l2 => k_is)
    (case c2 => k_is)
    (case k2 => k_is)
    (case a3 => k_is)
    (case l3 => k_is)
    (case c3 => k_is)
    (case k3 => k_is)
    (case a4 => k_is)
    (case l4 => k_is)
    (case c4 => k_is)
    (case k4 => k_is)
    (case a5 => k_is)
    (case l5 => k_is)
    (case c5 => k_is)
    (case k5 => k_is)
    (case a6 => k_is)
    (case l6 => k_is)
    (case c6 => k_is)
    (case k6 => k_is)
    (case a7 => k_is)
    (case l7 => k_is)
    (case c7 => k_is)
    (case k7 => k_is)
    (case z_sum => k_is)
    (case z_range => k_is)
    (case z_isinstance => k_is)
    (case z_int => k_is)
    (case z_len => k_is)
    (case z_list => k_is)
    (case z_bool => k_is)
