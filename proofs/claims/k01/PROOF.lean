import PyProof.Rows.All
import Wide.All
import OpenK.AllK
import Wide.FinOn
import KE.KStateDown
import Lean
import HandS.ForMost
import HandS.ForExc
import HandS.More
import HandS.Defaults
import HandS.CallSlots
import HandS.StrMore
import HandS.Steps
import HandS.Codes
import HandS.Iter
import HandS.IsInst
import HandS.FStr
import HandS.Wide
import HandS.Head0
import HandS.Head1
import HandS.Head2
import HandS.HeadEnd
import HandS.HeadHook1
import HandS.HeadHook2
import PySem.Challenge.RW_oneheap_k01_quoted_texts
set_option Elab.async false
set_option linter.all false
set_option maxRecDepth 100000
set_option maxHeartbeats 4000000
namespace G
open PySem PySem.Spec PyProof.Rows L2

/-! ### what a callee keeps, by its name -/
structure Cl (P : Program) (w : World) (K : PySem.W.Frag) (mg : Str → Option Value) (base : Heap) (k : Nat) (x : Str) (sp : Sp) (dvs : List V) : Prop where
  ex : ∃ (f : Addr) (fd : FuncData) (ps : List Str) (ds : List Value), FnOk P w K mg base (L2.CX P w) k f fd ps sp ∧ mg x = some (.ref f) ∧ PySem.W.keepIn K (.ref f) = true ∧ Binds K fd ps ds ∧ Vals dvs ds
structure Mt (P : Program) (w : World) (K : PySem.W.Frag) (mg : Str → Option Value) (base : Heap) (k : Nat) (C : Addr) (m : Str) (sp : Sp) (dvs : List V) : Prop where
  ex : ∃ (f : Addr) (fd : FuncData) (ps : List Str) (ds : List Value), Cls K C ∧ Meth K C m f ∧ FnOk P w K mg base (L2.CX P w) k f fd ps sp ∧ Binds K fd ps ds ∧ Vals dvs ds
structure Mq (P : Program) (w : World) (K : PySem.W.Frag) (mg : Str → Option Value) (base : Heap) (k : Nat) (x : Str) (C : Addr) (sp : Sp) (dvs : List V) : Prop where
  ex : ∃ (f : Addr) (fd : FuncData) (ps : List Str) (ds : List Value), Mk K C f ∧ FnOk P w K mg base (L2.CX P w) k f fd ps sp ∧ mg x = some (.ref C) ∧ Binds K fd ps ds ∧ Vals dvs ds
/-- a law's end, where its defs may raise -/
theorem walk_ofW {l : PySem.W.OpenLaw} {n k : Nat} {q : Program} {loose : List Str} {XP : (Str → Option Value) → Heap → Prop} {YP : World → Heap → Prop} {d : DefRec} {x : Str}
    (hn : l.most = some n) (hn2 : n ≤ sizeLine) (hdf : d.params.defaults = []) (hr : Room k callerA)
    (F : ∀ (w : World) (mg : Str → Option Value) (fa : Addr) (h : Heap), YP w h → h.Ns mainGlobals mg → mg d.name = some (.ref fa) →
      ∃ (K : PySem.W.Frag) (fd : FuncData) (sp : Sp), K.In h ∧ (∀ (s : Shared) (u : Value), BindsTo s fd ⟨[u], []⟩ [(x, u)]) ∧
        (∀ (H : Hp) (a : Addr) (ns : List Int), ns.length ≤ n → Only H → SqL K H a (ns.map V.int) → sp [.ref a] H (fun v _ => v = .bl true) fun _ _ _ => False) ∧
        ∀ base : Heap, FnOk l.prog w K mg base (L2.CX l.prog w) k fa fd [x] sp) :
    PySem.W.WalkO q loose XP YP l.row.toRowW d [] (fun f vs => PySem.call f vs) := by
  refine Att.attach_call hn hdf fun w s₀ s₁ mg mb fa o pm cd doc a vs ns G Y ho hd hcd hmg hobj hints hlen hg => ?_
  obtain ⟨K, fd, sp, KX, hb, hsp, hF⟩ := F w mg fa _ Y G.T.g hmg
  refine law_call (CX := L2.CX l.prog w) KX G.T.g G.T.b G.T.builtins G.T.nolimit hg hobj hints (Nat.le_trans hlen hn2) hr (fun base _ _ => hF base) hb (fun H hO hS => hsp H a ns hlen hO hS) fun H e s' c => ?_
  obtain ⟨_, _, _, _, _, _, _, _, _, _, _, _, z⟩ := c
  exact z.elim
/-- nothing is let out -/
def Ez : L2.St → XK := fun _ _ _ _ => False
section
variable {X : Cx} {k j : Nat} {C : Addr} {x m : Str} {sp : Sp} {dvs : List V} {p pos apos : Pos} {e o : Expr} {es : List Expr} {ta : TE} {t : TA} {E : L2.St → XK}
theorem pz {σ : L2.St} : PassesAt (L2.CX X.prog X.w) X σ (Ez σ) := fun _ _ _ _ _ _ h => by
  obtain ⟨_, _, _, _, _, _, _, _, _, _, _, _, z⟩ := h
  exact z.elim
theorem pe_cl (c : Cl X.prog X.w X.K X.mg X.base k x sp dvs) (hr : Room j X.A) (hk : k ≤ j) (hx : ∀ σ, PassesAt (L2.CX X.prog X.w) X σ (E σ)) (hg : Gl X x) (ha : PA X (e :: es) t)
    (hdb : (x == ("__debug__" : Str)) = false := by decide) (he : starEach (e :: es) X.env = (false, eval e X.env) :: starEach es X.env := by rfl) (hpl : (backTo pos (starEach es X.env)).any (·.1) = false := by rfl) :
    PE X (.Call (.Name x p) (e :: es) [] pos) (tCallSD sp dvs E t) := by
  obtain ⟨f, fd, ps, ds, F, hm, kp, b, d⟩ := c.ex
  exact pe_callSD F (hr.mono hk) hg hm kp b d hx ha hdb he hpl
theorem pe_mq (c : Mq X.prog X.w X.K X.mg X.base k x C sp dvs) (hr : Room j X.A) (hk : k + 1 ≤ j) (hg : Gl X x) (ha : PA X (e :: es) t)
    (hdb : (x == ("__debug__" : Str)) = false := by decide) (he : starEach (e :: es) X.env = (false, eval e X.env) :: starEach es X.env := by rfl) (hpl : (backTo pos (starEach es X.env)).any (·.1) = false := by rfl) :
    PE X (.Call (.Name x p) (e :: es) [] pos) (tMake C sp dvs E0 t) := by
  obtain ⟨f, fd, ps, ds, M, F, hm, b, d⟩ := c.ex
  exact pe_make M F (hr.mono hk) hg hm b d passL ha hdb he hpl
/-- a constant of the module -/
theorem pe_gc {v : V} (hg : Gl X x) (h : ∃ u, X.mg x = some u ∧ RelV v u) (hd : (x == ("__debug__" : Str)) = false := by decide) : PE X (.Name x pos) (tC v) := by
  obtain ⟨u, hm, r⟩ := h
  exact pe_glob hg hm r hd
end

/-! ### operators by the values' kinds -/
section
variable {X : Cx}
def MulS (z : Str) (n : Int) : Prop := z.length ≤ 1024 ∧ n ≤ 1024 ∧ -1024 ≤ n
def rMulS : R2 := fun x y H Q => ∃ z n, x = .str z ∧ y = .int n ∧ MulS z n ∧ Q (.str (Txt.mul z n)) H
theorem op_mulS : OpR X (binaryOp .Mult) rMulS := by
  intro pins s σ H x y v u Q I rx ry h
  obtain ⟨z, n, rfl, rfl, ⟨h1, h2, h3⟩, q⟩ := h
  obtain ⟨t, rfl⟩ := rx
  obtain ⟨t', rfl⟩ := ry
  exact SB.mul (mulOk_of 1024 1024 h1 h2 (by omega) (by decide) (by decide)) fun t' k => ⟨.str _, H, I.tok _, ⟨_, rfl⟩, q⟩
def rAddS : R2 := fun x y H Q => ∃ i j, x = .str i ∧ y = .str j ∧ i.length + j.length ≤ sizeLine ∧ Q (.str (i ++ j)) H
/-- a + b: ints, texts, lists, tuples -/
def rAddX (K : PySem.W.Frag) : R2 := fun x y H Q => rI0 (fun i j => .int (i + j)) x y H Q ∨ rAddS x y H Q ∨ rCat x y H Q ∨ rCatT K x y H Q
theorem op_addX : OpR X (binaryOp .Add) (rAddX X.K) := OpR.or op_add (OpR.or op_add_str (OpR.or op_cat op_catT))
def rSubX : R2 := rI0 fun i j => .int (i - j)
theorem op_subX : OpR X (binaryOp .Sub) rSubX := op_sub
def rMulX : R2 := fun x y H Q => rI CMul (fun i j => .int (i * j)) x y H Q ∨ rMulS x y H Q ∨ rRep x y H Q
theorem op_mulX : OpR X (binaryOp .Mult) rMulX := OpR.or op_mul (OpR.or op_mulS op_rep)
def rModX : R2 := fun x y H Q => rI (fun _ j => 0 < j) (fun i j => .int (i % j)) x y H Q ∨ rI (fun _ j => j ≠ 0) (fun i j => .int (i.fmod j)) x y H Q
theorem op_modX : OpR X (binaryOp .Mod) rModX := OpR.or op_mod op_modN
def rDivX : R2 := fun x y H Q => rI CDiv (fun i j => .int (i / j)) x y H Q ∨ rI CDivN (fun i j => .int (i.fdiv j)) x y H Q
theorem op_divX : OpR X (binaryOp .FloorDiv) rDivX := OpR.or op_fdiv op_fdivN
def rInStr : R2 := fun x y H Q => ∃ (c : Nat) (z : Str), x = .str ⟨#[c]⟩ ∧ y = .str z ∧ Q (.bl (decide (c ∈ z.cps.toList))) H
def rNotInStr : R2 := fun x y H Q => ∃ (c : Nat) (z : Str), x = .str ⟨#[c]⟩ ∧ y = .str z ∧ Q (.bl (!decide (c ∈ z.cps.toList))) H
def rInX (K : PySem.W.Frag) : R2 := fun x y H Q => rIn K false x y H Q ∨ rInStr x y H Q
theorem op_inX : OpR X (compareOp .In) (rInX X.K) := OpR.or op_in_seq op_in_sign
def rNotInX (K : PySem.W.Frag) : R2 := fun x y H Q => rIn K true x y H Q ∨ rNotInStr x y H Q
theorem op_notInX : OpR X (compareOp .NotIn) (rNotInX X.K) := OpR.or op_notIn_seq op_notIn_sign
def rLtX : R2 := rI0 fun i j => .bl (decide (i < j))
def rLeX : R2 := rI0 fun i j => .bl (decide (i ≤ j))
def rGtX : R2 := rI0 fun i j => .bl (decide (j < i))
def rGeX : R2 := rI0 fun i j => .bl (decide (j ≤ i))
theorem op_ltX : OpR X (compareOp .Lt) rLtX := op_lt
theorem op_leX : OpR X (compareOp .LtE) rLeX := op_le
theorem op_gtX : OpR X (compareOp .Gt) rGtX := op_gt
theorem op_geX : OpR X (compareOp .GtE) rGeX := op_ge
def rIsNX : R2 := fun x y H Q => y = .non ∧ Q (.bl (decide (x = .non))) H
def rIsNotNX : R2 := fun x y H Q => y = .non ∧ Q (.bl (!decide (x = .non))) H
theorem op_isX : OpR X (compareOp .Is) rIsNX := op_isN
theorem op_isNotX : OpR X (compareOp .IsNot) rIsNotNX := op_notN
/-- a[i:j] of texts and lists -/
def rSlX (K : PySem.W.Frag) : V → Option Int → Option Int → Hp → VK → Prop := fun x lo hi H Q => rSlS x lo hi H Q ∨ rSlL K x lo hi H Q
theorem sl_X : SlR X (rSlX X.K) := SlR.or sl_str sl_list
def rIntX : List V → Hp → VK → Prop := fun xs H Q => ((∃ i, xs = [.int i] ∧ Q (.int i) H) ∨ ∃ k, xs = [.bl k] ∧ Q (.int (b2i k)) H) ∨ ∃ a n, xs = [.str a] ∧ PySem.intText? a = some n ∧ a.length ≤ 640 ∧ Q (.int n) H
end

section
variable {X : Cx}
def rJoin (K : PySem.W.Frag) : V → List V → Hp → VK → Prop := fun x xs H Q => ∃ a p, ∃ ys : List Str, x = .str a ∧ xs = [.ref p] ∧ (SqL K H p (ys.map V.str) ∨ SqT K H p (ys.map V.str)) ∧
  (ys.map (·.length)).sum + ys.length * a.length ≤ 16777216 ∧ Q (.str (Txt.join a ys)) H
def rStarts3 : V → List V → Hp → VK → Prop := fun x xs H Q => ∃ (a b : Str) (i : Int), x = .str a ∧ xs = [.str b, .int i] ∧ Q (.bl (Txt.startswith3 a b i)) H
/-- what a for walks: a list, a tuple, a text -/
def iAny (K : PySem.W.Frag) (te : TE) : TI := fun σ H R => iList K te σ H R ∨ iTup K te σ H R ∨ iStr te σ H R
theorem pi_any {tg e : Expr} {te : TE} (he : PE X e te) : PI X tg e (iAny X.K te) := ⟨fun pins s σ H R I h => by
  rcases h with h | h | h
  · exact (pi_list he).run pins s σ H R I h
  · exact (pi_tup he).run pins s σ H R I h
  · exact (pi_str he).run pins s σ H R I h⟩
end

/-! ### the reading, step by step: each ⟨nx, rt, bk, ct⟩ stands open -/
section
variable {nx bk ct : L2.St → Hp → Prop} {rt : VK} {σ : L2.St} {H : Hp} {Q : VK} {te ta tb tc : TE} {t u : TS} {tt tt' : TT} {K : PySem.W.Frag} {v x y : V} {i : Nat} {r : R2} {TA1 : TA}
theorem g_seq (h : t ⟨u ⟨nx, rt, bk, ct⟩, rt, bk, ct⟩ σ H) : tSeq t u ⟨nx, rt, bk, ct⟩ σ H := h
theorem g_next (h : nx σ H) : tNext ⟨nx, rt, bk, ct⟩ σ H := h
theorem g_brk (h : bk σ H) : tBreak ⟨nx, rt, bk, ct⟩ σ H := h
theorem g_cont (h : ct σ H) : tCont ⟨nx, rt, bk, ct⟩ σ H := h
theorem g_asg (h : te σ H fun x H1 => nx (σ.set i (some x)) H1) : tAsg te (gName i) ⟨nx, rt, bk, ct⟩ σ H := h
theorem g_drop (h : te σ H fun _ H1 => nx σ H1) : tDrop te ⟨nx, rt, bk, ct⟩ σ H := h
theorem g_ret (h : te σ H rt) : tRet te ⟨nx, rt, bk, ct⟩ σ H := h
theorem g_retN (h : rt .non H) : tRetN ⟨nx, rt, bk, ct⟩ σ H := h
theorem g_if (h : tt σ H fun b H1 => if b = true then t ⟨nx, rt, bk, ct⟩ σ H1 else u ⟨nx, rt, bk, ct⟩ σ H1) : tIfS tt t u ⟨nx, rt, bk, ct⟩ σ H := h
theorem g_var (h : σ[i]? = some (some v)) (q : Q v H) : tVar i σ H Q := ⟨v, h, q⟩
theorem g_c (q : Q v H) : tC v σ H Q := q
theorem g_op (h : ta σ H fun x H1 => tb σ H1 fun y H2 => r x y H2 Q) : tOp r ta tb σ H Q := h
theorem g_un {r : V → Hp → VK → Prop} (h : ta σ H fun x H1 => r x H1 Q) : tUn r ta σ H Q := h
theorem g_nil {Q : List V → Hp → Prop} (h : Q [] H) : tNil σ H Q := h
theorem g_cons {Q : List V → Hp → Prop} (h : ta σ H fun x H1 => TA1 σ H1 fun xs H2 => Q (x :: xs) H2) : tCons ta TA1 σ H Q := h
def TestK (x : V) (H : Hp) (Q : Bool → Hp → Prop) : Prop := ∃ k, x = .bl k ∧ Q k H
theorem g_test {Q : Bool → Hp → Prop} (h : te σ H fun x H' => TestK x H' Q) : tTest te σ H Q := h
theorem g_b {Q : Bool → Hp → Prop} (h : te σ H fun x H' => TestK x H' Q) : tB te σ H Q := h
theorem g_k {Q : Bool → Hp → Prop} {b : Bool} (q : Q b H) : TestK (.bl b) H Q := ⟨b, rfl, q⟩
def TruK (K : PySem.W.Frag) (x : V) (H : Hp) (Q : Bool → Hp → Prop) : Prop := ∃ k, TruV K x H k ∧ Q k H
theorem g_tru {Q : Bool → Hp → Prop} (h : te σ H fun x H' => TruK K x H' Q) : tTru K te σ H Q := h
theorem v_truB {Q : Bool → Hp → Prop} {b : Bool} (q : Q b H) : TruK K (.bl b) H Q := ⟨b, rfl, q⟩
theorem v_truN {Q : Bool → Hp → Prop} (q : Q false H) : TruK K .non H Q := ⟨_, rfl, q⟩
theorem v_truI {Q : Bool → Hp → Prop} {i : Int} (q : Q (i != 0) H) : TruK K (.int i) H Q := ⟨_, rfl, q⟩
theorem g_and {Q : Bool → Hp → Prop} (h : tt σ H fun c H1 => if c = true then tt' σ H1 Q else Q false H1) : tAnd tt tt' σ H Q := h
theorem g_or {Q : Bool → Hp → Prop} (h : tt σ H fun c H1 => if c = true then Q true H1 else tt' σ H1 Q) : tOr tt tt' σ H Q := h
theorem g_not {Q : Bool → Hp → Prop} (h : tt σ H fun c H1 => Q (!c) H1) : tNot tt σ H Q := h
theorem g_andV (h : ta σ H fun x H1 => TestK x H1 fun c H1 => if c = true then tb σ H1 Q else Q (.bl false) H1) : tAndV ta tb σ H Q := h
theorem g_orV (h : ta σ H fun x H1 => TestK x H1 fun c H1 => if c = true then Q (.bl true) H1 else tb σ H1 Q) : tOrV ta tb σ H Q := h
theorem g_notV (h : ta σ H fun x H1 => TestK x H1 fun c H1 => Q (.bl (!c)) H1) : tNotV ta σ H Q := h
theorem g_ifE (h : tt σ H fun c H1 => if c = true then ta σ H1 Q else tb σ H1 Q) : tIf tt ta tb σ H Q := h
theorem g_callB {r : List V → Hp → VK → Prop} (h : TA1 σ H fun vs H1 => r vs H1 Q) : tCB r TA1 σ H Q := h
theorem g_call {sp : Sp} {E : L2.St → XK} (h : TA1 σ H fun vs H1 => sp vs H1 Q (E σ)) : tCallSD sp [] E TA1 σ H Q := by
  show TA1 σ H fun vs H1 => sp (vs ++ []) H1 Q (E σ)
  simp only [List.append_nil]
  exact h
theorem g_tup (h : TA1 σ H fun xs H1 => xs.length ≤ sizeLine ∧ ∀ p, H1 p = none → Q (.ref p) (upd H1 p (.tup xs))) : tTup TA1 σ H Q := h
theorem g_lst (h : TA1 σ H fun xs H1 => xs.length ≤ sizeLine ∧ ∀ p, H1 p = none → Q (.ref p) (upd H1 p (.lst xs))) : tLst TA1 σ H Q := h
theorem g_small {xs : List V} {A : Prop} (h : xs.length ≤ 1000) (q : A) : xs.length ≤ sizeLine ∧ A := ⟨Nat.le_of_lt (small1000 h), q⟩
/-! by values -/
theorem v_addI {i j : Int} (q : Q (.int (i + j)) H) : rAddX K (.int i) (.int j) H Q := .inl ⟨_, _, rfl, rfl, q⟩
theorem v_addS {a b : Str} (h : a.length + b.length ≤ sizeLine) (q : Q (.str (a ++ b)) H) : rAddX K (.str a) (.str b) H Q := .inr (.inl ⟨_, _, rfl, rfl, h, q⟩)
theorem v_sub {i j : Int} (q : Q (.int (i - j)) H) : rSubX (.int i) (.int j) H Q := ⟨_, _, rfl, rfl, q⟩
theorem v_mulI {i j : Int} (h : CMul i j) (q : Q (.int (i * j)) H) : rMulX (.int i) (.int j) H Q := .inl ⟨_, _, rfl, rfl, h, q⟩
theorem v_mulS {z : Str} {n : Int} (h : MulS z n) (q : Q (.str (Txt.mul z n)) H) : rMulX (.str z) (.int n) H Q := .inr (.inl ⟨_, _, rfl, rfl, h, q⟩)
theorem v_mod {i j : Int} (h : 0 < j) (q : Q (.int (i % j)) H) : rModX (.int i) (.int j) H Q := .inl ⟨_, _, rfl, rfl, h, q⟩
theorem v_div {i j : Int} (h : CDiv i j) (q : Q (.int (i / j)) H) : rDivX (.int i) (.int j) H Q := .inl ⟨_, _, rfl, rfl, h, q⟩
theorem v_lt {i j : Int} (q : Q (.bl (decide (i < j))) H) : rLtX (.int i) (.int j) H Q := ⟨_, _, rfl, rfl, q⟩
theorem v_le {i j : Int} (q : Q (.bl (decide (i ≤ j))) H) : rLeX (.int i) (.int j) H Q := ⟨_, _, rfl, rfl, q⟩
theorem v_gt {i j : Int} (q : Q (.bl (decide (j < i))) H) : rGtX (.int i) (.int j) H Q := ⟨_, _, rfl, rfl, q⟩
theorem v_ge {i j : Int} (q : Q (.bl (decide (j ≤ i))) H) : rGeX (.int i) (.int j) H Q := ⟨_, _, rfl, rfl, q⟩
theorem dS {a b : Str} : decide (V.str a = V.str b) = decide (a = b) := by
  by_cases h : a = b
  · rw [h]; simp
  · rw [decide_eq_false h, decide_eq_false]; intro z; exact h (V.str.inj z)
theorem dI {a b : Int} : decide (V.int a = V.int b) = decide (a = b) := by
  by_cases h : a = b
  · rw [h]; simp
  · rw [decide_eq_false h, decide_eq_false]; intro z; exact h (V.int.inj z)
theorem dB {a b : Bool} : decide (V.bl a = V.bl b) = decide (a = b) := by
  by_cases h : a = b
  · rw [h]; simp
  · rw [decide_eq_false h, decide_eq_false]; intro z; exact h (V.bl.inj z)
theorem v_eqI {i j : Int} (q : Q (.bl (decide (i = j))) H) : rEq (.int i) (.int j) H Q := ⟨rfl, by rw [dI]; exact q⟩
theorem v_eqS {i j : Str} (q : Q (.bl (decide (i = j))) H) : rEq (.str i) (.str j) H Q := ⟨rfl, by rw [dS]; exact q⟩
theorem v_eqB {i j : Bool} (q : Q (.bl (decide (i = j))) H) : rEq (.bl i) (.bl j) H Q := ⟨rfl, by rw [dB]; exact q⟩
theorem v_neI {i j : Int} (q : Q (.bl (!decide (i = j))) H) : rNe (.int i) (.int j) H Q := ⟨rfl, by rw [dI]; exact q⟩
theorem v_neS {i j : Str} (q : Q (.bl (!decide (i = j))) H) : rNe (.str i) (.str j) H Q := ⟨rfl, by rw [dS]; exact q⟩
theorem v_neB {i j : Bool} (q : Q (.bl (!decide (i = j))) H) : rNe (.bl i) (.bl j) H Q := ⟨rfl, by rw [dB]; exact q⟩
theorem v_isN (q : Q (.bl (decide (x = .non))) H) : rIsNX x .non H Q := ⟨rfl, q⟩
theorem v_isNotN (q : Q (.bl (!decide (x = .non))) H) : rIsNotNX x .non H Q := ⟨rfl, q⟩
theorem v_inS {c : Nat} {z : Str} (q : Q (.bl (decide (c ∈ z.cps.toList))) H) : rInX K (.str ⟨#[c]⟩) (.str z) H Q := .inr ⟨_, _, rfl, rfl, q⟩
theorem v_notInS {c : Nat} {z : Str} (q : Q (.bl (!decide (c ∈ z.cps.toList))) H) : rNotInX K (.str ⟨#[c]⟩) (.str z) H Q := .inr ⟨_, _, rfl, rfl, q⟩
theorem v_inT {p : Addr} {xs : List V} (h : H p = some (.tup xs)) (f1 : flatV x = true) (f2 : xs.all flatV = true) (q : Q (.bl (inV x xs)) H) : rInX K x (.ref p) H Q := .inl ⟨p, xs, rfl, .inr (SqT.of h), f1, f2, q⟩
theorem v_notInT {p : Addr} {xs : List V} (h : H p = some (.tup xs)) (f1 : flatV x = true) (f2 : xs.all flatV = true) (q : Q (.bl (!inV x xs)) H) : rNotInX K x (.ref p) H Q := .inl ⟨p, xs, rfl, .inr (SqT.of h), f1, f2, q⟩
theorem v_lenS {z : Str} (h : z.length ≤ sizeLine) (q : Q (.int (z.length : Int)) H) : rLen K [.str z] H Q := ⟨_, _, rfl, ⟨h, rfl⟩, q⟩
theorem v_lenL {p : Addr} {xs : List V} (h : H p = some (.lst xs)) (q : Q (.int (xs.length : Int)) H) : rLen K [.ref p] H Q := ⟨_, _, rfl, .inl ⟨_, SqL.of h, rfl⟩, q⟩
theorem v_lenT {p : Addr} {xs : List V} (h : H p = some (.tup xs)) (q : Q (.int (xs.length : Int)) H) : rLen K [.ref p] H Q := ⟨_, _, rfl, .inr ⟨_, SqT.of h, rfl⟩, q⟩
theorem v_ixL {p : Addr} {xs : List V} {n : Int} (h : H p = some (.lst xs)) (e : atI xs n = some v) (q : Q v H) : rIx K (.ref p) (.int n) H Q := .inl ⟨_, _, _, _, rfl, rfl, SqL.of h, e, q⟩
theorem v_ixT {p : Addr} {xs : List V} {n : Int} (h : H p = some (.tup xs)) (e : atI xs n = some v) (q : Q v H) : rIx K (.ref p) (.int n) H Q := .inr (.inl ⟨_, _, _, _, rfl, rfl, SqT.of h, e, q⟩)
theorem v_ixS {z : Str} {n : Int} {c : Nat} (h : z.length ≤ sizeLine) (e : atI z.cps.toList n = some c) (q : Q (.str ⟨#[c]⟩) H) : rIx K (.str z) (.int n) H Q := .inr (.inr ⟨_, _, _, rfl, rfl, h, e, q⟩)
theorem v_intI {n : Int} (q : Q (.int n) H) : rIntX [.int n] H Q := .inl (.inl ⟨_, rfl, q⟩)
theorem v_intS {a : Str} {n : Int} (h : PySem.intText? a = some n) (hl : a.length ≤ 640) (q : Q (.int n) H) : rIntX [.str a] H Q := .inr ⟨_, _, rfl, h, hl, q⟩
/-! loops -/
def LoopG (J : It) (g : TG) (tb : TS) : TS := fun D σ H => ∃ W : Nat → Nat → L2.St → Hp → Prop, (∃ m, W 0 m σ H) ∧ ∀ i m σ H, W i m σ H →
  (J.stop i H ∧ D.nx σ H) ∨ (J.go i H ∧ ∃ N : L2.St → Hp → Prop, (∀ σ' H', N σ' H' → ∃ m', m' < m ∧ W (i + 1) m' σ' H') ∧ ∀ x H', J.yld i H x H' → g x σ H' fun σ2 H2 => tb { D with nx := N, ct := N, bk := D.nx } σ2 H2)
variable {wi : TI} {g : TG} {tb : TS}
theorem g_for (h : wi σ H fun J H1 => LoopG J g tb ⟨nx, rt, bk, ct⟩ σ H1) : tFor wi g tb ⟨nx, rt, bk, ct⟩ σ H := h
theorem g_name {S : L2.St → Hp → Prop} (h : S (σ.set i (some v)) H) : gName i v σ H S := h
def Rng1 (R : It → Hp → Prop) (vs : List V) (H : Hp) : Prop := ∃ j : Int, vs = [.int j] ∧ -(2 ^ 62) ≤ j ∧ j < 2 ^ 62 ∧ R (Itr 0 j.toNat) H
def Rng2 (R : It → Hp → Prop) (vs : List V) (H : Hp) : Prop := ∃ i j : Int, vs = [.int i, .int j] ∧ (-(2 ^ 62) ≤ i ∧ i < 2 ^ 62 ∧ -(2 ^ 62) ≤ j ∧ j < 2 ^ 62) ∧ R (Itr i (j - i).toNat) H
theorem g_rng1 {R : It → Hp → Prop} (h : TA1 σ H (Rng1 R)) : iRng1 TA1 σ H R := h
theorem g_rng2 {R : It → Hp → Prop} (h : TA1 σ H (Rng2 R)) : iRng2 TA1 σ H R := h
theorem g_rngN {R : It → Hp → Prop} {n : Nat} (hn : n < 2 ^ 62) (h : R (Itr 0 n) H) : Rng1 R [V.int (n : Int)] H := ⟨_, rfl, by omega, by omega, by rw [Int.toNat_natCast]; exact h⟩
theorem g_rngI {R : It → Hp → Prop} {n : Int} (h1 : -(2 ^ 62) ≤ n) (h2 : n < 2 ^ 62) (h : R (Itr 0 n.toNat) H) : Rng1 R [V.int n] H := ⟨_, rfl, h1, h2, h⟩
theorem g_rngT {R : It → Hp → Prop} {m n : Int} (h1 : -(2 ^ 62) ≤ m ∧ m < 2 ^ 62 ∧ -(2 ^ 62) ≤ n ∧ n < 2 ^ 62) (h : R (Itr m (n - m).toNat) H) : Rng2 R [V.int m, V.int n] H := ⟨_, _, rfl, h1, h⟩
def OvL (K : PySem.W.Frag) (R : It → Hp → Prop) (x : V) (H : Hp) : Prop := ∃ a, x = .ref a ∧ (∃ xs, SqL K H a xs) ∧ R (Itl K a) H
def OvT (K : PySem.W.Frag) (R : It → Hp → Prop) (x : V) (H : Hp) : Prop := ∃ a, x = .ref a ∧ (∃ xs, SqT K H a xs) ∧ R (Itt K a) H
def OvS (R : It → Hp → Prop) (x : V) (H : Hp) : Prop := ∃ z, x = .str z ∧ R (Its z) H
theorem gi_list {R : It → Hp → Prop} (h : te σ H (OvL K R)) : iAny K te σ H R := .inl h
theorem gi_tup {R : It → Hp → Prop} (h : te σ H (OvT K R)) : iAny K te σ H R := .inr (.inl h)
theorem gi_str {R : It → Hp → Prop} (h : te σ H (OvS R)) : iAny K te σ H R := .inr (.inr h)
theorem v_ovL {R : It → Hp → Prop} {p : Addr} {xs : List V} (h : SqL K H p xs) (q : R (Itl K p) H) : OvL K R (.ref p) H := ⟨p, rfl, ⟨xs, h⟩, q⟩
theorem v_ovT {R : It → Hp → Prop} {p : Addr} {xs : List V} (h : SqT K H p xs) (q : R (Itt K p) H) : OvT K R (.ref p) H := ⟨p, rfl, ⟨xs, h⟩, q⟩
theorem v_ovS {R : It → Hp → Prop} {z : Str} (q : R (Its z) H) : OvS R (.str z) H := ⟨z, rfl, q⟩
theorem l_range {lo : Int} {n : Nat} (Pv : Nat → L2.St → Hp → Prop) (h0 : Pv 0 σ H) (hs : ∀ i σ H, i < n → Pv i σ H → g (.int (lo + i)) σ H fun σ2 H2 => tb ⟨Pv (i + 1), rt, nx, Pv (i + 1)⟩ σ2 H2)
    (hd : ∀ σ H, Pv n σ H → nx σ H) : LoopG (Itr lo n) g tb ⟨nx, rt, bk, ct⟩ σ H := for_range (D := ⟨nx, rt, bk, ct⟩) Pv h0 hs hd
theorem l_list {a : Addr} {xs : List V} (Pv : Nat → L2.St → Hp → Prop) (h0 : Pv 0 σ H) (hl : ∀ i σ H, i ≤ xs.length → Pv i σ H → SqL K H a xs)
    (hs : ∀ i x σ H, xs[i]? = some x → Pv i σ H → g x σ H fun σ2 H2 => tb ⟨Pv (i + 1), rt, nx, Pv (i + 1)⟩ σ2 H2) (hd : ∀ σ H, Pv xs.length σ H → nx σ H) : LoopG (Itl K a) g tb ⟨nx, rt, bk, ct⟩ σ H := for_list (D := ⟨nx, rt, bk, ct⟩) Pv h0 hl hs hd
theorem l_tup {a : Addr} {xs : List V} (Pv : Nat → L2.St → Hp → Prop) (h0 : Pv 0 σ H) (hl : ∀ i σ H, i ≤ xs.length → Pv i σ H → SqT K H a xs)
    (hs : ∀ i x σ H, xs[i]? = some x → Pv i σ H → g x σ H fun σ2 H2 => tb ⟨Pv (i + 1), rt, nx, Pv (i + 1)⟩ σ2 H2) (hd : ∀ σ H, Pv xs.length σ H → nx σ H) : LoopG (Itt K a) g tb ⟨nx, rt, bk, ct⟩ σ H := for_tup (D := ⟨nx, rt, bk, ct⟩) Pv h0 hl hs hd
theorem l_str {zs : List Nat} (Pv : Nat → L2.St → Hp → Prop) (h0 : Pv 0 σ H) (hs : ∀ i c σ H, zs[i]? = some c → Pv i σ H → g (.str ⟨#[c]⟩) σ H fun σ2 H2 => tb ⟨Pv (i + 1), rt, nx, Pv (i + 1)⟩ σ2 H2)
    (hd : ∀ σ H, Pv zs.length σ H → nx σ H) : LoopG (Its ⟨zs.toArray⟩) g tb ⟨nx, rt, bk, ct⟩ σ H := by
  refine ⟨fun i m σ H => m = zs.length - i ∧ i ≤ zs.length ∧ Pv i σ H, ⟨zs.length, by simp, Nat.zero_le _, h0⟩, ?_⟩
  rintro i m σ H ⟨rfl, hi, p⟩
  by_cases hlt : i < zs.length
  · refine .inr ⟨(by show i < zs.toArray.size; simpa using hlt), Pv (i + 1), fun σ' H' p' => ⟨zs.length - (i + 1), by omega, rfl, hlt, p'⟩, fun x H' y => ?_⟩
    obtain ⟨e, c, hc, ex⟩ := y
    subst e ex
    exact hs i c σ _ (by simpa using hc) p
  · have e : i = zs.length := by omega
    subst e
    exact .inl ⟨(by show zs.toArray.size ≤ zs.length; simp), hd σ H p⟩
theorem g_while (h : ∃ W : Nat → L2.St → Hp → Prop, (∃ m, W m σ H) ∧ ∀ m σ H, W m σ H →
    tt σ H fun b H1 => if b = true then ∃ N : L2.St → Hp → Prop, (∀ σ' H', N σ' H' → ∃ m', m' < m ∧ W m' σ' H') ∧ tb ⟨N, rt, nx, N⟩ σ H1 else nx σ H1) : tWhile tt tb ⟨nx, rt, bk, ct⟩ σ H := h
theorem g_turn {W : Nat → L2.St → Hp → Prop} {m : Nat} (h : tb ⟨fun σ' H' => ∃ m', m' < m ∧ W m' σ' H', rt, nx, fun σ' H' => ∃ m', m' < m ∧ W m' σ' H'⟩ σ H) :
    ∃ N : L2.St → Hp → Prop, (∀ σ' H', N σ' H' → ∃ m', m' < m ∧ W m' σ' H') ∧ tb ⟨N, rt, nx, N⟩ σ H := ⟨_, fun _ _ z => z, h⟩
/-! methods of lists, texts, stores -/
theorem g_bm {T : String} {r : V → List V → Hp → VK → Prop} (h : ta σ H fun x H1 => tyV K T x H1 ∧ TA1 σ H1 fun xs H2 => r x xs H2 Q) : tBM K T r ta TA1 σ H Q := h
theorem g_bm0 {T : String} {r : V → List V → Hp → VK → Prop} (h : ta σ H fun x H1 => tyV K T x H1 ∧ r x [] H1 Q) : tBM0 K T r ta σ H Q := h
theorem g_tyL {p : Addr} {xs : List V} {A : Prop} (h : H p = some (.lst xs)) (q : A) : tyV K "list" (.ref p) H ∧ A := ⟨.inl ⟨rfl, _, SqL.of h⟩, q⟩
theorem g_tyS {z : Str} {A : Prop} (q : A) : tyV K "str" (.str z) H ∧ A := ⟨rfl, q⟩
theorem v_append {l : Addr} {xs : List V} (h : H l = some (.lst xs)) (hl : xs.length < sizeLine) (q : Q .non (upd H l (.lst (xs ++ [y])))) : rAppend (.ref l) [y] H Q := ⟨_, _, _, rfl, rfl, h, hl, q⟩
theorem g_m1 {r : V → List V → Hp → VK → Prop} (h : ta σ H fun x H1 => (∃ a, x = .str a) ∧ tc σ H1 fun y H2 => r x [y] H2 Q) : tM1 r ta tc σ H Q := h
theorem g_isS {z : Str} {A : Prop} (q : A) : (∃ a, V.str z = .str a) ∧ A := ⟨⟨_, rfl⟩, q⟩
theorem v_join {p : Addr} {a : Str} {ys : List Str} (h : H p = some (.lst (ys.map V.str))) (hz : (ys.map (·.length)).sum + ys.length * a.length ≤ 16777216) (q : Q (.str (Txt.join a ys)) H) : rJoin K (.str a) [.ref p] H Q := ⟨_, _, _, rfl, rfl, .inl (SqL.of h), hz, q⟩
theorem v_starts3 {a b : Str} {n : Int} (q : Q (.bl (Txt.startswith3 a b n)) H) : rStarts3 (.str a) [.str b, .int n] H Q := ⟨_, _, _, rfl, rfl, q⟩
theorem g_sl {r : V → Option Int → Option Int → Hp → VK → Prop} {tl th : TO} (h : te σ H fun x H1 => tl σ H1 fun l H2 => th σ H2 fun u H3 => r x l u H3 Q) : tSl r te tl th σ H Q := h
theorem g_no {Q : Option Int → Hp → Prop} (h : Q none H) : tNoPart σ H Q := h
def PartK (x : V) (H : Hp) (Q : Option Int → Hp → Prop) : Prop := ∃ i, x = .int i ∧ Q (some i) H
theorem g_part {Q : Option Int → Hp → Prop} (h : te σ H fun x H1 => PartK x H1 Q) : tPart te σ H Q := h
theorem g_isI {n : Int} {Q : Option Int → Hp → Prop} (h : Q (some n) H) : PartK (.int n) H Q := ⟨_, rfl, h⟩
theorem v_slS {z : Str} {lo hi : Option Int} (h : z.length ≤ sizeLine) (q : Q (.str (cutS z lo hi)) H) : rSlX K (.str z) lo hi H Q := .inl ⟨_, rfl, h, q⟩
theorem v_slL {p : Addr} {xs : List V} {lo hi : Option Int} (h : H p = some (.lst xs)) (q : ∀ p, H p = none → Q (.ref p) (upd H p (.lst (cutV xs lo hi)))) : rSlX K (.ref p) lo hi H Q := .inr ⟨_, _, rfl, SqL.of h, q⟩
theorem g_make {C : Addr} {sp : Sp} {E : XK} (h : TA1 σ H fun vs H1 => ∀ x dx, H1 x = none → H1 dx = none → dx ≠ x → sp (.ref x :: vs) (upd (upd H1 dx (.own x)) x (.ins C dx [])) (fun v H2 => v = .non ∧ Q (.ref x) H2) E) : tMake C sp [] E TA1 σ H Q := by
  show TA1 σ H fun vs H1 => ∀ x dx, H1 x = none → H1 dx = none → dx ≠ x → sp (.ref x :: (vs ++ [])) (upd (upd H1 dx (.own x)) x (.ins C dx [])) (fun v H2 => v = .non ∧ Q (.ref x) H2) E
  simp only [List.append_nil]
  exact h
def FldK (K : PySem.W.Frag) (f : Str) (x : V) (H : Hp) (Q : VK) : Prop := ∃ a C dx fs v, x = .ref a ∧ H a = some (.ins C dx fs) ∧ Cls K C ∧ NoAttr K C f ∧ fs.lookup f = some v ∧ Q v H
theorem g_fld {f : Str} (h : ta σ H fun x H1 => FldK K f x H1 Q) : tFld K ta f σ H Q := h
theorem v_fld {a C dx : Addr} {fs : List (Str × V)} {f : Str} (h : H a = some (.ins C dx fs)) (c : Cls K C) (n : NoAttr K C f) (l : fs.lookup f = some v) (q : Q v H) : FldK K f (.ref a) H Q := ⟨_, _, _, _, _, rfl, h, c, n, l, q⟩
def SfldK (K : PySem.W.Frag) (f : Str) (x y : V) (H : Hp) (S : Hp → Prop) : Prop := ∃ a C dx fs, x = .ref a ∧ H a = some (.ins C dx fs) ∧ Cls K C ∧ NoAttr K C f ∧ fs.length < 1000 ∧ S (upd H a (.ins C dx (putF f y fs)))
theorem g_sfld {tv : TE} {f : Str} (h : tv σ H fun y H1 => ta σ H1 fun x H2 => SfldK K f x y H2 (nx σ)) : sFld K ta tv f ⟨nx, rt, bk, ct⟩ σ H := h
theorem v_sfld {a C dx : Addr} {fs : List (Str × V)} {f : Str} {S : Hp → Prop} (h : H a = some (.ins C dx fs)) (c : Cls K C) (n : NoAttr K C f) (l : fs.length < 1000) (q : S (upd H a (.ins C dx (putF f y fs)))) :
    SfldK K f (.ref a) y H S := ⟨_, _, _, _, rfl, h, c, n, l, q⟩
theorem g_asgG (h : te σ H fun x H1 => g x σ H1 nx) : tAsg te g ⟨nx, rt, bk, ct⟩ σ H := h
theorem g_sub {S : L2.St → Hp → Prop} {to ti : TE} {ts : TSet} (h : to σ H fun o H1 => ti σ H1 fun i H2 => ts o i v H2 fun H3 => S σ H3) : gSub to ti ts v σ H S := h
theorem v_setL {p : Addr} {xs : List V} {n : Int} {j : Nat} {S : Hp → Prop} (h : H p = some (.lst xs)) (e : ixN xs.length n = some j) (q : S (upd H p (.lst (xs.set j v)))) : rSetL (.ref p) (.int n) v H S := ⟨_, _, _, _, rfl, rfl, h, e, q⟩
theorem g_gtup {S : L2.St → Hp → Prop} {n : Nat} {t : TGs} {a : Addr} {xs : List V} (h : H a = some (.tup xs)) (l : xs.length = n) (q : t xs σ H S) : gTup K n t (.ref a) σ H S := ⟨a, xs, rfl, SqT.of h, l, q⟩
theorem g_gcons {S : L2.St → Hp → Prop} {t : TG} {u : TGs} {r : List V} (h : t v σ H fun σ' H' => u r σ' H' S) : gCons t u (v :: r) σ H S := ⟨v, r, rfl, h⟩
theorem g_gnil {S : L2.St → Hp → Prop} (h : S σ H) : gNil [] σ H S := ⟨rfl, h⟩
theorem g_cut (Mid : L2.St → Hp → Prop) (h1 : t ⟨Mid, rt, bk, ct⟩ σ H) (h2 : ∀ σ' H', Mid σ' H' → u ⟨nx, rt, bk, ct⟩ σ' H') : C8.tCut t u ⟨nx, rt, bk, ct⟩ σ H := ⟨Mid, h1, h2⟩
theorem g_thr (h : t ⟨u ⟨nx, rt, bk, ct⟩, rt, bk, ct⟩ σ H) : C8.tCut t u ⟨nx, rt, bk, ct⟩ σ H := ⟨_, h, fun _ _ z => z⟩
theorem v_lenSq {p : Addr} {xs : List V} (h : SqL K H p xs) (q : Q (.int (xs.length : Int)) H) : rLen K [.ref p] H Q := ⟨_, _, rfl, .inl ⟨_, h, rfl⟩, q⟩
theorem v_ixSq {p : Addr} {xs : List V} {n : Int} (h : SqL K H p xs) (e : atI xs n = some v) (q : Q v H) : rIx K (.ref p) (.int n) H Q := .inl ⟨_, _, _, _, rfl, rfl, h, e, q⟩
theorem up_new {p a : Addr} {o u : HO} (h : H a = some u) (n : H p = none) : upd H p o a = some u := by rw [upd_ne (ne_of_none h n)]; exact h
theorem same_new {p : Addr} {o : HO} (n : H p = none) : Same H (upd H p o) := fun _ _ h => up_new h n
/-- all stays but what stands at d -/
def Sb (d : Addr) (H H' : Hp) : Prop := ∀ b o, b ≠ d → H b = some o → H' b = some o
theorem Sb.refl {d : Addr} : Sb d H H := fun _ _ _ h => h
theorem Sb.trans {d : Addr} {H1 H2 : Hp} (a : Sb d H H1) (b : Sb d H1 H2) : Sb d H H2 := fun c o n h => b c o n (a c o n h)
theorem Sb.upd {d : Addr} {o : HO} : Sb d H (L2.upd H d o) := fun b _ n h => by rw [upd_ne n]; exact h
theorem Same.sb {d : Addr} {H1 : Hp} (a : Same H H1) : Sb d H H1 := fun c o _ h => a c o h
theorem atN {α : Type} {xs : List α} {i : Nat} {x : α} {n : Int} (e : n = (i : Int)) (h : xs[i]? = some x) : atI xs n = some x := by rw [e]; exact atI_nat h
theorem iteNT {A B : Prop} (h : B) : if (!true) = true then A else B := by
  rw [if_neg (by decide)]
  exact h
theorem iteNF {A B : Prop} (h : A) : if (!false) = true then A else B := by
  rw [if_pos (by decide)]
  exact h
end
end G

namespace Lw
open PySem PySem.Spec PyProof.Rows L2 G
def top (i : Nat) : Stmt := PySem.Challenge.pw_oneheap_k01_quoted_texts.main.body.getD i (.Pass ⟨0, 0, 0, 0⟩)
abbrev s__law_cells : Stmt := top 18
abbrev s__law_draw : Stmt := top 19
abbrev s__law_text : Stmt := top 20
abbrev s_quoted : Stmt := top 16
abbrev s_word_end : Stmt := top 9
abbrev s_Token_init : Stmt := inClass (top 8) 0
abbrev s_read_word : Stmt := top 11
abbrev s_digits_end : Stmt := top 10
abbrev s_read_number : Stmt := top 12
abbrev s_read_quoted : Stmt := top 13
abbrev s_read_sign : Stmt := top 14
abbrev s_tokens : Stmt := top 15
abbrev s_law : Stmt := top 21
def k_DIGITS : V := (.str ("0123456789" : Str))
def k_LETTERS : V := (.str ("abcdefghijklmnopqrstuvwxyzABCDEFGHIJKLMNOPQRSTUVWXYZ" : Str))
def k_NUMBER_LENGTH : V := (.int 18)
def k_WORD_LENGTH : V := (.int 12)
/-! ### readings -/
/-- _law_cells: 0 _law_script, 1 _law_count, 2 _law_cells_here, 3 _law_k, 4 _law_cell -/
def t__law_cells (K : PySem.W.Frag) : TS :=
  (tSeq (tAsg (tLst tNil) (gName 2)) (tSeq (tFor (iRng1 (tCons (tVar 1) tNil)) (gName 3) (tSeq (tAsg (tOp (rAddX K) (tOp rMulX (tC (.int 7)) (tVar 3)) (tC (.int 3))) (gName 4)) (C8.tCut (tIfS (tTest (tOp rLtX (tVar 3) (tCB (rLen K) (tCons (tVar 0) tNil)))) (tSeq (tAsg (tCB rIntX (tCons (tOp (rIx K) (tVar 0) (tVar 3)) tNil)) (gName 4)) (tIfS (tTest (tOp rLtX (tVar 4) (tC (.int 0)))) (tAsg (tOp rSubX (tC (.int 1)) (tOp rMulX (tC (.int 2)) (tVar 4))) (gName 4)) tNext)) tNext) (C8.tCut (tIfS (tTest (tOp rLtX (tVar 4) (tC (.int 1000000000)))) (tSeq (tAsg (tOp rModX (tOp (rAddX K) (tOp (rAddX K) (tOp rMulX (tCB rIntX (tCons (tVar 4) tNil)) (tC (.int 1103515245))) (tC (.int 12345))) (tOp rMulX (tC (.int 131)) (tVar 3))) (tC (.int 2147483647))) (gName 4)) (tAsg (tOp rModX (tOp (rAddX K) (tOp rMulX (tCB rIntX (tCons (tVar 4) tNil)) (tC (.int 6364136223846793005))) (tC (.int 1442695040888963407))) (tC (.int 18446744073709551557))) (gName 4))) tNext) (tDrop (tBM K "list" rAppend (tVar 2) (tCons (tVar 4) tNil))))))) (tRet (tVar 2))))
def sp__law_cells (K : PySem.W.Frag) : Sp := fun vs H Q E => vs.length = 2 ∧ t__law_cells K ⟨fun _ H' => Q .non H', Q, fun _ _ => False, fun _ _ => False⟩ (start ["_law_script", "_law_count", "_law_cells_here", "_law_k", "_law_cell"] vs) H
/-- _law_draw: 0 _law_draws, 1 _law_bound, 2 _law_value -/
def t__law_draw (K : PySem.W.Frag) : TS :=
  (C8.tCut (tIfS (tAnd (tTest (tOp rEq (tOp (rIx K) (tVar 0) (tC (.int 0))) (tC (.int 0)))) (tTest (tOp rGtX (tCB (rLen K) (tCons (tVar 0) tNil)) (tC (.int 1))))) (tDrop (tBM K "list" (fun x vs H Q => rPop x vs H Q ∨ rPopAt x vs H Q) (tVar 0) (tCons (tC (.int 0)) tNil))) tNext) (tSeq (tAsg (tOp rModX (tCB rIntX (tCons (tOp (rIx K) (tVar 0) (tC (.int 0))) tNil)) (tVar 1)) (gName 2)) (tSeq (tAsg (tOp rDivX (tOp (rIx K) (tVar 0) (tC (.int 0))) (tVar 1)) (gSub (tVar 0) (tC (.int 0)) rSetL)) (tRet (tVar 2)))))
def sp__law_draw (K : PySem.W.Frag) : Sp := fun vs H Q E => vs.length = 2 ∧ t__law_draw K ⟨fun _ H' => Q .non H', Q, fun _ _ => False, fun _ _ => False⟩ (start ["_law_draws", "_law_bound", "_law_value"] vs) H
/-- _law_text: 0 _law_draws, 1 _law_text_here, 2 _law_turn -/
def t__law_text (K : PySem.W.Frag) : TS :=
  (tSeq (tAsg (tC (.str ("" : Str))) (gName 1)) (tSeq (tFor (iRng1 (tCons (tCallSD (sp__law_draw K) [] Ez (tCons (tVar 0) (tCons (tC (.int 13)) tNil))) tNil)) (gName 2) (tAsg (tOp (rAddX K) (tVar 1) (tOp (rIx K) (tC (.str ("a\"\\ Z9{~" : Str))) (tCallSD (sp__law_draw K) [] Ez (tCons (tVar 0) (tCons (tC (.int 8)) tNil))))) (gName 1))) (tRet (tVar 1))))
def sp__law_text (K : PySem.W.Frag) : Sp := fun vs H Q E => vs.length = 1 ∧ t__law_text K ⟨fun _ H' => Q .non H', Q, fun _ _ => False, fun _ _ => False⟩ (start ["_law_draws", "_law_text_here", "_law_turn"] vs) H
/-- quoted: 0 text, 1 signs, 2 sign -/
def t_quoted (K : PySem.W.Frag) : TS :=
  (tSeq (tAsg (tLst (tCons (tC (.str ("\"" : Str))) tNil)) (gName 1)) (tSeq (tFor (iAny K (tVar 0)) (gName 2) (C8.tCut (tIfS (tTest (tOp (rInX K) (tVar 2) (tTup (tCons (tC (.str ("\"" : Str))) (tCons (tC (.str ("\\" : Str))) tNil))))) (tDrop (tBM K "list" rAppend (tVar 1) (tCons (tC (.str ("\\" : Str))) tNil))) tNext) (tDrop (tBM K "list" rAppend (tVar 1) (tCons (tVar 2) tNil))))) (tSeq (tDrop (tBM K "list" rAppend (tVar 1) (tCons (tC (.str ("\"" : Str))) tNil))) (tRet (tM1 (rJoin K) (tC (.str ("" : Str))) (tVar 1))))))
def sp_quoted (K : PySem.W.Frag) : Sp := fun vs H Q E => vs.length = 1 ∧ t_quoted K ⟨fun _ H' => Q .non H', Q, fun _ _ => False, fun _ _ => False⟩ (start ["text", "signs", "sign"] vs) H
/-- word_end: 0 text, 1 place -/
def t_word_end (K : PySem.W.Frag) : TS :=
  (tSeq (tWhile (tAnd (tTest (tOp rLtX (tVar 1) (tCB (rLen K) (tCons (tVar 0) tNil)))) (tOr (tTest (tOp (rInX K) (tOp (rIx K) (tVar 0) (tVar 1)) (tC k_LETTERS))) (tOr (tTest (tOp (rInX K) (tOp (rIx K) (tVar 0) (tVar 1)) (tC k_DIGITS))) (tTest (tOp rEq (tOp (rIx K) (tVar 0) (tVar 1)) (tC (.str ("_" : Str)))))))) (tAsg (tOp (rAddX K) (tVar 1) (tC (.int 1))) (gName 1))) (tRet (tVar 1)))
def sp_word_end (K : PySem.W.Frag) : Sp := fun vs H Q E => vs.length = 2 ∧ t_word_end K ⟨fun _ H' => Q .non H', Q, fun _ _ => False, fun _ _ => False⟩ (start ["text", "place"] vs) H
/-- Token.__init__: 0 self, 1 role, 2 text, 3 place -/
def t_Token_init (K : PySem.W.Frag) : TS :=
  (tSeq (sFld K (tVar 0) (tVar 1) ("role" : Str)) (tSeq (sFld K (tVar 0) (tVar 2) ("text" : Str)) (sFld K (tVar 0) (tVar 3) ("place" : Str))))
def sp_Token_init (K : PySem.W.Frag) : Sp := fun vs H Q E => vs.length = 4 ∧ t_Token_init K ⟨fun _ H' => Q .non H', Q, fun _ _ => False, fun _ _ => False⟩ (start ["self", "role", "text", "place"] vs) H
/-- read_word: 0 text, 1 place, 2 stop -/
def t_read_word (K : PySem.W.Frag) : TS :=
  (tSeq (tAsg (tCallSD (sp_word_end K) [] Ez (tCons (tVar 0) (tCons (tVar 1) tNil))) (gName 2)) (tSeq (tIfS (tTest (tOp rGtX (tOp rSubX (tVar 2) (tVar 1)) (tC k_WORD_LENGTH))) tNever tNext) (tRet (tMake (He.ga K ("Token" : Str)) (sp_Token_init K) [] E0 (tCons (tC (.str ("word" : Str))) (tCons (tSl (rSlX K) (tVar 0) (tPart (tVar 1)) (tPart (tVar 2))) (tCons (tVar 1) tNil)))))))
def sp_read_word (K : PySem.W.Frag) : Sp := fun vs H Q E => vs.length = 2 ∧ t_read_word K ⟨fun _ H' => Q .non H', Q, fun _ _ => False, fun _ _ => False⟩ (start ["text", "place", "stop"] vs) H
/-- digits_end: 0 text, 1 place -/
def t_digits_end (K : PySem.W.Frag) : TS :=
  (tSeq (tWhile (tAnd (tTest (tOp rLtX (tVar 1) (tCB (rLen K) (tCons (tVar 0) tNil)))) (tTest (tOp (rInX K) (tOp (rIx K) (tVar 0) (tVar 1)) (tC k_DIGITS)))) (tAsg (tOp (rAddX K) (tVar 1) (tC (.int 1))) (gName 1))) (tRet (tVar 1)))
def sp_digits_end (K : PySem.W.Frag) : Sp := fun vs H Q E => vs.length = 2 ∧ t_digits_end K ⟨fun _ H' => Q .non H', Q, fun _ _ => False, fun _ _ => False⟩ (start ["text", "place"] vs) H
/-- read_number: 0 text, 1 place, 2 stop -/
def t_read_number (K : PySem.W.Frag) : TS :=
  (tSeq (tAsg (tCallSD (sp_digits_end K) [] Ez (tCons (tVar 0) (tCons (tVar 1) tNil))) (gName 2)) (tSeq (tIfS (tAnd (tTest (tOp rGtX (tOp rSubX (tVar 2) (tVar 1)) (tC (.int 1)))) (tTest (tOp rEq (tOp (rIx K) (tVar 0) (tVar 1)) (tC (.str ("0" : Str)))))) tNever tNext) (tSeq (tIfS (tTest (tOp rGtX (tOp rSubX (tVar 2) (tVar 1)) (tC k_NUMBER_LENGTH))) tNever tNext) (tSeq (tIfS (tTest (tOp rGtX (tCallSD (sp_word_end K) [] Ez (tCons (tVar 0) (tCons (tVar 2) tNil))) (tVar 2))) tNever tNext) (tRet (tMake (He.ga K ("Token" : Str)) (sp_Token_init K) [] E0 (tCons (tC (.str ("number" : Str))) (tCons (tSl (rSlX K) (tVar 0) (tPart (tVar 1)) (tPart (tVar 2))) (tCons (tVar 1) tNil)))))))))
def sp_read_number (K : PySem.W.Frag) : Sp := fun vs H Q E => vs.length = 2 ∧ t_read_number K ⟨fun _ H' => Q .non H', Q, fun _ _ => False, fun _ _ => False⟩ (start ["text", "place", "stop"] vs) H
/-- read_quoted: 0 text, 1 place, 2 signs, 3 at, 4 sign -/
def t_read_quoted (K : PySem.W.Frag) : TS :=
  (tSeq (tAsg (tLst tNil) (gName 2)) (tSeq (tAsg (tOp (rAddX K) (tVar 1) (tC (.int 1))) (gName 3)) (tSeq (tWhile (tTest (tOp rLtX (tVar 3) (tCB (rLen K) (tCons (tVar 0) tNil)))) (tSeq (tAsg (tOp (rIx K) (tVar 0) (tVar 3)) (gName 4)) (tSeq (tIfS (tTest (tOp rEq (tVar 4) (tC (.str ("\"" : Str))))) (tRet (tTup (tCons (tMake (He.ga K ("Token" : Str)) (sp_Token_init K) [] E0 (tCons (tC (.str ("text" : Str))) (tCons (tM1 (rJoin K) (tC (.str ("" : Str))) (tVar 2)) (tCons (tVar 1) tNil)))) (tCons (tOp (rAddX K) (tVar 3) (tC (.int 1))) tNil)))) tNext) (C8.tCut (tIfS (tTest (tOp rEq (tVar 4) (tC (.str ("\\" : Str))))) (tSeq (tAsg (tOp (rAddX K) (tVar 3) (tC (.int 1))) (gName 3)) (tSeq (tIfS (tTest (tOp rEq (tVar 3) (tCB (rLen K) (tCons (tVar 0) tNil)))) tBreak tNext) (tSeq (tAsg (tOp (rIx K) (tVar 0) (tVar 3)) (gName 4)) (tIfS (tTest (tOp (rNotInX K) (tVar 4) (tTup (tCons (tC (.str ("\"" : Str))) (tCons (tC (.str ("\\" : Str))) tNil))))) tNever tNext)))) tNext) (tSeq (tDrop (tBM K "list" rAppend (tVar 2) (tCons (tVar 4) tNil))) (tAsg (tOp (rAddX K) (tVar 3) (tC (.int 1))) (gName 3))))))) tNever)))
def sp_read_quoted (K : PySem.W.Frag) : Sp := fun vs H Q E => vs.length = 2 ∧ t_read_quoted K ⟨fun _ H' => Q .non H', Q, fun _ _ => False, fun _ _ => False⟩ (start ["text", "place", "signs", "at", "sign"] vs) H
/-- read_sign: 0 text, 1 place, 2 signs, 3 found, 4 sign -/
def t_read_sign (K : PySem.W.Frag) : TS :=
  (tSeq (tAsg (tC (.str ("" : Str))) (gName 3)) (tSeq (tFor (iAny K (tVar 2)) (gName 4) (tIfS (tAnd (tTru K (tBM K "str" rStarts3 (tVar 0) (tCons (tVar 4) (tCons (tVar 1) tNil)))) (tTest (tOp rGtX (tCB (rLen K) (tCons (tVar 4) tNil)) (tCB (rLen K) (tCons (tVar 3) tNil))))) (tAsg (tVar 4) (gName 3)) tNext)) (tSeq (tIfS (tTest (tOp rEq (tVar 3) (tC (.str ("" : Str))))) tNever tNext) (tRet (tMake (He.ga K ("Token" : Str)) (sp_Token_init K) [] E0 (tCons (tC (.str ("sign" : Str))) (tCons (tVar 3) (tCons (tVar 1) tNil))))))))
def sp_read_sign (K : PySem.W.Frag) : Sp := fun vs H Q E => vs.length = 3 ∧ t_read_sign K ⟨fun _ H' => Q .non H', Q, fun _ _ => False, fun _ _ => False⟩ (start ["text", "place", "signs", "found", "sign"] vs) H
/-- tokens: 0 text, 1 signs, 2 longest, 3 row, 4 place, 5 sign, 6 token -/
def t_tokens (K : PySem.W.Frag) : TS :=
  (tSeq (tIfS (tTest (tOp rGtX (tCB (rLen K) (tCons (tVar 0) tNil)) (tVar 2))) tNever tNext) (tSeq (tAsg (tLst tNil) (gName 3)) (tSeq (tAsg (tC (.int 0)) (gName 4)) (tSeq (tWhile (tTest (tOp rLtX (tVar 4) (tCB (rLen K) (tCons (tVar 0) tNil)))) (tSeq (tAsg (tOp (rIx K) (tVar 0) (tVar 4)) (gName 5)) (tIfS (tTest (tOp rEq (tVar 5) (tC (.str (" " : Str))))) (tAsg (tOp (rAddX K) (tVar 4) (tC (.int 1))) (gName 4)) (tIfS (tTest (tOp (rInX K) (tVar 5) (tC k_LETTERS))) (tSeq (tAsg (tCallSD (sp_read_word K) [] Ez (tCons (tVar 0) (tCons (tVar 4) tNil))) (gName 6)) (tSeq (tDrop (tBM K "list" rAppend (tVar 3) (tCons (tVar 6) tNil))) (tAsg (tOp (rAddX K) (tVar 4) (tCB (rLen K) (tCons (tFld K (tVar 6) ("text" : Str)) tNil))) (gName 4)))) (tIfS (tTest (tOp (rInX K) (tVar 5) (tC k_DIGITS))) (tSeq (tAsg (tCallSD (sp_read_number K) [] Ez (tCons (tVar 0) (tCons (tVar 4) tNil))) (gName 6)) (tSeq (tDrop (tBM K "list" rAppend (tVar 3) (tCons (tVar 6) tNil))) (tAsg (tOp (rAddX K) (tVar 4) (tCB (rLen K) (tCons (tFld K (tVar 6) ("text" : Str)) tNil))) (gName 4)))) (tIfS (tTest (tOp rEq (tVar 5) (tC (.str ("\"" : Str))))) (tSeq (tAsg (tCallSD (sp_read_quoted K) [] Ez (tCons (tVar 0) (tCons (tVar 4) tNil))) (gTup K 2 (gCons (gName 6) (gCons (gName 4) gNil)))) (tDrop (tBM K "list" rAppend (tVar 3) (tCons (tVar 6) tNil)))) (tSeq (tAsg (tCallSD (sp_read_sign K) [] Ez (tCons (tVar 0) (tCons (tVar 4) (tCons (tVar 1) tNil)))) (gName 6)) (tSeq (tDrop (tBM K "list" rAppend (tVar 3) (tCons (tVar 6) tNil))) (tAsg (tOp (rAddX K) (tVar 4) (tCB (rLen K) (tCons (tFld K (tVar 6) ("text" : Str)) tNil))) (gName 4)))))))))) (tSeq (tDrop (tBM K "list" rAppend (tVar 3) (tCons (tMake (He.ga K ("Token" : Str)) (sp_Token_init K) [] E0 (tCons (tC (.str ("end" : Str))) (tCons (tC (.str ("" : Str))) (tCons (tCB (rLen K) (tCons (tVar 0) tNil)) tNil)))) tNil))) (tRet (tVar 3)))))))
def sp_tokens (K : PySem.W.Frag) : Sp := fun vs H Q E => vs.length = 3 ∧ t_tokens K ⟨fun _ H' => Q .non H', Q, fun _ _ => False, fun _ _ => False⟩ (start ["text", "signs", "longest", "row", "place", "sign", "token"] vs) H
/-- law: 0 _law_script, 1 _law_draws, 2 _law_one, 3 _law_two, 4 _law_told, 5 _law_ahead, 6 _law_row -/
def t_law (K : PySem.W.Frag) : TS :=
  (tSeq (tAsg (tCallSD (sp__law_cells K) [] Ez (tCons (tVar 0) (tCons (tC (.int 8)) tNil))) (gName 1)) (tSeq (tAsg (tCallSD (sp__law_text K) [] Ez (tCons (tVar 1) tNil)) (gName 2)) (tSeq (tAsg (tCallSD (sp__law_text K) [] Ez (tCons (tVar 1) tNil)) (gName 3)) (C8.tCut (tIfS (tTest (tOp rEq (tCallSD (sp__law_draw K) [] Ez (tCons (tVar 1) (tCons (tC (.int 3)) tNil))) (tC (.int 0)))) (tAsg (tSl (rSlX K) (tVar 2) tNoPart (tPart (tOp rSubX (tCB (rLen K) (tCons (tVar 2) tNil)) (tC (.int 1))))) (gName 3)) tNext) (tSeq (tAsg (tCallSD (sp_quoted K) [] Ez (tCons (tVar 2) tNil)) (gName 4)) (tSeq (tIfS (tOr (tNot (tTru K (tCB (rIsi K) (tCons (tVar 4) (tCons (tC (.ty "str")) tNil))))) (tTest (tOp rNe (tOp rEq (tVar 4) (tCallSD (sp_quoted K) [] Ez (tCons (tVar 3) tNil))) (tOp rEq (tVar 2) (tVar 3))))) (tRet (tC (.bl false))) tNext) (tSeq (tAsg (tOp rMulX (tC (.str (" " : Str))) (tCallSD (sp__law_draw K) [] Ez (tCons (tVar 1) (tCons (tC (.int 4)) tNil)))) (gName 5)) (tSeq (tAsg (tCallSD (sp_tokens K) [] Ez (tCons (tOp (rAddX K) (tOp (rAddX K) (tVar 5) (tVar 4)) (tOp rMulX (tC (.str (" " : Str))) (tCallSD (sp__law_draw K) [] Ez (tCons (tVar 1) (tCons (tC (.int 4)) tNil))))) (tCons (tTup (tCons (tC (.str ("{" : Str))) tNil)) (tCons (tC (.int 60)) tNil)))) (gName 6)) (tSeq (tIfS (tOr (tTest (tOp rNe (tCB (rLen K) (tCons (tVar 6) tNil)) (tC (.int 2)))) (tOr (tTest (tOp rNe (tFld K (tOp (rIx K) (tVar 6) (tC (.int 0))) ("role" : Str)) (tC (.str ("text" : Str))))) (tTest (tOp rNe (tFld K (tOp (rIx K) (tVar 6) (tC (.int 1))) ("role" : Str)) (tC (.str ("end" : Str))))))) (tRet (tC (.bl false))) tNext) (tRet (tAndV (tOp rEq (tFld K (tOp (rIx K) (tVar 6) (tC (.int 0))) ("text" : Str)) (tVar 2)) (tAndV (tOp rEq (tFld K (tOp (rIx K) (tVar 6) (tC (.int 0))) ("place" : Str)) (tCB (rLen K) (tCons (tVar 5) tNil))) (tOp rEq (tFld K (tOp (rIx K) (tVar 6) (tC (.int 1))) ("text" : Str)) (tC (.str ("" : Str))))))))))))))))
def sp_law (K : PySem.W.Frag) : Sp := fun vs H Q E => vs.length = 1 ∧ t_law K ⟨fun _ H' => Q .non H', Q, fun _ _ => False, fun _ _ => False⟩ (start ["_law_script", "_law_draws", "_law_one", "_law_two", "_law_told", "_law_ahead", "_law_row"] vs) H
/-! ### the scopes -/
theorem sc__law_cells : FnScope ["_law_script", "_law_count", "_law_cells_here", "_law_k", "_law_cell"] ["_law_script", "_law_count"] (defScope s__law_cells) := ⟨rfl, rfl, rfl, by decide +kernel, rfl, by decide +kernel, by decide +kernel⟩
theorem sc__law_draw : FnScope ["_law_draws", "_law_bound", "_law_value"] ["_law_draws", "_law_bound"] (defScope s__law_draw) := ⟨rfl, rfl, rfl, by decide +kernel, rfl, by decide +kernel, by decide +kernel⟩
theorem sc__law_text : FnScope ["_law_draws", "_law_text_here", "_law_turn"] ["_law_draws"] (defScope s__law_text) := ⟨rfl, rfl, rfl, by decide +kernel, rfl, by decide +kernel, by decide +kernel⟩
theorem sc_quoted : FnScope ["text", "signs", "sign"] ["text"] (defScope s_quoted) := ⟨rfl, rfl, rfl, by decide +kernel, rfl, by decide +kernel, by decide +kernel⟩
theorem sc_word_end : FnScope ["text", "place"] ["text", "place"] (defScope s_word_end) := ⟨rfl, rfl, rfl, by decide +kernel, rfl, by decide +kernel, by decide +kernel⟩
theorem sc_Token_init : FnScope ["self", "role", "text", "place"] ["self", "role", "text", "place"] (defScope s_Token_init) := ⟨rfl, rfl, rfl, by decide +kernel, rfl, by decide +kernel, by decide +kernel⟩
theorem sc_read_word : FnScope ["text", "place", "stop"] ["text", "place"] (defScope s_read_word) := ⟨rfl, rfl, rfl, by decide +kernel, rfl, by decide +kernel, by decide +kernel⟩
theorem sc_digits_end : FnScope ["text", "place"] ["text", "place"] (defScope s_digits_end) := ⟨rfl, rfl, rfl, by decide +kernel, rfl, by decide +kernel, by decide +kernel⟩
theorem sc_read_number : FnScope ["text", "place", "stop"] ["text", "place"] (defScope s_read_number) := ⟨rfl, rfl, rfl, by decide +kernel, rfl, by decide +kernel, by decide +kernel⟩
theorem sc_read_quoted : FnScope ["text", "place", "signs", "at", "sign"] ["text", "place"] (defScope s_read_quoted) := ⟨rfl, rfl, rfl, by decide +kernel, rfl, by decide +kernel, by decide +kernel⟩
theorem sc_read_sign : FnScope ["text", "place", "signs", "found", "sign"] ["text", "place", "signs"] (defScope s_read_sign) := ⟨rfl, rfl, rfl, by decide +kernel, rfl, by decide +kernel, by decide +kernel⟩
theorem sc_tokens : FnScope ["text", "signs", "longest", "row", "place", "sign", "token"] ["text", "signs", "longest"] (defScope s_tokens) := ⟨rfl, rfl, rfl, by decide +kernel, rfl, by decide +kernel, by decide +kernel⟩
theorem sc_law : FnScope ["_law_script", "_law_draws", "_law_one", "_law_two", "_law_told", "_law_ahead", "_law_row"] ["_law_script"] (defScope s_law) := ⟨rfl, rfl, rfl, by decide +kernel, rfl, by decide +kernel, by decide +kernel⟩
/-! ### what the top left -/
structure Tx (K : PySem.W.Frag) (mg : Str → Option Value) : Prop where
  d__law_cells : ∃ fd, FunD K "_law_cells" "_law_cells" (defArgs s__law_cells) (defBody s__law_cells) (defScope s__law_cells) [] [] (He.fAd K ("_law_cells", none)) fd
  d__law_draw : ∃ fd, FunD K "_law_draw" "_law_draw" (defArgs s__law_draw) (defBody s__law_draw) (defScope s__law_draw) [] [] (He.fAd K ("_law_draw", none)) fd
  d__law_text : ∃ fd, FunD K "_law_text" "_law_text" (defArgs s__law_text) (defBody s__law_text) (defScope s__law_text) [] [] (He.fAd K ("_law_text", none)) fd
  d_quoted : ∃ fd, FunD K "quoted" "quoted" (defArgs s_quoted) (defBody s_quoted) (defScope s_quoted) [] [] (He.fAd K ("quoted", none)) fd
  d_word_end : ∃ fd, FunD K "word_end" "word_end" (defArgs s_word_end) (defBody s_word_end) (defScope s_word_end) [] [] (He.fAd K ("word_end", none)) fd
  d_Token_init : ∃ fd, FunD K "__init__" "Token.__init__" (defArgs s_Token_init) (defBody s_Token_init) (defScope s_Token_init) [] [] (He.fAd K ("Token", some "__init__")) fd
  d_read_word : ∃ fd, FunD K "read_word" "read_word" (defArgs s_read_word) (defBody s_read_word) (defScope s_read_word) [] [] (He.fAd K ("read_word", none)) fd
  d_digits_end : ∃ fd, FunD K "digits_end" "digits_end" (defArgs s_digits_end) (defBody s_digits_end) (defScope s_digits_end) [] [] (He.fAd K ("digits_end", none)) fd
  d_read_number : ∃ fd, FunD K "read_number" "read_number" (defArgs s_read_number) (defBody s_read_number) (defScope s_read_number) [] [] (He.fAd K ("read_number", none)) fd
  d_read_quoted : ∃ fd, FunD K "read_quoted" "read_quoted" (defArgs s_read_quoted) (defBody s_read_quoted) (defScope s_read_quoted) [] [] (He.fAd K ("read_quoted", none)) fd
  d_read_sign : ∃ fd, FunD K "read_sign" "read_sign" (defArgs s_read_sign) (defBody s_read_sign) (defScope s_read_sign) [] [] (He.fAd K ("read_sign", none)) fd
  d_tokens : ∃ fd, FunD K "tokens" "tokens" (defArgs s_tokens) (defBody s_tokens) (defScope s_tokens) [] [] (He.fAd K ("tokens", none)) fd
  d_law : ∃ fd, FunD K "law" "law" (defArgs s_law) (defBody s_law) (defScope s_law) [] [] (He.fAd K ("law", none)) fd
  g__law_cells : mg "_law_cells" = some (.ref (He.ga K "_law_cells"))
  g__law_draw : mg "_law_draw" = some (.ref (He.ga K "_law_draw"))
  g__law_text : mg "_law_text" = some (.ref (He.ga K "_law_text"))
  g_quoted : mg "quoted" = some (.ref (He.ga K "quoted"))
  g_word_end : mg "word_end" = some (.ref (He.ga K "word_end"))
  g_read_word : mg "read_word" = some (.ref (He.ga K "read_word"))
  g_digits_end : mg "digits_end" = some (.ref (He.ga K "digits_end"))
  g_read_number : mg "read_number" = some (.ref (He.ga K "read_number"))
  g_read_quoted : mg "read_quoted" = some (.ref (He.ga K "read_quoted"))
  g_read_sign : mg "read_sign" = some (.ref (He.ga K "read_sign"))
  g_tokens : mg "tokens" = some (.ref (He.ga K "tokens"))
  g_law : mg "law" = some (.ref (He.ga K "law"))
  b_int : mg "int" = none
  b_isinstance : mg "isinstance" = none
  b_len : mg "len" = none
  b_range : mg "range" = none
  b_str : mg "str" = none
  k_DIGITS : ∃ u, mg "DIGITS" = some u ∧ RelV k_DIGITS u
  k_LETTERS : ∃ u, mg "LETTERS" = some u ∧ RelV k_LETTERS u
  k_NUMBER_LENGTH : ∃ u, mg "NUMBER_LENGTH" = some u ∧ RelV k_NUMBER_LENGTH u
  k_WORD_LENGTH : ∃ u, mg "WORD_LENGTH" = some u ∧ RelV k_WORD_LENGTH u
  gc_Token : mg "Token" = some (.ref (He.ga K "Token"))
  cl_Token : Cls K (He.ga K "Token")
  mk_Token : Mk K (He.ga K "Token") (He.fAd K ("Token", some "__init__"))
  no_Token_place : NoAttr K (He.ga K "Token") "place"
  no_Token_role : NoAttr K (He.ga K "Token") "role"
  no_Token_text : NoAttr K (He.ga K "Token") "text"
/-! ### each def keeps its reading -/
section
variable {P : Program} {w : World} {K : PySem.W.Frag} {mg : Str → Option Value} {base : Heap}
theorem fn__law_cells (T : Tx K mg) {fd : FuncData} (F : FunD K "_law_cells" "_law_cells" (defArgs s__law_cells) (defBody s__law_cells) (defScope s__law_cells) [] [] (He.fAd K ("_law_cells", none)) fd) : FnOk P w K mg base (L2.CX P w) 1 (He.fAd K ("_law_cells", none)) fd ["_law_script", "_law_count"] (sp__law_cells K) := by
  refine F.ok sc__law_cells (fun vs H Q E h => h.1) (fun cdv A outer s H vs Q E hr h => ⟨_, ?_, h.2⟩)
  refine PSs.nox ?_
  exact (pss_cons (ps_set (i := 2) sc__law_cells.nd rfl (by first | exact Or.inl rfl | exact Or.inr rfl) (pe_lst pa_nil))
        (pss_cons (ps_for PassesOwn.never rfl (pi_range1 rfl T.b_range (pa_cons (pv 1) pa_nil)) (pg_name (i := 3) sc__law_cells.nd rfl (by first | exact Or.inl rfl | exact Or.inr rfl))
        (pss_cons (ps_set (i := 4) sc__law_cells.nd rfl (by first | exact Or.inl rfl | exact Or.inr rfl) (pe_op op_addX (pe_op op_mulX pe_int (pv 3)) pe_int))
        (C8.pss_cut (ps_if (pt_cmpR op_ltX (pv 3) (pe_callB call_len (by rfl) T.b_len boot_len (pa_cons (pv 0) pa_nil)) (nomark _))
        (pss_cons (ps_set (i := 4) sc__law_cells.nd rfl (by first | exact Or.inl rfl | exact Or.inr rfl) (pe_callTy (CallR.or call_int1 call_int_str) (by rfl) T.b_int (by decide +kernel) (pa_cons (pe_ix ix_seq (pv 0) (pv 3) fun _ _ => rfl) pa_nil)))
        (pss_one (ps_if (pt_cmpR op_ltX (pv 4) pe_int (nomark _))
        (pss_one (ps_set (i := 4) sc__law_cells.nd rfl (by first | exact Or.inl rfl | exact Or.inr rfl) (pe_op op_subX pe_int (pe_op op_mulX pe_int (pv 4)))))
        pss_nil)))
        pss_nil)
        (C8.pss_cut (ps_if (pt_cmpR op_ltX (pv 4) pe_int (nomark _))
        (pss_cons (ps_set (i := 4) sc__law_cells.nd rfl (by first | exact Or.inl rfl | exact Or.inr rfl) (pe_op op_modX (pe_op op_addX (pe_op op_addX (pe_op op_mulX (pe_callTy (CallR.or call_int1 call_int_str) (by rfl) T.b_int (by decide +kernel) (pa_cons (pv 4) pa_nil)) pe_int) pe_int) (pe_op op_mulX pe_int (pv 3))) pe_int))
        (pss_one (ps_set (i := 4) sc__law_cells.nd rfl (by first | exact Or.inl rfl | exact Or.inr rfl) (pe_op op_modX (pe_op op_addX (pe_op op_mulX (pe_callTy (CallR.or call_int1 call_int_str) (by rfl) T.b_int (by decide +kernel) (pa_cons (pv 4) pa_nil)) pe_int) pe_int) pe_int))))
        pss_nil)
        (pss_one (ps_expr (pe_bm PySem.F.plainAttrs_list PySem.F.slot_list_append PySem.F.type_list_append mt_append (pv 2) (pa_cons (pv 4) pa_nil))))))))
        (pss_one (ps_ret (pv 2)))))
theorem Tx.ok__law_cells (T : Tx K mg) : Cl P w K mg base 1 "_law_cells" (sp__law_cells K) [] := by
  obtain ⟨fd, F⟩ := T.d__law_cells
  have ok := fn__law_cells (P := P) (w := w) (base := base) T F
  exact ⟨_, fd, _, [], ok, T.g__law_cells, F.kp, (FunD.bindsN F fun _ _ _ _ _ _ us hl => match us, hl with | [_, _], _ => rfl), .nil⟩
theorem fn__law_draw (T : Tx K mg) {fd : FuncData} (F : FunD K "_law_draw" "_law_draw" (defArgs s__law_draw) (defBody s__law_draw) (defScope s__law_draw) [] [] (He.fAd K ("_law_draw", none)) fd) : FnOk P w K mg base (L2.CX P w) 1 (He.fAd K ("_law_draw", none)) fd ["_law_draws", "_law_bound"] (sp__law_draw K) := by
  refine F.ok sc__law_draw (fun vs H Q E h => h.1) (fun cdv A outer s H vs Q E hr h => ⟨_, ?_, h.2⟩)
  refine PSs.nox ?_
  exact (C8.pss_cut (ps_if (PW.pt (pw_and (pt_cmpR op_eq (pe_ix ix_seq (pv 0) pe_int fun _ _ => rfl) pe_int (nomark _)) (pw_and1 (pt_cmpR op_gtX (pe_callB call_len (by rfl) T.b_len boot_len (pa_cons (pv 0) pa_nil)) pe_int (nomark _)))))
        (pss_one (ps_expr (pe_bm PySem.F.plainAttrs_list PySem.F.slot_list_pop PySem.F.type_list_pop (MtR.or mt_pop mt_popAt) (pv 0) (pa_cons pe_int pa_nil))))
        pss_nil)
        (pss_cons (ps_set (i := 2) sc__law_draw.nd rfl (by first | exact Or.inl rfl | exact Or.inr rfl) (pe_op op_modX (pe_callTy (CallR.or call_int1 call_int_str) (by rfl) T.b_int (by decide +kernel) (pa_cons (pe_ix ix_seq (pv 0) pe_int fun _ _ => rfl) pa_nil)) (pv 1)))
        (pss_cons (ps_asg (pe_op op_divX (pe_ix ix_seq (pv 0) pe_int fun _ _ => rfl) (pv 1)) (pg_sub (pv 0) pe_int set_list))
        (pss_one (ps_ret (pv 2))))))
theorem Tx.ok__law_draw (T : Tx K mg) : Cl P w K mg base 1 "_law_draw" (sp__law_draw K) [] := by
  obtain ⟨fd, F⟩ := T.d__law_draw
  have ok := fn__law_draw (P := P) (w := w) (base := base) T F
  exact ⟨_, fd, _, [], ok, T.g__law_draw, F.kp, (FunD.bindsN F fun _ _ _ _ _ _ us hl => match us, hl with | [_, _], _ => rfl), .nil⟩
theorem fn__law_text (T : Tx K mg) {fd : FuncData} (F : FunD K "_law_text" "_law_text" (defArgs s__law_text) (defBody s__law_text) (defScope s__law_text) [] [] (He.fAd K ("_law_text", none)) fd) : FnOk P w K mg base (L2.CX P w) 2 (He.fAd K ("_law_text", none)) fd ["_law_draws"] (sp__law_text K) := by
  refine F.ok sc__law_text (fun vs H Q E h => h.1) (fun cdv A outer s H vs Q E hr h => ⟨_, ?_, h.2⟩)
  refine PSs.nox ?_
  exact (pss_cons (ps_set (i := 1) sc__law_text.nd rfl (by first | exact Or.inl rfl | exact Or.inr rfl) pe_str)
        (pss_cons (ps_for PassesOwn.never rfl (pi_range1 rfl T.b_range (pa_cons (pe_cl (T.ok__law_draw) hr (by decide) (fun _ => pz) rfl (pa_cons (pv 0) (pa_cons pe_int pa_nil))) pa_nil)) (pg_name (i := 2) sc__law_text.nd rfl (by first | exact Or.inl rfl | exact Or.inr rfl))
        (pss_one (ps_set (i := 1) sc__law_text.nd rfl (by first | exact Or.inl rfl | exact Or.inr rfl) (pe_op op_addX (pv 1) (pe_ix ix_seq pe_str (pe_cl (T.ok__law_draw) hr (by decide) (fun _ => pz) rfl (pa_cons (pv 0) (pa_cons pe_int pa_nil))) fun _ _ => rfl)))))
        (pss_one (ps_ret (pv 1)))))
theorem Tx.ok__law_text (T : Tx K mg) : Cl P w K mg base 2 "_law_text" (sp__law_text K) [] := by
  obtain ⟨fd, F⟩ := T.d__law_text
  have ok := fn__law_text (P := P) (w := w) (base := base) T F
  exact ⟨_, fd, _, [], ok, T.g__law_text, F.kp, (FunD.bindsN F fun _ _ _ _ _ _ us hl => match us, hl with | [_], _ => rfl), .nil⟩
theorem fn_quoted (T : Tx K mg) {fd : FuncData} (F : FunD K "quoted" "quoted" (defArgs s_quoted) (defBody s_quoted) (defScope s_quoted) [] [] (He.fAd K ("quoted", none)) fd) : FnOk P w K mg base (L2.CX P w) 1 (He.fAd K ("quoted", none)) fd ["text"] (sp_quoted K) := by
  refine F.ok sc_quoted (fun vs H Q E h => h.1) (fun cdv A outer s H vs Q E hr h => ⟨_, ?_, h.2⟩)
  refine PSs.nox ?_
  exact (pss_cons (ps_set (i := 1) sc_quoted.nd rfl (by first | exact Or.inl rfl | exact Or.inr rfl) (pe_lst (pa_cons pe_str pa_nil)))
        (pss_cons (ps_for PassesOwn.never rfl (pi_any (pv 0)) (pg_name (i := 2) sc_quoted.nd rfl (by first | exact Or.inl rfl | exact Or.inr rfl))
        (C8.pss_cut (ps_if (pt_cmpR op_inX (pv 2) (pe_tup (pa_cons pe_str (pa_cons pe_str pa_nil))) (by rfl))
        (pss_one (ps_expr (pe_bm PySem.F.plainAttrs_list PySem.F.slot_list_append PySem.F.type_list_append mt_append (pv 1) (pa_cons pe_str pa_nil))))
        pss_nil)
        (pss_one (ps_expr (pe_bm PySem.F.plainAttrs_list PySem.F.slot_list_append PySem.F.type_list_append mt_append (pv 1) (pa_cons (pv 2) pa_nil))))))
        (pss_cons (ps_expr (pe_bm PySem.F.plainAttrs_list PySem.F.slot_list_append PySem.F.type_list_append mt_append (pv 1) (pa_cons pe_str pa_nil)))
        (pss_one (ps_ret (pe_join pe_str (pv 1)))))))
theorem Tx.ok_quoted (T : Tx K mg) : Cl P w K mg base 1 "quoted" (sp_quoted K) [] := by
  obtain ⟨fd, F⟩ := T.d_quoted
  have ok := fn_quoted (P := P) (w := w) (base := base) T F
  exact ⟨_, fd, _, [], ok, T.g_quoted, F.kp, (FunD.bindsN F fun _ _ _ _ _ _ us hl => match us, hl with | [_], _ => rfl), .nil⟩
theorem fn_word_end (T : Tx K mg) {fd : FuncData} (F : FunD K "word_end" "word_end" (defArgs s_word_end) (defBody s_word_end) (defScope s_word_end) [] [] (He.fAd K ("word_end", none)) fd) : FnOk P w K mg base (L2.CX P w) 1 (He.fAd K ("word_end", none)) fd ["text", "place"] (sp_word_end K) := by
  refine F.ok sc_word_end (fun vs H Q E h => h.1) (fun cdv A outer s H vs Q E hr h => ⟨_, ?_, h.2⟩)
  refine PSs.nox ?_
  exact (pss_cons (ps_while PassesOwn.never (PW.pt (pw_and (pt_cmpR op_ltX (pv 1) (pe_callB call_len (by rfl) T.b_len boot_len (pa_cons (pv 0) pa_nil)) (nomark _)) (pw_and1 (PW.pt (pw_or (pt_cmpR op_inX (pe_ix ix_seq (pv 0) (pv 1) fun _ _ => rfl) (pe_gc rfl T.k_LETTERS) (by rfl)) (pw_or (pt_cmpR op_inX (pe_ix ix_seq (pv 0) (pv 1) fun _ _ => rfl) (pe_gc rfl T.k_DIGITS) (by rfl)) (pw_or1 (pt_cmpR op_eq (pe_ix ix_seq (pv 0) (pv 1) fun _ _ => rfl) pe_str (nomark _)))))))))
        (pss_one (ps_set (i := 1) sc_word_end.nd rfl (by first | exact Or.inl rfl | exact Or.inr rfl) (pe_op op_addX (pv 1) pe_int))))
        (pss_one (ps_ret (pv 1))))
theorem Tx.ok_word_end (T : Tx K mg) : Cl P w K mg base 1 "word_end" (sp_word_end K) [] := by
  obtain ⟨fd, F⟩ := T.d_word_end
  have ok := fn_word_end (P := P) (w := w) (base := base) T F
  exact ⟨_, fd, _, [], ok, T.g_word_end, F.kp, (FunD.bindsN F fun _ _ _ _ _ _ us hl => match us, hl with | [_, _], _ => rfl), .nil⟩
theorem fn_Token_init (T : Tx K mg) {fd : FuncData} (F : FunD K "__init__" "Token.__init__" (defArgs s_Token_init) (defBody s_Token_init) (defScope s_Token_init) [] [] (He.fAd K ("Token", some "__init__")) fd) : FnOk P w K mg base (L2.CX P w) 1 (He.fAd K ("Token", some "__init__")) fd ["self", "role", "text", "place"] (sp_Token_init K) := by
  refine F.ok sc_Token_init (fun vs H Q E h => h.1) (fun cdv A outer s H vs Q E hr h => ⟨_, ?_, h.2⟩)
  refine PSs.nox ?_
  exact (pss_cons (ps_fld (pv 0) (pv 1) rfl)
        (pss_cons (ps_fld (pv 0) (pv 2) rfl)
        (pss_one (ps_fld (pv 0) (pv 3) rfl))))
theorem Tx.ok_Token_init (T : Tx K mg) : Mq P w K mg base 1 "Token" (He.ga K ("Token" : Str)) (sp_Token_init K) [] := by
  obtain ⟨fd, F⟩ := T.d_Token_init
  have ok := fn_Token_init (P := P) (w := w) (base := base) T F
  exact ⟨_, fd, _, [], T.mk_Token, ok, T.gc_Token, (FunD.bindsN F fun _ _ _ _ _ _ us hl => match us, hl with | [_, _, _, _], _ => rfl), .nil⟩
theorem fn_read_word (T : Tx K mg) {fd : FuncData} (F : FunD K "read_word" "read_word" (defArgs s_read_word) (defBody s_read_word) (defScope s_read_word) [] [] (He.fAd K ("read_word", none)) fd) : FnOk P w K mg base (L2.CX P w) 3 (He.fAd K ("read_word", none)) fd ["text", "place"] (sp_read_word K) := by
  refine F.ok sc_read_word (fun vs H Q E h => h.1) (fun cdv A outer s H vs Q E hr h => ⟨_, ?_, h.2⟩)
  refine PSs.nox ?_
  exact (pss_cons (ps_set (i := 2) sc_read_word.nd rfl (by first | exact Or.inl rfl | exact Or.inr rfl) (pe_cl (T.ok_word_end) hr (by decide) (fun _ => pz) rfl (pa_cons (pv 0) (pa_cons (pv 1) pa_nil))))
        (pss_cons (ps_if (pt_cmpR op_gtX (pe_op op_subX (pv 2) (pv 1)) (pe_gc rfl T.k_WORD_LENGTH) (nomark _))
        (pss_one ps_never)
        pss_nil)
        (pss_one (ps_ret (pe_mq (T.ok_Token_init) hr (by decide) rfl (pa_cons pe_str (pa_cons (pe_slice sl_X (pv 0) (po_some (pv 1)) (po_some (pv 2))) (pa_cons (pv 1) pa_nil))))))))
theorem Tx.ok_read_word (T : Tx K mg) : Cl P w K mg base 3 "read_word" (sp_read_word K) [] := by
  obtain ⟨fd, F⟩ := T.d_read_word
  have ok := fn_read_word (P := P) (w := w) (base := base) T F
  exact ⟨_, fd, _, [], ok, T.g_read_word, F.kp, (FunD.bindsN F fun _ _ _ _ _ _ us hl => match us, hl with | [_, _], _ => rfl), .nil⟩
theorem fn_digits_end (T : Tx K mg) {fd : FuncData} (F : FunD K "digits_end" "digits_end" (defArgs s_digits_end) (defBody s_digits_end) (defScope s_digits_end) [] [] (He.fAd K ("digits_end", none)) fd) : FnOk P w K mg base (L2.CX P w) 1 (He.fAd K ("digits_end", none)) fd ["text", "place"] (sp_digits_end K) := by
  refine F.ok sc_digits_end (fun vs H Q E h => h.1) (fun cdv A outer s H vs Q E hr h => ⟨_, ?_, h.2⟩)
  refine PSs.nox ?_
  exact (pss_cons (ps_while PassesOwn.never (PW.pt (pw_and (pt_cmpR op_ltX (pv 1) (pe_callB call_len (by rfl) T.b_len boot_len (pa_cons (pv 0) pa_nil)) (nomark _)) (pw_and1 (pt_cmpR op_inX (pe_ix ix_seq (pv 0) (pv 1) fun _ _ => rfl) (pe_gc rfl T.k_DIGITS) (by rfl)))))
        (pss_one (ps_set (i := 1) sc_digits_end.nd rfl (by first | exact Or.inl rfl | exact Or.inr rfl) (pe_op op_addX (pv 1) pe_int))))
        (pss_one (ps_ret (pv 1))))
theorem Tx.ok_digits_end (T : Tx K mg) : Cl P w K mg base 1 "digits_end" (sp_digits_end K) [] := by
  obtain ⟨fd, F⟩ := T.d_digits_end
  have ok := fn_digits_end (P := P) (w := w) (base := base) T F
  exact ⟨_, fd, _, [], ok, T.g_digits_end, F.kp, (FunD.bindsN F fun _ _ _ _ _ _ us hl => match us, hl with | [_, _], _ => rfl), .nil⟩
theorem fn_read_number (T : Tx K mg) {fd : FuncData} (F : FunD K "read_number" "read_number" (defArgs s_read_number) (defBody s_read_number) (defScope s_read_number) [] [] (He.fAd K ("read_number", none)) fd) : FnOk P w K mg base (L2.CX P w) 3 (He.fAd K ("read_number", none)) fd ["text", "place"] (sp_read_number K) := by
  refine F.ok sc_read_number (fun vs H Q E h => h.1) (fun cdv A outer s H vs Q E hr h => ⟨_, ?_, h.2⟩)
  refine PSs.nox ?_
  exact (pss_cons (ps_set (i := 2) sc_read_number.nd rfl (by first | exact Or.inl rfl | exact Or.inr rfl) (pe_cl (T.ok_digits_end) hr (by decide) (fun _ => pz) rfl (pa_cons (pv 0) (pa_cons (pv 1) pa_nil))))
        (pss_cons (ps_if (PW.pt (pw_and (pt_cmpR op_gtX (pe_op op_subX (pv 2) (pv 1)) pe_int (nomark _)) (pw_and1 (pt_cmpR op_eq (pe_ix ix_seq (pv 0) (pv 1) fun _ _ => rfl) pe_str (nomark _)))))
        (pss_one ps_never)
        pss_nil)
        (pss_cons (ps_if (pt_cmpR op_gtX (pe_op op_subX (pv 2) (pv 1)) (pe_gc rfl T.k_NUMBER_LENGTH) (nomark _))
        (pss_one ps_never)
        pss_nil)
        (pss_cons (ps_if (pt_cmpR op_gtX (pe_cl (T.ok_word_end) hr (by decide) (fun _ => pz) rfl (pa_cons (pv 0) (pa_cons (pv 2) pa_nil))) (pv 2) (nomark _))
        (pss_one ps_never)
        pss_nil)
        (pss_one (ps_ret (pe_mq (T.ok_Token_init) hr (by decide) rfl (pa_cons pe_str (pa_cons (pe_slice sl_X (pv 0) (po_some (pv 1)) (po_some (pv 2))) (pa_cons (pv 1) pa_nil))))))))))
theorem Tx.ok_read_number (T : Tx K mg) : Cl P w K mg base 3 "read_number" (sp_read_number K) [] := by
  obtain ⟨fd, F⟩ := T.d_read_number
  have ok := fn_read_number (P := P) (w := w) (base := base) T F
  exact ⟨_, fd, _, [], ok, T.g_read_number, F.kp, (FunD.bindsN F fun _ _ _ _ _ _ us hl => match us, hl with | [_, _], _ => rfl), .nil⟩
theorem fn_read_quoted (T : Tx K mg) {fd : FuncData} (F : FunD K "read_quoted" "read_quoted" (defArgs s_read_quoted) (defBody s_read_quoted) (defScope s_read_quoted) [] [] (He.fAd K ("read_quoted", none)) fd) : FnOk P w K mg base (L2.CX P w) 3 (He.fAd K ("read_quoted", none)) fd ["text", "place"] (sp_read_quoted K) := by
  refine F.ok sc_read_quoted (fun vs H Q E h => h.1) (fun cdv A outer s H vs Q E hr h => ⟨_, ?_, h.2⟩)
  refine PSs.nox ?_
  exact (pss_cons (ps_set (i := 2) sc_read_quoted.nd rfl (by first | exact Or.inl rfl | exact Or.inr rfl) (pe_lst pa_nil))
        (pss_cons (ps_set (i := 3) sc_read_quoted.nd rfl (by first | exact Or.inl rfl | exact Or.inr rfl) (pe_op op_addX (pv 1) pe_int))
        (pss_cons (ps_while PassesOwn.never (pt_cmpR op_ltX (pv 3) (pe_callB call_len (by rfl) T.b_len boot_len (pa_cons (pv 0) pa_nil)) (nomark _))
        (pss_cons (ps_set (i := 4) sc_read_quoted.nd rfl (by first | exact Or.inl rfl | exact Or.inr rfl) (pe_ix ix_seq (pv 0) (pv 3) fun _ _ => rfl))
        (pss_cons (ps_if (pt_cmpR op_eq (pv 4) pe_str (nomark _))
        (pss_one (ps_ret (pe_tup (pa_cons (pe_mq (T.ok_Token_init) hr (by decide) rfl (pa_cons pe_str (pa_cons (pe_join pe_str (pv 2)) (pa_cons (pv 1) pa_nil)))) (pa_cons (pe_op op_addX (pv 3) pe_int) pa_nil)))))
        pss_nil)
        (C8.pss_cut (ps_if (pt_cmpR op_eq (pv 4) pe_str (nomark _))
        (pss_cons (ps_set (i := 3) sc_read_quoted.nd rfl (by first | exact Or.inl rfl | exact Or.inr rfl) (pe_op op_addX (pv 3) pe_int))
        (pss_cons (ps_if (pt_cmpR op_eq (pv 3) (pe_callB call_len (by rfl) T.b_len boot_len (pa_cons (pv 0) pa_nil)) (nomark _))
        (pss_one ps_break)
        pss_nil)
        (pss_cons (ps_set (i := 4) sc_read_quoted.nd rfl (by first | exact Or.inl rfl | exact Or.inr rfl) (pe_ix ix_seq (pv 0) (pv 3) fun _ _ => rfl))
        (pss_one (ps_if (pt_cmpR op_notInX (pv 4) (pe_tup (pa_cons pe_str (pa_cons pe_str pa_nil))) (by rfl))
        (pss_one ps_never)
        pss_nil)))))
        pss_nil)
        (pss_cons (ps_expr (pe_bm PySem.F.plainAttrs_list PySem.F.slot_list_append PySem.F.type_list_append mt_append (pv 2) (pa_cons (pv 4) pa_nil)))
        (pss_one (ps_set (i := 3) sc_read_quoted.nd rfl (by first | exact Or.inl rfl | exact Or.inr rfl) (pe_op op_addX (pv 3) pe_int))))))))
        (pss_one ps_never))))
theorem Tx.ok_read_quoted (T : Tx K mg) : Cl P w K mg base 3 "read_quoted" (sp_read_quoted K) [] := by
  obtain ⟨fd, F⟩ := T.d_read_quoted
  have ok := fn_read_quoted (P := P) (w := w) (base := base) T F
  exact ⟨_, fd, _, [], ok, T.g_read_quoted, F.kp, (FunD.bindsN F fun _ _ _ _ _ _ us hl => match us, hl with | [_, _], _ => rfl), .nil⟩
theorem fn_read_sign (T : Tx K mg) {fd : FuncData} (F : FunD K "read_sign" "read_sign" (defArgs s_read_sign) (defBody s_read_sign) (defScope s_read_sign) [] [] (He.fAd K ("read_sign", none)) fd) : FnOk P w K mg base (L2.CX P w) 3 (He.fAd K ("read_sign", none)) fd ["text", "place", "signs"] (sp_read_sign K) := by
  refine F.ok sc_read_sign (fun vs H Q E h => h.1) (fun cdv A outer s H vs Q E hr h => ⟨_, ?_, h.2⟩)
  refine PSs.nox ?_
  exact (pss_cons (ps_set (i := 3) sc_read_sign.nd rfl (by first | exact Or.inl rfl | exact Or.inr rfl) pe_str)
        (pss_cons (ps_for PassesOwn.never rfl (pi_any (pv 2)) (pg_name (i := 4) sc_read_sign.nd rfl (by first | exact Or.inl rfl | exact Or.inr rfl))
        (pss_one (ps_if (PW.pt (pw_and (pt_truth (pe_bm PySem.F.plainAttrs_str PySem.F.slot_str_startswith PySem.F.type_str_startswith mt_startswith3 (pv 0) (pa_cons (pv 4) (pa_cons (pv 1) pa_nil))) fun _ => rfl) (pw_and1 (pt_cmpR op_gtX (pe_callB call_len (by rfl) T.b_len boot_len (pa_cons (pv 4) pa_nil)) (pe_callB call_len (by rfl) T.b_len boot_len (pa_cons (pv 3) pa_nil)) (nomark _)))))
        (pss_one (ps_set (i := 3) sc_read_sign.nd rfl (by first | exact Or.inl rfl | exact Or.inr rfl) (pv 4)))
        pss_nil)))
        (pss_cons (ps_if (pt_cmpR op_eq (pv 3) pe_str (nomark _))
        (pss_one ps_never)
        pss_nil)
        (pss_one (ps_ret (pe_mq (T.ok_Token_init) hr (by decide) rfl (pa_cons pe_str (pa_cons (pv 3) (pa_cons (pv 1) pa_nil)))))))))
theorem Tx.ok_read_sign (T : Tx K mg) : Cl P w K mg base 3 "read_sign" (sp_read_sign K) [] := by
  obtain ⟨fd, F⟩ := T.d_read_sign
  have ok := fn_read_sign (P := P) (w := w) (base := base) T F
  exact ⟨_, fd, _, [], ok, T.g_read_sign, F.kp, (FunD.bindsN F fun _ _ _ _ _ _ us hl => match us, hl with | [_, _, _], _ => rfl), .nil⟩
theorem fn_tokens (T : Tx K mg) {fd : FuncData} (F : FunD K "tokens" "tokens" (defArgs s_tokens) (defBody s_tokens) (defScope s_tokens) [] [] (He.fAd K ("tokens", none)) fd) : FnOk P w K mg base (L2.CX P w) 4 (He.fAd K ("tokens", none)) fd ["text", "signs", "longest"] (sp_tokens K) := by
  refine F.ok sc_tokens (fun vs H Q E h => h.1) (fun cdv A outer s H vs Q E hr h => ⟨_, ?_, h.2⟩)
  refine PSs.nox ?_
  exact (pss_cons (ps_if (pt_cmpR op_gtX (pe_callB call_len (by rfl) T.b_len boot_len (pa_cons (pv 0) pa_nil)) (pv 2) (nomark _))
        (pss_one ps_never)
        pss_nil)
        (pss_cons (ps_set (i := 3) sc_tokens.nd rfl (by first | exact Or.inl rfl | exact Or.inr rfl) (pe_lst pa_nil))
        (pss_cons (ps_set (i := 4) sc_tokens.nd rfl (by first | exact Or.inl rfl | exact Or.inr rfl) pe_int)
        (pss_cons (ps_while PassesOwn.never (pt_cmpR op_ltX (pv 4) (pe_callB call_len (by rfl) T.b_len boot_len (pa_cons (pv 0) pa_nil)) (nomark _))
        (pss_cons (ps_set (i := 5) sc_tokens.nd rfl (by first | exact Or.inl rfl | exact Or.inr rfl) (pe_ix ix_seq (pv 0) (pv 4) fun _ _ => rfl))
        (pss_one (ps_if (pt_cmpR op_eq (pv 5) pe_str (nomark _))
        (pss_one (ps_set (i := 4) sc_tokens.nd rfl (by first | exact Or.inl rfl | exact Or.inr rfl) (pe_op op_addX (pv 4) pe_int)))
        (pss_one (ps_if (pt_cmpR op_inX (pv 5) (pe_gc rfl T.k_LETTERS) (by rfl))
        (pss_cons (ps_set (i := 6) sc_tokens.nd rfl (by first | exact Or.inl rfl | exact Or.inr rfl) (pe_cl (T.ok_read_word) hr (by decide) (fun _ => pz) rfl (pa_cons (pv 0) (pa_cons (pv 4) pa_nil))))
        (pss_cons (ps_expr (pe_bm PySem.F.plainAttrs_list PySem.F.slot_list_append PySem.F.type_list_append mt_append (pv 3) (pa_cons (pv 6) pa_nil)))
        (pss_one (ps_set (i := 4) sc_tokens.nd rfl (by first | exact Or.inl rfl | exact Or.inr rfl) (pe_op op_addX (pv 4) (pe_callB call_len (by rfl) T.b_len boot_len (pa_cons (pe_fld (pv 6) rfl) pa_nil)))))))
        (pss_one (ps_if (pt_cmpR op_inX (pv 5) (pe_gc rfl T.k_DIGITS) (by rfl))
        (pss_cons (ps_set (i := 6) sc_tokens.nd rfl (by first | exact Or.inl rfl | exact Or.inr rfl) (pe_cl (T.ok_read_number) hr (by decide) (fun _ => pz) rfl (pa_cons (pv 0) (pa_cons (pv 4) pa_nil))))
        (pss_cons (ps_expr (pe_bm PySem.F.plainAttrs_list PySem.F.slot_list_append PySem.F.type_list_append mt_append (pv 3) (pa_cons (pv 6) pa_nil)))
        (pss_one (ps_set (i := 4) sc_tokens.nd rfl (by first | exact Or.inl rfl | exact Or.inr rfl) (pe_op op_addX (pv 4) (pe_callB call_len (by rfl) T.b_len boot_len (pa_cons (pe_fld (pv 6) rfl) pa_nil)))))))
        (pss_one (ps_if (pt_cmpR op_eq (pv 5) pe_str (nomark _))
        (pss_cons (ps_asg (pe_cl (T.ok_read_quoted) hr (by decide) (fun _ => pz) rfl (pa_cons (pv 0) (pa_cons (pv 4) pa_nil))) (pg_tup rfl (pgs_cons (pg_name (i := 6) sc_tokens.nd rfl (by first | exact Or.inl rfl | exact Or.inr rfl)) (pgs_cons (pg_name (i := 4) sc_tokens.nd rfl (by first | exact Or.inl rfl | exact Or.inr rfl)) pgs_nil))))
        (pss_one (ps_expr (pe_bm PySem.F.plainAttrs_list PySem.F.slot_list_append PySem.F.type_list_append mt_append (pv 3) (pa_cons (pv 6) pa_nil)))))
        (pss_cons (ps_set (i := 6) sc_tokens.nd rfl (by first | exact Or.inl rfl | exact Or.inr rfl) (pe_cl (T.ok_read_sign) hr (by decide) (fun _ => pz) rfl (pa_cons (pv 0) (pa_cons (pv 4) (pa_cons (pv 1) pa_nil)))))
        (pss_cons (ps_expr (pe_bm PySem.F.plainAttrs_list PySem.F.slot_list_append PySem.F.type_list_append mt_append (pv 3) (pa_cons (pv 6) pa_nil)))
        (pss_one (ps_set (i := 4) sc_tokens.nd rfl (by first | exact Or.inl rfl | exact Or.inr rfl) (pe_op op_addX (pv 4) (pe_callB call_len (by rfl) T.b_len boot_len (pa_cons (pe_fld (pv 6) rfl) pa_nil)))))))))))))))))
        (pss_cons (ps_expr (pe_bm PySem.F.plainAttrs_list PySem.F.slot_list_append PySem.F.type_list_append mt_append (pv 3) (pa_cons (pe_mq (T.ok_Token_init) hr (by decide) rfl (pa_cons pe_str (pa_cons pe_str (pa_cons (pe_callB call_len (by rfl) T.b_len boot_len (pa_cons (pv 0) pa_nil)) pa_nil)))) pa_nil)))
        (pss_one (ps_ret (pv 3))))))))
theorem Tx.ok_tokens (T : Tx K mg) : Cl P w K mg base 4 "tokens" (sp_tokens K) [] := by
  obtain ⟨fd, F⟩ := T.d_tokens
  have ok := fn_tokens (P := P) (w := w) (base := base) T F
  exact ⟨_, fd, _, [], ok, T.g_tokens, F.kp, (FunD.bindsN F fun _ _ _ _ _ _ us hl => match us, hl with | [_, _, _], _ => rfl), .nil⟩
theorem fn_law (T : Tx K mg) {fd : FuncData} (F : FunD K "law" "law" (defArgs s_law) (defBody s_law) (defScope s_law) [] [] (He.fAd K ("law", none)) fd) : FnOk P w K mg base (L2.CX P w) 5 (He.fAd K ("law", none)) fd ["_law_script"] (sp_law K) := by
  refine F.ok sc_law (fun vs H Q E h => h.1) (fun cdv A outer s H vs Q E hr h => ⟨_, ?_, h.2⟩)
  refine PSs.nox ?_
  exact (pss_cons (ps_set (i := 1) sc_law.nd rfl (by first | exact Or.inl rfl | exact Or.inr rfl) (pe_cl (T.ok__law_cells) hr (by decide) (fun _ => pz) rfl (pa_cons (pv 0) (pa_cons pe_int pa_nil))))
        (pss_cons (ps_set (i := 2) sc_law.nd rfl (by first | exact Or.inl rfl | exact Or.inr rfl) (pe_cl (T.ok__law_text) hr (by decide) (fun _ => pz) rfl (pa_cons (pv 1) pa_nil)))
        (pss_cons (ps_set (i := 3) sc_law.nd rfl (by first | exact Or.inl rfl | exact Or.inr rfl) (pe_cl (T.ok__law_text) hr (by decide) (fun _ => pz) rfl (pa_cons (pv 1) pa_nil)))
        (C8.pss_cut (ps_if (pt_cmpR op_eq (pe_cl (T.ok__law_draw) hr (by decide) (fun _ => pz) rfl (pa_cons (pv 1) (pa_cons pe_int pa_nil))) pe_int (nomark _))
        (pss_one (ps_set (i := 3) sc_law.nd rfl (by first | exact Or.inl rfl | exact Or.inr rfl) (pe_slice sl_X (pv 2) po_none (po_some (pe_op op_subX (pe_callB call_len (by rfl) T.b_len boot_len (pa_cons (pv 2) pa_nil)) pe_int)))))
        pss_nil)
        (pss_cons (ps_set (i := 4) sc_law.nd rfl (by first | exact Or.inl rfl | exact Or.inr rfl) (pe_cl (T.ok_quoted) hr (by decide) (fun _ => pz) rfl (pa_cons (pv 2) pa_nil)))
        (pss_cons (ps_if (PW.pt (pw_or (pt_not (pt_truth (pe_callB call_isi (by rfl) T.b_isinstance (by decide +kernel) (pa_cons (pv 4) (pa_cons (pe_bltn (by rfl) T.b_str (by decide +kernel) rfl) pa_nil))) fun _ => rfl)) (pw_or1 (pt_cmpR op_ne (pe_cmpR op_eq (pv 4) (pe_cl (T.ok_quoted) hr (by decide) (fun _ => pz) rfl (pa_cons (pv 3) pa_nil)) (nomark _)) (pe_cmpR op_eq (pv 2) (pv 3) (nomark _)) (nomark _)))))
        (pss_one (ps_ret pe_bl))
        pss_nil)
        (pss_cons (ps_set (i := 5) sc_law.nd rfl (by first | exact Or.inl rfl | exact Or.inr rfl) (pe_op op_mulX pe_str (pe_cl (T.ok__law_draw) hr (by decide) (fun _ => pz) rfl (pa_cons (pv 1) (pa_cons pe_int pa_nil)))))
        (pss_cons (ps_set (i := 6) sc_law.nd rfl (by first | exact Or.inl rfl | exact Or.inr rfl) (pe_cl (T.ok_tokens) hr (by decide) (fun _ => pz) rfl (pa_cons (pe_op op_addX (pe_op op_addX (pv 5) (pv 4)) (pe_op op_mulX pe_str (pe_cl (T.ok__law_draw) hr (by decide) (fun _ => pz) rfl (pa_cons (pv 1) (pa_cons pe_int pa_nil))))) (pa_cons (pe_tup (pa_cons pe_str pa_nil)) (pa_cons pe_int pa_nil)))))
        (pss_cons (ps_if (PW.pt (pw_or (pt_cmpR op_ne (pe_callB call_len (by rfl) T.b_len boot_len (pa_cons (pv 6) pa_nil)) pe_int (nomark _)) (pw_or (pt_cmpR op_ne (pe_fld (pe_ix ix_seq (pv 6) pe_int fun _ _ => rfl) rfl) pe_str (nomark _)) (pw_or1 (pt_cmpR op_ne (pe_fld (pe_ix ix_seq (pv 6) pe_int fun _ _ => rfl) rfl) pe_str (nomark _))))))
        (pss_one (ps_ret pe_bl))
        pss_nil)
        (pss_one (ps_ret (pe_and (pe_cmpR op_eq (pe_fld (pe_ix ix_seq (pv 6) pe_int fun _ _ => rfl) rfl) (pv 2) (nomark _)) (pe_and (pe_cmpR op_eq (pe_fld (pe_ix ix_seq (pv 6) pe_int fun _ _ => rfl) rfl) (pe_callB call_len (by rfl) T.b_len boot_len (pa_cons (pv 5) pa_nil)) (nomark _)) (pe_one (pe_cmpR op_eq (pe_fld (pe_ix ix_seq (pv 6) pe_int fun _ _ => rfl) rfl) pe_str (nomark _))))))))))))))))
theorem Tx.law (T : Tx K mg) : ∃ fd : FuncData, (∀ (s : Shared) (u : Value), BindsTo s fd ⟨[u], []⟩ [("_law_script", u)]) ∧ ∀ base : Heap, FnOk P w K mg base (L2.CX P w) 5 (He.ga K "law") fd ["_law_script"] (sp_law K) := by
  obtain ⟨fd, F⟩ := T.d_law
  have b := FunD.bindsA (ps := ["_law_script"]) F fun _ _ _ _ _ _ us hl => match us, hl with | [_], _ => rfl
  exact ⟨fd, fun s v => b s [v] rfl, fun base => fn_law T F⟩
end
end Lw

namespace Lw
open PySem PySem.Spec PyProof.Rows L2 G
def dd__law_cells : He.DefD := ⟨("_law_cells", none), "_law_cells", "_law_cells", defArgs s__law_cells, defBody s__law_cells, defScope s__law_cells, [], []⟩
def dd__law_draw : He.DefD := ⟨("_law_draw", none), "_law_draw", "_law_draw", defArgs s__law_draw, defBody s__law_draw, defScope s__law_draw, [], []⟩
def dd__law_text : He.DefD := ⟨("_law_text", none), "_law_text", "_law_text", defArgs s__law_text, defBody s__law_text, defScope s__law_text, [], []⟩
def dd_quoted : He.DefD := ⟨("quoted", none), "quoted", "quoted", defArgs s_quoted, defBody s_quoted, defScope s_quoted, [], []⟩
def dd_word_end : He.DefD := ⟨("word_end", none), "word_end", "word_end", defArgs s_word_end, defBody s_word_end, defScope s_word_end, [], []⟩
def dd_Token_init : He.DefD := ⟨("Token", some "__init__"), "__init__", "Token.__init__", defArgs s_Token_init, defBody s_Token_init, defScope s_Token_init, [], []⟩
def dd_read_word : He.DefD := ⟨("read_word", none), "read_word", "read_word", defArgs s_read_word, defBody s_read_word, defScope s_read_word, [], []⟩
def dd_digits_end : He.DefD := ⟨("digits_end", none), "digits_end", "digits_end", defArgs s_digits_end, defBody s_digits_end, defScope s_digits_end, [], []⟩
def dd_read_number : He.DefD := ⟨("read_number", none), "read_number", "read_number", defArgs s_read_number, defBody s_read_number, defScope s_read_number, [], []⟩
def dd_read_quoted : He.DefD := ⟨("read_quoted", none), "read_quoted", "read_quoted", defArgs s_read_quoted, defBody s_read_quoted, defScope s_read_quoted, [], []⟩
def dd_read_sign : He.DefD := ⟨("read_sign", none), "read_sign", "read_sign", defArgs s_read_sign, defBody s_read_sign, defScope s_read_sign, [], []⟩
def dd_tokens : He.DefD := ⟨("tokens", none), "tokens", "tokens", defArgs s_tokens, defBody s_tokens, defScope s_tokens, [], []⟩
def dd_law : He.DefD := ⟨("law", none), "law", "law", defArgs s_law, defBody s_law, defScope s_law, [], []⟩
def fn : List He.DefD := [dd__law_cells, dd__law_draw, dd__law_text, dd_quoted, dd_word_end, dd_Token_init, dd_read_word, dd_digits_end, dd_read_number, dd_read_quoted, dd_read_sign, dd_tokens, dd_law]
def fa : List He.Fa := [.glo "_law_cells", .glo "_law_draw", .glo "_law_text", .glo "quoted", .glo "word_end", .glo "read_word", .glo "digits_end", .glo "read_number", .glo "read_quoted", .glo "read_sign", .glo "tokens", .glo "law", .free "int", .free "isinstance", .free "len", .free "range", .free "str", .str "DIGITS" "0123456789", .str "LETTERS" "abcdefghijklmnopqrstuvwxyzABCDEFGHIJKLMNOPQRSTUVWXYZ", .int "NUMBER_LENGTH" 18, .int "WORD_LENGTH" 12, .glo "Token", .cls "Token", .mkr "Token", .noat "Token" "place", .noat "Token" "role", .noat "Token" "text"]
theorem kstr {K : PySem.W.Frag} {h : Heap} {mg : Str → Option Value} (X : K.In h) (G : h.Ns mainGlobals mg) {x z : Str} (c : (He.Fa.str x z).ok K = true) : ∃ u, mg x = some u ∧ RelV (.str z) u := by
  obtain ⟨t, e⟩ := He.str_ok X G c
  exact ⟨_, e, _, rfl⟩
theorem kint {K : PySem.W.Frag} {h : Heap} {mg : Str → Option Value} (X : K.In h) (G : h.Ns mainGlobals mg) {x : Str} {z : Int} (c : (He.Fa.int x z).ok K = true) : ∃ u, mg x = some u ∧ RelV (.int z) u := by
  obtain ⟨t, e⟩ := He.int_ok X G c
  exact ⟨_, e, _, rfl⟩
theorem tx {K : PySem.W.Frag} {h : Heap} {mg : Str → Option Value} (X : K.In h) (G : h.Ns mainGlobals mg) (c : He.SaysD fa fn K) : Tx K mg where
  d__law_cells := c.def_ 0 (d := dd__law_cells) rfl
  d__law_draw := c.def_ 1 (d := dd__law_draw) rfl
  d__law_text := c.def_ 2 (d := dd__law_text) rfl
  d_quoted := c.def_ 3 (d := dd_quoted) rfl
  d_word_end := c.def_ 4 (d := dd_word_end) rfl
  d_Token_init := c.def_ 5 (d := dd_Token_init) rfl
  d_read_word := c.def_ 6 (d := dd_read_word) rfl
  d_digits_end := c.def_ 7 (d := dd_digits_end) rfl
  d_read_number := c.def_ 8 (d := dd_read_number) rfl
  d_read_quoted := c.def_ 9 (d := dd_read_quoted) rfl
  d_read_sign := c.def_ 10 (d := dd_read_sign) rfl
  d_tokens := c.def_ 11 (d := dd_tokens) rfl
  d_law := c.def_ 12 (d := dd_law) rfl
  g__law_cells := He.glo_ok X G (c.fact 0 (f := .glo "_law_cells") rfl)
  g__law_draw := He.glo_ok X G (c.fact 1 (f := .glo "_law_draw") rfl)
  g__law_text := He.glo_ok X G (c.fact 2 (f := .glo "_law_text") rfl)
  g_quoted := He.glo_ok X G (c.fact 3 (f := .glo "quoted") rfl)
  g_word_end := He.glo_ok X G (c.fact 4 (f := .glo "word_end") rfl)
  g_read_word := He.glo_ok X G (c.fact 5 (f := .glo "read_word") rfl)
  g_digits_end := He.glo_ok X G (c.fact 6 (f := .glo "digits_end") rfl)
  g_read_number := He.glo_ok X G (c.fact 7 (f := .glo "read_number") rfl)
  g_read_quoted := He.glo_ok X G (c.fact 8 (f := .glo "read_quoted") rfl)
  g_read_sign := He.glo_ok X G (c.fact 9 (f := .glo "read_sign") rfl)
  g_tokens := He.glo_ok X G (c.fact 10 (f := .glo "tokens") rfl)
  g_law := He.glo_ok X G (c.fact 11 (f := .glo "law") rfl)
  b_int := He.free_ok X G (c.fact 12 (f := .free "int") rfl)
  b_isinstance := He.free_ok X G (c.fact 13 (f := .free "isinstance") rfl)
  b_len := He.free_ok X G (c.fact 14 (f := .free "len") rfl)
  b_range := He.free_ok X G (c.fact 15 (f := .free "range") rfl)
  b_str := He.free_ok X G (c.fact 16 (f := .free "str") rfl)
  k_DIGITS := kstr X G (c.fact 17 (f := .str "DIGITS" "0123456789") rfl)
  k_LETTERS := kstr X G (c.fact 18 (f := .str "LETTERS" "abcdefghijklmnopqrstuvwxyzABCDEFGHIJKLMNOPQRSTUVWXYZ") rfl)
  k_NUMBER_LENGTH := kint X G (c.fact 19 (f := .int "NUMBER_LENGTH" 18) rfl)
  k_WORD_LENGTH := kint X G (c.fact 20 (f := .int "WORD_LENGTH" 12) rfl)
  gc_Token := He.glo_ok X G (c.fact 21 (f := .glo "Token") rfl)
  cl_Token := He.cls_ok (c.fact 22 (f := .cls "Token") rfl)
  mk_Token := He.mkr_ok (c.fact 23 (f := .mkr "Token") rfl)
  no_Token_place := He.noat_ok (c.fact 24 (f := .noat "Token" "place") rfl)
  no_Token_role := He.noat_ok (c.fact 25 (f := .noat "Token" "role") rfl)
  no_Token_text := He.noat_ok (c.fact 26 (f := .noat "Token" "text") rfl)
abbrev R : PySem.W.OpenRow := PySem.W.OpenLaw.row PySem.Challenge.rw_oneheap_k01_quoted_texts
abbrev hk : PySem.W.Hook := He.hookD 5 fa fn
def ob (s : PySem.W.SharedT) : He.AlD := He.obsDG 5 fa fn (HandSHeadRun.getT s)
theorem ob_eq (s : PySem.W.SharedT) : ob s = hk.obs s.abs := He.obsDG_eq (HandSHeadRun.getT_eq s)
def nm : List Str := ["HeapError", "Fault", "Token", "word_end", "digits_end", "read_word", "read_number", "read_quoted", "read_sign", "tokens", "quoted", "_law_cells", "_law_draw", "_law_text", "WORD_LENGTH", "NUMBER_LENGTH", "LETTERS", "DIGITS"]
theorem run (w : World) : HandSHeadRun.RunEq R (PySem.W.view R.prog [21]) hk ob 4000 nm w := by
  intro os
  kernel_rfl
end Lw

local macro_rules | `(tactic| walk_at "go1") => `(tactic| first
  | with_reducible refine G.g_seq ?_
  | (with_reducible show L2.tVar _ _ _ _; refine G.g_var rfl ?_)
  | with_reducible refine G.g_c ?_
  | with_reducible refine G.g_op ?_
  | with_reducible refine G.g_asg ?_
  | with_reducible refine G.g_if ?_
  | with_reducible refine G.g_test ?_
  | with_reducible refine G.g_k ?_
  | with_reducible refine G.g_tru ?_
  | with_reducible refine G.v_truB ?_
  | with_reducible refine G.v_truN ?_
  | with_reducible refine L2.iteT ?_
  | with_reducible refine L2.iteF ?_
  | with_reducible refine G.iteNT ?_
  | with_reducible refine G.iteNF ?_
  | with_reducible refine G.v_addI ?_
  | with_reducible refine G.v_sub ?_
  | with_reducible refine G.v_lt ?_
  | with_reducible refine G.v_le ?_
  | with_reducible refine G.v_gt ?_
  | with_reducible refine G.v_ge ?_
  | with_reducible refine G.v_eqI ?_
  | with_reducible refine G.v_eqS ?_
  | with_reducible refine G.v_eqB ?_
  | with_reducible refine G.v_neI ?_
  | with_reducible refine G.v_neS ?_
  | with_reducible refine G.v_neB ?_
  | with_reducible refine G.v_inS ?_
  | with_reducible refine G.v_notInS ?_
  | with_reducible refine G.v_isN ?_
  | with_reducible refine G.v_isNotN ?_
  | with_reducible refine G.v_intI ?_
  | with_reducible refine G.g_callB ?_
  | with_reducible refine G.g_call ?_
  | with_reducible refine G.g_nil ?_
  | with_reducible refine G.g_cons ?_
  | with_reducible refine G.g_and ?_
  | with_reducible refine G.g_or ?_
  | with_reducible refine G.g_not ?_
  | with_reducible refine G.g_andV ?_
  | with_reducible refine G.g_orV ?_
  | with_reducible refine G.g_notV ?_
  | with_reducible refine G.g_ifE ?_
  | with_reducible refine G.g_un ?_
  | with_reducible refine G.g_tup ?_
  | with_reducible refine G.g_lst ?_
  | with_reducible refine G.g_small (Nat.le_of_ble_eq_true rfl) ?_
  | with_reducible refine G.g_drop ?_
  | with_reducible refine G.g_ret ?_
  | with_reducible refine G.g_retN ?_
  | with_reducible refine G.g_next ?_
  | with_reducible refine G.g_brk ?_
  | with_reducible refine G.g_cont ?_
  | with_reducible refine G.g_for ?_
  | with_reducible refine G.g_name ?_
  | with_reducible refine G.g_rng1 ?_
  | with_reducible refine G.g_rng2 ?_
  | with_reducible refine G.g_bm ?_
  | with_reducible refine G.g_bm0 ?_
  | with_reducible refine G.g_tyS ?_
  | with_reducible refine G.g_m1 ?_
  | with_reducible refine G.g_isS ?_
  | with_reducible refine G.v_starts3 ?_
  | with_reducible refine G.g_sl ?_
  | with_reducible refine G.g_no ?_
  | with_reducible refine G.g_part ?_
  | with_reducible refine G.g_isI ?_
  | with_reducible refine G.g_make ?_
  | with_reducible refine G.g_fld ?_
  | with_reducible refine G.g_sfld ?_
  | with_reducible refine G.g_asgG ?_
  | with_reducible refine G.g_sub ?_
  | with_reducible refine G.g_gcons ?_
  | with_reducible refine G.g_gnil ?_
  | with_reducible refine G.v_mulI (by unfold L2.CMul; first | (left; omega) | (right; omega)) ?_
  | with_reducible refine G.v_mod (by omega) ?_
  | with_reducible refine G.v_div (by unfold L2.CDiv; omega) ?_)
local macro_rules | `(tactic| walk_at "go") => `(tactic| repeat walk_at "go1")

namespace Lw
open PySem PySem.Spec PyProof.Rows L2 G
section
variable {K : PySem.W.Frag} {H : Hp} {Q : VK} {E : XK}
theorem rd_cells {a : Addr} {ns : List Int} {n : Nat} (hS : SqL K H a (ns.map V.int)) (hn : n ≤ 64)
    (q : ∀ p xs H', H p = none → H' p = some (.lst ((xs : List Int).map V.int)) → xs.length = n → Same H H' → Q (.ref p) H') : sp__law_cells K [.ref a, .int (n : Int)] H Q E := by
  refine ⟨rfl, ?_⟩
  unfold t__law_cells
  walk_at "go"
  intro p hp
  walk_at "go"
  refine g_rngN (n := n) (by omega) ?_
  refine l_range (fun i σ H' => i ≤ n ∧ ∃ (xs : List Int) (v4 v5 : Option V), xs.length = i ∧ σ = [some (.ref a), some (.int n), some (.ref p), v4, v5] ∧ H' p = some (.lst (xs.map V.int)) ∧ Same H H')
    ⟨Nat.zero_le _, [], none, none, rfl, rfl, upd_same, same_new hp⟩ ?_ ?_
  · rintro i σ H' hi ⟨_, xs, v4, v5, hl, rfl, hx, hs⟩
    walk_at "go"
    refine g_cut (fun σ' H'' => H' = H'' ∧ ∃ c : Int, σ' = [some (.ref a), some (.int n), some (.ref p), some (.int (0 + i)), some (.int c)]) ?_ ?_
    · walk_at "go"
      refine v_lenSq (hs.seq hS) ?_
      walk_at "go"
      refine ite2 (fun hlt => ?_) (fun hlt => ?_)
      · have hlt' := of_decide_eq_true hlt
        rw [List.length_map] at hlt'
        walk_at "go"
        refine v_ixSq (hs.seq hS) (atN (i := i) (by omega) (List.getElem?_eq_getElem (by rw [List.length_map]; omega))) ?_
        rw [List.getElem_map]
        walk_at "go"
        refine ite2 (fun h0 => ?_) (fun h0 => ?_)
        · walk_at "go"
          exact ⟨rfl, _, rfl⟩
        · walk_at "go"
          exact ⟨rfl, _, rfl⟩
      · walk_at "go"
        exact ⟨rfl, _, rfl⟩
    rintro σ' H'' ⟨rfl, c, rfl⟩
    refine g_cut (fun σ' H'' => H' = H'' ∧ ∃ c : Int, σ' = [some (.ref a), some (.int n), some (.ref p), some (.int (0 + i)), some (.int c)]) ?_ ?_
    · walk_at "go"
      refine ite2 (fun hlt => ?_) (fun hlt => ?_)
      · walk_at "go"
        exact ⟨rfl, _, rfl⟩
      · walk_at "go"
        exact ⟨rfl, _, rfl⟩
    rintro σ' H'' ⟨rfl, c, rfl⟩
    walk_at "go"
    refine g_tyL hx ?_
    walk_at "go"
    refine v_append hx (by rw [List.length_map]; exact small1000 (by omega)) ?_
    refine ⟨by omega, xs ++ [c], some (.int (0 + i)), some (.int c), by simp [hl], rfl, by rw [List.map_append]; exact upd_same, fun b o e => ?_⟩
    rw [upd_ne (ne_of_none e hp)]
    exact hs b o e
  · rintro σ H' ⟨_, xs, v4, v5, hl, rfl, hx, hs⟩
    walk_at "go"
    exact q p xs _ hp hx hl hs
/-- the draws: a list of ints, not empty -/
def Dr (d : Addr) (H : Hp) : Prop := ∃ xs : List Int, xs ≠ [] ∧ xs.length ≤ 64 ∧ H d = some (.lst (xs.map V.int))
theorem rd_draw {d : Addr} {b : Int} (hd : Dr d H) (hb : 0 < b ∧ b < 1073741824) (q : ∀ v H', 0 ≤ v → v < b → Dr d H' → Sb d H H' → Q (.int v) H') : sp__law_draw K [.ref d, .int b] H Q E := by
  obtain ⟨xs, hx, hxl, hd⟩ := hd
  refine ⟨rfl, ?_⟩
  unfold t__law_draw
  refine g_cut (fun σ' H' => σ' = [some (.ref d), some (.int b), none] ∧ Sb d H H' ∧ ∃ (y : Int) (ys : List Int), ys.length + 1 ≤ 64 ∧ H' d = some (.lst ((y :: ys).map V.int))) ?_ ?_
  · obtain ⟨y, ys, rfl⟩ : ∃ y ys, xs = y :: ys := by
      cases xs with
      | nil => exact absurd rfl hx
      | cons y ys => exact ⟨y, ys, rfl⟩
    have fin : ∀ {A B : Prop}, A → B → A ∧ B := fun a b => ⟨a, b⟩
    walk_at "go"
    refine v_ixL hd (atN (i := 0) rfl rfl) ?_
    walk_at "go"
    refine ite2 (fun h0 => ?_) (fun h0 => ?_)
    · walk_at "go"
      refine v_lenL hd ?_
      walk_at "go"
      refine ite2 (fun h1 => ?_) (fun h1 => ?_)
      · have h1' := of_decide_eq_true h1
        rw [List.length_map] at h1'
        cases ys with
        | nil => simp at h1'
        | cons z zs =>
          walk_at "go"
          refine g_tyL hd ?_
          walk_at "go"
          refine .inr ⟨_, _, 0, 0, _, rfl, rfl, hd, by decide, by decide, (ixN_seq (j := 0) (by simp [ixN]; omega)).1, rfl, ?_⟩
          exact ⟨rfl, Sb.upd, z, zs, by simp at hxl ⊢; omega, upd_same⟩
      · walk_at "go"
        exact ⟨rfl, Sb.refl, y, ys, hxl, hd⟩
    · walk_at "go"
      exact ⟨rfl, Sb.refl, y, ys, hxl, hd⟩
  rintro σ' H' ⟨rfl, hs, y, ys, hl, hd'⟩
  walk_at "go"
  refine v_ixL hd' (atN (i := 0) rfl rfl) ?_
  walk_at "go"
  refine v_ixL hd' (atN (i := 0) rfl rfl) ?_
  walk_at "go"
  refine v_setL (j := 0) hd' (by simp [ixN]) ?_
  walk_at "go"
  exact q _ _ (Int.emod_nonneg _ (by omega)) (Int.emod_lt_of_pos _ hb.1) ⟨y / b :: ys, by simp, by simpa using hl, upd_same⟩ (hs.trans Sb.upd)
end
end Lw

namespace Lw
open PySem PySem.Spec PyProof.Rows L2 G
/-- a text by its codes -/
abbrev sv (zs : List Nat) : V := .str ⟨zs.toArray⟩
theorem str_eta (z : Str) : z = ⟨z.cps.toList.toArray⟩ := by cases z; simp
theorem len_sv (zs : List Nat) : (⟨zs.toArray⟩ : Str).length = zs.length := by show zs.toArray.size = _; simp
theorem app_sv (a b : List Nat) : (⟨a.toArray⟩ : Str) ++ ⟨b.toArray⟩ = ⟨(a ++ b).toArray⟩ := by
  show (⟨a.toArray ++ b.toArray⟩ : Str) = _
  simp
theorem at_some {α : Type} {xs : List α} {n : Int} (h0 : 0 ≤ n) (h1 : n < xs.length) : ∃ c, xs[n.toNat]? = some c ∧ atI xs n = some c := by
  obtain ⟨i, rfl⟩ := Int.eq_ofNat_of_zero_le h0
  have hi : i < xs.length := by omega
  exact ⟨xs[i], by simp [hi], atI_nat (by simp [hi])⟩
theorem sl_const : sizeLine = 16777216 := sizeLine_eq
/-- ''.join of signs -/
theorem join_signs : ∀ zs : List Nat, Txt.join ("" : Str) (zs.map fun c => (⟨#[c]⟩ : Str)) = ⟨zs.toArray⟩ := by
  intro zs
  have e : ("" : Str) = ⟨#[]⟩ := by decide +kernel
  have key : ∀ l : List Nat, Str.join ⟨#[]⟩ (l.map fun c => (⟨#[c]⟩ : Str)) = ⟨l.toArray⟩ := by
    intro l
    induction l with
    | nil => rfl
    | cons a l ih =>
      cases l with
      | nil => rfl
      | cons b l =>
        show (⟨#[a]⟩ : Str) ++ ⟨#[]⟩ ++ Str.join ⟨#[]⟩ ((b :: l).map fun c => (⟨#[c]⟩ : Str)) = _
        rw [ih]
        show (⟨#[a] ++ #[] ++ (b :: l).toArray⟩ : Str) = _
        simp
  rw [e, TL.join_eq]
  exact key zs
theorem ins2 (c : Nat) : inV (.str ⟨#[c]⟩) [.str ("\"" : Str), .str ("\\" : Str)] = decide (c = 34 ∨ c = 92) := by
  have e1 : ("\"" : Str) = ⟨#[34]⟩ := by decide +kernel
  have e2 : ("\\" : Str) = ⟨#[92]⟩ := by decide +kernel
  rw [e1, e2]
  show ((⟨#[34]⟩ : Str) == ⟨#[c]⟩ || ((⟨#[92]⟩ : Str) == ⟨#[c]⟩ || false)) = _
  have k : ∀ d : Nat, ((⟨#[d]⟩ : Str) == ⟨#[c]⟩) = decide (c = d) := by
    intro d
    by_cases h : c = d
    · subst h; simp
    · have : ¬ (⟨#[d]⟩ : Str) = ⟨#[c]⟩ := by
        intro z
        have z2 := congrArg (fun s : Str => s.cps.toList) z
        simp at z2
        exact h z2.symm
      rw [decide_eq_false h]
      simpa using this
  rw [k, k]
  by_cases h1 : c = 34 <;> by_cases h2 : c = 92 <;> simp [h1, h2]
/-- what quoted writes of a sign -/
def esc (c : Nat) : List Nat := if c = 34 ∨ c = 92 then [92, c] else [c]
def qt (zs : List Nat) : List Nat := 34 :: (zs.flatMap esc ++ [34])
theorem esc_len (zs : List Nat) : (zs.flatMap esc).length ≤ 2 * zs.length := by
  induction zs with
  | nil => simp
  | cons a l ih =>
    rw [List.flatMap_cons, List.length_append, List.length_cons]
    have : (esc a).length ≤ 2 := by unfold esc; split <;> simp
    omega
section
variable {K : PySem.W.Frag} {H : Hp} {Q : VK} {E : XK}
theorem sg_len (l : List Nat) : ((l.map fun c => (⟨#[c]⟩ : Str)).map (·.length)).sum = l.length := by
  induction l with
  | nil => rfl
  | cons a l ih => simp only [List.map_cons, List.sum_cons, ih, List.length_cons]; show 1 + l.length = _; omega
theorem rd_quoted {zs : List Nat} (hl : zs.length ≤ 1000) (q : ∀ H', Same H H' → Q (sv (qt zs)) H') : sp_quoted K [sv zs] H Q E := by
  refine ⟨rfl, ?_⟩
  unfold t_quoted
  walk_at "go"
  intro p hp
  walk_at "go"
  refine gi_str ?_
  walk_at "go"
  refine v_ovS ?_
  have el := esc_len zs
  refine l_str (fun i σ H' => ∃ v2 : Option V, σ = [some (sv zs), some (.ref p), v2] ∧ H' p = some (.lst (((34 :: (zs.take i).flatMap esc).map fun c => (⟨#[c]⟩ : Str)).map V.str)) ∧ Same H H')
    ⟨none, rfl, ?_, same_new hp⟩ ?_ ?_
  · rw [upd_same]
    have e1 : ("\"" : Str) = ⟨#[34]⟩ := by decide +kernel
    rw [e1]
    rfl
  · rintro i c σ H' hi ⟨v2, rfl, hx, hs⟩
    have hil : i < zs.length := (List.getElem?_eq_some_iff.mp hi).1
    have tk : zs.take (i + 1) = zs.take i ++ [c] := by
      rw [List.take_add_one, hi]; rfl
    have el2 := esc_len (zs.take i)
    have el3 : (zs.take i).length ≤ 1000 := by rw [List.length_take]; omega
    walk_at "go"
    refine g_cut (fun σ' H'' => σ' = [some (sv zs), some (.ref p), some (.str ⟨#[c]⟩)] ∧ Same H H'' ∧
      H'' p = some (.lst (((34 :: (zs.take i).flatMap esc ++ (if c = 34 ∨ c = 92 then [92] else [])).map fun c => (⟨#[c]⟩ : Str)).map V.str))) ?_ ?_
    · walk_at "go"
      intro t ht
      refine v_inT upd_same rfl rfl ?_
      rw [ins2]
      walk_at "go"
      have hx' : upd H' t (.tup [.str ("\"" : Str), .str ("\\" : Str)]) p = some (.lst (((34 :: (zs.take i).flatMap esc).map fun c => (⟨#[c]⟩ : Str)).map V.str)) := up_new hx ht
      refine ite2 (fun h => ?_) (fun h => ?_)
      · have h' := of_decide_eq_true h
        walk_at "go"
        refine g_tyL hx' ?_
        walk_at "go"
        refine v_append hx' (by simp only [List.length_map, List.length_cons]; rw [sl_const]; omega) ?_
        refine ⟨rfl, fun b o e => ?_, ?_⟩
        · rw [upd_ne (ne_of_none e hp)]
          exact up_new (hs b o e) ht
        · rw [upd_same, if_pos h', List.map_append, List.map_append]
          have e2 : ("\\" : Str) = ⟨#[92]⟩ := by decide +kernel
          rw [e2]
          rfl
      · have h' : ¬ (c = 34 ∨ c = 92) := fun z => h (decide_eq_true z)
        walk_at "go"
        refine ⟨rfl, fun b o e => up_new (hs b o e) ht, ?_⟩
        rw [hx', if_neg h', List.append_nil]
    · rintro σ' H'' ⟨rfl, hs', hx'⟩
      walk_at "go"
      refine g_tyL hx' ?_
      walk_at "go"
      refine v_append hx' (by simp only [List.length_map, List.length_cons, List.length_append]; rw [sl_const]; split <;> simp only [List.length_cons, List.length_nil] <;> omega) ?_
      refine ⟨some (.str ⟨#[c]⟩), rfl, ?_, fun b o e => ?_⟩
      · rw [upd_same, tk, List.flatMap_append]
        congr 2
        unfold esc
        by_cases h : c = 34 ∨ c = 92 <;> simp [h]
      · rw [upd_ne (ne_of_none e hp)]
        exact hs' b o e
  · rintro σ H' ⟨v2, rfl, hx, hs⟩
    rw [List.take_length] at hx
    walk_at "go"
    refine g_tyL hx ?_
    walk_at "go"
    refine v_append hx (by simp only [List.length_map, List.length_cons]; rw [sl_const]; omega) ?_
    walk_at "go"
    have e1 : ("\"" : Str) = ⟨#[34]⟩ := by decide +kernel
    refine v_join (ys := (qt zs).map fun c => (⟨#[c]⟩ : Str)) (by rw [upd_same, e1]; simp [qt]) ?_ ?_
    · rw [sg_len, List.length_map]
      have e0 : (("" : Str)).length = 0 := by decide +kernel
      rw [e0]
      unfold qt
      simp only [List.length_cons, List.length_append, List.length_nil]
      omega
    · rw [join_signs]
      exact q _ fun b o e => by rw [upd_ne (ne_of_none e hp)]; exact hs b o e
end
end Lw

namespace Lw
open PySem PySem.Spec PyProof.Rows L2 G
/-! ### a quoted text, read -/
inductive Rq where
  | ok (t : List Nat) (n : Nat)
  | opn
  | bad (k : Nat)
def Rq.more (d : Nat) (k : Nat) : Rq → Rq
  | .ok t n => .ok (d :: t) (n + k)
  | .opn => .opn
  | .bad j => .bad (j + k)
def rq : List Nat → Rq
  | [] => .opn
  | [c] => if c = 34 then .ok [] 1 else .opn
  | c :: d :: r => if c = 34 then .ok [] 1 else if c = 92 then (if d = 34 ∨ d = 92 then (rq r).more d 2 else .bad 1) else (rq (d :: r)).more c 1
def Rq.at (acc : List Nat) (i : Nat) : Rq → Rq
  | .ok t n => .ok (acc ++ t) (i + n)
  | .opn => .opn
  | .bad j => .bad (i + j)
theorem Rq.at_more (acc : List Nat) (i d k : Nat) (r : Rq) : (r.more d k).at acc i = r.at (acc ++ [d]) (i + k) := by
  cases r <;> simp [Rq.more, Rq.at] <;> omega
/-- what quoted wrote is read back -/
theorem rq_esc (zs post : List Nat) : rq (zs.flatMap esc ++ 34 :: post) = .ok zs ((zs.flatMap esc).length + 1) := by
  induction zs with
  | nil => cases post <;> simp [rq]
  | cons c zs ih =>
    rw [List.flatMap_cons]
    by_cases h : c = 34 ∨ c = 92
    · have e : esc c = [92, c] := if_pos h
      rw [e]
      show rq (92 :: c :: (zs.flatMap esc ++ 34 :: post)) = _
      rw [rq, if_neg (by decide), if_pos rfl, if_pos h, ih]
      simp [Rq.more]
    · have e : esc c = [c] := if_neg h
      rw [e]
      have h1 : c ≠ 34 := fun z => h (.inl z)
      have h2 : c ≠ 92 := fun z => h (.inr z)
      have : ∀ l : List Nat, l ≠ [] → rq (c :: l) = (rq l).more c 1 := by
        intro l hl
        cases l with
        | nil => exact absurd rfl hl
        | cons d r => rw [rq, if_neg h1, if_neg h2]
      show rq (c :: (zs.flatMap esc ++ 34 :: post)) = _
      rw [this _ (by simp), ih]
      simp [Rq.more]
def tkF (r t p : V) : List (Str × V) := [("role", r), ("text", t), ("place", p)]
def TokAt (K : PySem.W.Frag) (H : Hp) (x : Addr) (r t p : V) : Prop := ∃ dx, H x = some (.ins (He.ga K "Token") dx (tkF r t p))
theorem TokAt.same {K : PySem.W.Frag} {H H' : Hp} {x : Addr} {r t p : V} (h : TokAt K H x r t p) (s : Same H H') : TokAt K H' x r t p := by
  obtain ⟨dx, h⟩ := h
  exact ⟨dx, s _ _ h⟩
theorem TokAt.sb {K : PySem.W.Frag} {H H' : Hp} {x d : Addr} {r t p : V} (h : TokAt K H x r t p) (s : Sb d H H') (n : x ≠ d) : TokAt K H' x r t p := by
  obtain ⟨dx, h⟩ := h
  exact ⟨dx, s _ _ n h⟩
section
variable {K : PySem.W.Frag} {H : Hp} {Q : VK} {E : XK} {mg : Str → Option Value}
theorem putF_lt {f : Str} {v : V} {n : Nat} : ∀ {fs : List (Str × V)}, fs.length < n → (putF f v fs).length < n + 1
  | [], h => by simp [putF]; omega
  | (g, z) :: r, h => by
    unfold putF
    split
    · simp only [List.length_cons] at h ⊢; omega
    · cases n with
      | zero => simp at h
      | succ n =>
        have := putF_lt (f := f) (v := v) (n := n) (fs := r) (by simpa using h)
        simp only [List.length_cons]
        omega
theorem mk_token (T : Tx K mg) {r t p : V} {S : Addr → Hp → Prop} (q : ∀ x H', H x = none → Same H H' → TokAt K H' x r t p → S x H') :
    ∀ x dx, H x = none → H dx = none → dx ≠ x → sp_Token_init K [.ref x, r, t, p] (upd (upd H dx (.own x)) x (.ins (He.ga K "Token") dx [])) (fun v H2 => v = .non ∧ S x H2) E := by
  intro x dx hx hdx ne
  refine ⟨rfl, ?_⟩
  unfold t_Token_init
  walk_at "go"
  refine v_sfld upd_same T.cl_Token T.no_Token_role (by decide) ?_
  walk_at "go"
  refine v_sfld upd_same T.cl_Token T.no_Token_text (putF_lt (n := 999) (by decide)) ?_
  walk_at "go"
  refine v_sfld upd_same T.cl_Token T.no_Token_place (putF_lt (n := 999) (putF_lt (n := 998) (by decide))) ?_
  refine ⟨rfl, q x _ hx (fun b o e => ?_) ⟨dx, ?_⟩⟩
  · have n1 := ne_of_none e hx
    rw [upd_ne n1, upd_ne n1, upd_ne n1, upd_ne n1, upd_ne (ne_of_none e hdx)]
    exact e
  · rw [upd_same]
    have e1 : ¬ ("role" : Str) = "text" := by decide +kernel
    have e2 : ¬ ("role" : Str) = "place" := by decide +kernel
    have e3 : ¬ ("text" : Str) = "place" := by decide +kernel
    simp only [putF, if_neg e1, if_neg e2, if_neg e3, tkF]
theorem sv_q : ("\"" : Str) = ⟨#[34]⟩ := by decide +kernel
theorem sv_b : ("\\" : Str) = ⟨#[92]⟩ := by decide +kernel
theorem one_eq {c d : Nat} : ((⟨#[c]⟩ : Str) = ⟨#[d]⟩) ↔ c = d := by
  constructor
  · intro z
    have z2 := congrArg (fun s : Str => s.cps.toList) z
    simpa using z2
  · intro z; rw [z]
theorem rd_quotedAt (T : Tx K mg) {zs txt : List Nat} {pl n : Nat} (hz : zs.length ≤ 1000) (hp : pl < zs.length) (hr : (rq (zs.drop (pl + 1))).at [] (pl + 1) = .ok txt n)
    (q : ∀ p x H', H p = none → H x = none → Same H H' → H' p = some (.tup [.ref x, .int n]) → TokAt K H' x (.str "text") (sv txt) (.int pl) → Q (.ref p) H') : sp_read_quoted K [sv zs, .int pl] H Q E := by
  refine ⟨rfl, ?_⟩
  unfold t_read_quoted
  walk_at "go"
  intro p hp
  walk_at "go"
  refine g_while ⟨fun m σ H' => ∃ (i : Nat) (acc : List Nat) (v4 : Option V), m = zs.length - i ∧ pl + 1 ≤ i ∧ i ≤ zs.length ∧ acc.length ≤ i ∧ σ = [some (sv zs), some (.int pl), some (.ref p), some (.int i), v4] ∧
    H' p = some (.lst ((acc.map fun c => (⟨#[c]⟩ : Str)).map V.str)) ∧ Same H H' ∧ (rq (zs.drop i)).at acc i = .ok txt n,
    ⟨zs.length - (pl + 1), pl + 1, [], none, rfl, Nat.le_refl _, by omega, by simp, rfl, upd_same, same_new hp, hr⟩, ?_⟩
  rintro m σ H' ⟨i, acc, v4, rfl, hi0, hi, hacc, rfl, hx, hs, hq⟩
  walk_at "go"
  refine v_lenS (by rw [len_sv, sl_const]; omega) ?_
  rw [len_sv]
  walk_at "go"
  refine ite2 (fun hlt => ?_) (fun hlt => ?_)
  · have hlt' : i < zs.length := by have := of_decide_eq_true hlt; omega
    refine g_turn ?_
    obtain ⟨c, hc⟩ : ∃ c, zs[i]? = some c := ⟨zs[i], by simp [hlt']⟩
    have hdr : zs.drop i = c :: zs.drop (i + 1) := by
      rw [List.drop_eq_getElem_cons hlt']
      rw [List.getElem?_eq_getElem hlt'] at hc
      rw [Option.some.inj hc]
    walk_at "go"
    refine v_ixS (c := c) (by rw [len_sv, sl_const]; omega) (atN (i := i) rfl (by simpa using hc)) ?_
    walk_at "go"
    rw [sv_q]
    refine ite2 (fun h34 => ?_) (fun h34 => ?_)
    · have e34 : c = 34 := one_eq.mp (of_decide_eq_true h34)
      subst e34
      have hq2 : (Rq.ok [] 1).at acc i = .ok txt n := by
        rw [← hq, hdr]
        cases zs.drop (i + 1) <;> simp [rq]
      simp only [Rq.at, List.append_nil, Rq.ok.injEq] at hq2
      obtain ⟨rfl, rfl⟩ := hq2
      walk_at "go"
      refine v_join (ys := acc.map fun c => (⟨#[c]⟩ : Str)) hx ?_ ?_
      · rw [sg_len, List.length_map]
        have e0 : (("" : Str)).length = 0 := by decide +kernel
        rw [e0]
        omega
      · rw [join_signs]
        walk_at "go"
        refine mk_token T fun x H2 hx0 hs2 ht => ?_
        walk_at "go"
        intro t ht0
        have hxn : H x = none := hs.free hx0
        have htn : H t = none := hs.free (hs2.free ht0)
        exact q t x _ htn hxn (fun b o e => up_new (hs2 b o (hs b o e)) ht0) upd_same (ht.same (same_new ht0))
    · have n34 : c ≠ 34 := fun z => h34 (decide_eq_true (by rw [z]))
      walk_at "go"
      refine g_cut (fun σ' H'' => ∃ (j d : Nat), σ' = [some (sv zs), some (.int pl), some (.ref p), some (.int j), some (.str ⟨#[d]⟩)] ∧ i ≤ j ∧ j < zs.length ∧
        H'' p = some (.lst ((acc.map fun c => (⟨#[c]⟩ : Str)).map V.str)) ∧ Same H H'' ∧ (rq (zs.drop (j + 1))).at (acc ++ [d]) (j + 1) = .ok txt n) ?_ ?_
      · walk_at "go"
        rw [sv_b]
        refine ite2 (fun h92 => ?_) (fun h92 => ?_)
        · have e92 : c = 92 := one_eq.mp (of_decide_eq_true h92)
          subst e92
          walk_at "go"
          refine v_lenS (by rw [len_sv, sl_const]; omega) ?_
          rw [len_sv]
          walk_at "go"
          refine ite2 (fun he => ?_) (fun he => ?_)
          · exfalso
            have he' := of_decide_eq_true he
            have : zs.drop (i + 1) = [] := List.drop_eq_nil_of_le (by omega)
            rw [hdr, this] at hq
            simp [rq, Rq.at] at hq
          · have he' : i + 1 < zs.length := by
              have : ¬ ((i : Int) + 1 = zs.length) := fun z => he (decide_eq_true z)
              omega
            obtain ⟨d, hd⟩ : ∃ d, zs[i + 1]? = some d := ⟨zs[i + 1], by simp [he']⟩
            have hdr2 : zs.drop (i + 1) = d :: zs.drop (i + 2) := by
              rw [List.drop_eq_getElem_cons he']
              rw [List.getElem?_eq_getElem he'] at hd
              rw [Option.some.inj hd]
            walk_at "go"
            refine v_ixS (c := d) (by rw [len_sv, sl_const]; omega) (atN (i := i + 1) (by omega) (by simpa using hd)) ?_
            walk_at "go"
            intro t ht
            refine v_notInT upd_same rfl rfl ?_
            have e3 := ins2 d
            rw [sv_q, sv_b] at e3
            rw [e3]
            rw [hdr, hdr2, rq, if_neg (by decide), if_pos rfl] at hq
            by_cases hd2 : d = 34 ∨ d = 92
            · rw [decide_eq_true hd2]
              rw [if_pos hd2, Rq.at_more] at hq
              walk_at "go"
              refine ⟨i + 1, d, ?_, by omega, he', up_new hx ht, fun b o e => up_new (hs b o e) ht, hq⟩
              rfl
            · exfalso
              rw [if_neg hd2] at hq
              simp [Rq.at] at hq
        · have n92 : c ≠ 92 := fun z => h92 (decide_eq_true (by rw [z]))
          walk_at "go"
          refine ⟨i, c, rfl, Nat.le_refl _, hlt', hx, hs, ?_⟩
          rw [← hq, hdr, ← Rq.at_more]
          congr 1
          cases h : zs.drop (i + 1) with
          | nil =>
            exfalso
            rw [hdr, h] at hq
            simp [rq, if_neg n34, Rq.at] at hq
          | cons d r => rw [rq, if_neg n34, if_neg n92]
      · rintro σ' H'' ⟨j, d, rfl, hj1, hj2, hx', hs', hq'⟩
        walk_at "go"
        refine g_tyL hx' ?_
        walk_at "go"
        refine v_append hx' (by simp only [List.length_map]; rw [sl_const]; omega) ?_
        walk_at "go"
        refine ⟨zs.length - (j + 1), by omega, j + 1, acc ++ [d], some (.str ⟨#[d]⟩), rfl, by omega, by omega, by simp; omega, rfl, ?_, fun b o e => ?_, hq'⟩
        · rw [upd_same, List.map_append, List.map_append]
          rfl
        · rw [upd_ne (ne_of_none e hp)]
          exact hs' b o e
  · exfalso
    have : i = zs.length := by
      have : ¬ ((i : Int) < zs.length) := fun z => hlt (decide_eq_true z)
      omega
    subst this
    rw [List.drop_length] at hq
    simp [rq, Rq.at] at hq
end
end Lw

namespace Lw
open PySem PySem.Spec PyProof.Rows L2 G
section
variable {K : PySem.W.Frag} {H : Hp} {Q : VK} {E : XK} {mg : Str → Option Value}
theorem rd_tokens01 (T : Tx K mg) {zs t : List Nat} {a b : Nat} {sg : Addr} (ht : t = List.replicate a 32 ++ (qt zs ++ List.replicate b 32)) (hl : t.length ≤ 60)
    (q : ∀ l x y H', H l = none → Same H H' → H' l = some (.lst [.ref x, .ref y]) → TokAt K H' x (.str "text") (sv zs) (.int a) → TokAt K H' y (.str "end") (.str "") (.int t.length) → Q (.ref l) H') :
    sp_tokens K [sv t, .ref sg, .int 60] H Q E := by
  have el : t.length = a + ((qt zs).length + b) := by rw [ht]; simp
  have eq0 : (qt zs).length = (zs.flatMap esc).length + 2 := by unfold qt; simp only [List.length_cons, List.length_append, List.length_nil]
  have g1 : ∀ i, i < a → t[i]? = some 32 := fun i h => by
    rw [ht, List.getElem?_append_left (by simpa using h)]
    simp [h]
  have g2 : t[a]? = some 34 := by
    rw [ht, List.getElem?_append_right (by simp)]
    simp [qt]
  have g3 : ∀ i, a + (qt zs).length ≤ i → i < t.length → t[i]? = some 32 := fun i h1 h2 => by
    rw [ht, List.getElem?_append_right (by simp; omega), List.getElem?_append_right (by simp; omega), List.getElem?_replicate, if_pos (by simp only [List.length_replicate]; omega)]
  have g4 : t.drop (a + 1) = zs.flatMap esc ++ 34 :: List.replicate b 32 := by
    rw [ht, List.drop_append]
    simp [qt]
  refine ⟨rfl, ?_⟩
  unfold t_tokens k_LETTERS k_DIGITS
  walk_at "go"
  refine v_lenS (by rw [len_sv, sl_const]; omega) ?_
  rw [len_sv]
  walk_at "go"
  rw [decide_eq_false (by omega)]
  walk_at "go"
  intro l hl0
  walk_at "go"
  refine g_while ⟨fun m σ H' => ∃ (i : Nat) (row : List V) (v5 v6 : Option V), m = t.length - i ∧ i ≤ t.length ∧ σ = [some (sv t), some (.ref sg), some (.int 60), some (.ref l), some (.int i), v5, v6] ∧ H' l = some (.lst row) ∧ Same H H' ∧
      ((i ≤ a ∧ row = []) ∨ (a + (qt zs).length ≤ i ∧ ∃ x, row = [.ref x] ∧ x ≠ l ∧ TokAt K H' x (.str "text") (sv zs) (.int a))),
    ⟨t.length, 0, [], none, none, rfl, Nat.zero_le _, rfl, upd_same, same_new hl0, .inl ⟨Nat.zero_le _, rfl⟩⟩, ?_⟩
  rintro m σ H' ⟨i, row, v5, v6, rfl, hi, rfl, hx, hs, hc⟩
  walk_at "go"
  refine v_lenS (by rw [len_sv, sl_const]; omega) ?_
  rw [len_sv]
  walk_at "go"
  refine ite2 (fun hlt => ?_) (fun hlt => ?_)
  · have hlt' : i < t.length := by have := of_decide_eq_true hlt; omega
    refine g_turn ?_
    by_cases hb : t[i]? = some 32
    · have h2 : (i + 1 ≤ a ∧ row = []) ∨ (a + (qt zs).length ≤ i + 1 ∧ ∃ x, row = [.ref x] ∧ x ≠ l ∧ TokAt K H' x (.str "text") (sv zs) (.int a)) := by
        rcases hc with ⟨hia, hr⟩ | ⟨hia, z⟩
        · by_cases hia2 : i < a
          · exact .inl ⟨hia2, hr⟩
          · have e : i = a := by omega
            rw [e, g2] at hb
            exact absurd (Option.some.inj hb) (by decide)
        · exact .inr ⟨by omega, z⟩
      walk_at "go"
      refine v_ixS (c := 32) (by rw [len_sv, sl_const]; omega) (atN (i := i) rfl (by simpa using hb)) ?_
      walk_at "go"
      rw [show decide ((⟨#[32]⟩ : Str) = (" " : Str)) = true by decide +kernel]
      walk_at "go"
      exact ⟨t.length - (i + 1), by omega, i + 1, row, some (.str ⟨#[32]⟩), v6, rfl, by omega, rfl, hx, hs, h2⟩
    rcases hc with ⟨hia, rfl⟩ | ⟨hia, x, rfl, hxl, htk⟩
    · by_cases hia2 : i < a
      · exact absurd (g1 i hia2) hb
      · have e : i = a := by omega
        subst e
        walk_at "go"
        refine v_ixS (c := 34) (by rw [len_sv, sl_const]; omega) (atN (i := i) rfl (by simpa using g2)) ?_
        walk_at "go"
        rw [show decide ((⟨#[34]⟩ : Str) = (" " : Str)) = false by decide +kernel]
        walk_at "go"
        rw [show decide (34 ∈ ("abcdefghijklmnopqrstuvwxyzABCDEFGHIJKLMNOPQRSTUVWXYZ" : Str).cps.toList) = false by decide +kernel]
        walk_at "go"
        rw [show decide (34 ∈ ("0123456789" : Str).cps.toList) = false by decide +kernel]
        walk_at "go"
        rw [show decide ((⟨#[34]⟩ : Str) = ("\"" : Str)) = true by decide +kernel]
        walk_at "go"
        refine rd_quotedAt T (txt := zs) (n := i + (qt zs).length) (by omega) hlt' (by rw [g4, rq_esc]; simp only [Rq.at, List.nil_append]; rw [eq0]; congr 1; omega) ?_
        intro p x H2 hp hx0 hs2 hpt htk
        refine g_gtup hpt rfl ?_
        walk_at "go"
        refine g_tyL (hs2 _ _ hx) ?_
        walk_at "go"
        refine v_append (hs2 _ _ hx) (by show 0 < sizeLine; rw [sl_const]; decide) ?_
        have nx : x ≠ l := (ne_of_none hx hx0).symm
        refine ⟨t.length - (i + (qt zs).length), by omega, i + (qt zs).length, [.ref x], some (.str ⟨#[34]⟩), some (.ref x), rfl, by omega, rfl, upd_same, fun b o e => ?_, .inr ⟨Nat.le_refl _, x, rfl, nx, ?_⟩⟩
        · rw [upd_ne (ne_of_none e hl0)]
          exact hs2 b o (hs b o e)
        · exact htk.sb Sb.upd nx
    · exact absurd (g3 i hia hlt') hb
  · have e : i = t.length := by
      have : ¬ ((i : Int) < t.length) := fun z => hlt (decide_eq_true z)
      omega
    rcases hc with ⟨hia, _⟩ | ⟨hia, x, rfl, hxl, htk⟩
    · omega
    · walk_at "go"
      refine g_tyL hx ?_
      walk_at "go"
      refine v_lenS (by rw [len_sv, sl_const]; omega) ?_
      rw [len_sv]
      walk_at "go"
      refine mk_token T fun y H2 hy hs2 hty => ?_
      walk_at "go"
      refine v_append (hs2 _ _ hx) (by show 1 < sizeLine; rw [sl_const]; decide) ?_
      walk_at "go"
      have ny : y ≠ l := (ne_of_none hx hy).symm
      refine q l x y _ hl0 (fun b o e => ?_) upd_same ((htk.same hs2).sb Sb.upd hxl) (hty.sb Sb.upd ny)
      rw [upd_ne (ne_of_none e hl0)]
      exact hs2 b o (hs b o e)
end
end Lw

namespace Lw
open PySem PySem.Spec PyProof.Rows L2 G
theorem lk_cons (f g : Str) (y : V) (fs : List (Str × V)) : ((f, y) :: fs).lookup g = if g = f then some y else fs.lookup g := by
  by_cases h : g = f
  · subst h
    simp [List.lookup]
  · have e : (g == f) = false := by simpa using h
    rw [if_neg h]
    simp [List.lookup, e]
theorem tk_role {r t p : V} : (tkF r t p).lookup ("role" : Str) = some r := by unfold tkF; rw [lk_cons, if_pos rfl]
theorem tk_text {r t p : V} : (tkF r t p).lookup ("text" : Str) = some t := by unfold tkF; rw [lk_cons, if_neg (by decide +kernel), lk_cons, if_pos rfl]
theorem tk_place {r t p : V} : (tkF r t p).lookup ("place" : Str) = some p := by unfold tkF; rw [lk_cons, if_neg (by decide +kernel), lk_cons, if_neg (by decide +kernel), lk_cons, if_pos rfl]
theorem mul_blank (n : Int) : Txt.mul (" " : Str) n = ⟨(List.replicate n.toNat 32).toArray⟩ := by
  have e : (" " : Str) = ⟨#[32]⟩ := by decide +kernel
  rw [e]
  have h := mul_one_list 32 n
  rw [str_eta (Txt.mul ⟨#[32]⟩ n), h]
theorem qt_inj {a b : List Nat} (h : qt a = qt b) : a = b := by
  have ha := rq_esc a []
  have hb := rq_esc b []
  have e : a.flatMap esc ++ [34] = b.flatMap esc ++ [34] := (List.cons.inj h).2
  rw [e, hb] at ha
  exact ((Rq.ok.inj ha).1).symm
theorem sv_inj {a b : List Nat} (h : (⟨a.toArray⟩ : Str) = ⟨b.toArray⟩) : a = b := by
  have := congrArg (fun s : Str => s.cps.toList) h
  simpa using this
section
variable {K : PySem.W.Frag} {H : Hp} {Q : VK} {E : XK} {mg : Str → Option Value}
theorem rd_text {d : Addr} (hd : Dr d H) (q : ∀ zs H', zs.length ≤ 12 → Dr d H' → Sb d H H' → Q (sv zs) H') : sp__law_text K [.ref d] H Q E := by
  refine ⟨rfl, ?_⟩
  unfold t__law_text
  walk_at "go"
  refine rd_draw hd (by decide) fun n H1 n0 n1 hd1 hs1 => ?_
  walk_at "go"
  refine g_rngI (n := n) (by omega) (by omega) ?_
  refine l_range (fun i σ H' => ∃ (zs : List Nat) (v2 : Option V), zs.length = i ∧ σ = [some (.ref d), some (sv zs), v2] ∧ Dr d H' ∧ Sb d H H')
    ⟨[], none, rfl, ?_, hd1, hs1⟩ ?_ ?_
  · have e : ("" : Str) = ⟨#[]⟩ := by decide +kernel
    rw [e]
    rfl
  · rintro i σ H' hi ⟨zs, v2, hl, rfl, hd', hs'⟩
    walk_at "go"
    refine rd_draw hd' (by decide) fun m H2 m0 m1 hd2 hs2 => ?_
    obtain ⟨c, _, hc⟩ := at_some (xs := (("a\"\\ Z9{~" : Str)).cps.toList) m0 (by rw [show (("a\"\\ Z9{~" : Str)).cps.toList.length = 8 by decide +kernel]; exact m1)
    refine v_ixS (c := c) (by rw [sl_const]; exact Nat.le_trans (by decide +kernel : ("a\"\\ Z9{~" : Str).length ≤ 8) (by decide)) hc ?_
    refine v_addS (a := ⟨zs.toArray⟩) (b := ⟨#[c]⟩) (by rw [len_sv, sl_const]; show zs.length + 1 ≤ _; omega) ?_
    refine ⟨zs ++ [c], some (.int (0 + i)), by simp [hl], ?_, hd2, hs'.trans hs2⟩
    have e := app_sv zs [c]
    show [some (V.ref d), some (V.str ((⟨zs.toArray⟩ : Str) ++ ⟨[c].toArray⟩)), some (V.int (0 + i))] = _
    rw [e]
  · rintro σ H' ⟨zs, v2, hl, rfl, hd', hs'⟩
    walk_at "go"
    exact q zs _ (by omega) hd' hs'
theorem Dr.same {d : Addr} {H H' : Hp} (h : Dr d H) (s : Same H H') : Dr d H' := by
  obtain ⟨xs, h1, h2, h3⟩ := h
  exact ⟨xs, h1, h2, s _ _ h3⟩
theorem ls_text {H : Hp} {x : V} {c : String} {b : Bool} {z : Str} (hx : x = .str z) (hb : PySem.W.kitOne K (.type "str") (.type c) = some b) (q : Q (.bl b) H) : rIsi K [x, .ty c] H Q := by
  subst hx
  exact ⟨_, _, _, _, b, rfl, .ty c, .base (.str z), hb, q⟩
theorem law01 (T : Tx K mg) (H : Hp) (a : Addr) (ns : List Int) (hl : ns.length ≤ 63) (hO : Only H) (hS : SqL K H a (ns.map V.int)) : sp_law K [.ref a] H (fun v _ => v = .bl true) fun _ _ _ => False := by
  refine ⟨rfl, ?_⟩
  unfold t_law
  walk_at "go"
  refine rd_cells (n := 8) hS (by decide) fun d xs H1 hd0 hd1 hlx hs1 => ?_
  have D1 : Dr d H1 := ⟨xs, by intro z; rw [z] at hlx; simp at hlx, by omega, hd1⟩
  walk_at "go"
  refine rd_text D1 fun one H2 ho D2 hs2 => ?_
  walk_at "go"
  refine rd_text D2 fun two H3 hw D3 hs3 => ?_
  walk_at "go"
  refine g_cut (fun σ' H' => ∃ two : List Nat, two.length ≤ 12 ∧ Dr d H' ∧ σ' = [some (.ref a), some (.ref d), some (sv one), some (sv two), none, none, none]) ?_ ?_
  · walk_at "go"
    refine rd_draw D3 (by decide) fun m H4 m0 m1 D4 hs4 => ?_
    walk_at "go"
    refine ite2 (fun h => ?_) (fun h => ?_)
    · walk_at "go"
      refine v_lenS (by rw [len_sv, sl_const]; omega) ?_
      walk_at "go"
      refine v_slS (by rw [len_sv, sl_const]; omega) ?_
      refine ⟨_, ?_, D4, rfl⟩
      simp only [List.length_take, List.length_drop]
      omega
    · walk_at "go"
      exact ⟨two, hw, D4, rfl⟩
  clear hw D3 hs3
  rintro σ' H4 ⟨two, hw, D4, rfl⟩
  walk_at "go"
  refine rd_quoted (zs := one) (by omega) fun H5 hs5 => ?_
  walk_at "go"
  refine ls_text rfl (kit_ty (b := "str") (r := true) (by decide +kernel)) ?_
  walk_at "go"
  refine rd_quoted (zs := two) (by omega) fun H6 hs6 => ?_
  walk_at "go"
  have ed : decide ((⟨(qt one).toArray⟩ : Str) = ⟨(qt two).toArray⟩) = decide ((⟨one.toArray⟩ : Str) = ⟨two.toArray⟩) := by
    by_cases h : one = two
    · subst h; simp
    · rw [decide_eq_false (fun z => h (sv_inj z)), decide_eq_false (fun z => h (qt_inj (sv_inj z)))]
  rw [ed, decide_eq_true rfl]
  walk_at "go"
  refine rd_draw ((D4.same hs5).same hs6) (by decide) fun na H7 a0 a1 D7 hs7 => ?_
  refine v_mulS ⟨by decide +kernel, by omega, by omega⟩ ?_
  rw [mul_blank]
  walk_at "go"
  refine v_addS (by rw [len_sv, len_sv, sl_const, List.length_replicate]; have := esc_len one; simp only [qt, List.length_cons, List.length_append, List.length_nil]; omega) ?_
  walk_at "go"
  refine rd_draw D7 (by decide) fun nb H8 b0 b1 D8 hs8 => ?_
  refine v_mulS ⟨by decide +kernel, by omega, by omega⟩ ?_
  rw [mul_blank, app_sv]
  refine v_addS (by rw [len_sv, len_sv, sl_const, List.length_append, List.length_replicate, List.length_replicate]; have := esc_len one; simp only [qt, List.length_cons, List.length_append, List.length_nil]; omega) ?_
  rw [app_sv, List.append_assoc]
  walk_at "go"
  intro sg hsg
  walk_at "go"
  refine rd_tokens01 T rfl (by have := esc_len one; simp only [qt, List.length_cons, List.length_append, List.length_nil, List.length_replicate]; omega) ?_
  intro l x y H9 _ _ hl9 hx9 hy9
  obtain ⟨dx, hx9⟩ := hx9
  obtain ⟨dy, hy9⟩ := hy9
  walk_at "go"
  refine v_lenL hl9 ?_
  walk_at "go"
  rw [decide_eq_true (show (([V.ref x, V.ref y].length : Nat) : Int) = 2 from rfl)]
  walk_at "go"
  refine v_ixL hl9 (atN (i := 0) rfl rfl) ?_
  refine v_fld hx9 T.cl_Token T.no_Token_role tk_role ?_
  walk_at "go"
  rw [decide_eq_true rfl]
  walk_at "go"
  refine v_ixL hl9 (atN (i := 1) rfl rfl) ?_
  refine v_fld hy9 T.cl_Token T.no_Token_role tk_role ?_
  walk_at "go"
  rw [decide_eq_true rfl]
  walk_at "go"
  refine v_ixL hl9 (atN (i := 0) rfl rfl) ?_
  refine v_fld hx9 T.cl_Token T.no_Token_text tk_text ?_
  walk_at "go"
  rw [decide_eq_true rfl]
  walk_at "go"
  refine v_ixL hl9 (atN (i := 0) rfl rfl) ?_
  refine v_fld hx9 T.cl_Token T.no_Token_place tk_place ?_
  walk_at "go"
  refine v_lenS (by rw [len_sv, sl_const, List.length_replicate]; omega) ?_
  rw [len_sv, List.length_replicate]
  walk_at "go"
  rw [decide_eq_true rfl]
  walk_at "go"
  refine v_ixL hl9 (atN (i := 1) rfl rfl) ?_
  refine v_fld hy9 T.cl_Token T.no_Token_text tk_text ?_
  walk_at "go"
  exact congrArg V.bl (decide_eq_true rfl)
end
end Lw

open PySem PySem.W PySem.Calls PyProof.Rows
set_option maxHeartbeats 0 in
theorem PySem.Challenge.cw_oneheap_k01_quoted_texts_holds : PySem.Challenge.rw_oneheap_k01_quoted_texts.Holds := by
  w_on; o_law
  refine HandSHeadRun.head_any (r := OpenLaw.row PySem.Challenge.rw_oneheap_k01_quoted_texts) (q := view (OpenLaw.row PySem.Challenge.rw_oneheap_k01_quoted_texts).prog [21]) (H := Lw.hk) (ob := Lw.ob) (M := 4000) (loose := Lw.nm) (d := HandSHeadRun.topDef (OpenLaw.row PySem.Challenge.rw_oneheap_k01_quoted_texts).prog 21) (kwd := []) Lw.ob_eq
    (by kernel_rfl) (fun s => by kernel_rfl) Lw.run (by kernel_rfl) (by kernel_rfl) (by kernel_rfl) (by rfl) (by first | assumption | decide +kernel) (by decide +kernel) ⟨rfl, rfl, rfl, rfl, rfl, by decide +kernel⟩ ?hw ?hc
  case hw => w_witness2
  case hc =>
    refine G.walk_ofW (l := PySem.Challenge.rw_oneheap_k01_quoted_texts) (n := 63) (k := 5) (x := "_law_script") rfl (by decide) (by kernel_rfl) ⟨rfl, by decide, by decide⟩ ?F
    intro w mg fa h Y G hmg0
    obtain ⟨K, KX, c⟩ := Y
    have hmg : mg ("law" : PySem.Str) = some (.ref fa) := by
      have e : (HandSHeadRun.topDef (OpenLaw.row PySem.Challenge.rw_oneheap_k01_quoted_texts).prog 21).name = ("law" : PySem.Str) := by kernel_rfl
      rw [← e]
      exact hmg0
    have T := Lw.tx KX G c
    have e : fa = He.ga K "law" := by
      have z := hmg.symm.trans T.g_law
      cases z
      rfl
    subst e
    obtain ⟨fd, hb, hF⟩ := T.law (P := (PySem.Challenge.rw_oneheap_k01_quoted_texts).prog) (w := w)
    exact ⟨K, fd, Lw.sp_law K, KX, hb, fun H a ns hl hO hS => Lw.law01 T H a ns hl hO hS, hF⟩
