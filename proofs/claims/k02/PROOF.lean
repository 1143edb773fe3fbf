import PyProof.Rows.All
import Wide.All
import OpenK.AllK
import Wide.FinOn
import KE.KStateDown
import Lean
import HandS.ForMost
import HandS.ForExc
import HandS.More
import HandS.Defaults
import HandS.CallSlots
import HandS.StrMore
import HandS.Steps
import HandS.Codes
import HandS.Iter
import HandS.IsInst
import HandS.FStr
import HandS.Wide
import HandS.Head0
import HandS.Head1
import HandS.Head2
import HandS.HeadEnd
import HandS.HeadHook1
import HandS.HeadHook2
import HandS.HeadHook3
import HandS.HeadHook4
import HandS.Conv
import HandS.Style
import PySem.Challenge.RW_oneheap_k02_shapes_hold_values
set_option Elab.async false
set_option linter.all false
set_option maxRecDepth 100000
set_option maxHeartbeats 4000000
namespace G
open PySem PySem.Spec PyProof.Rows L2

/-! ### what a callee keeps, by its name -/
structure Cl (P : Program) (w : World) (K : PySem.W.Frag) (mg : Str → Option Value) (base : Heap) (k : Nat) (x : Str) (sp : Sp) (dvs : List V) : Prop where
  ex : ∃ (f : Addr) (fd : FuncData) (ps : List Str) (ds : List Value), FnOk P w K mg base (L2.CX P w) k f fd ps sp ∧ mg x = some (.ref f) ∧ PySem.W.keepIn K (.ref f) = true ∧ Binds K fd ps ds ∧ Vals dvs ds
structure Mt (P : Program) (w : World) (K : PySem.W.Frag) (mg : Str → Option Value) (base : Heap) (k : Nat) (C : Addr) (m : Str) (sp : Sp) (dvs : List V) : Prop where
  ex : ∃ (f : Addr) (fd : FuncData) (ps : List Str) (ds : List Value), Cls K C ∧ Meth K C m f ∧ FnOk P w K mg base (L2.CX P w) k f fd ps sp ∧ Binds K fd ps ds ∧ Vals dvs ds
structure Mq (P : Program) (w : World) (K : PySem.W.Frag) (mg : Str → Option Value) (base : Heap) (k : Nat) (x : Str) (C : Addr) (sp : Sp) (dvs : List V) : Prop where
  ex : ∃ (f : Addr) (fd : FuncData) (ps : List Str) (ds : List Value), Mk K C f ∧ FnOk P w K mg base (L2.CX P w) k f fd ps sp ∧ mg x = some (.ref C) ∧ Binds K fd ps ds ∧ Vals dvs ds
/-- a law's end, where its defs may raise -/
theorem walk_ofW {l : PySem.W.OpenLaw} {n k : Nat} {q : Program} {loose : List Str} {XP : (Str → Option Value) → Heap → Prop} {YP : World → Heap → Prop} {d : DefRec} {x : Str}
    (hn : l.most = some n) (hn2 : n ≤ sizeLine) (hdf : d.params.defaults = []) (hr : Room k callerA)
    (F : ∀ (w : World) (mg : Str → Option Value) (fa : Addr) (h : Heap), YP w h → h.Ns mainGlobals mg → mg d.name = some (.ref fa) →
      ∃ (K : PySem.W.Frag) (fd : FuncData) (sp : Sp), K.In h ∧ (∀ (s : Shared) (u : Value), BindsTo s fd ⟨[u], []⟩ [(x, u)]) ∧
        (∀ (H : Hp) (a : Addr) (ns : List Int), ns.length ≤ n → Only H → SqL K H a (ns.map V.int) → sp [.ref a] H (fun v _ => v = .bl true) fun _ _ _ => False) ∧
        ∀ base : Heap, FnOk l.prog w K mg base (L2.CX l.prog w) k fa fd [x] sp) :
    PySem.W.WalkO q loose XP YP l.row.toRowW d [] (fun f vs => PySem.call f vs) := by
  refine Att.attach_call hn hdf fun w s₀ s₁ mg mb fa o pm cd doc a vs ns G Y ho hd hcd hmg hobj hints hlen hg => ?_
  obtain ⟨K, fd, sp, KX, hb, hsp, hF⟩ := F w mg fa _ Y G.T.g hmg
  refine law_call (CX := L2.CX l.prog w) KX G.T.g G.T.b G.T.builtins G.T.nolimit hg hobj hints (Nat.le_trans hlen hn2) hr (fun base _ _ => hF base) hb (fun H hO hS => hsp H a ns hlen hO hS) fun H e s' c => ?_
  obtain ⟨_, _, _, _, _, _, _, _, _, _, _, _, z⟩ := c
  exact z.elim
/-- nothing is let out -/
def Ez : L2.St → XK := fun _ _ _ _ => False
section
variable {X : Cx} {k j : Nat} {C : Addr} {x m : Str} {sp : Sp} {dvs : List V} {p pos apos : Pos} {e o : Expr} {es : List Expr} {ta : TE} {t : TA} {E : L2.St → XK}
theorem pz {σ : L2.St} : PassesAt (L2.CX X.prog X.w) X σ (Ez σ) := fun _ _ _ _ _ _ h => by
  obtain ⟨_, _, _, _, _, _, _, _, _, _, _, _, z⟩ := h
  exact z.elim
theorem pe_cl (c : Cl X.prog X.w X.K X.mg X.base k x sp dvs) (hr : Room j X.A) (hk : k ≤ j) (hx : ∀ σ, PassesAt (L2.CX X.prog X.w) X σ (E σ)) (hg : Gl X x) (ha : PA X (e :: es) t)
    (hdb : (x == ("__debug__" : Str)) = false := by decide) (he : starEach (e :: es) X.env = (false, eval e X.env) :: starEach es X.env := by rfl) (hpl : (backTo pos (starEach es X.env)).any (·.1) = false := by rfl) :
    PE X (.Call (.Name x p) (e :: es) [] pos) (tCallSD sp dvs E t) := by
  obtain ⟨f, fd, ps, ds, F, hm, kp, b, d⟩ := c.ex
  exact pe_callSD F (hr.mono hk) hg hm kp b d hx ha hdb he hpl
theorem pe_mq (c : Mq X.prog X.w X.K X.mg X.base k x C sp dvs) (hr : Room j X.A) (hk : k + 1 ≤ j) (hg : Gl X x) (ha : PA X (e :: es) t)
    (hdb : (x == ("__debug__" : Str)) = false := by decide) (he : starEach (e :: es) X.env = (false, eval e X.env) :: starEach es X.env := by rfl) (hpl : (backTo pos (starEach es X.env)).any (·.1) = false := by rfl) :
    PE X (.Call (.Name x p) (e :: es) [] pos) (tMake C sp dvs E0 t) := by
  obtain ⟨f, fd, ps, ds, M, F, hm, b, d⟩ := c.ex
  exact pe_make M F (hr.mono hk) hg hm b d passL ha hdb he hpl
/-- a constant of the module -/
theorem pe_gc {v : V} (hg : Gl X x) (h : ∃ u, X.mg x = some u ∧ RelV v u) (hd : (x == ("__debug__" : Str)) = false := by decide) : PE X (.Name x pos) (tC v) := by
  obtain ⟨u, hm, r⟩ := h
  exact pe_glob hg hm r hd
end

section
variable {X : Cx} {k j : Nat} {C : Addr} {x m : Str} {sp : Sp} {dvs : List V} {p pos apos : Pos} {e o : Expr} {es : List Expr} {ta : TE} {t : TA} {E : L2.St → XK}
/-- an expression has two readings: either will do -/
def tEor (t u : TE) : TE := fun σ H Q => t σ H Q ∨ u σ H Q
theorem pe_or2 {t u : TE} (h : PE X e t) (h' : PE X e u) : PE X e (tEor t u) := ⟨fun pins s σ H Q I q => q.elim (h.run pins s σ H Q I) (h'.run pins s σ H Q I)⟩
/-- o.m(..), what is raised is wished for at the caller's slots -/
def tMethD (C : Addr) (m : Str) (sp : Sp) (dvs : List V) (E : L2.St → XK) (ta : TE) (t : TA) : TE := fun σ H Q => ta σ H fun x H1 => ∃ a dx fs, x = .ref a ∧ H1 a = some (.ins C dx fs) ∧ fs.lookup m = none ∧
  t σ H1 fun vs H2 => sp (x :: (vs ++ dvs)) H2 Q (E σ)
theorem pe_mt1 {pl : Sem Bool} (c : Mt X.prog X.w X.K X.mg X.base k C m sp dvs) (hr : Room j X.A) (hk : k ≤ j) (hx : ∀ σ, PassesAt (L2.CX X.prog X.w) X σ (E σ)) (he : PE X o ta) (ha : PA X (e :: es) t)
    (hst : starEach (e :: es) X.env = (false, eval e X.env) :: starEach es X.env := by rfl) (hpl : (backTo pos (starEach es X.env)).any (·.1) = false := by rfl)
    (ht : eval (.Call (.Attribute o m apos) (e :: es) [] pos) X.env = (do
      let ov ← eval o X.env
      standAt apos.atName
      let (f, first) ← holding [ov] (getMethod ov m pl)
      callWith pos f first (backTo pos (starEach (e :: es) X.env)) (backToKw pos (keywordEach [] X.env))) := by rfl) :
    PE X (.Call (.Attribute o m apos) (e :: es) [] pos) (tMethD C m sp dvs E ta t) := by
  obtain ⟨f, fd, ps, ds, cl, hm, F, b, d⟩ := c.ex
  refine ⟨fun pins s σ H Q I h => ?_⟩
  refine PySem.W.methodCall_KW (pl := pl) (thn (he.run pins s σ H _ I h) fun u s1 ⟨x, H1, I1, rx, a, dx, fs, ex, ea, l, q⟩ => ?_) ht
  subst ex
  obtain rfl : u = Value.ref a := rx
  refine getmeth_ok I1 ea cl hm l (PySem.W.callWith_K (first := [.ref a]) (h₀ := X.base) I.ok.mod.kin hm.kp (thn (ha.run pos pins s1 σ H1 _ I1 q) fun us s2 ⟨vs, H2, I2, r, q2⟩ => ⟨I2.kIn, ?_⟩) hst hpl)
  exact run_fnSD (us := .ref a :: us) (vs := .ref a :: vs) F (hr.mono hk) b d (hx σ) I2 (.cons rfl r) q2
theorem pe_mt0 {pl : Sem Bool} (c : Mt X.prog X.w X.K X.mg X.base k C m sp dvs) (hr : Room j X.A) (hk : k ≤ j) (hx : ∀ σ, PassesAt (L2.CX X.prog X.w) X σ (E σ)) (he : PE X o ta)
    (ht : eval (.Call (.Attribute o m apos) [] [] pos) X.env = (do
      let ov ← eval o X.env
      standAt apos.atName
      let (f, first) ← holding [ov] (getMethod ov m pl)
      callWith pos f first (backTo pos (starEach [] X.env)) (backToKw pos (keywordEach [] X.env))) := by rfl) :
    PE X (.Call (.Attribute o m apos) [] [] pos) (tMethD C m sp dvs E ta tNil) := by
  obtain ⟨f, fd, ps, ds, cl, hm, F, b, d⟩ := c.ex
  refine ⟨fun pins s σ H Q I h => ?_⟩
  refine PySem.W.methodCall_KW (pl := pl) (thn (he.run pins s σ H _ I h) fun u s1 ⟨x, H1, I1, rx, a, dx, fs, ex, ea, l, q⟩ => ?_) ht
  subst ex
  obtain rfl : u = Value.ref a := rx
  exact getmeth_ok I1 ea cl hm l (PySem.W.callWith_K0 (first := [.ref a]) I1.kIn hm.kp (run_fnSD (us := [.ref a]) (vs := [.ref a]) F (hr.mono hk) b d (hx σ) I1 (.cons rfl .nil) q))
def rAbs : List V → Hp → VK → Prop := fun xs H Q => ∃ i, xs = [.int i] ∧ Q (.int (if i < 0 then -i else i)) H
def rMax2 : List V → Hp → VK → Prop := fun xs H Q => ∃ i j, xs = [.int i, .int j] ∧ Q (.int (if j > i then j else i)) H
def rMin2 : List V → Hp → VK → Prop := fun xs H Q => ∃ i j, xs = [.int i, .int j] ∧ Q (.int (if j < i then j else i)) H
def rFind : V → List V → Hp → VK → Prop := fun x xs H Q => ∃ a b, x = .str a ∧ xs = [.str b] ∧ Q (.int (Txt.find a b)) H
def rListX (K : PySem.W.Frag) : List V → Hp → VK → Prop := fun xs H Q => (∃ p ys, xs = [.ref p] ∧ (SqL K H p ys ∨ SqT K H p ys) ∧ ∀ l, H l = none → Q (.ref l) (upd H l (.lst ys))) ∨ rListD xs H Q
/-- a fact of the head that is told as a Bool -/
def fIs (C D : Str) (b : Bool) (K : PySem.W.Frag) : Bool := decide (PySem.W.kitOne K (.ref (He.ga K C)) (.ref (He.ga K D)) = some b)
def fIsT (C : Str) (D : String) (b : Bool) (K : PySem.W.Frag) : Bool := decide (PySem.W.kitOne K (.ref (He.ga K C)) (.type D) = some b)
def fTIs (D : String) (C : Str) (b : Bool) (K : PySem.W.Frag) : Bool := decide (PySem.W.kitOne K (.type D) (.ref (He.ga K C)) = some b)
def fIn (C : Str) (K : PySem.W.Frag) : Bool := He.eqO (PySem.W.findIn K (.ref (He.ga K C)) "__class__") (some (some (.builtin "object.__class__"))) &&
  (He.eqO (PySem.W.specialIn K (.builtin "object.__class__") "__get__") (some (some (.builtin "getset_descriptor.__get__"))) && (decide (PySem.W.takesIn K (.builtin "object.__class__") = some true) && decide (PySem.W.mroIn K (He.ga K C) (.type "object") = some true)))
theorem fIs_ok {C D : Str} {b : Bool} {K : PySem.W.Frag} (h : fIs C D b K = true) : PySem.W.kitOne K (.ref (He.ga K C)) (.ref (He.ga K D)) = some b := of_decide_eq_true h
theorem fIsT_ok {C : Str} {D : String} {b : Bool} {K : PySem.W.Frag} (h : fIsT C D b K = true) : PySem.W.kitOne K (.ref (He.ga K C)) (.type D) = some b := of_decide_eq_true h
theorem fTIs_ok {C : Str} {D : String} {b : Bool} {K : PySem.W.Frag} (h : fTIs D C b K = true) : PySem.W.kitOne K (.type D) (.ref (He.ga K C)) = some b := of_decide_eq_true h
/-- what isinstance asks of an instance of the class -/
structure InsF (K : PySem.W.Frag) (C : Addr) : Prop where
  ha : PySem.W.findIn K (.ref C) "__class__" = some (some (.builtin "object.__class__"))
  hn : PySem.W.specialIn K (.builtin "object.__class__") "__get__" = some (some (.builtin "getset_descriptor.__get__"))
  htk : PySem.W.takesIn K (.builtin "object.__class__") = some true
  hm : PySem.W.mroIn K C (.type "object") = some true
theorem fIn_ok {C : Str} {K : PySem.W.Frag} (h : fIn C K = true) : InsF K (He.ga K C) := by
  obtain ⟨h1, h2⟩ := He.ba h
  obtain ⟨h2, h3⟩ := He.ba h2
  obtain ⟨h3, h4⟩ := He.ba h3
  exact ⟨He.eqO_ok h1, He.eqO_ok h2, of_decide_eq_true h3, of_decide_eq_true h4⟩
def allB (fs : List (PySem.W.Frag → Bool)) (K : PySem.W.Frag) : Bool := fs.all fun f => f K
theorem allB_at {fs : List (PySem.W.Frag → Bool)} {K : PySem.W.Frag} (h : allB fs K = true) (i : Nat) {f : PySem.W.Frag → Bool} (hf : fs[i]? = some f := by rfl) : f K = true := List.all_eq_true.mp h f (List.mem_of_getElem? hf)
end

/-! ### operators by the values' kinds -/
section
variable {X : Cx}
def MulS (z : Str) (n : Int) : Prop := z.length ≤ 1024 ∧ n ≤ 1024 ∧ -1024 ≤ n
def rMulS : R2 := fun x y H Q => ∃ z n, x = .str z ∧ y = .int n ∧ MulS z n ∧ Q (.str (Txt.mul z n)) H
theorem op_mulS : OpR X (binaryOp .Mult) rMulS := by
  intro pins s σ H x y v u Q I rx ry h
  obtain ⟨z, n, rfl, rfl, ⟨h1, h2, h3⟩, q⟩ := h
  obtain ⟨t, rfl⟩ := rx
  obtain ⟨t', rfl⟩ := ry
  exact SB.mul (mulOk_of 1024 1024 h1 h2 (by omega) (by decide) (by decide)) fun t' k => ⟨.str _, H, I.tok _, ⟨_, rfl⟩, q⟩
def rAddS : R2 := fun x y H Q => ∃ i j, x = .str i ∧ y = .str j ∧ i.length + j.length ≤ sizeLine ∧ Q (.str (i ++ j)) H
/-- a + b: ints, texts, lists, tuples -/
def rAddX (K : PySem.W.Frag) : R2 := fun x y H Q => rI0 (fun i j => .int (i + j)) x y H Q ∨ rAddS x y H Q ∨ rCat x y H Q ∨ rCatT K x y H Q
theorem op_addX : OpR X (binaryOp .Add) (rAddX X.K) := OpR.or op_add (OpR.or op_add_str (OpR.or op_cat op_catT))
def rSubX : R2 := rI0 fun i j => .int (i - j)
theorem op_subX : OpR X (binaryOp .Sub) rSubX := op_sub
def rMulX : R2 := fun x y H Q => rI CMul (fun i j => .int (i * j)) x y H Q ∨ rMulS x y H Q ∨ rRep x y H Q
theorem op_mulX : OpR X (binaryOp .Mult) rMulX := OpR.or op_mul (OpR.or op_mulS op_rep)
def rModX : R2 := fun x y H Q => rI (fun _ j => 0 < j) (fun i j => .int (i % j)) x y H Q ∨ rI (fun _ j => j ≠ 0) (fun i j => .int (i.fmod j)) x y H Q
theorem op_modX : OpR X (binaryOp .Mod) rModX := OpR.or op_mod op_modN
def rDivX : R2 := fun x y H Q => rI CDiv (fun i j => .int (i / j)) x y H Q ∨ rI CDivN (fun i j => .int (i.fdiv j)) x y H Q
theorem op_divX : OpR X (binaryOp .FloorDiv) rDivX := OpR.or op_fdiv op_fdivN
def rInStr : R2 := fun x y H Q => ∃ (c : Nat) (z : Str), x = .str ⟨#[c]⟩ ∧ y = .str z ∧ Q (.bl (decide (c ∈ z.cps.toList))) H
def rNotInStr : R2 := fun x y H Q => ∃ (c : Nat) (z : Str), x = .str ⟨#[c]⟩ ∧ y = .str z ∧ Q (.bl (!decide (c ∈ z.cps.toList))) H
def rInX (K : PySem.W.Frag) : R2 := fun x y H Q => rIn K false x y H Q ∨ rInStr x y H Q
theorem op_inX : OpR X (compareOp .In) (rInX X.K) := OpR.or op_in_seq op_in_sign
def rNotInX (K : PySem.W.Frag) : R2 := fun x y H Q => rIn K true x y H Q ∨ rNotInStr x y H Q
theorem op_notInX : OpR X (compareOp .NotIn) (rNotInX X.K) := OpR.or op_notIn_seq op_notIn_sign
def rLtS : R2 := fun x y H Q => ∃ i j, x = .str i ∧ y = .str j ∧ Q (.bl (decide (i.cps.toList < j.cps.toList))) H
def rLtX (K : PySem.W.Frag) : R2 := fun x y H Q => rI0 (fun i j => .bl (decide (i < j))) x y H Q ∨ rLtS x y H Q ∨ rLtT K x y H Q
def rLeX : R2 := rI0 fun i j => .bl (decide (i ≤ j))
def rGtX : R2 := rI0 fun i j => .bl (decide (j < i))
def rGeX : R2 := rI0 fun i j => .bl (decide (j ≤ i))
theorem op_ltX (hu : X.A.units + 64 < cLine) : OpR X (compareOp .Lt) (rLtX X.K) := OpR.or op_lt (OpR.or op_lt_str (op_ltT (by omega)))
theorem op_leX : OpR X (compareOp .LtE) rLeX := op_le
theorem op_gtX : OpR X (compareOp .Gt) rGtX := op_gt
theorem op_geX : OpR X (compareOp .GtE) rGeX := op_ge
/-- x is None, True, False, an object -/
def isW : V → Bool
  | .non => true
  | .bl _ => true
  | _ => false
def rIsW : R2 := fun x y H Q => isW y = true ∧ Q (.bl (decide (x = y))) H
def rIsNotW : R2 := fun x y H Q => isW y = true ∧ Q (.bl (!decide (x = y))) H
theorem is_b_gen {prog : Program} {w : World} {A : Around} {E : Value → Shared → Prop} {s : Shared} {x : V} {v : Value} {b : Bool} {Q : Value → Shared → Prop} (r : RelV x v) (h : Q (.bool (decide (x = .bl b))) s) : wpAny (model prog w) A (compareOp .Is v (.bool b)) Q E s := by
  cases x with
  | bl c =>
    cases r
    have e : (Value.bool c == Value.bool b) = decide (V.bl c = V.bl b) := by
      cases c <;> cases b <;> decide
    exact wpAny_pure (by rw [← e] at h; exact h)
  | non => cases r; exact wpAny_pure h
  | int i => obtain ⟨t, rfl⟩ := r; exact wpAny_pure h
  | str i => obtain ⟨t, rfl⟩ := r; exact wpAny_pure h
  | byt i => obtain ⟨t, rfl⟩ := r; exact wpAny_pure h
  | flt i => obtain ⟨t, rfl⟩ := r; exact wpAny_pure h
  | ref i => cases r; exact wpAny_pure h
  | ty i => cases r; exact wpAny_pure h
theorem isnot_b_gen {prog : Program} {w : World} {A : Around} {E : Value → Shared → Prop} {s : Shared} {x : V} {v : Value} {b : Bool} {Q : Value → Shared → Prop} (r : RelV x v) (h : Q (.bool (!decide (x = .bl b))) s) : wpAny (model prog w) A (compareOp .IsNot v (.bool b)) Q E s := by
  cases x with
  | bl c =>
    cases r
    have e : (Value.bool c == Value.bool b) = decide (V.bl c = V.bl b) := by
      cases c <;> cases b <;> decide
    exact wpAny_pure (by rw [← e] at h; exact h)
  | non => cases r; exact wpAny_pure h
  | int i => obtain ⟨t, rfl⟩ := r; exact wpAny_pure h
  | str i => obtain ⟨t, rfl⟩ := r; exact wpAny_pure h
  | byt i => obtain ⟨t, rfl⟩ := r; exact wpAny_pure h
  | flt i => obtain ⟨t, rfl⟩ := r; exact wpAny_pure h
  | ref i => cases r; exact wpAny_pure h
  | ty i => cases r; exact wpAny_pure h
theorem op_isW : OpR X (compareOp .Is) rIsW := by
  intro pins s σ H x y v u Q I rx ry h
  obtain ⟨hy, q⟩ := h
  cases y with
  | non => exact op_isN pins s σ H x .non v u Q I rx ry ⟨rfl, q⟩
  | bl b => cases ry; exact is_b_gen rx ⟨.bl _, H, I, rfl, q⟩
  | _ => exact absurd (show false = true from hy) Bool.false_ne_true
theorem op_isNotW : OpR X (compareOp .IsNot) rIsNotW := by
  intro pins s σ H x y v u Q I rx ry h
  obtain ⟨hy, q⟩ := h
  cases y with
  | non => exact op_notN pins s σ H x .non v u Q I rx ry ⟨rfl, q⟩
  | bl b => cases ry; exact isnot_b_gen rx ⟨.bl _, H, I, rfl, q⟩
  | _ => exact absurd (show false = true from hy) Bool.false_ne_true
def rIsO : R2 := fun x y H Q => ∃ a b oa ob, x = .ref a ∧ y = .ref b ∧ H a = some oa ∧ isObj oa = true ∧ H b = some ob ∧ isObj ob = true ∧ Q (.bl (decide (a = b))) H
def rIsNotO : R2 := fun x y H Q => ∃ a b oa ob, x = .ref a ∧ y = .ref b ∧ H a = some oa ∧ isObj oa = true ∧ H b = some ob ∧ isObj ob = true ∧ Q (.bl (!decide (a = b))) H
def rIsX : R2 := fun x y H Q => rIsW x y H Q ∨ rIsO x y H Q
def rIsNotX : R2 := fun x y H Q => rIsNotW x y H Q ∨ rIsNotO x y H Q
theorem op_isX : OpR X (compareOp .Is) rIsX := OpR.or op_isW op_is_ref
theorem op_isNotX : OpR X (compareOp .IsNot) rIsNotX := OpR.or op_isNotW op_isnot_ref
/-- ==: of single values, of data at any depth -/
def rEqX (K : PySem.W.Frag) : R2 := fun x y H Q => rEq x y H Q ∨ rEqD K x y H Q
def rNeX (K : PySem.W.Frag) : R2 := fun x y H Q => rNe x y H Q ∨ rNeD K x y H Q
theorem op_eqX (hu : X.A.units + 64 < cLine) : OpR X (compareOp .Eq) (rEqX X.K) := OpR.or op_eq (op_eqD hu)
theorem op_neX (hu : X.A.units + 64 < cLine) : OpR X (compareOp .NotEq) (rNeX X.K) := OpR.or op_ne (op_neD hu)
/-- a[i:j] of texts and lists -/
def rSlX (K : PySem.W.Frag) : V → Option Int → Option Int → Hp → VK → Prop := fun x lo hi H Q => rSlS x lo hi H Q ∨ rSlL K x lo hi H Q
theorem sl_X : SlR X (rSlX X.K) := SlR.or sl_str sl_list
def rIntX : List V → Hp → VK → Prop := fun xs H Q => ((∃ i, xs = [.int i] ∧ Q (.int i) H) ∨ ∃ k, xs = [.bl k] ∧ Q (.int (b2i k)) H) ∨ ∃ a n, xs = [.str a] ∧ PySem.intText? a = some n ∧ a.length ≤ 640 ∧ Q (.int n) H
end

section
variable {X : Cx}
def rJoin (K : PySem.W.Frag) : V → List V → Hp → VK → Prop := fun x xs H Q => ∃ a p, ∃ ys : List Str, x = .str a ∧ xs = [.ref p] ∧ (SqL K H p (ys.map V.str) ∨ SqT K H p (ys.map V.str)) ∧
  (ys.map (·.length)).sum + ys.length * a.length ≤ 16777216 ∧ Q (.str (Txt.join a ys)) H
def rStarts3 : V → List V → Hp → VK → Prop := fun x xs H Q => ∃ (a b : Str) (i : Int), x = .str a ∧ xs = [.str b, .int i] ∧ Q (.bl (Txt.startswith3 a b i)) H
/-- what a for walks: a list, a tuple, a text -/
def iAny (K : PySem.W.Frag) (te : TE) : TI := fun σ H R => iList K te σ H R ∨ iTup K te σ H R ∨ iStr te σ H R
theorem pi_any {tg e : Expr} {te : TE} (he : PE X e te) : PI X tg e (iAny X.K te) := ⟨fun pins s σ H R I h => by
  rcases h with h | h | h
  · exact (pi_list he).run pins s σ H R I h
  · exact (pi_tup he).run pins s σ H R I h
  · exact (pi_str he).run pins s σ H R I h⟩
end

/-! ### the reading, step by step: each ⟨nx, rt, bk, ct⟩ stands open -/
section
variable {nx bk ct : L2.St → Hp → Prop} {rt : VK} {σ : L2.St} {H : Hp} {Q : VK} {te ta tb tc : TE} {t u : TS} {tt tt' : TT} {K : PySem.W.Frag} {v x y : V} {i : Nat} {r : R2} {TA1 : TA}
theorem g_seq (h : t ⟨u ⟨nx, rt, bk, ct⟩, rt, bk, ct⟩ σ H) : tSeq t u ⟨nx, rt, bk, ct⟩ σ H := h
theorem g_next (h : nx σ H) : tNext ⟨nx, rt, bk, ct⟩ σ H := h
theorem g_brk (h : bk σ H) : tBreak ⟨nx, rt, bk, ct⟩ σ H := h
theorem g_cont (h : ct σ H) : tCont ⟨nx, rt, bk, ct⟩ σ H := h
theorem g_asg (h : te σ H fun x H1 => nx (σ.set i (some x)) H1) : tAsg te (gName i) ⟨nx, rt, bk, ct⟩ σ H := h
theorem g_drop (h : te σ H fun _ H1 => nx σ H1) : tDrop te ⟨nx, rt, bk, ct⟩ σ H := h
theorem g_ret (h : te σ H rt) : tRet te ⟨nx, rt, bk, ct⟩ σ H := h
theorem g_retN (h : rt .non H) : tRetN ⟨nx, rt, bk, ct⟩ σ H := h
theorem g_if (h : tt σ H fun b H1 => if b = true then t ⟨nx, rt, bk, ct⟩ σ H1 else u ⟨nx, rt, bk, ct⟩ σ H1) : tIfS tt t u ⟨nx, rt, bk, ct⟩ σ H := h
theorem g_var (h : σ[i]? = some (some v)) (q : Q v H) : tVar i σ H Q := ⟨v, h, q⟩
theorem g_c (q : Q v H) : tC v σ H Q := q
theorem g_op (h : ta σ H fun x H1 => tb σ H1 fun y H2 => r x y H2 Q) : tOp r ta tb σ H Q := h
theorem g_un {r : V → Hp → VK → Prop} (h : ta σ H fun x H1 => r x H1 Q) : tUn r ta σ H Q := h
theorem g_nil {Q : List V → Hp → Prop} (h : Q [] H) : tNil σ H Q := h
theorem g_cons {Q : List V → Hp → Prop} (h : ta σ H fun x H1 => TA1 σ H1 fun xs H2 => Q (x :: xs) H2) : tCons ta TA1 σ H Q := h
def TestK (x : V) (H : Hp) (Q : Bool → Hp → Prop) : Prop := ∃ k, x = .bl k ∧ Q k H
theorem g_test {Q : Bool → Hp → Prop} (h : te σ H fun x H' => TestK x H' Q) : tTest te σ H Q := h
theorem g_b {Q : Bool → Hp → Prop} (h : te σ H fun x H' => TestK x H' Q) : tB te σ H Q := h
theorem g_k {Q : Bool → Hp → Prop} {b : Bool} (q : Q b H) : TestK (.bl b) H Q := ⟨b, rfl, q⟩
def TruK (K : PySem.W.Frag) (x : V) (H : Hp) (Q : Bool → Hp → Prop) : Prop := ∃ k, TruV K x H k ∧ Q k H
theorem g_tru {Q : Bool → Hp → Prop} (h : te σ H fun x H' => TruK K x H' Q) : tTru K te σ H Q := h
theorem v_truB {Q : Bool → Hp → Prop} {b : Bool} (q : Q b H) : TruK K (.bl b) H Q := ⟨b, rfl, q⟩
theorem v_truN {Q : Bool → Hp → Prop} (q : Q false H) : TruK K .non H Q := ⟨_, rfl, q⟩
theorem v_truI {Q : Bool → Hp → Prop} {i : Int} (q : Q (i != 0) H) : TruK K (.int i) H Q := ⟨_, rfl, q⟩
theorem g_and {Q : Bool → Hp → Prop} (h : tt σ H fun c H1 => if c = true then tt' σ H1 Q else Q false H1) : tAnd tt tt' σ H Q := h
theorem g_or {Q : Bool → Hp → Prop} (h : tt σ H fun c H1 => if c = true then Q true H1 else tt' σ H1 Q) : tOr tt tt' σ H Q := h
theorem g_not {Q : Bool → Hp → Prop} (h : tt σ H fun c H1 => Q (!c) H1) : tNot tt σ H Q := h
theorem g_andV (h : ta σ H fun x H1 => TestK x H1 fun c H1 => if c = true then tb σ H1 Q else Q (.bl false) H1) : tAndV ta tb σ H Q := h
theorem g_orV (h : ta σ H fun x H1 => TestK x H1 fun c H1 => if c = true then Q (.bl true) H1 else tb σ H1 Q) : tOrV ta tb σ H Q := h
theorem g_notV (h : ta σ H fun x H1 => TestK x H1 fun c H1 => Q (.bl (!c)) H1) : tNotV ta σ H Q := h
theorem g_ifE (h : tt σ H fun c H1 => if c = true then ta σ H1 Q else tb σ H1 Q) : tIf tt ta tb σ H Q := h
theorem g_callB {r : List V → Hp → VK → Prop} (h : TA1 σ H fun vs H1 => r vs H1 Q) : tCB r TA1 σ H Q := h
theorem g_call {sp : Sp} {E : L2.St → XK} (h : TA1 σ H fun vs H1 => sp vs H1 Q (E σ)) : tCallSD sp [] E TA1 σ H Q := by
  show TA1 σ H fun vs H1 => sp (vs ++ []) H1 Q (E σ)
  simp only [List.append_nil]
  exact h
theorem g_tup (h : TA1 σ H fun xs H1 => xs.length ≤ sizeLine ∧ ∀ p, H1 p = none → Q (.ref p) (upd H1 p (.tup xs))) : tTup TA1 σ H Q := h
theorem g_lst (h : TA1 σ H fun xs H1 => xs.length ≤ sizeLine ∧ ∀ p, H1 p = none → Q (.ref p) (upd H1 p (.lst xs))) : tLst TA1 σ H Q := h
theorem g_small {xs : List V} {A : Prop} (h : xs.length ≤ 1000) (q : A) : xs.length ≤ sizeLine ∧ A := ⟨Nat.le_of_lt (small1000 h), q⟩
/-! by values -/
theorem v_addI {i j : Int} (q : Q (.int (i + j)) H) : rAddX K (.int i) (.int j) H Q := .inl ⟨_, _, rfl, rfl, q⟩
theorem v_addS {a b : Str} (h : a.length + b.length ≤ sizeLine) (q : Q (.str (a ++ b)) H) : rAddX K (.str a) (.str b) H Q := .inr (.inl ⟨_, _, rfl, rfl, h, q⟩)
theorem v_sub {i j : Int} (q : Q (.int (i - j)) H) : rSubX (.int i) (.int j) H Q := ⟨_, _, rfl, rfl, q⟩
theorem v_mulI {i j : Int} (h : CMul i j) (q : Q (.int (i * j)) H) : rMulX (.int i) (.int j) H Q := .inl ⟨_, _, rfl, rfl, h, q⟩
theorem v_mulS {z : Str} {n : Int} (h : MulS z n) (q : Q (.str (Txt.mul z n)) H) : rMulX (.str z) (.int n) H Q := .inr (.inl ⟨_, _, rfl, rfl, h, q⟩)
theorem v_mod {i j : Int} (h : 0 < j) (q : Q (.int (i % j)) H) : rModX (.int i) (.int j) H Q := .inl ⟨_, _, rfl, rfl, h, q⟩
theorem v_div {i j : Int} (h : CDiv i j) (q : Q (.int (i / j)) H) : rDivX (.int i) (.int j) H Q := .inl ⟨_, _, rfl, rfl, h, q⟩
theorem v_lt {i j : Int} (q : Q (.bl (decide (i < j))) H) : rLtX K (.int i) (.int j) H Q := .inl ⟨_, _, rfl, rfl, q⟩
theorem v_le {i j : Int} (q : Q (.bl (decide (i ≤ j))) H) : rLeX (.int i) (.int j) H Q := ⟨_, _, rfl, rfl, q⟩
theorem v_gt {i j : Int} (q : Q (.bl (decide (j < i))) H) : rGtX (.int i) (.int j) H Q := ⟨_, _, rfl, rfl, q⟩
theorem v_ge {i j : Int} (q : Q (.bl (decide (j ≤ i))) H) : rGeX (.int i) (.int j) H Q := ⟨_, _, rfl, rfl, q⟩
theorem dS {a b : Str} : decide (V.str a = V.str b) = decide (a = b) := by
  by_cases h : a = b
  · rw [h]; simp
  · rw [decide_eq_false h, decide_eq_false]; intro z; exact h (V.str.inj z)
theorem dI {a b : Int} : decide (V.int a = V.int b) = decide (a = b) := by
  by_cases h : a = b
  · rw [h]; simp
  · rw [decide_eq_false h, decide_eq_false]; intro z; exact h (V.int.inj z)
theorem dB {a b : Bool} : decide (V.bl a = V.bl b) = decide (a = b) := by
  by_cases h : a = b
  · rw [h]; simp
  · rw [decide_eq_false h, decide_eq_false]; intro z; exact h (V.bl.inj z)
theorem v_eqI {i j : Int} (q : Q (.bl (decide (i = j))) H) : rEqX K (.int i) (.int j) H Q := .inl ⟨rfl, by rw [dI]; exact q⟩
theorem v_eqS {i j : Str} (q : Q (.bl (decide (i = j))) H) : rEqX K (.str i) (.str j) H Q := .inl ⟨rfl, by rw [dS]; exact q⟩
theorem v_eqB {i j : Bool} (q : Q (.bl (decide (i = j))) H) : rEqX K (.bl i) (.bl j) H Q := .inl ⟨rfl, by rw [dB]; exact q⟩
theorem v_neI {i j : Int} (q : Q (.bl (!decide (i = j))) H) : rNeX K (.int i) (.int j) H Q := .inl ⟨rfl, by rw [dI]; exact q⟩
theorem v_neS {i j : Str} (q : Q (.bl (!decide (i = j))) H) : rNeX K (.str i) (.str j) H Q := .inl ⟨rfl, by rw [dS]; exact q⟩
theorem v_neB {i j : Bool} (q : Q (.bl (!decide (i = j))) H) : rNeX K (.bl i) (.bl j) H Q := .inl ⟨rfl, by rw [dB]; exact q⟩
theorem v_isN (q : Q (.bl (decide (x = .non))) H) : rIsX x .non H Q := .inl ⟨rfl, q⟩
theorem v_isNotN (q : Q (.bl (!decide (x = .non))) H) : rIsNotX x .non H Q := .inl ⟨rfl, q⟩
theorem v_isB {b : Bool} (q : Q (.bl (decide (x = .bl b))) H) : rIsX x (.bl b) H Q := .inl ⟨rfl, q⟩
theorem v_isNotB {b : Bool} (q : Q (.bl (!decide (x = .bl b))) H) : rIsNotX x (.bl b) H Q := .inl ⟨rfl, q⟩
theorem v_eqV (h : scal x y = true) (q : Q (.bl (decide (x = y))) H) : rEqX K x y H Q := .inl ⟨h, q⟩
theorem v_neV (h : scal x y = true) (q : Q (.bl (!decide (x = y))) H) : rNeX K x y H Q := .inl ⟨h, q⟩
theorem v_eqD {d e : PyData} (h1 : Dp K H x d) (h2 : Dp K H y e) (s1 : SeqAt.shaped d = true) (s2 : SeqAt.shaped e = true) (q : Q (.bl (PyData.eqv d e)) H) : rEqX K x y H Q := .inr ⟨_, _, h1, h2, s1, s2, q⟩
theorem v_neD {d e : PyData} (h1 : Dp K H x d) (h2 : Dp K H y e) (s1 : SeqAt.shaped d = true) (s2 : SeqAt.shaped e = true) (q : Q (.bl (!PyData.eqv d e)) H) : rNeX K x y H Q := .inr ⟨_, _, h1, h2, s1, s2, q⟩
theorem v_inL {p : Addr} {xs : List V} (h : SqL K H p xs) (f1 : flatV x = true) (f2 : xs.all flatV = true) (q : Q (.bl (inV x xs)) H) : rInX K x (.ref p) H Q := .inl ⟨p, xs, rfl, .inl h, f1, f2, q⟩
theorem v_notInL {p : Addr} {xs : List V} (h : SqL K H p xs) (f1 : flatV x = true) (f2 : xs.all flatV = true) (q : Q (.bl (!inV x xs)) H) : rNotInX K x (.ref p) H Q := .inl ⟨p, xs, rfl, .inl h, f1, f2, q⟩
theorem v_cat {l b : Addr} {xs zs : List V} (h : H l = some (.lst xs)) (h2 : H b = some (.lst zs)) (hz : xs.length + zs.length ≤ sizeLine) (q : ∀ p, H p = none → Q (.ref p) (upd H p (.lst (xs ++ zs)))) : rAddX K (.ref l) (.ref b) H Q := .inr (.inr (.inl ⟨_, _, _, _, rfl, rfl, h, h2, hz, q⟩))
theorem v_inS {c : Nat} {z : Str} (q : Q (.bl (decide (c ∈ z.cps.toList))) H) : rInX K (.str ⟨#[c]⟩) (.str z) H Q := .inr ⟨_, _, rfl, rfl, q⟩
theorem v_notInS {c : Nat} {z : Str} (q : Q (.bl (!decide (c ∈ z.cps.toList))) H) : rNotInX K (.str ⟨#[c]⟩) (.str z) H Q := .inr ⟨_, _, rfl, rfl, q⟩
theorem v_inT {p : Addr} {xs : List V} (h : H p = some (.tup xs)) (f1 : flatV x = true) (f2 : xs.all flatV = true) (q : Q (.bl (inV x xs)) H) : rInX K x (.ref p) H Q := .inl ⟨p, xs, rfl, .inr (SqT.of h), f1, f2, q⟩
theorem v_notInT {p : Addr} {xs : List V} (h : H p = some (.tup xs)) (f1 : flatV x = true) (f2 : xs.all flatV = true) (q : Q (.bl (!inV x xs)) H) : rNotInX K x (.ref p) H Q := .inl ⟨p, xs, rfl, .inr (SqT.of h), f1, f2, q⟩
theorem v_lenS {z : Str} (h : z.length ≤ sizeLine) (q : Q (.int (z.length : Int)) H) : rLen K [.str z] H Q := ⟨_, _, rfl, ⟨h, rfl⟩, q⟩
theorem v_lenL {p : Addr} {xs : List V} (h : H p = some (.lst xs)) (q : Q (.int (xs.length : Int)) H) : rLen K [.ref p] H Q := ⟨_, _, rfl, .inl ⟨_, SqL.of h, rfl⟩, q⟩
theorem v_lenT {p : Addr} {xs : List V} (h : H p = some (.tup xs)) (q : Q (.int (xs.length : Int)) H) : rLen K [.ref p] H Q := ⟨_, _, rfl, .inr ⟨_, SqT.of h, rfl⟩, q⟩
theorem v_ixL {p : Addr} {xs : List V} {n : Int} (h : H p = some (.lst xs)) (e : atI xs n = some v) (q : Q v H) : rIx K (.ref p) (.int n) H Q := .inl ⟨_, _, _, _, rfl, rfl, SqL.of h, e, q⟩
theorem v_ixT {p : Addr} {xs : List V} {n : Int} (h : H p = some (.tup xs)) (e : atI xs n = some v) (q : Q v H) : rIx K (.ref p) (.int n) H Q := .inr (.inl ⟨_, _, _, _, rfl, rfl, SqT.of h, e, q⟩)
theorem v_ixS {z : Str} {n : Int} {c : Nat} (h : z.length ≤ sizeLine) (e : atI z.cps.toList n = some c) (q : Q (.str ⟨#[c]⟩) H) : rIx K (.str z) (.int n) H Q := .inr (.inr ⟨_, _, _, rfl, rfl, h, e, q⟩)
theorem v_intI {n : Int} (q : Q (.int n) H) : rIntX [.int n] H Q := .inl (.inl ⟨_, rfl, q⟩)
theorem v_intS {a : Str} {n : Int} (h : PySem.intText? a = some n) (hl : a.length ≤ 640) (q : Q (.int n) H) : rIntX [.str a] H Q := .inr ⟨_, _, rfl, h, hl, q⟩
/-! loops -/
def LoopG (J : It) (g : TG) (tb : TS) : TS := fun D σ H => ∃ W : Nat → Nat → L2.St → Hp → Prop, (∃ m, W 0 m σ H) ∧ ∀ i m σ H, W i m σ H →
  (J.stop i H ∧ D.nx σ H) ∨ (J.go i H ∧ ∃ N : L2.St → Hp → Prop, (∀ σ' H', N σ' H' → ∃ m', m' < m ∧ W (i + 1) m' σ' H') ∧ ∀ x H', J.yld i H x H' → g x σ H' fun σ2 H2 => tb { D with nx := N, ct := N, bk := D.nx } σ2 H2)
variable {wi : TI} {g : TG} {tb : TS}
theorem g_for (h : wi σ H fun J H1 => LoopG J g tb ⟨nx, rt, bk, ct⟩ σ H1) : tFor wi g tb ⟨nx, rt, bk, ct⟩ σ H := h
theorem g_name {S : L2.St → Hp → Prop} (h : S (σ.set i (some v)) H) : gName i v σ H S := h
def Rng1 (R : It → Hp → Prop) (vs : List V) (H : Hp) : Prop := ∃ j : Int, vs = [.int j] ∧ -(2 ^ 62) ≤ j ∧ j < 2 ^ 62 ∧ R (Itr 0 j.toNat) H
def Rng2 (R : It → Hp → Prop) (vs : List V) (H : Hp) : Prop := ∃ i j : Int, vs = [.int i, .int j] ∧ (-(2 ^ 62) ≤ i ∧ i < 2 ^ 62 ∧ -(2 ^ 62) ≤ j ∧ j < 2 ^ 62) ∧ R (Itr i (j - i).toNat) H
theorem g_rng1 {R : It → Hp → Prop} (h : TA1 σ H (Rng1 R)) : iRng1 TA1 σ H R := h
theorem g_rng2 {R : It → Hp → Prop} (h : TA1 σ H (Rng2 R)) : iRng2 TA1 σ H R := h
theorem g_rngN {R : It → Hp → Prop} {n : Nat} (hn : n < 2 ^ 62) (h : R (Itr 0 n) H) : Rng1 R [V.int (n : Int)] H := ⟨_, rfl, by omega, by omega, by rw [Int.toNat_natCast]; exact h⟩
theorem g_rngI {R : It → Hp → Prop} {n : Int} (h1 : -(2 ^ 62) ≤ n) (h2 : n < 2 ^ 62) (h : R (Itr 0 n.toNat) H) : Rng1 R [V.int n] H := ⟨_, rfl, h1, h2, h⟩
theorem g_rngT {R : It → Hp → Prop} {m n : Int} (h1 : -(2 ^ 62) ≤ m ∧ m < 2 ^ 62 ∧ -(2 ^ 62) ≤ n ∧ n < 2 ^ 62) (h : R (Itr m (n - m).toNat) H) : Rng2 R [V.int m, V.int n] H := ⟨_, _, rfl, h1, h⟩
def OvL (K : PySem.W.Frag) (R : It → Hp → Prop) (x : V) (H : Hp) : Prop := ∃ a, x = .ref a ∧ (∃ xs, SqL K H a xs) ∧ R (Itl K a) H
def OvT (K : PySem.W.Frag) (R : It → Hp → Prop) (x : V) (H : Hp) : Prop := ∃ a, x = .ref a ∧ (∃ xs, SqT K H a xs) ∧ R (Itt K a) H
def OvS (R : It → Hp → Prop) (x : V) (H : Hp) : Prop := ∃ z, x = .str z ∧ R (Its z) H
theorem gi_list {R : It → Hp → Prop} (h : te σ H (OvL K R)) : iAny K te σ H R := .inl h
theorem gi_tup {R : It → Hp → Prop} (h : te σ H (OvT K R)) : iAny K te σ H R := .inr (.inl h)
theorem gi_str {R : It → Hp → Prop} (h : te σ H (OvS R)) : iAny K te σ H R := .inr (.inr h)
theorem v_ovL {R : It → Hp → Prop} {p : Addr} {xs : List V} (h : SqL K H p xs) (q : R (Itl K p) H) : OvL K R (.ref p) H := ⟨p, rfl, ⟨xs, h⟩, q⟩
theorem v_ovT {R : It → Hp → Prop} {p : Addr} {xs : List V} (h : SqT K H p xs) (q : R (Itt K p) H) : OvT K R (.ref p) H := ⟨p, rfl, ⟨xs, h⟩, q⟩
theorem v_ovS {R : It → Hp → Prop} {z : Str} (q : R (Its z) H) : OvS R (.str z) H := ⟨z, rfl, q⟩
theorem l_range {lo : Int} {n : Nat} (Pv : Nat → L2.St → Hp → Prop) (h0 : Pv 0 σ H) (hs : ∀ i σ H, i < n → Pv i σ H → g (.int (lo + i)) σ H fun σ2 H2 => tb ⟨Pv (i + 1), rt, nx, Pv (i + 1)⟩ σ2 H2)
    (hd : ∀ σ H, Pv n σ H → nx σ H) : LoopG (Itr lo n) g tb ⟨nx, rt, bk, ct⟩ σ H := for_range (D := ⟨nx, rt, bk, ct⟩) Pv h0 hs hd
theorem l_list {a : Addr} {xs : List V} (Pv : Nat → L2.St → Hp → Prop) (h0 : Pv 0 σ H) (hl : ∀ i σ H, i ≤ xs.length → Pv i σ H → SqL K H a xs)
    (hs : ∀ i x σ H, xs[i]? = some x → Pv i σ H → g x σ H fun σ2 H2 => tb ⟨Pv (i + 1), rt, nx, Pv (i + 1)⟩ σ2 H2) (hd : ∀ σ H, Pv xs.length σ H → nx σ H) : LoopG (Itl K a) g tb ⟨nx, rt, bk, ct⟩ σ H := for_list (D := ⟨nx, rt, bk, ct⟩) Pv h0 hl hs hd
theorem l_tup {a : Addr} {xs : List V} (Pv : Nat → L2.St → Hp → Prop) (h0 : Pv 0 σ H) (hl : ∀ i σ H, i ≤ xs.length → Pv i σ H → SqT K H a xs)
    (hs : ∀ i x σ H, xs[i]? = some x → Pv i σ H → g x σ H fun σ2 H2 => tb ⟨Pv (i + 1), rt, nx, Pv (i + 1)⟩ σ2 H2) (hd : ∀ σ H, Pv xs.length σ H → nx σ H) : LoopG (Itt K a) g tb ⟨nx, rt, bk, ct⟩ σ H := for_tup (D := ⟨nx, rt, bk, ct⟩) Pv h0 hl hs hd
theorem l_str {zs : List Nat} (Pv : Nat → L2.St → Hp → Prop) (h0 : Pv 0 σ H) (hs : ∀ i c σ H, zs[i]? = some c → Pv i σ H → g (.str ⟨#[c]⟩) σ H fun σ2 H2 => tb ⟨Pv (i + 1), rt, nx, Pv (i + 1)⟩ σ2 H2)
    (hd : ∀ σ H, Pv zs.length σ H → nx σ H) : LoopG (Its ⟨zs.toArray⟩) g tb ⟨nx, rt, bk, ct⟩ σ H := by
  refine ⟨fun i m σ H => m = zs.length - i ∧ i ≤ zs.length ∧ Pv i σ H, ⟨zs.length, by simp, Nat.zero_le _, h0⟩, ?_⟩
  rintro i m σ H ⟨rfl, hi, p⟩
  by_cases hlt : i < zs.length
  · refine .inr ⟨(by show i < zs.toArray.size; simpa using hlt), Pv (i + 1), fun σ' H' p' => ⟨zs.length - (i + 1), by omega, rfl, hlt, p'⟩, fun x H' y => ?_⟩
    obtain ⟨e, c, hc, ex⟩ := y
    subst e ex
    exact hs i c σ _ (by simpa using hc) p
  · have e : i = zs.length := by omega
    subst e
    exact .inl ⟨(by show zs.toArray.size ≤ zs.length; simp), hd σ H p⟩
theorem g_while (h : ∃ W : Nat → L2.St → Hp → Prop, (∃ m, W m σ H) ∧ ∀ m σ H, W m σ H →
    tt σ H fun b H1 => if b = true then ∃ N : L2.St → Hp → Prop, (∀ σ' H', N σ' H' → ∃ m', m' < m ∧ W m' σ' H') ∧ tb ⟨N, rt, nx, N⟩ σ H1 else nx σ H1) : tWhile tt tb ⟨nx, rt, bk, ct⟩ σ H := h
theorem g_turn {W : Nat → L2.St → Hp → Prop} {m : Nat} (h : tb ⟨fun σ' H' => ∃ m', m' < m ∧ W m' σ' H', rt, nx, fun σ' H' => ∃ m', m' < m ∧ W m' σ' H'⟩ σ H) :
    ∃ N : L2.St → Hp → Prop, (∀ σ' H', N σ' H' → ∃ m', m' < m ∧ W m' σ' H') ∧ tb ⟨N, rt, nx, N⟩ σ H := ⟨_, fun _ _ z => z, h⟩
/-! methods of lists, texts, stores -/
theorem g_bm {T : String} {r : V → List V → Hp → VK → Prop} (h : ta σ H fun x H1 => tyV K T x H1 ∧ TA1 σ H1 fun xs H2 => r x xs H2 Q) : tBM K T r ta TA1 σ H Q := h
theorem g_bm0 {T : String} {r : V → List V → Hp → VK → Prop} (h : ta σ H fun x H1 => tyV K T x H1 ∧ r x [] H1 Q) : tBM0 K T r ta σ H Q := h
theorem g_tyL {p : Addr} {xs : List V} {A : Prop} (h : H p = some (.lst xs)) (q : A) : tyV K "list" (.ref p) H ∧ A := ⟨.inl ⟨rfl, _, SqL.of h⟩, q⟩
theorem g_tyS {z : Str} {A : Prop} (q : A) : tyV K "str" (.str z) H ∧ A := ⟨rfl, q⟩
theorem v_append {l : Addr} {xs : List V} (h : H l = some (.lst xs)) (hl : xs.length < sizeLine) (q : Q .non (upd H l (.lst (xs ++ [y])))) : rAppend (.ref l) [y] H Q := ⟨_, _, _, rfl, rfl, h, hl, q⟩
theorem g_m1 {r : V → List V → Hp → VK → Prop} (h : ta σ H fun x H1 => (∃ a, x = .str a) ∧ tc σ H1 fun y H2 => r x [y] H2 Q) : tM1 r ta tc σ H Q := h
theorem g_isS {z : Str} {A : Prop} (q : A) : (∃ a, V.str z = .str a) ∧ A := ⟨⟨_, rfl⟩, q⟩
theorem v_join {p : Addr} {a : Str} {ys : List Str} (h : H p = some (.lst (ys.map V.str))) (hz : (ys.map (·.length)).sum + ys.length * a.length ≤ 16777216) (q : Q (.str (Txt.join a ys)) H) : rJoin K (.str a) [.ref p] H Q := ⟨_, _, _, rfl, rfl, .inl (SqL.of h), hz, q⟩
theorem v_starts3 {a b : Str} {n : Int} (q : Q (.bl (Txt.startswith3 a b n)) H) : rStarts3 (.str a) [.str b, .int n] H Q := ⟨_, _, _, rfl, rfl, q⟩
theorem g_sl {r : V → Option Int → Option Int → Hp → VK → Prop} {tl th : TO} (h : te σ H fun x H1 => tl σ H1 fun l H2 => th σ H2 fun u H3 => r x l u H3 Q) : tSl r te tl th σ H Q := h
theorem g_no {Q : Option Int → Hp → Prop} (h : Q none H) : tNoPart σ H Q := h
def PartK (x : V) (H : Hp) (Q : Option Int → Hp → Prop) : Prop := ∃ i, x = .int i ∧ Q (some i) H
theorem g_part {Q : Option Int → Hp → Prop} (h : te σ H fun x H1 => PartK x H1 Q) : tPart te σ H Q := h
theorem g_isI {n : Int} {Q : Option Int → Hp → Prop} (h : Q (some n) H) : PartK (.int n) H Q := ⟨_, rfl, h⟩
theorem v_slS {z : Str} {lo hi : Option Int} (h : z.length ≤ sizeLine) (q : Q (.str (cutS z lo hi)) H) : rSlX K (.str z) lo hi H Q := .inl ⟨_, rfl, h, q⟩
theorem v_slL {p : Addr} {xs : List V} {lo hi : Option Int} (h : H p = some (.lst xs)) (q : ∀ p, H p = none → Q (.ref p) (upd H p (.lst (cutV xs lo hi)))) : rSlX K (.ref p) lo hi H Q := .inr ⟨_, _, rfl, SqL.of h, q⟩
theorem g_make {C : Addr} {sp : Sp} {E : XK} (h : TA1 σ H fun vs H1 => ∀ x dx, H1 x = none → H1 dx = none → dx ≠ x → sp (.ref x :: vs) (upd (upd H1 dx (.own x)) x (.ins C dx [])) (fun v H2 => v = .non ∧ Q (.ref x) H2) E) : tMake C sp [] E TA1 σ H Q := by
  show TA1 σ H fun vs H1 => ∀ x dx, H1 x = none → H1 dx = none → dx ≠ x → sp (.ref x :: (vs ++ [])) (upd (upd H1 dx (.own x)) x (.ins C dx [])) (fun v H2 => v = .non ∧ Q (.ref x) H2) E
  simp only [List.append_nil]
  exact h
def FldK (K : PySem.W.Frag) (f : Str) (x : V) (H : Hp) (Q : VK) : Prop := ∃ a C dx fs v, x = .ref a ∧ H a = some (.ins C dx fs) ∧ Cls K C ∧ NoAttr K C f ∧ fs.lookup f = some v ∧ Q v H
theorem g_fld {f : Str} (h : ta σ H fun x H1 => FldK K f x H1 Q) : tFld K ta f σ H Q := h
theorem v_fld {a C dx : Addr} {fs : List (Str × V)} {f : Str} (h : H a = some (.ins C dx fs)) (c : Cls K C) (n : NoAttr K C f) (l : fs.lookup f = some v) (q : Q v H) : FldK K f (.ref a) H Q := ⟨_, _, _, _, _, rfl, h, c, n, l, q⟩
def SfldK (K : PySem.W.Frag) (f : Str) (x y : V) (H : Hp) (S : Hp → Prop) : Prop := ∃ a C dx fs, x = .ref a ∧ H a = some (.ins C dx fs) ∧ Cls K C ∧ NoAttr K C f ∧ fs.length < 1000 ∧ S (upd H a (.ins C dx (putF f y fs)))
theorem g_sfld {tv : TE} {f : Str} (h : tv σ H fun y H1 => ta σ H1 fun x H2 => SfldK K f x y H2 (nx σ)) : sFld K ta tv f ⟨nx, rt, bk, ct⟩ σ H := h
theorem v_sfld {a C dx : Addr} {fs : List (Str × V)} {f : Str} {S : Hp → Prop} (h : H a = some (.ins C dx fs)) (c : Cls K C) (n : NoAttr K C f) (l : fs.length < 1000) (q : S (upd H a (.ins C dx (putF f y fs)))) :
    SfldK K f (.ref a) y H S := ⟨_, _, _, _, rfl, h, c, n, l, q⟩
theorem g_asgG (h : te σ H fun x H1 => g x σ H1 nx) : tAsg te g ⟨nx, rt, bk, ct⟩ σ H := h
theorem g_sub {S : L2.St → Hp → Prop} {to ti : TE} {ts : TSet} (h : to σ H fun o H1 => ti σ H1 fun i H2 => ts o i v H2 fun H3 => S σ H3) : gSub to ti ts v σ H S := h
theorem v_setL {p : Addr} {xs : List V} {n : Int} {j : Nat} {S : Hp → Prop} (h : H p = some (.lst xs)) (e : ixN xs.length n = some j) (q : S (upd H p (.lst (xs.set j v)))) : rSetL (.ref p) (.int n) v H S := ⟨_, _, _, _, rfl, rfl, h, e, q⟩
theorem g_gtup {S : L2.St → Hp → Prop} {n : Nat} {t : TGs} {a : Addr} {xs : List V} (h : H a = some (.tup xs)) (l : xs.length = n) (q : t xs σ H S) : gTup K n t (.ref a) σ H S := ⟨a, xs, rfl, SqT.of h, l, q⟩
theorem g_gcons {S : L2.St → Hp → Prop} {t : TG} {u : TGs} {r : List V} (h : t v σ H fun σ' H' => u r σ' H' S) : gCons t u (v :: r) σ H S := ⟨v, r, rfl, h⟩
theorem g_gnil {S : L2.St → Hp → Prop} (h : S σ H) : gNil [] σ H S := ⟨rfl, h⟩
theorem g_cut (Mid : L2.St → Hp → Prop) (h1 : t ⟨Mid, rt, bk, ct⟩ σ H) (h2 : ∀ σ' H', Mid σ' H' → u ⟨nx, rt, bk, ct⟩ σ' H') : C8.tCut t u ⟨nx, rt, bk, ct⟩ σ H := ⟨Mid, h1, h2⟩
theorem g_thr (h : t ⟨u ⟨nx, rt, bk, ct⟩, rt, bk, ct⟩ σ H) : C8.tCut t u ⟨nx, rt, bk, ct⟩ σ H := ⟨_, h, fun _ _ z => z⟩
theorem v_lenSq {p : Addr} {xs : List V} (h : SqL K H p xs) (q : Q (.int (xs.length : Int)) H) : rLen K [.ref p] H Q := ⟨_, _, rfl, .inl ⟨_, h, rfl⟩, q⟩
theorem v_ixSq {p : Addr} {xs : List V} {n : Int} (h : SqL K H p xs) (e : atI xs n = some v) (q : Q v H) : rIx K (.ref p) (.int n) H Q := .inl ⟨_, _, _, _, rfl, rfl, h, e, q⟩
theorem up_new {p a : Addr} {o u : HO} (h : H a = some u) (n : H p = none) : upd H p o a = some u := by rw [upd_ne (ne_of_none h n)]; exact h
theorem same_new {p : Addr} {o : HO} (n : H p = none) : Same H (upd H p o) := fun _ _ h => up_new h n
/-- all stays but what stands at d -/
def Sb (d : Addr) (H H' : Hp) : Prop := ∀ b o, b ≠ d → H b = some o → H' b = some o
theorem Sb.refl {d : Addr} : Sb d H H := fun _ _ _ h => h
theorem Sb.trans {d : Addr} {H1 H2 : Hp} (a : Sb d H H1) (b : Sb d H1 H2) : Sb d H H2 := fun c o n h => b c o n (a c o n h)
theorem Sb.upd {d : Addr} {o : HO} : Sb d H (L2.upd H d o) := fun b _ n h => by rw [upd_ne n]; exact h
theorem Same.sb {d : Addr} {H1 : Hp} (a : Same H H1) : Sb d H H1 := fun c o _ h => a c o h
theorem atN {α : Type} {xs : List α} {i : Nat} {x : α} {n : Int} (e : n = (i : Int)) (h : xs[i]? = some x) : atI xs n = some x := by rw [e]; exact atI_nat h
theorem iteNT {A B : Prop} (h : B) : if (!true) = true then A else B := by
  rw [if_neg (by decide)]
  exact h
theorem iteNF {A B : Prop} (h : A) : if (!false) = true then A else B := by
  rw [if_pos (by decide)]
  exact h
theorem g_meth {C : Addr} {m : Str} {sp : Sp} {E : L2.St → XK} (h : ta σ H fun x H1 => ∃ a dx fs, x = .ref a ∧ H1 a = some (.ins C dx fs) ∧ fs.lookup m = none ∧ TA1 σ H1 fun vs H2 => sp (x :: vs) H2 Q (E σ)) : tMethD C m sp [] E ta TA1 σ H Q := by
  show ta σ H fun x H1 => ∃ a dx fs, x = .ref a ∧ H1 a = some (.ins C dx fs) ∧ fs.lookup m = none ∧ TA1 σ H1 fun vs H2 => sp (x :: (vs ++ [])) H2 Q (E σ)
  simp only [List.append_nil]
  exact h
theorem v_find {a b : Str} (q : Q (.int (Txt.find a b)) H) : rFind (.str a) [.str b] H Q := ⟨_, _, rfl, rfl, q⟩
theorem v_listL {p : Addr} {ys : List V} (h : SqL K H p ys) (q : ∀ l, H l = none → Q (.ref l) (upd H l (.lst ys))) : rListX K [.ref p] H Q := .inl ⟨_, _, rfl, .inl h, q⟩
theorem v_listT {p : Addr} {ys : List V} (h : SqT K H p ys) (q : ∀ l, H l = none → Q (.ref l) (upd H l (.lst ys))) : rListX K [.ref p] H Q := .inl ⟨_, _, rfl, .inr h, q⟩
/-! comprehensions -/
def LcG (J : It) (g : TG) (tt : TT) (te : TE) (σ0 : L2.St) (vs : List Nat) (D : Addr) (H1 : Hp) (Qd : Hp → Prop) : Prop := ∃ W : Nat → Nat → Hp → Prop, (∃ m, W 0 m (upd H1 D (.lst []))) ∧ ∀ i m H, W i m H →
      (J.stop i H ∧ Qd H) ∨ (J.go i H ∧ ∃ Nx : Hp → Prop, (∀ H', Nx H' → ∃ m', m' < m ∧ W (i + 1) m' H') ∧ ∀ x H', J.yld i H x H' → g x (wipe σ0 vs) H' fun σ2 H2 => wipe σ2 vs = wipe σ0 vs ∧ tt σ2 H2 fun b H3 =>
        if b = true then te σ2 H3 fun y H4 => ∃ acc, H4 D = some (.lst acc) ∧ acc.length < sizeLine ∧ Nx (upd H4 D (.lst (acc ++ [y]))) else Nx H3)
theorem g_lc {vs : List Nat} {g : TG} (h : wi σ H fun J H1 => ∀ D, H1 D = none → LcG J g tt te σ vs D H1 (Q (.ref D))) : tLc wi g tt te vs σ H Q := h
/-- a comprehension's new item -/
def PutC (D : Addr) (y : V) (H4 : Hp) (S : Hp → Prop) : Prop := ∃ acc, H4 D = some (.lst acc) ∧ acc.length < sizeLine ∧ S (upd H4 D (.lst (acc ++ [y])))
theorem v_put {D : Addr} {acc : List V} {S : Hp → Prop} (h : H D = some (.lst acc)) (hl : acc.length < sizeLine) (q : S (upd H D (.lst (acc ++ [y])))) : PutC D y H S := ⟨acc, h, hl, q⟩
theorem c_range {lo : Int} {n : Nat} {g : TG} {vs : List Nat} {D : Addr} {Qd : Hp → Prop} (Pv : Nat → Hp → Prop) (h0 : Pv 0 (upd H D (.lst [])))
    (hs : ∀ i H, i < n → Pv i H → g (.int (lo + i)) (wipe σ vs) H fun σ2 H2 => wipe σ2 vs = wipe σ vs ∧ tt σ2 H2 fun b H3 => if b = true then te σ2 H3 fun y H4 => PutC D y H4 (Pv (i + 1)) else Pv (i + 1) H3) (hd : ∀ H, Pv n H → Qd H) : LcG (Itr lo n) g tt te σ vs D H Qd := lc_range Pv h0 hs hd
theorem c_list {a : Addr} {xs : List V} {g : TG} {vs : List Nat} {D : Addr} {Qd : Hp → Prop} (Pv : Nat → Hp → Prop) (h0 : Pv 0 (upd H D (.lst []))) (hl : ∀ i H, i ≤ xs.length → Pv i H → SqL K H a xs)
    (hs : ∀ i x H, xs[i]? = some x → Pv i H → g x (wipe σ vs) H fun σ2 H2 => wipe σ2 vs = wipe σ vs ∧ tt σ2 H2 fun b H3 => if b = true then te σ2 H3 fun y H4 => PutC D y H4 (Pv (i + 1)) else Pv (i + 1) H3) (hd : ∀ H, Pv xs.length H → Qd H) : LcG (Itl K a) g tt te σ vs D H Qd := lc_list Pv h0 hl hs hd
theorem c_tup {a : Addr} {xs : List V} {g : TG} {vs : List Nat} {D : Addr} {Qd : Hp → Prop} (Pv : Nat → Hp → Prop) (h0 : Pv 0 (upd H D (.lst []))) (hl : ∀ i H, i ≤ xs.length → Pv i H → SqT K H a xs)
    (hs : ∀ i x H, xs[i]? = some x → Pv i H → g x (wipe σ vs) H fun σ2 H2 => wipe σ2 vs = wipe σ vs ∧ tt σ2 H2 fun b H3 => if b = true then te σ2 H3 fun y H4 => PutC D y H4 (Pv (i + 1)) else Pv (i + 1) H3) (hd : ∀ H, Pv xs.length H → Qd H) : LcG (Itt K a) g tt te σ vs D H Qd := lc_tup Pv h0 hl hs hd
theorem g_yes {Q : Bool → Hp → Prop} (h : Q true H) : tYes σ H Q := h
theorem g_chain {tb' : TE} {r' : R2} (h : ta σ H fun x H1 => tb' σ H1 fun y H2 => r x y H2 fun z H3 => TestK z H3 fun k H3 => if k = true then tc σ H3 fun w' H4 => r' y w' H4 Q else Q (.bl false) H3) : tChain r r' ta tb' tc σ H Q := h
/-! isinstance of single values -/
def isI : V → Bool
  | .int _ => true
  | .bl _ => true
  | _ => false
def isS : V → Bool
  | .str _ => true
  | _ => false
def isB : V → Bool
  | .bl _ => true
  | _ => false
theorem isi_flat {c : String} {b : Bool} (h : match x with | .non => kitB "NoneType" c = some b | .bl _ => kitB "bool" c = some b | .int _ => kitB "int" c = some b | .str _ => kitB "str" c = some b | _ => False) (q : Q (.bl b) H) : rIsi K [x, .ty c] H Q := by
  cases x with
  | non => exact ⟨_, _, _, _, b, rfl, .ty c, .base .non, kit_ty h, q⟩
  | bl z => exact ⟨_, _, _, _, b, rfl, .ty c, .base (.bl z), kit_ty h, q⟩
  | int z => exact ⟨_, _, _, _, b, rfl, .ty c, .base (.int z), kit_ty h, q⟩
  | str z => exact ⟨_, _, _, _, b, rfl, .ty c, .base (.str z), kit_ty h, q⟩
  | _ => exact h.elim
theorem v_isiI (f : flatV x = true) (q : Q (.bl (isI x)) H) : rIsi K [x, .ty "int"] H Q := by
  refine isi_flat ?_ q
  cases x with
  | non => exact (by decide +kernel : kitB "NoneType" "int" = some false)
  | bl z => exact (by decide +kernel : kitB "bool" "int" = some true)
  | int z => exact (by decide +kernel : kitB "int" "int" = some true)
  | str z => exact (by decide +kernel : kitB "str" "int" = some false)
  | _ => exact absurd (show false = true from f) Bool.false_ne_true
theorem v_isiS (f : flatV x = true) (q : Q (.bl (isS x)) H) : rIsi K [x, .ty "str"] H Q := by
  refine isi_flat ?_ q
  cases x with
  | non => exact (by decide +kernel : kitB "NoneType" "str" = some false)
  | bl z => exact (by decide +kernel : kitB "bool" "str" = some false)
  | int z => exact (by decide +kernel : kitB "int" "str" = some false)
  | str z => exact (by decide +kernel : kitB "str" "str" = some true)
  | _ => exact absurd (show false = true from f) Bool.false_ne_true
theorem v_isiB (f : flatV x = true) (q : Q (.bl (isB x)) H) : rIsi K [x, .ty "bool"] H Q := by
  refine isi_flat ?_ q
  cases x with
  | non => exact (by decide +kernel : kitB "NoneType" "bool" = some false)
  | bl z => exact (by decide +kernel : kitB "bool" "bool" = some true)
  | int z => exact (by decide +kernel : kitB "int" "bool" = some false)
  | str z => exact (by decide +kernel : kitB "str" "bool" = some false)
  | _ => exact absurd (show false = true from f) Bool.false_ne_true
theorem v_isiL {p : Addr} {xs : List V} (h : H p = some (.lst xs)) (q : Q (.bl true) H) : rIsi K [.ref p, .ty "list"] H Q := ⟨_, _, _, _, true, rfl, .ty _, .base (.lst h), kit_ty (by decide +kernel), q⟩
theorem v_isiO {p C C' dx : Addr} {fs : List (Str × V)} {b : Bool} (h : H p = some (.ins C dx fs)) (cl : Cls K C) (f : InsF K C) (k : PySem.W.kitOne K (.ref C) (.ref C') = some b) (q : Q (.bl b) H) : rIsi K [.ref p, .ref C'] H Q :=
  ⟨_, _, _, _, b, rfl, .own C', .base (.ins h cl f.ha f.hn f.htk f.hm), k, q⟩
theorem v_isiOT {p C dx : Addr} {fs : List (Str × V)} {b : Bool} {c : String} (h : H p = some (.ins C dx fs)) (cl : Cls K C) (f : InsF K C) (k : PySem.W.kitOne K (.ref C) (.type c) = some b) (q : Q (.bl b) H) : rIsi K [.ref p, .ty c] H Q :=
  ⟨_, _, _, _, b, rfl, .ty c, .base (.ins h cl f.ha f.hn f.htk f.hm), k, q⟩
def MethK (C : Addr) (m : Str) (x : V) (H1 : Hp) (S : Hp → Prop) : Prop := ∃ a dx fs, x = .ref a ∧ H1 a = some (.ins C dx fs) ∧ fs.lookup m = none ∧ S H1
theorem g_meth1 {C : Addr} {m : Str} {sp : Sp} {E : L2.St → XK} (h : ta σ H fun x H1 => MethK C m x H1 fun H1 => TA1 σ H1 fun vs H2 => sp (x :: vs) H2 Q (E σ)) : tMethD C m sp [] E ta TA1 σ H Q := g_meth h
theorem v_meth {C a dx : Addr} {m : Str} {fs : List (Str × V)} {S : Hp → Prop} (h : H a = some (.ins C dx fs)) (l : fs.lookup m = none) (q : S H) : MethK C m (.ref a) H S := ⟨_, _, _, rfl, h, l, q⟩
theorem g_orL {te' : TE} (h : te σ H Q) : tEor te te' σ H Q := .inl h
theorem g_orR {te' : TE} (h : te' σ H Q) : tEor te te' σ H Q := .inr h
theorem g_lstRg {a b : TE} (h : a σ H fun x H1 => b σ H1 fun y H2 => ∃ i j, x = .int i ∧ y = .int j ∧ RgOk i j ∧ ∀ q, H2 q = none → Q (.ref q) (upd H2 q (.lst (rgV i j)))) : tLstRg (tRg2 a b) σ H Q := h
theorem ite_same {c A : Prop} [Decidable c] (h : A) : if c then A else A := by
  split <;> exact h
end
end G

namespace Lw
open PySem PySem.Spec PyProof.Rows L2 G
def top (i : Nat) : Stmt := PySem.Challenge.pw_oneheap_k02_shapes_hold_values.main.body.getD i (.Pass ⟨0, 0, 0, 0⟩)
abbrev s__law_cells : Stmt := top 13
abbrev s__law_draw : Stmt := top 14
abbrev s__law_pick : Stmt := top 15
abbrev s__law_shape : Stmt := top 16
abbrev s_IntSort_init : Stmt := inClass (top 3) 0
abbrev s_TextSort_init : Stmt := inClass (top 4) 0
abbrev s_ChoiceSort_init : Stmt := inClass (top 5) 0
abbrev s_ListSort_init : Stmt := inClass (top 7) 0
abbrev s_RefSort_init : Stmt := inClass (top 6) 0
abbrev s__law_object : Stmt := top 17
abbrev s_is_whole : Stmt := top 2
abbrev s_IntSort_holds : Stmt := inClass (top 3) 1
abbrev s_TextSort_holds : Stmt := inClass (top 4) 1
abbrev s_ChoiceSort_holds : Stmt := inClass (top 5) 1
abbrev s_RefSort_holds : Stmt := inClass (top 6) 1
abbrev s_ListSort_holds : Stmt := inClass (top 7) 1
abbrev s__law_due : Stmt := top 18
abbrev s_is_list : Stmt := top 9
abbrev s_is_reference : Stmt := top 10
abbrev s_is_link : Stmt := top 8
abbrev s_blank : Stmt := top 11
abbrev s_law : Stmt := top 19
/-! ### readings -/
/-- _law_cells: 0 _law_script, 1 _law_count, 2 _law_cells_here, 3 _law_k, 4 _law_cell -/
def t__law_cells (K : PySem.W.Frag) : TS :=
  (tSeq (tAsg (tLst tNil) (gName 2)) (tSeq (tFor (iRng1 (tCons (tVar 1) tNil)) (gName 3) (tSeq (tAsg (tOp (rAddX K) (tOp rMulX (tC (.int 7)) (tVar 3)) (tC (.int 3))) (gName 4)) (C8.tCut (tIfS (tTest (tOp (rLtX K) (tVar 3) (tCB (rLen K) (tCons (tVar 0) tNil)))) (tSeq (tAsg (tCB rIntX (tCons (tOp (rIx K) (tVar 0) (tVar 3)) tNil)) (gName 4)) (tIfS (tTest (tOp (rLtX K) (tVar 4) (tC (.int 0)))) (tAsg (tOp rSubX (tC (.int 1)) (tOp rMulX (tC (.int 2)) (tVar 4))) (gName 4)) tNext)) tNext) (C8.tCut (tIfS (tTest (tOp (rLtX K) (tVar 4) (tC (.int 1000000000)))) (tSeq (tAsg (tOp rModX (tOp (rAddX K) (tOp (rAddX K) (tOp rMulX (tCB rIntX (tCons (tVar 4) tNil)) (tC (.int 1103515245))) (tC (.int 12345))) (tOp rMulX (tC (.int 131)) (tVar 3))) (tC (.int 2147483647))) (gName 4)) (tAsg (tOp rModX (tOp (rAddX K) (tOp rMulX (tCB rIntX (tCons (tVar 4) tNil)) (tC (.int 6364136223846793005))) (tC (.int 1442695040888963407))) (tC (.int 18446744073709551557))) (gName 4))) tNext) (tDrop (tBM K "list" rAppend (tVar 2) (tCons (tVar 4) tNil))))))) (tRet (tVar 2))))
def sp__law_cells (K : PySem.W.Frag) : Sp := fun vs H Q E => vs.length = 2 ∧ t__law_cells K ⟨fun _ H' => Q .non H', Q, fun _ _ => False, fun _ _ => False⟩ (start ["_law_script", "_law_count", "_law_cells_here", "_law_k", "_law_cell"] vs) H
/-- _law_draw: 0 _law_draws, 1 _law_bound, 2 _law_value -/
def t__law_draw (K : PySem.W.Frag) : TS :=
  (C8.tCut (tIfS (tAnd (tTest (tOp (rEqX K) (tOp (rIx K) (tVar 0) (tC (.int 0))) (tC (.int 0)))) (tTest (tOp rGtX (tCB (rLen K) (tCons (tVar 0) tNil)) (tC (.int 1))))) (tDrop (tBM K "list" (fun x vs H Q => rPop x vs H Q ∨ rPopAt x vs H Q) (tVar 0) (tCons (tC (.int 0)) tNil))) tNext) (tSeq (tAsg (tOp rModX (tCB rIntX (tCons (tOp (rIx K) (tVar 0) (tC (.int 0))) tNil)) (tVar 1)) (gName 2)) (tSeq (tAsg (tOp rDivX (tOp (rIx K) (tVar 0) (tC (.int 0))) (tVar 1)) (gSub (tVar 0) (tC (.int 0)) rSetL)) (tRet (tVar 2)))))
def sp__law_draw (K : PySem.W.Frag) : Sp := fun vs H Q E => vs.length = 2 ∧ t__law_draw K ⟨fun _ H' => Q .non H', Q, fun _ _ => False, fun _ _ => False⟩ (start ["_law_draws", "_law_bound", "_law_value"] vs) H
/-- _law_pick: 0 _law_draws, 1 _law_row -/
def t__law_pick (K : PySem.W.Frag) : TS :=
  (tRet (tOp (rIx K) (tVar 1) (tCallSD (sp__law_draw K) [] Ez (tCons (tVar 0) (tCons (tCB (rLen K) (tCons (tVar 1) tNil)) tNil)))))
def sp__law_pick (K : PySem.W.Frag) : Sp := fun vs H Q E => vs.length = 2 ∧ t__law_pick K ⟨fun _ H' => Q .non H', Q, fun _ _ => False, fun _ _ => False⟩ (start ["_law_draws", "_law_row"] vs) H
/-- _law_shape: 0 _law_draws, 1 _law_names, 2 _law_choice, 3 _law_low, 4 _law_start, 5 _law_told -/
def t__law_shape (K : PySem.W.Frag) : TS :=
  (tSeq (tAsg (tCallSD (sp__law_draw K) [] Ez (tCons (tVar 0) (tCons (tC (.int 6)) tNil))) (gName 2)) (tSeq (tIfS (tTest (tOp (rEqX K) (tVar 2) (tC (.int 0)))) (tSeq (tAsg (tOp rSubX (tCallSD (sp__law_draw K) [] Ez (tCons (tVar 0) (tCons (tC (.int 7)) tNil))) (tC (.int 3))) (gName 3)) (tRet (tTup (tCons (tC (.str ("int" : Str))) (tCons (tVar 3) (tCons (tOp (rAddX K) (tVar 3) (tCallSD (sp__law_draw K) [] Ez (tCons (tVar 0) (tCons (tC (.int 5)) tNil)))) tNil)))))) tNext) (tSeq (tIfS (tTest (tOp (rEqX K) (tVar 2) (tC (.int 1)))) (tRet (tTup (tCons (tC (.str ("text" : Str))) (tCons (tOp (rAddX K) (tC (.int 1)) (tCallSD (sp__law_draw K) [] Ez (tCons (tVar 0) (tCons (tC (.int 6)) tNil)))) (tCons (tCallSD (sp__law_pick K) [] Ez (tCons (tVar 0) (tCons (tLst (tCons (tC .non) (tCons (tC .non) (tCons (tC (.str ("," : Str))) (tCons (tC (.str ("\"" : Str))) tNil))))) tNil))) tNil))))) tNext) (tSeq (tIfS (tTest (tOp (rEqX K) (tVar 2) (tC (.int 2)))) (tRet (tTup (tCons (tC (.str ("one" : Str))) (tCons (tSl (rSlX K) (tLst (tCons (tC (.str ("a" : Str))) (tCons (tC (.str ("b c" : Str))) (tCons (tC (.str ("\"" : Str))) (tCons (tC (.str ("d\\" : Str))) tNil))))) tNoPart (tPart (tOp (rAddX K) (tC (.int 1)) (tCallSD (sp__law_draw K) [] Ez (tCons (tVar 0) (tCons (tC (.int 4)) tNil)))))) tNil)))) tNext) (tSeq (tAsg (tCallSD (sp__law_draw K) [] Ez (tCons (tVar 0) (tCons (tCB (rLen K) (tCons (tVar 1) tNil)) tNil))) (gName 4)) (tSeq (tAsg (tSl (rSlX K) (tOp (rAddX K) (tVar 1) (tVar 1)) (tPart (tVar 4)) (tPart (tOp (rAddX K) (tOp (rAddX K) (tVar 4) (tC (.int 1))) (tCallSD (sp__law_draw K) [] Ez (tCons (tVar 0) (tCons (tCB (rLen K) (tCons (tVar 1) tNil)) tNil)))))) (gName 5)) (tSeq (tIfS (tTest (tOp (rEqX K) (tVar 2) (tC (.int 3)))) (tRet (tTup (tCons (tC (.str ("list" : Str))) (tCons (tVar 5) tNil)))) tNext) (tRet (tTup (tCons (tC (.str ("ref" : Str))) (tCons (tVar 5) (tCons (tCallSD (sp__law_pick K) [] Ez (tCons (tVar 0) (tCons (tLst (tCons (tC (.str ("clears" : Str))) (tCons (tC (.str ("refuses" : Str))) (tCons (tC (.str ("takes" : Str))) tNil)))) tNil))) tNil))))))))))))
def sp__law_shape (K : PySem.W.Frag) : Sp := fun vs H Q E => vs.length = 2 ∧ t__law_shape K ⟨fun _ H' => Q .non H', Q, fun _ _ => False, fun _ _ => False⟩ (start ["_law_draws", "_law_names", "_law_choice", "_law_low", "_law_start", "_law_told"] vs) H
/-- IntSort.__init__: 0 self, 1 low, 2 high -/
def t_IntSort_init (K : PySem.W.Frag) : TS :=
  (tSeq (sFld K (tVar 0) (tVar 1) ("low" : Str)) (sFld K (tVar 0) (tVar 2) ("high" : Str)))
def sp_IntSort_init (K : PySem.W.Frag) : Sp := fun vs H Q E => vs.length = 3 ∧ t_IntSort_init K ⟨fun _ H' => Q .non H', Q, fun _ _ => False, fun _ _ => False⟩ (start ["self", "low", "high"] vs) H
/-- TextSort.__init__: 0 self, 1 longest, 2 without -/
def t_TextSort_init (K : PySem.W.Frag) : TS :=
  (tSeq (sFld K (tVar 0) (tVar 1) ("longest" : Str)) (sFld K (tVar 0) (tVar 2) ("without" : Str)))
def sp_TextSort_init (K : PySem.W.Frag) : Sp := fun vs H Q E => vs.length = 3 ∧ t_TextSort_init K ⟨fun _ H' => Q .non H', Q, fun _ _ => False, fun _ _ => False⟩ (start ["self", "longest", "without"] vs) H
/-- ChoiceSort.__init__: 0 self, 1 choices -/
def t_ChoiceSort_init (K : PySem.W.Frag) : TS :=
  (sFld K (tVar 0) (tCB (rListX K) (tCons (tVar 1) tNil)) ("choices" : Str))
def sp_ChoiceSort_init (K : PySem.W.Frag) : Sp := fun vs H Q E => vs.length = 2 ∧ t_ChoiceSort_init K ⟨fun _ H' => Q .non H', Q, fun _ _ => False, fun _ _ => False⟩ (start ["self", "choices"] vs) H
/-- ListSort.__init__: 0 self, 1 kinds -/
def t_ListSort_init (K : PySem.W.Frag) : TS :=
  (sFld K (tVar 0) (tCB (rListX K) (tCons (tVar 1) tNil)) ("kinds" : Str))
def sp_ListSort_init (K : PySem.W.Frag) : Sp := fun vs H Q E => vs.length = 2 ∧ t_ListSort_init K ⟨fun _ H' => Q .non H', Q, fun _ _ => False, fun _ _ => False⟩ (start ["self", "kinds"] vs) H
/-- RefSort.__init__: 0 self, 1 kinds, 2 rule -/
def t_RefSort_init (K : PySem.W.Frag) : TS :=
  (tSeq (sFld K (tVar 0) (tCB (rListX K) (tCons (tVar 1) tNil)) ("kinds" : Str)) (sFld K (tVar 0) (tVar 2) ("rule" : Str)))
def sp_RefSort_init (K : PySem.W.Frag) : Sp := fun vs H Q E => vs.length = 3 ∧ t_RefSort_init K ⟨fun _ H' => Q .non H', Q, fun _ _ => False, fun _ _ => False⟩ (start ["self", "kinds", "rule"] vs) H
/-- _law_object: 0 _law_shape_here -/
def t__law_object (K : PySem.W.Frag) : TS :=
  (tSeq (tIfS (tTest (tOp (rEqX K) (tOp (rIx K) (tVar 0) (tC (.int 0))) (tC (.str ("int" : Str))))) (tRet (tMake (He.ga K ("IntSort" : Str)) (sp_IntSort_init K) [] E0 (tCons (tOp (rIx K) (tVar 0) (tC (.int 1))) (tCons (tOp (rIx K) (tVar 0) (tC (.int 2))) tNil)))) tNext) (tSeq (tIfS (tTest (tOp (rEqX K) (tOp (rIx K) (tVar 0) (tC (.int 0))) (tC (.str ("text" : Str))))) (tRet (tMake (He.ga K ("TextSort" : Str)) (sp_TextSort_init K) [] E0 (tCons (tOp (rIx K) (tVar 0) (tC (.int 1))) (tCons (tOp (rIx K) (tVar 0) (tC (.int 2))) tNil)))) tNext) (tSeq (tIfS (tTest (tOp (rEqX K) (tOp (rIx K) (tVar 0) (tC (.int 0))) (tC (.str ("one" : Str))))) (tRet (tMake (He.ga K ("ChoiceSort" : Str)) (sp_ChoiceSort_init K) [] E0 (tCons (tOp (rIx K) (tVar 0) (tC (.int 1))) tNil))) tNext) (tSeq (tIfS (tTest (tOp (rEqX K) (tOp (rIx K) (tVar 0) (tC (.int 0))) (tC (.str ("list" : Str))))) (tRet (tMake (He.ga K ("ListSort" : Str)) (sp_ListSort_init K) [] E0 (tCons (tOp (rIx K) (tVar 0) (tC (.int 1))) tNil))) tNext) (tRet (tMake (He.ga K ("RefSort" : Str)) (sp_RefSort_init K) [] E0 (tCons (tOp (rIx K) (tVar 0) (tC (.int 1))) (tCons (tOp (rIx K) (tVar 0) (tC (.int 2))) tNil))))))))
def sp__law_object (K : PySem.W.Frag) : Sp := fun vs H Q E => vs.length = 1 ∧ t__law_object K ⟨fun _ H' => Q .non H', Q, fun _ _ => False, fun _ _ => False⟩ (start ["_law_shape_here"] vs) H
/-- is_whole: 0 value -/
def t_is_whole (K : PySem.W.Frag) : TS :=
  (tRet (tAndV (tCB (rIsi K) (tCons (tVar 0) (tCons (tC (.ty "int")) tNil))) (tNotV (tCB (rIsi K) (tCons (tVar 0) (tCons (tC (.ty "bool")) tNil))))))
def sp_is_whole (K : PySem.W.Frag) : Sp := fun vs H Q E => vs.length = 1 ∧ t_is_whole K ⟨fun _ H' => Q .non H', Q, fun _ _ => False, fun _ _ => False⟩ (start ["value"] vs) H
/-- IntSort.holds: 0 self, 1 value -/
def t_IntSort_holds (K : PySem.W.Frag) : TS :=
  (tRet (tOrV (tOp rIsX (tVar 1) (tC .non)) (tAndV (tCallSD (sp_is_whole K) [] Ez (tCons (tVar 1) tNil)) (tChain rLeX rLeX (tFld K (tVar 0) ("low" : Str)) (tVar 1) (tFld K (tVar 0) ("high" : Str))))))
def sp_IntSort_holds (K : PySem.W.Frag) : Sp := fun vs H Q E => vs.length = 2 ∧ t_IntSort_holds K ⟨fun _ H' => Q .non H', Q, fun _ _ => False, fun _ _ => False⟩ (start ["self", "value"] vs) H
/-- TextSort.holds: 0 self, 1 value -/
def t_TextSort_holds (K : PySem.W.Frag) : TS :=
  (tSeq (tIfS (tTest (tOp rIsX (tVar 1) (tC .non))) (tRet (tC (.bl true))) tNext) (tSeq (tIfS (tOr (tNot (tTru K (tCB (rIsi K) (tCons (tVar 1) (tCons (tC (.ty "str")) tNil))))) (tTest (tOp rGtX (tCB (rLen K) (tCons (tVar 1) tNil)) (tFld K (tVar 0) ("longest" : Str))))) (tRet (tC (.bl false))) tNext) (tRet (tOrV (tOp rIsX (tFld K (tVar 0) ("without" : Str)) (tC .non)) (tOp (rNotInX K) (tFld K (tVar 0) ("without" : Str)) (tVar 1))))))
def sp_TextSort_holds (K : PySem.W.Frag) : Sp := fun vs H Q E => vs.length = 2 ∧ t_TextSort_holds K ⟨fun _ H' => Q .non H', Q, fun _ _ => False, fun _ _ => False⟩ (start ["self", "value"] vs) H
/-- ChoiceSort.holds: 0 self, 1 value -/
def t_ChoiceSort_holds (K : PySem.W.Frag) : TS :=
  (tRet (tOrV (tOp rIsX (tVar 1) (tC .non)) (tAndV (tCB (rIsi K) (tCons (tVar 1) (tCons (tC (.ty "str")) tNil))) (tOp (rInX K) (tVar 1) (tFld K (tVar 0) ("choices" : Str))))))
def sp_ChoiceSort_holds (K : PySem.W.Frag) : Sp := fun vs H Q E => vs.length = 2 ∧ t_ChoiceSort_holds K ⟨fun _ H' => Q .non H', Q, fun _ _ => False, fun _ _ => False⟩ (start ["self", "value"] vs) H
/-- RefSort.holds: 0 self, 1 value -/
def t_RefSort_holds (K : PySem.W.Frag) : TS :=
  (tRet (tOp rIsX (tVar 1) (tC .non)))
def sp_RefSort_holds (K : PySem.W.Frag) : Sp := fun vs H Q E => vs.length = 2 ∧ t_RefSort_holds K ⟨fun _ H' => Q .non H', Q, fun _ _ => False, fun _ _ => False⟩ (start ["self", "value"] vs) H
/-- ListSort.holds: 0 self, 1 value -/
def t_ListSort_holds (K : PySem.W.Frag) : TS :=
  (tRet (tC (.bl false)))
def sp_ListSort_holds (K : PySem.W.Frag) : Sp := fun vs H Q E => vs.length = 2 ∧ t_ListSort_holds K ⟨fun _ H' => Q .non H', Q, fun _ _ => False, fun _ _ => False⟩ (start ["self", "value"] vs) H
/-- _law_due: 0 _law_shape_here, 1 _law_value -/
def t__law_due (K : PySem.W.Frag) : TS :=
  (tSeq (tIfS (tTest (tOp rIsX (tVar 1) (tC .non))) (tRet (tOp (rNeX K) (tOp (rIx K) (tVar 0) (tC (.int 0))) (tC (.str ("list" : Str))))) tNext) (tSeq (tIfS (tOr (tTest (tOp rIsX (tVar 1) (tC (.bl true)))) (tTest (tOp rIsX (tVar 1) (tC (.bl false))))) (tRet (tC (.bl false))) tNext) (tSeq (tIfS (tTest (tOp (rEqX K) (tOp (rIx K) (tVar 0) (tC (.int 0))) (tC (.str ("int" : Str))))) (tRet (tAndV (tCB (rIsi K) (tCons (tVar 1) (tCons (tC (.ty "int")) tNil))) (tOp (rInX K) (tVar 1) (tLstRg (tRg2 (tOp (rIx K) (tVar 0) (tC (.int 1))) (tOp (rAddX K) (tOp (rIx K) (tVar 0) (tC (.int 2))) (tC (.int 1)))))))) tNext) (tSeq (tIfS (tTest (tOp (rEqX K) (tOp (rIx K) (tVar 0) (tC (.int 0))) (tC (.str ("text" : Str))))) (tRet (tAndV (tCB (rIsi K) (tCons (tVar 1) (tCons (tC (.ty "str")) tNil))) (tAndV (tOp rLeX (tCB (rLen K) (tCons (tVar 1) tNil)) (tOp (rIx K) (tVar 0) (tC (.int 1)))) (tOrV (tOp rIsX (tOp (rIx K) (tVar 0) (tC (.int 2))) (tC .non)) (tOp (rLtX K) (tBM K "str" rFind (tVar 1) (tCons (tOp (rIx K) (tVar 0) (tC (.int 2))) tNil)) (tC (.int 0))))))) tNext) (tSeq (tIfS (tTest (tOp (rEqX K) (tOp (rIx K) (tVar 0) (tC (.int 0))) (tC (.str ("one" : Str))))) (tRet (tAndV (tCB (rIsi K) (tCons (tVar 1) (tCons (tC (.ty "str")) tNil))) (tOp (rInX K) (tVar 1) (tOp (rIx K) (tVar 0) (tC (.int 1)))))) tNext) (tRet (tC (.bl false))))))))
def sp__law_due (K : PySem.W.Frag) : Sp := fun vs H Q E => vs.length = 2 ∧ t__law_due K ⟨fun _ H' => Q .non H', Q, fun _ _ => False, fun _ _ => False⟩ (start ["_law_shape_here", "_law_value"] vs) H
/-- is_list: 0 sort -/
def t_is_list (K : PySem.W.Frag) : TS :=
  (tRet (tCB (rIsi K) (tCons (tVar 0) (tCons (tC (.ref (He.ga K ("ListSort" : Str)))) tNil))))
def sp_is_list (K : PySem.W.Frag) : Sp := fun vs H Q E => vs.length = 1 ∧ t_is_list K ⟨fun _ H' => Q .non H', Q, fun _ _ => False, fun _ _ => False⟩ (start ["sort"] vs) H
/-- is_reference: 0 sort -/
def t_is_reference (K : PySem.W.Frag) : TS :=
  (tRet (tCB (rIsi K) (tCons (tVar 0) (tCons (tC (.ref (He.ga K ("RefSort" : Str)))) tNil))))
def sp_is_reference (K : PySem.W.Frag) : Sp := fun vs H Q E => vs.length = 1 ∧ t_is_reference K ⟨fun _ H' => Q .non H', Q, fun _ _ => False, fun _ _ => False⟩ (start ["sort"] vs) H
/-- is_link: 0 sort -/
def t_is_link (K : PySem.W.Frag) : TS :=
  (tRet (tOrV (tCB (rIsi K) (tCons (tVar 0) (tCons (tC (.ref (He.ga K ("RefSort" : Str)))) tNil))) (tCB (rIsi K) (tCons (tVar 0) (tCons (tC (.ref (He.ga K ("ListSort" : Str)))) tNil)))))
def sp_is_link (K : PySem.W.Frag) : Sp := fun vs H Q E => vs.length = 1 ∧ t_is_link K ⟨fun _ H' => Q .non H', Q, fun _ _ => False, fun _ _ => False⟩ (start ["sort"] vs) H
/-- blank: 0 sort -/
def t_blank (K : PySem.W.Frag) : TS :=
  (tSeq (tIfS (tTru K (tCB (rIsi K) (tCons (tVar 0) (tCons (tC (.ref (He.ga K ("ListSort" : Str)))) tNil)))) (tRet (tLst tNil)) tNext) (tRet (tC .non)))
def sp_blank (K : PySem.W.Frag) : Sp := fun vs H Q E => vs.length = 1 ∧ t_blank K ⟨fun _ H' => Q .non H', Q, fun _ _ => False, fun _ _ => False⟩ (start ["sort"] vs) H
/-- law: 0 _law_script, 1 _law_draws, 2 _law_shape_here, 3 _law_found, 4 _law_amounts, 5 _law_size, 6 _law_value, 7 _law_answer, 8 _law_first -/
def t_law (K : PySem.W.Frag) : TS :=
  (tSeq (tAsg (tCallSD (sp__law_cells K) [] Ez (tCons (tVar 0) (tCons (tC (.int 6)) tNil))) (gName 1)) (tSeq (tAsg (tCallSD (sp__law_shape K) [] Ez (tCons (tVar 1) (tCons (tLst (tCons (tC (.str ("K" : Str))) (tCons (tC (.str ("L" : Str))) (tCons (tC (.str ("M" : Str))) tNil)))) tNil))) (gName 2)) (tSeq (tAsg (tCallSD (sp__law_object K) [] Ez (tCons (tVar 2) tNil)) (gName 3)) (tSeq (tAsg (tOp (rAddX K) (tLst (tCons (tC .non) (tCons (tC (.bl true)) (tCons (tC (.bl false)) (tCons (tC (.str ("a" : Str))) (tCons (tC (.str ("b c" : Str))) (tCons (tC (.str ("\"" : Str))) (tCons (tC (.str ("d\\" : Str))) (tCons (tC (.str ("" : Str))) tNil))))))))) (tLstRg (tRg2 (tUn (rU fun i => .int (-i)) (tC (.int 5))) (tC (.int 9))))) (gName 4)) (tSeq (tFor (iRng1 (tCons (tC (.int 8)) tNil)) (gName 5) (tSeq (tDrop (tBM K "list" rAppend (tVar 4) (tCons (tOp rMulX (tC (.str ("x" : Str))) (tVar 5)) tNil))) (tDrop (tBM K "list" rAppend (tVar 4) (tCons (tSl (rSlX K) (tOp (rAddX K) (tOp (rAddX K) (tOp rMulX (tC (.str ("x" : Str))) (tVar 5)) (tC (.str ("," : Str)))) (tC (.str ("y" : Str)))) (tPart (tOp rDivX (tVar 5) (tC (.int 2)))) tNoPart) tNil))))) (tSeq (tFor (iAny K (tVar 4)) (gName 6) (tSeq (tAsg (tEor (tEor (tEor (tEor (tMethD (He.ga K ("IntSort" : Str)) ("holds" : Str) (sp_IntSort_holds K) [] Ez (tVar 3) (tCons (tVar 6) tNil)) (tMethD (He.ga K ("TextSort" : Str)) ("holds" : Str) (sp_TextSort_holds K) [] Ez (tVar 3) (tCons (tVar 6) tNil))) (tMethD (He.ga K ("ChoiceSort" : Str)) ("holds" : Str) (sp_ChoiceSort_holds K) [] Ez (tVar 3) (tCons (tVar 6) tNil))) (tMethD (He.ga K ("RefSort" : Str)) ("holds" : Str) (sp_RefSort_holds K) [] Ez (tVar 3) (tCons (tVar 6) tNil))) (tMethD (He.ga K ("ListSort" : Str)) ("holds" : Str) (sp_ListSort_holds K) [] Ez (tVar 3) (tCons (tVar 6) tNil))) (gName 7)) (tIfS (tOr (tAnd (tTest (tOp rIsNotX (tVar 7) (tC (.bl true)))) (tTest (tOp rIsNotX (tVar 7) (tC (.bl false))))) (tTest (tOp (rNeX K) (tVar 7) (tCallSD (sp__law_due K) [] Ez (tCons (tVar 2) (tCons (tVar 6) tNil)))))) (tRet (tC (.bl false))) tNext))) (tSeq (tIfS (tOr (tTest (tOp (rNeX K) (tCallSD (sp_is_list K) [] Ez (tCons (tVar 3) tNil)) (tOp (rEqX K) (tOp (rIx K) (tVar 2) (tC (.int 0))) (tC (.str ("list" : Str)))))) (tTest (tOp (rNeX K) (tCallSD (sp_is_reference K) [] Ez (tCons (tVar 3) tNil)) (tOp (rEqX K) (tOp (rIx K) (tVar 2) (tC (.int 0))) (tC (.str ("ref" : Str))))))) (tRet (tC (.bl false))) tNext) (tSeq (tIfS (tTest (tOp (rNeX K) (tCallSD (sp_is_link K) [] Ez (tCons (tVar 3) tNil)) (tOrV (tOp (rEqX K) (tOp (rIx K) (tVar 2) (tC (.int 0))) (tC (.str ("list" : Str)))) (tOp (rEqX K) (tOp (rIx K) (tVar 2) (tC (.int 0))) (tC (.str ("ref" : Str))))))) (tRet (tC (.bl false))) tNext) (tSeq (tAsg (tCallSD (sp_blank K) [] Ez (tCons (tVar 3) tNil)) (gName 8)) (tSeq (tIfS (tTest (tOp (rNeX K) (tOp (rIx K) (tVar 2) (tC (.int 0))) (tC (.str ("list" : Str))))) (tRet (tOp rIsX (tVar 8) (tC .non))) tNext) (tSeq (tIfS (tOr (tNot (tTru K (tCB (rIsi K) (tCons (tVar 8) (tCons (tC (.ty "list")) tNil))))) (tTest (tOp (rNeX K) (tCB (rLen K) (tCons (tVar 8) tNil)) (tC (.int 0))))) (tRet (tC (.bl false))) tNext) (tSeq (tDrop (tBM K "list" rAppend (tVar 8) (tCons (tC (.int 1)) tNil))) (tRet (tOp (rEqX K) (tCB (rLen K) (tCons (tCallSD (sp_blank K) [] Ez (tCons (tVar 3) tNil)) tNil)) (tC (.int 0))))))))))))))))
def sp_law (K : PySem.W.Frag) : Sp := fun vs H Q E => vs.length = 1 ∧ t_law K ⟨fun _ H' => Q .non H', Q, fun _ _ => False, fun _ _ => False⟩ (start ["_law_script", "_law_draws", "_law_shape_here", "_law_found", "_law_amounts", "_law_size", "_law_value", "_law_answer", "_law_first"] vs) H
/-! ### the scopes -/
theorem sc__law_cells : FnScope ["_law_script", "_law_count", "_law_cells_here", "_law_k", "_law_cell"] ["_law_script", "_law_count"] (defScope s__law_cells) := ⟨rfl, rfl, rfl, by decide +kernel, rfl, by decide +kernel, by decide +kernel⟩
theorem sc__law_draw : FnScope ["_law_draws", "_law_bound", "_law_value"] ["_law_draws", "_law_bound"] (defScope s__law_draw) := ⟨rfl, rfl, rfl, by decide +kernel, rfl, by decide +kernel, by decide +kernel⟩
theorem sc__law_pick : FnScope ["_law_draws", "_law_row"] ["_law_draws", "_law_row"] (defScope s__law_pick) := ⟨rfl, rfl, rfl, by decide +kernel, rfl, by decide +kernel, by decide +kernel⟩
theorem sc__law_shape : FnScope ["_law_draws", "_law_names", "_law_choice", "_law_low", "_law_start", "_law_told"] ["_law_draws", "_law_names"] (defScope s__law_shape) := ⟨rfl, rfl, rfl, by decide +kernel, rfl, by decide +kernel, by decide +kernel⟩
theorem sc_IntSort_init : FnScope ["self", "low", "high"] ["self", "low", "high"] (defScope s_IntSort_init) := ⟨rfl, rfl, rfl, by decide +kernel, rfl, by decide +kernel, by decide +kernel⟩
theorem sc_TextSort_init : FnScope ["self", "longest", "without"] ["self", "longest", "without"] (defScope s_TextSort_init) := ⟨rfl, rfl, rfl, by decide +kernel, rfl, by decide +kernel, by decide +kernel⟩
theorem sc_ChoiceSort_init : FnScope ["self", "choices"] ["self", "choices"] (defScope s_ChoiceSort_init) := ⟨rfl, rfl, rfl, by decide +kernel, rfl, by decide +kernel, by decide +kernel⟩
theorem sc_ListSort_init : FnScope ["self", "kinds"] ["self", "kinds"] (defScope s_ListSort_init) := ⟨rfl, rfl, rfl, by decide +kernel, rfl, by decide +kernel, by decide +kernel⟩
theorem sc_RefSort_init : FnScope ["self", "kinds", "rule"] ["self", "kinds", "rule"] (defScope s_RefSort_init) := ⟨rfl, rfl, rfl, by decide +kernel, rfl, by decide +kernel, by decide +kernel⟩
theorem sc__law_object : FnScope ["_law_shape_here"] ["_law_shape_here"] (defScope s__law_object) := ⟨rfl, rfl, rfl, by decide +kernel, rfl, by decide +kernel, by decide +kernel⟩
theorem sc_is_whole : FnScope ["value"] ["value"] (defScope s_is_whole) := ⟨rfl, rfl, rfl, by decide +kernel, rfl, by decide +kernel, by decide +kernel⟩
theorem sc_IntSort_holds : FnScope ["self", "value"] ["self", "value"] (defScope s_IntSort_holds) := ⟨rfl, rfl, rfl, by decide +kernel, rfl, by decide +kernel, by decide +kernel⟩
theorem sc_TextSort_holds : FnScope ["self", "value"] ["self", "value"] (defScope s_TextSort_holds) := ⟨rfl, rfl, rfl, by decide +kernel, rfl, by decide +kernel, by decide +kernel⟩
theorem sc_ChoiceSort_holds : FnScope ["self", "value"] ["self", "value"] (defScope s_ChoiceSort_holds) := ⟨rfl, rfl, rfl, by decide +kernel, rfl, by decide +kernel, by decide +kernel⟩
theorem sc_RefSort_holds : FnScope ["self", "value"] ["self", "value"] (defScope s_RefSort_holds) := ⟨rfl, rfl, rfl, by decide +kernel, rfl, by decide +kernel, by decide +kernel⟩
theorem sc_ListSort_holds : FnScope ["self", "value"] ["self", "value"] (defScope s_ListSort_holds) := ⟨rfl, rfl, rfl, by decide +kernel, rfl, by decide +kernel, by decide +kernel⟩
theorem sc__law_due : FnScope ["_law_shape_here", "_law_value"] ["_law_shape_here", "_law_value"] (defScope s__law_due) := ⟨rfl, rfl, rfl, by decide +kernel, rfl, by decide +kernel, by decide +kernel⟩
theorem sc_is_list : FnScope ["sort"] ["sort"] (defScope s_is_list) := ⟨rfl, rfl, rfl, by decide +kernel, rfl, by decide +kernel, by decide +kernel⟩
theorem sc_is_reference : FnScope ["sort"] ["sort"] (defScope s_is_reference) := ⟨rfl, rfl, rfl, by decide +kernel, rfl, by decide +kernel, by decide +kernel⟩
theorem sc_is_link : FnScope ["sort"] ["sort"] (defScope s_is_link) := ⟨rfl, rfl, rfl, by decide +kernel, rfl, by decide +kernel, by decide +kernel⟩
theorem sc_blank : FnScope ["sort"] ["sort"] (defScope s_blank) := ⟨rfl, rfl, rfl, by decide +kernel, rfl, by decide +kernel, by decide +kernel⟩
theorem sc_law : FnScope ["_law_script", "_law_draws", "_law_shape_here", "_law_found", "_law_amounts", "_law_size", "_law_value", "_law_answer", "_law_first"] ["_law_script"] (defScope s_law) := ⟨rfl, rfl, rfl, by decide +kernel, rfl, by decide +kernel, by decide +kernel⟩
/-! ### what the top left -/
structure Tx (K : PySem.W.Frag) (mg : Str → Option Value) : Prop where
  d__law_cells : ∃ fd, FunD K "_law_cells" "_law_cells" (defArgs s__law_cells) (defBody s__law_cells) (defScope s__law_cells) [] [] (He.fAd K ("_law_cells", none)) fd
  d__law_draw : ∃ fd, FunD K "_law_draw" "_law_draw" (defArgs s__law_draw) (defBody s__law_draw) (defScope s__law_draw) [] [] (He.fAd K ("_law_draw", none)) fd
  d__law_pick : ∃ fd, FunD K "_law_pick" "_law_pick" (defArgs s__law_pick) (defBody s__law_pick) (defScope s__law_pick) [] [] (He.fAd K ("_law_pick", none)) fd
  d__law_shape : ∃ fd, FunD K "_law_shape" "_law_shape" (defArgs s__law_shape) (defBody s__law_shape) (defScope s__law_shape) [] [] (He.fAd K ("_law_shape", none)) fd
  d_IntSort_init : ∃ fd, FunD K "__init__" "IntSort.__init__" (defArgs s_IntSort_init) (defBody s_IntSort_init) (defScope s_IntSort_init) [] [] (He.fAd K ("IntSort", some "__init__")) fd
  d_TextSort_init : ∃ fd, FunD K "__init__" "TextSort.__init__" (defArgs s_TextSort_init) (defBody s_TextSort_init) (defScope s_TextSort_init) [.non] [] (He.fAd K ("TextSort", some "__init__")) fd
  d_ChoiceSort_init : ∃ fd, FunD K "__init__" "ChoiceSort.__init__" (defArgs s_ChoiceSort_init) (defBody s_ChoiceSort_init) (defScope s_ChoiceSort_init) [] [] (He.fAd K ("ChoiceSort", some "__init__")) fd
  d_ListSort_init : ∃ fd, FunD K "__init__" "ListSort.__init__" (defArgs s_ListSort_init) (defBody s_ListSort_init) (defScope s_ListSort_init) [] [] (He.fAd K ("ListSort", some "__init__")) fd
  d_RefSort_init : ∃ fd, FunD K "__init__" "RefSort.__init__" (defArgs s_RefSort_init) (defBody s_RefSort_init) (defScope s_RefSort_init) [] [] (He.fAd K ("RefSort", some "__init__")) fd
  d__law_object : ∃ fd, FunD K "_law_object" "_law_object" (defArgs s__law_object) (defBody s__law_object) (defScope s__law_object) [] [] (He.fAd K ("_law_object", none)) fd
  d_is_whole : ∃ fd, FunD K "is_whole" "is_whole" (defArgs s_is_whole) (defBody s_is_whole) (defScope s_is_whole) [] [] (He.fAd K ("is_whole", none)) fd
  d_IntSort_holds : ∃ fd, FunD K "holds" "IntSort.holds" (defArgs s_IntSort_holds) (defBody s_IntSort_holds) (defScope s_IntSort_holds) [] [] (He.fAd K ("IntSort", some "holds")) fd
  d_TextSort_holds : ∃ fd, FunD K "holds" "TextSort.holds" (defArgs s_TextSort_holds) (defBody s_TextSort_holds) (defScope s_TextSort_holds) [] [] (He.fAd K ("TextSort", some "holds")) fd
  d_ChoiceSort_holds : ∃ fd, FunD K "holds" "ChoiceSort.holds" (defArgs s_ChoiceSort_holds) (defBody s_ChoiceSort_holds) (defScope s_ChoiceSort_holds) [] [] (He.fAd K ("ChoiceSort", some "holds")) fd
  d_RefSort_holds : ∃ fd, FunD K "holds" "RefSort.holds" (defArgs s_RefSort_holds) (defBody s_RefSort_holds) (defScope s_RefSort_holds) [] [] (He.fAd K ("RefSort", some "holds")) fd
  d_ListSort_holds : ∃ fd, FunD K "holds" "ListSort.holds" (defArgs s_ListSort_holds) (defBody s_ListSort_holds) (defScope s_ListSort_holds) [] [] (He.fAd K ("ListSort", some "holds")) fd
  d__law_due : ∃ fd, FunD K "_law_due" "_law_due" (defArgs s__law_due) (defBody s__law_due) (defScope s__law_due) [] [] (He.fAd K ("_law_due", none)) fd
  d_is_list : ∃ fd, FunD K "is_list" "is_list" (defArgs s_is_list) (defBody s_is_list) (defScope s_is_list) [] [] (He.fAd K ("is_list", none)) fd
  d_is_reference : ∃ fd, FunD K "is_reference" "is_reference" (defArgs s_is_reference) (defBody s_is_reference) (defScope s_is_reference) [] [] (He.fAd K ("is_reference", none)) fd
  d_is_link : ∃ fd, FunD K "is_link" "is_link" (defArgs s_is_link) (defBody s_is_link) (defScope s_is_link) [] [] (He.fAd K ("is_link", none)) fd
  d_blank : ∃ fd, FunD K "blank" "blank" (defArgs s_blank) (defBody s_blank) (defScope s_blank) [] [] (He.fAd K ("blank", none)) fd
  d_law : ∃ fd, FunD K "law" "law" (defArgs s_law) (defBody s_law) (defScope s_law) [] [] (He.fAd K ("law", none)) fd
  g__law_cells : mg "_law_cells" = some (.ref (He.ga K "_law_cells"))
  g__law_draw : mg "_law_draw" = some (.ref (He.ga K "_law_draw"))
  g__law_pick : mg "_law_pick" = some (.ref (He.ga K "_law_pick"))
  g__law_shape : mg "_law_shape" = some (.ref (He.ga K "_law_shape"))
  g__law_object : mg "_law_object" = some (.ref (He.ga K "_law_object"))
  g_is_whole : mg "is_whole" = some (.ref (He.ga K "is_whole"))
  g__law_due : mg "_law_due" = some (.ref (He.ga K "_law_due"))
  g_is_list : mg "is_list" = some (.ref (He.ga K "is_list"))
  g_is_reference : mg "is_reference" = some (.ref (He.ga K "is_reference"))
  g_is_link : mg "is_link" = some (.ref (He.ga K "is_link"))
  g_blank : mg "blank" = some (.ref (He.ga K "blank"))
  g_law : mg "law" = some (.ref (He.ga K "law"))
  b_bool : mg "bool" = none
  b_int : mg "int" = none
  b_isinstance : mg "isinstance" = none
  b_len : mg "len" = none
  b_list : mg "list" = none
  b_range : mg "range" = none
  b_str : mg "str" = none
  gc_IntSort : mg "IntSort" = some (.ref (He.ga K "IntSort"))
  cl_IntSort : Cls K (He.ga K "IntSort")
  me_IntSort_holds : Meth K (He.ga K "IntSort") "holds" (He.fAd K ("IntSort", some "holds"))
  mk_IntSort : Mk K (He.ga K "IntSort") (He.fAd K ("IntSort", some "__init__"))
  no_IntSort_high : NoAttr K (He.ga K "IntSort") "high"
  no_IntSort_low : NoAttr K (He.ga K "IntSort") "low"
  gc_TextSort : mg "TextSort" = some (.ref (He.ga K "TextSort"))
  cl_TextSort : Cls K (He.ga K "TextSort")
  me_TextSort_holds : Meth K (He.ga K "TextSort") "holds" (He.fAd K ("TextSort", some "holds"))
  mk_TextSort : Mk K (He.ga K "TextSort") (He.fAd K ("TextSort", some "__init__"))
  no_TextSort_longest : NoAttr K (He.ga K "TextSort") "longest"
  no_TextSort_without : NoAttr K (He.ga K "TextSort") "without"
  gc_ChoiceSort : mg "ChoiceSort" = some (.ref (He.ga K "ChoiceSort"))
  cl_ChoiceSort : Cls K (He.ga K "ChoiceSort")
  me_ChoiceSort_holds : Meth K (He.ga K "ChoiceSort") "holds" (He.fAd K ("ChoiceSort", some "holds"))
  mk_ChoiceSort : Mk K (He.ga K "ChoiceSort") (He.fAd K ("ChoiceSort", some "__init__"))
  no_ChoiceSort_choices : NoAttr K (He.ga K "ChoiceSort") "choices"
  gc_RefSort : mg "RefSort" = some (.ref (He.ga K "RefSort"))
  cl_RefSort : Cls K (He.ga K "RefSort")
  me_RefSort_holds : Meth K (He.ga K "RefSort") "holds" (He.fAd K ("RefSort", some "holds"))
  mk_RefSort : Mk K (He.ga K "RefSort") (He.fAd K ("RefSort", some "__init__"))
  no_RefSort_kinds : NoAttr K (He.ga K "RefSort") "kinds"
  no_RefSort_rule : NoAttr K (He.ga K "RefSort") "rule"
  gc_ListSort : mg "ListSort" = some (.ref (He.ga K "ListSort"))
  cl_ListSort : Cls K (He.ga K "ListSort")
  me_ListSort_holds : Meth K (He.ga K "ListSort") "holds" (He.fAd K ("ListSort", some "holds"))
  mk_ListSort : Mk K (He.ga K "ListSort") (He.fAd K ("ListSort", some "__init__"))
  no_ListSort_kinds : NoAttr K (He.ga K "ListSort") "kinds"
  if_IntSort : InsF K (He.ga K "IntSort")
  it_IntSort_bool : PySem.W.kitOne K (.ref (He.ga K "IntSort")) (.type "bool") = some false
  it_IntSort_int : PySem.W.kitOne K (.ref (He.ga K "IntSort")) (.type "int") = some false
  it_IntSort_list : PySem.W.kitOne K (.ref (He.ga K "IntSort")) (.type "list") = some false
  it_IntSort_str : PySem.W.kitOne K (.ref (He.ga K "IntSort")) (.type "str") = some false
  is_IntSort_ListSort : PySem.W.kitOne K (.ref (He.ga K "IntSort")) (.ref (He.ga K "ListSort")) = some false
  is_IntSort_RefSort : PySem.W.kitOne K (.ref (He.ga K "IntSort")) (.ref (He.ga K "RefSort")) = some false
  if_TextSort : InsF K (He.ga K "TextSort")
  it_TextSort_bool : PySem.W.kitOne K (.ref (He.ga K "TextSort")) (.type "bool") = some false
  it_TextSort_int : PySem.W.kitOne K (.ref (He.ga K "TextSort")) (.type "int") = some false
  it_TextSort_list : PySem.W.kitOne K (.ref (He.ga K "TextSort")) (.type "list") = some false
  it_TextSort_str : PySem.W.kitOne K (.ref (He.ga K "TextSort")) (.type "str") = some false
  is_TextSort_ListSort : PySem.W.kitOne K (.ref (He.ga K "TextSort")) (.ref (He.ga K "ListSort")) = some false
  is_TextSort_RefSort : PySem.W.kitOne K (.ref (He.ga K "TextSort")) (.ref (He.ga K "RefSort")) = some false
  if_ChoiceSort : InsF K (He.ga K "ChoiceSort")
  it_ChoiceSort_bool : PySem.W.kitOne K (.ref (He.ga K "ChoiceSort")) (.type "bool") = some false
  it_ChoiceSort_int : PySem.W.kitOne K (.ref (He.ga K "ChoiceSort")) (.type "int") = some false
  it_ChoiceSort_list : PySem.W.kitOne K (.ref (He.ga K "ChoiceSort")) (.type "list") = some false
  it_ChoiceSort_str : PySem.W.kitOne K (.ref (He.ga K "ChoiceSort")) (.type "str") = some false
  is_ChoiceSort_ListSort : PySem.W.kitOne K (.ref (He.ga K "ChoiceSort")) (.ref (He.ga K "ListSort")) = some false
  is_ChoiceSort_RefSort : PySem.W.kitOne K (.ref (He.ga K "ChoiceSort")) (.ref (He.ga K "RefSort")) = some false
  if_RefSort : InsF K (He.ga K "RefSort")
  it_RefSort_bool : PySem.W.kitOne K (.ref (He.ga K "RefSort")) (.type "bool") = some false
  it_RefSort_int : PySem.W.kitOne K (.ref (He.ga K "RefSort")) (.type "int") = some false
  it_RefSort_list : PySem.W.kitOne K (.ref (He.ga K "RefSort")) (.type "list") = some false
  it_RefSort_str : PySem.W.kitOne K (.ref (He.ga K "RefSort")) (.type "str") = some false
  is_RefSort_ListSort : PySem.W.kitOne K (.ref (He.ga K "RefSort")) (.ref (He.ga K "ListSort")) = some false
  is_RefSort_RefSort : PySem.W.kitOne K (.ref (He.ga K "RefSort")) (.ref (He.ga K "RefSort")) = some true
  if_ListSort : InsF K (He.ga K "ListSort")
  it_ListSort_bool : PySem.W.kitOne K (.ref (He.ga K "ListSort")) (.type "bool") = some false
  it_ListSort_int : PySem.W.kitOne K (.ref (He.ga K "ListSort")) (.type "int") = some false
  it_ListSort_list : PySem.W.kitOne K (.ref (He.ga K "ListSort")) (.type "list") = some false
  it_ListSort_str : PySem.W.kitOne K (.ref (He.ga K "ListSort")) (.type "str") = some false
  is_ListSort_ListSort : PySem.W.kitOne K (.ref (He.ga K "ListSort")) (.ref (He.ga K "ListSort")) = some true
  is_ListSort_RefSort : PySem.W.kitOne K (.ref (He.ga K "ListSort")) (.ref (He.ga K "RefSort")) = some false
  ti_NoneType_ListSort : PySem.W.kitOne K (.type "NoneType") (.ref (He.ga K "ListSort")) = some false
  ti_bool_ListSort : PySem.W.kitOne K (.type "bool") (.ref (He.ga K "ListSort")) = some false
  ti_int_ListSort : PySem.W.kitOne K (.type "int") (.ref (He.ga K "ListSort")) = some false
  ti_str_ListSort : PySem.W.kitOne K (.type "str") (.ref (He.ga K "ListSort")) = some false
  ti_list_ListSort : PySem.W.kitOne K (.type "list") (.ref (He.ga K "ListSort")) = some false
  ti_tuple_ListSort : PySem.W.kitOne K (.type "tuple") (.ref (He.ga K "ListSort")) = some false
  ti_dict_ListSort : PySem.W.kitOne K (.type "dict") (.ref (He.ga K "ListSort")) = some false
  ti_NoneType_RefSort : PySem.W.kitOne K (.type "NoneType") (.ref (He.ga K "RefSort")) = some false
  ti_bool_RefSort : PySem.W.kitOne K (.type "bool") (.ref (He.ga K "RefSort")) = some false
  ti_int_RefSort : PySem.W.kitOne K (.type "int") (.ref (He.ga K "RefSort")) = some false
  ti_str_RefSort : PySem.W.kitOne K (.type "str") (.ref (He.ga K "RefSort")) = some false
  ti_list_RefSort : PySem.W.kitOne K (.type "list") (.ref (He.ga K "RefSort")) = some false
  ti_tuple_RefSort : PySem.W.kitOne K (.type "tuple") (.ref (He.ga K "RefSort")) = some false
  ti_dict_RefSort : PySem.W.kitOne K (.type "dict") (.ref (He.ga K "RefSort")) = some false
/-! ### each def keeps its reading -/
section
variable {P : Program} {w : World} {K : PySem.W.Frag} {mg : Str → Option Value} {base : Heap}
theorem fn__law_cells (T : Tx K mg) {fd : FuncData} (F : FunD K "_law_cells" "_law_cells" (defArgs s__law_cells) (defBody s__law_cells) (defScope s__law_cells) [] [] (He.fAd K ("_law_cells", none)) fd) : FnOk P w K mg base (L2.CX P w) 1 (He.fAd K ("_law_cells", none)) fd ["_law_script", "_law_count"] (sp__law_cells K) := by
  refine F.ok sc__law_cells (fun vs H Q E h => h.1) (fun cdv A outer s H vs Q E hr h => ⟨_, ?_, h.2⟩)
  refine PSs.nox ?_
  exact (pss_cons (ps_set (i := 2) sc__law_cells.nd rfl (by first | exact Or.inl rfl | exact Or.inr rfl) (pe_lst pa_nil))
        (pss_cons (ps_for PassesOwn.never rfl (pi_range1 rfl T.b_range (pa_cons (pv 1) pa_nil)) (pg_name (i := 3) sc__law_cells.nd rfl (by first | exact Or.inl rfl | exact Or.inr rfl))
        (pss_cons (ps_set (i := 4) sc__law_cells.nd rfl (by first | exact Or.inl rfl | exact Or.inr rfl) (pe_op op_addX (pe_op op_mulX pe_int (pv 3)) pe_int))
        (C8.pss_cut (ps_if (pt_cmpR (op_ltX hr.units) (pv 3) (pe_callB call_len (by rfl) T.b_len boot_len (pa_cons (pv 0) pa_nil)) (nomark _))
        (pss_cons (ps_set (i := 4) sc__law_cells.nd rfl (by first | exact Or.inl rfl | exact Or.inr rfl) (pe_callTy (CallR.or call_int1 call_int_str) (by rfl) T.b_int (by decide +kernel) (pa_cons (pe_ix ix_seq (pv 0) (pv 3) fun _ _ => rfl) pa_nil)))
        (pss_one (ps_if (pt_cmpR (op_ltX hr.units) (pv 4) pe_int (nomark _))
        (pss_one (ps_set (i := 4) sc__law_cells.nd rfl (by first | exact Or.inl rfl | exact Or.inr rfl) (pe_op op_subX pe_int (pe_op op_mulX pe_int (pv 4)))))
        pss_nil)))
        pss_nil)
        (C8.pss_cut (ps_if (pt_cmpR (op_ltX hr.units) (pv 4) pe_int (nomark _))
        (pss_cons (ps_set (i := 4) sc__law_cells.nd rfl (by first | exact Or.inl rfl | exact Or.inr rfl) (pe_op op_modX (pe_op op_addX (pe_op op_addX (pe_op op_mulX (pe_callTy (CallR.or call_int1 call_int_str) (by rfl) T.b_int (by decide +kernel) (pa_cons (pv 4) pa_nil)) pe_int) pe_int) (pe_op op_mulX pe_int (pv 3))) pe_int))
        (pss_one (ps_set (i := 4) sc__law_cells.nd rfl (by first | exact Or.inl rfl | exact Or.inr rfl) (pe_op op_modX (pe_op op_addX (pe_op op_mulX (pe_callTy (CallR.or call_int1 call_int_str) (by rfl) T.b_int (by decide +kernel) (pa_cons (pv 4) pa_nil)) pe_int) pe_int) pe_int))))
        pss_nil)
        (pss_one (ps_expr (pe_bm PySem.F.plainAttrs_list PySem.F.slot_list_append PySem.F.type_list_append mt_append (pv 2) (pa_cons (pv 4) pa_nil))))))))
        (pss_one (ps_ret (pv 2)))))
theorem Tx.ok__law_cells (T : Tx K mg) : Cl P w K mg base 1 "_law_cells" (sp__law_cells K) [] := by
  obtain ⟨fd, F⟩ := T.d__law_cells
  have ok := fn__law_cells (P := P) (w := w) (base := base) T F
  exact ⟨_, fd, _, [], ok, T.g__law_cells, F.kp, (FunD.bindsN F fun _ _ _ _ _ _ us hl => match us, hl with | [_, _], _ => rfl), .nil⟩
theorem fn__law_draw (T : Tx K mg) {fd : FuncData} (F : FunD K "_law_draw" "_law_draw" (defArgs s__law_draw) (defBody s__law_draw) (defScope s__law_draw) [] [] (He.fAd K ("_law_draw", none)) fd) : FnOk P w K mg base (L2.CX P w) 1 (He.fAd K ("_law_draw", none)) fd ["_law_draws", "_law_bound"] (sp__law_draw K) := by
  refine F.ok sc__law_draw (fun vs H Q E h => h.1) (fun cdv A outer s H vs Q E hr h => ⟨_, ?_, h.2⟩)
  refine PSs.nox ?_
  exact (C8.pss_cut (ps_if (PW.pt (pw_and (pt_cmpR (op_eqX hr.units) (pe_ix ix_seq (pv 0) pe_int fun _ _ => rfl) pe_int (nomark _)) (pw_and1 (pt_cmpR op_gtX (pe_callB call_len (by rfl) T.b_len boot_len (pa_cons (pv 0) pa_nil)) pe_int (nomark _)))))
        (pss_one (ps_expr (pe_bm PySem.F.plainAttrs_list PySem.F.slot_list_pop PySem.F.type_list_pop (MtR.or mt_pop mt_popAt) (pv 0) (pa_cons pe_int pa_nil))))
        pss_nil)
        (pss_cons (ps_set (i := 2) sc__law_draw.nd rfl (by first | exact Or.inl rfl | exact Or.inr rfl) (pe_op op_modX (pe_callTy (CallR.or call_int1 call_int_str) (by rfl) T.b_int (by decide +kernel) (pa_cons (pe_ix ix_seq (pv 0) pe_int fun _ _ => rfl) pa_nil)) (pv 1)))
        (pss_cons (ps_asg (pe_op op_divX (pe_ix ix_seq (pv 0) pe_int fun _ _ => rfl) (pv 1)) (pg_sub (pv 0) pe_int set_list))
        (pss_one (ps_ret (pv 2))))))
theorem Tx.ok__law_draw (T : Tx K mg) : Cl P w K mg base 1 "_law_draw" (sp__law_draw K) [] := by
  obtain ⟨fd, F⟩ := T.d__law_draw
  have ok := fn__law_draw (P := P) (w := w) (base := base) T F
  exact ⟨_, fd, _, [], ok, T.g__law_draw, F.kp, (FunD.bindsN F fun _ _ _ _ _ _ us hl => match us, hl with | [_, _], _ => rfl), .nil⟩
theorem fn__law_pick (T : Tx K mg) {fd : FuncData} (F : FunD K "_law_pick" "_law_pick" (defArgs s__law_pick) (defBody s__law_pick) (defScope s__law_pick) [] [] (He.fAd K ("_law_pick", none)) fd) : FnOk P w K mg base (L2.CX P w) 2 (He.fAd K ("_law_pick", none)) fd ["_law_draws", "_law_row"] (sp__law_pick K) := by
  refine F.ok sc__law_pick (fun vs H Q E h => h.1) (fun cdv A outer s H vs Q E hr h => ⟨_, ?_, h.2⟩)
  refine PSs.nox ?_
  exact (pss_one (ps_ret (pe_ix ix_seq (pv 1) (pe_cl (T.ok__law_draw) hr (by decide) (fun _ => pz) rfl (pa_cons (pv 0) (pa_cons (pe_callB call_len (by rfl) T.b_len boot_len (pa_cons (pv 1) pa_nil)) pa_nil))) fun _ _ => rfl)))
theorem Tx.ok__law_pick (T : Tx K mg) : Cl P w K mg base 2 "_law_pick" (sp__law_pick K) [] := by
  obtain ⟨fd, F⟩ := T.d__law_pick
  have ok := fn__law_pick (P := P) (w := w) (base := base) T F
  exact ⟨_, fd, _, [], ok, T.g__law_pick, F.kp, (FunD.bindsN F fun _ _ _ _ _ _ us hl => match us, hl with | [_, _], _ => rfl), .nil⟩
theorem fn__law_shape (T : Tx K mg) {fd : FuncData} (F : FunD K "_law_shape" "_law_shape" (defArgs s__law_shape) (defBody s__law_shape) (defScope s__law_shape) [] [] (He.fAd K ("_law_shape", none)) fd) : FnOk P w K mg base (L2.CX P w) 3 (He.fAd K ("_law_shape", none)) fd ["_law_draws", "_law_names"] (sp__law_shape K) := by
  refine F.ok sc__law_shape (fun vs H Q E h => h.1) (fun cdv A outer s H vs Q E hr h => ⟨_, ?_, h.2⟩)
  refine PSs.nox ?_
  exact (pss_cons (ps_set (i := 2) sc__law_shape.nd rfl (by first | exact Or.inl rfl | exact Or.inr rfl) (pe_cl (T.ok__law_draw) hr (by decide) (fun _ => pz) rfl (pa_cons (pv 0) (pa_cons pe_int pa_nil))))
        (pss_cons (ps_if (pt_cmpR (op_eqX hr.units) (pv 2) pe_int (nomark _))
        (pss_cons (ps_set (i := 3) sc__law_shape.nd rfl (by first | exact Or.inl rfl | exact Or.inr rfl) (pe_op op_subX (pe_cl (T.ok__law_draw) hr (by decide) (fun _ => pz) rfl (pa_cons (pv 0) (pa_cons pe_int pa_nil))) pe_int))
        (pss_one (ps_ret (pe_tup (pa_cons pe_str (pa_cons (pv 3) (pa_cons (pe_op op_addX (pv 3) (pe_cl (T.ok__law_draw) hr (by decide) (fun _ => pz) rfl (pa_cons (pv 0) (pa_cons pe_int pa_nil)))) pa_nil)))))))
        pss_nil)
        (pss_cons (ps_if (pt_cmpR (op_eqX hr.units) (pv 2) pe_int (nomark _))
        (pss_one (ps_ret (pe_tup (pa_cons pe_str (pa_cons (pe_op op_addX pe_int (pe_cl (T.ok__law_draw) hr (by decide) (fun _ => pz) rfl (pa_cons (pv 0) (pa_cons pe_int pa_nil)))) (pa_cons (pe_cl (T.ok__law_pick) hr (by decide) (fun _ => pz) rfl (pa_cons (pv 0) (pa_cons (pe_lst (pa_cons pe_non (pa_cons pe_non (pa_cons pe_str (pa_cons pe_str pa_nil))))) pa_nil))) pa_nil))))))
        pss_nil)
        (pss_cons (ps_if (pt_cmpR (op_eqX hr.units) (pv 2) pe_int (nomark _))
        (pss_one (ps_ret (pe_tup (pa_cons pe_str (pa_cons (pe_slice sl_X (pe_lst (pa_cons pe_str (pa_cons pe_str (pa_cons pe_str (pa_cons pe_str pa_nil))))) po_none (po_some (pe_op op_addX pe_int (pe_cl (T.ok__law_draw) hr (by decide) (fun _ => pz) rfl (pa_cons (pv 0) (pa_cons pe_int pa_nil)))))) pa_nil)))))
        pss_nil)
        (pss_cons (ps_set (i := 4) sc__law_shape.nd rfl (by first | exact Or.inl rfl | exact Or.inr rfl) (pe_cl (T.ok__law_draw) hr (by decide) (fun _ => pz) rfl (pa_cons (pv 0) (pa_cons (pe_callB call_len (by rfl) T.b_len boot_len (pa_cons (pv 1) pa_nil)) pa_nil))))
        (pss_cons (ps_set (i := 5) sc__law_shape.nd rfl (by first | exact Or.inl rfl | exact Or.inr rfl) (pe_slice sl_X (pe_op op_addX (pv 1) (pv 1)) (po_some (pv 4)) (po_some (pe_op op_addX (pe_op op_addX (pv 4) pe_int) (pe_cl (T.ok__law_draw) hr (by decide) (fun _ => pz) rfl (pa_cons (pv 0) (pa_cons (pe_callB call_len (by rfl) T.b_len boot_len (pa_cons (pv 1) pa_nil)) pa_nil)))))))
        (pss_cons (ps_if (pt_cmpR (op_eqX hr.units) (pv 2) pe_int (nomark _))
        (pss_one (ps_ret (pe_tup (pa_cons pe_str (pa_cons (pv 5) pa_nil)))))
        pss_nil)
        (pss_one (ps_ret (pe_tup (pa_cons pe_str (pa_cons (pv 5) (pa_cons (pe_cl (T.ok__law_pick) hr (by decide) (fun _ => pz) rfl (pa_cons (pv 0) (pa_cons (pe_lst (pa_cons pe_str (pa_cons pe_str (pa_cons pe_str pa_nil)))) pa_nil))) pa_nil)))))))))))))
theorem Tx.ok__law_shape (T : Tx K mg) : Cl P w K mg base 3 "_law_shape" (sp__law_shape K) [] := by
  obtain ⟨fd, F⟩ := T.d__law_shape
  have ok := fn__law_shape (P := P) (w := w) (base := base) T F
  exact ⟨_, fd, _, [], ok, T.g__law_shape, F.kp, (FunD.bindsN F fun _ _ _ _ _ _ us hl => match us, hl with | [_, _], _ => rfl), .nil⟩
theorem fn_IntSort_init (T : Tx K mg) {fd : FuncData} (F : FunD K "__init__" "IntSort.__init__" (defArgs s_IntSort_init) (defBody s_IntSort_init) (defScope s_IntSort_init) [] [] (He.fAd K ("IntSort", some "__init__")) fd) : FnOk P w K mg base (L2.CX P w) 1 (He.fAd K ("IntSort", some "__init__")) fd ["self", "low", "high"] (sp_IntSort_init K) := by
  refine F.ok sc_IntSort_init (fun vs H Q E h => h.1) (fun cdv A outer s H vs Q E hr h => ⟨_, ?_, h.2⟩)
  refine PSs.nox ?_
  exact (pss_cons (ps_fld (pv 0) (pv 1) rfl)
        (pss_one (ps_fld (pv 0) (pv 2) rfl)))
theorem Tx.ok_IntSort_init (T : Tx K mg) : Mq P w K mg base 1 "IntSort" (He.ga K ("IntSort" : Str)) (sp_IntSort_init K) [] := by
  obtain ⟨fd, F⟩ := T.d_IntSort_init
  have ok := fn_IntSort_init (P := P) (w := w) (base := base) T F
  exact ⟨_, fd, _, [], T.mk_IntSort, ok, T.gc_IntSort, (FunD.bindsN F fun _ _ _ _ _ _ us hl => match us, hl with | [_, _, _], _ => rfl), .nil⟩
theorem fn_TextSort_init (T : Tx K mg) {fd : FuncData} (F : FunD K "__init__" "TextSort.__init__" (defArgs s_TextSort_init) (defBody s_TextSort_init) (defScope s_TextSort_init) [.non] [] (He.fAd K ("TextSort", some "__init__")) fd) : FnOk P w K mg base (L2.CX P w) 1 (He.fAd K ("TextSort", some "__init__")) fd ["self", "longest", "without"] (sp_TextSort_init K) := by
  refine F.ok sc_TextSort_init (fun vs H Q E h => h.1) (fun cdv A outer s H vs Q E hr h => ⟨_, ?_, h.2⟩)
  refine PSs.nox ?_
  exact (pss_cons (ps_fld (pv 0) (pv 1) rfl)
        (pss_one (ps_fld (pv 0) (pv 2) rfl)))
theorem Tx.ok_TextSort_init (T : Tx K mg) : Mq P w K mg base 1 "TextSort" (He.ga K ("TextSort" : Str)) (sp_TextSort_init K) [] := by
  obtain ⟨fd, F⟩ := T.d_TextSort_init
  have ok := fn_TextSort_init (P := P) (w := w) (base := base) T F
  obtain ⟨ds, hv, b⟩ := FunD.binds1 (ps := ["self", "longest", "without"]) F 3 1 (by simp) (by simp) fun T kV doc pm an cdv ct us its hu hi => match us, its, hu, hi with | [_, _, _], [_], _, _ => ⟨_, rfl, rfl⟩
  exact ⟨_, fd, _, ds, T.mk_TextSort, ok, T.gc_TextSort, b, hv⟩
theorem fn_ChoiceSort_init (T : Tx K mg) {fd : FuncData} (F : FunD K "__init__" "ChoiceSort.__init__" (defArgs s_ChoiceSort_init) (defBody s_ChoiceSort_init) (defScope s_ChoiceSort_init) [] [] (He.fAd K ("ChoiceSort", some "__init__")) fd) : FnOk P w K mg base (L2.CX P w) 1 (He.fAd K ("ChoiceSort", some "__init__")) fd ["self", "choices"] (sp_ChoiceSort_init K) := by
  refine F.ok sc_ChoiceSort_init (fun vs H Q E h => h.1) (fun cdv A outer s H vs Q E hr h => ⟨_, ?_, h.2⟩)
  refine PSs.nox ?_
  exact (pss_one (ps_fld (pv 0) (pe_callTy (CallR.or call_list_of (call_list_dK rfl)) (by rfl) T.b_list (by decide +kernel) (pa_cons (pv 1) pa_nil)) rfl))
theorem Tx.ok_ChoiceSort_init (T : Tx K mg) : Mq P w K mg base 1 "ChoiceSort" (He.ga K ("ChoiceSort" : Str)) (sp_ChoiceSort_init K) [] := by
  obtain ⟨fd, F⟩ := T.d_ChoiceSort_init
  have ok := fn_ChoiceSort_init (P := P) (w := w) (base := base) T F
  exact ⟨_, fd, _, [], T.mk_ChoiceSort, ok, T.gc_ChoiceSort, (FunD.bindsN F fun _ _ _ _ _ _ us hl => match us, hl with | [_, _], _ => rfl), .nil⟩
theorem fn_ListSort_init (T : Tx K mg) {fd : FuncData} (F : FunD K "__init__" "ListSort.__init__" (defArgs s_ListSort_init) (defBody s_ListSort_init) (defScope s_ListSort_init) [] [] (He.fAd K ("ListSort", some "__init__")) fd) : FnOk P w K mg base (L2.CX P w) 1 (He.fAd K ("ListSort", some "__init__")) fd ["self", "kinds"] (sp_ListSort_init K) := by
  refine F.ok sc_ListSort_init (fun vs H Q E h => h.1) (fun cdv A outer s H vs Q E hr h => ⟨_, ?_, h.2⟩)
  refine PSs.nox ?_
  exact (pss_one (ps_fld (pv 0) (pe_callTy (CallR.or call_list_of (call_list_dK rfl)) (by rfl) T.b_list (by decide +kernel) (pa_cons (pv 1) pa_nil)) rfl))
theorem Tx.ok_ListSort_init (T : Tx K mg) : Mq P w K mg base 1 "ListSort" (He.ga K ("ListSort" : Str)) (sp_ListSort_init K) [] := by
  obtain ⟨fd, F⟩ := T.d_ListSort_init
  have ok := fn_ListSort_init (P := P) (w := w) (base := base) T F
  exact ⟨_, fd, _, [], T.mk_ListSort, ok, T.gc_ListSort, (FunD.bindsN F fun _ _ _ _ _ _ us hl => match us, hl with | [_, _], _ => rfl), .nil⟩
theorem fn_RefSort_init (T : Tx K mg) {fd : FuncData} (F : FunD K "__init__" "RefSort.__init__" (defArgs s_RefSort_init) (defBody s_RefSort_init) (defScope s_RefSort_init) [] [] (He.fAd K ("RefSort", some "__init__")) fd) : FnOk P w K mg base (L2.CX P w) 1 (He.fAd K ("RefSort", some "__init__")) fd ["self", "kinds", "rule"] (sp_RefSort_init K) := by
  refine F.ok sc_RefSort_init (fun vs H Q E h => h.1) (fun cdv A outer s H vs Q E hr h => ⟨_, ?_, h.2⟩)
  refine PSs.nox ?_
  exact (pss_cons (ps_fld (pv 0) (pe_callTy (CallR.or call_list_of (call_list_dK rfl)) (by rfl) T.b_list (by decide +kernel) (pa_cons (pv 1) pa_nil)) rfl)
        (pss_one (ps_fld (pv 0) (pv 2) rfl)))
theorem Tx.ok_RefSort_init (T : Tx K mg) : Mq P w K mg base 1 "RefSort" (He.ga K ("RefSort" : Str)) (sp_RefSort_init K) [] := by
  obtain ⟨fd, F⟩ := T.d_RefSort_init
  have ok := fn_RefSort_init (P := P) (w := w) (base := base) T F
  exact ⟨_, fd, _, [], T.mk_RefSort, ok, T.gc_RefSort, (FunD.bindsN F fun _ _ _ _ _ _ us hl => match us, hl with | [_, _, _], _ => rfl), .nil⟩
theorem fn__law_object (T : Tx K mg) {fd : FuncData} (F : FunD K "_law_object" "_law_object" (defArgs s__law_object) (defBody s__law_object) (defScope s__law_object) [] [] (He.fAd K ("_law_object", none)) fd) : FnOk P w K mg base (L2.CX P w) 3 (He.fAd K ("_law_object", none)) fd ["_law_shape_here"] (sp__law_object K) := by
  refine F.ok sc__law_object (fun vs H Q E h => h.1) (fun cdv A outer s H vs Q E hr h => ⟨_, ?_, h.2⟩)
  refine PSs.nox ?_
  exact (pss_cons (ps_if (pt_cmpR (op_eqX hr.units) (pe_ix ix_seq (pv 0) pe_int fun _ _ => rfl) pe_str (nomark _))
        (pss_one (ps_ret (pe_mq (T.ok_IntSort_init) hr (by decide) rfl (pa_cons (pe_ix ix_seq (pv 0) pe_int fun _ _ => rfl) (pa_cons (pe_ix ix_seq (pv 0) pe_int fun _ _ => rfl) pa_nil)))))
        pss_nil)
        (pss_cons (ps_if (pt_cmpR (op_eqX hr.units) (pe_ix ix_seq (pv 0) pe_int fun _ _ => rfl) pe_str (nomark _))
        (pss_one (ps_ret (pe_mq (T.ok_TextSort_init) hr (by decide) rfl (pa_cons (pe_ix ix_seq (pv 0) pe_int fun _ _ => rfl) (pa_cons (pe_ix ix_seq (pv 0) pe_int fun _ _ => rfl) pa_nil)))))
        pss_nil)
        (pss_cons (ps_if (pt_cmpR (op_eqX hr.units) (pe_ix ix_seq (pv 0) pe_int fun _ _ => rfl) pe_str (nomark _))
        (pss_one (ps_ret (pe_mq (T.ok_ChoiceSort_init) hr (by decide) rfl (pa_cons (pe_ix ix_seq (pv 0) pe_int fun _ _ => rfl) pa_nil))))
        pss_nil)
        (pss_cons (ps_if (pt_cmpR (op_eqX hr.units) (pe_ix ix_seq (pv 0) pe_int fun _ _ => rfl) pe_str (nomark _))
        (pss_one (ps_ret (pe_mq (T.ok_ListSort_init) hr (by decide) rfl (pa_cons (pe_ix ix_seq (pv 0) pe_int fun _ _ => rfl) pa_nil))))
        pss_nil)
        (pss_one (ps_ret (pe_mq (T.ok_RefSort_init) hr (by decide) rfl (pa_cons (pe_ix ix_seq (pv 0) pe_int fun _ _ => rfl) (pa_cons (pe_ix ix_seq (pv 0) pe_int fun _ _ => rfl) pa_nil)))))))))
theorem Tx.ok__law_object (T : Tx K mg) : Cl P w K mg base 3 "_law_object" (sp__law_object K) [] := by
  obtain ⟨fd, F⟩ := T.d__law_object
  have ok := fn__law_object (P := P) (w := w) (base := base) T F
  exact ⟨_, fd, _, [], ok, T.g__law_object, F.kp, (FunD.bindsN F fun _ _ _ _ _ _ us hl => match us, hl with | [_], _ => rfl), .nil⟩
theorem fn_is_whole (T : Tx K mg) {fd : FuncData} (F : FunD K "is_whole" "is_whole" (defArgs s_is_whole) (defBody s_is_whole) (defScope s_is_whole) [] [] (He.fAd K ("is_whole", none)) fd) : FnOk P w K mg base (L2.CX P w) 1 (He.fAd K ("is_whole", none)) fd ["value"] (sp_is_whole K) := by
  refine F.ok sc_is_whole (fun vs H Q E h => h.1) (fun cdv A outer s H vs Q E hr h => ⟨_, ?_, h.2⟩)
  refine PSs.nox ?_
  exact (pss_one (ps_ret (pe_and (pe_callB call_isi (by rfl) T.b_isinstance (by decide +kernel) (pa_cons (pv 0) (pa_cons (pe_bltn (by rfl) T.b_int (by decide +kernel) rfl) pa_nil))) (pe_one (pe_not (pe_callB call_isi (by rfl) T.b_isinstance (by decide +kernel) (pa_cons (pv 0) (pa_cons (pe_bltn (by rfl) T.b_bool (by decide +kernel) rfl) pa_nil))))))))
theorem Tx.ok_is_whole (T : Tx K mg) : Cl P w K mg base 1 "is_whole" (sp_is_whole K) [] := by
  obtain ⟨fd, F⟩ := T.d_is_whole
  have ok := fn_is_whole (P := P) (w := w) (base := base) T F
  exact ⟨_, fd, _, [], ok, T.g_is_whole, F.kp, (FunD.bindsN F fun _ _ _ _ _ _ us hl => match us, hl with | [_], _ => rfl), .nil⟩
theorem fn_IntSort_holds (T : Tx K mg) {fd : FuncData} (F : FunD K "holds" "IntSort.holds" (defArgs s_IntSort_holds) (defBody s_IntSort_holds) (defScope s_IntSort_holds) [] [] (He.fAd K ("IntSort", some "holds")) fd) : FnOk P w K mg base (L2.CX P w) 2 (He.fAd K ("IntSort", some "holds")) fd ["self", "value"] (sp_IntSort_holds K) := by
  refine F.ok sc_IntSort_holds (fun vs H Q E h => h.1) (fun cdv A outer s H vs Q E hr h => ⟨_, ?_, h.2⟩)
  refine PSs.nox ?_
  exact (pss_one (ps_ret (pe_or (pe_cmpR op_isX (pv 1) pe_non (nomark _)) (pe_one (pe_and (pe_cl (T.ok_is_whole) hr (by decide) (fun _ => pz) rfl (pa_cons (pv 1) pa_nil)) (pe_one (pe_chain op_leX op_leX (pe_fld (pv 0) rfl) (pv 1) (pe_fld (pv 0) rfl))))))))
theorem Tx.ok_IntSort_holds (T : Tx K mg) : Mt P w K mg base 2 (He.ga K ("IntSort" : Str)) "holds" (sp_IntSort_holds K) [] := by
  obtain ⟨fd, F⟩ := T.d_IntSort_holds
  have ok := fn_IntSort_holds (P := P) (w := w) (base := base) T F
  exact ⟨_, fd, _, [], T.cl_IntSort, T.me_IntSort_holds, ok, (FunD.bindsN F fun _ _ _ _ _ _ us hl => match us, hl with | [_, _], _ => rfl), .nil⟩
theorem fn_TextSort_holds (T : Tx K mg) {fd : FuncData} (F : FunD K "holds" "TextSort.holds" (defArgs s_TextSort_holds) (defBody s_TextSort_holds) (defScope s_TextSort_holds) [] [] (He.fAd K ("TextSort", some "holds")) fd) : FnOk P w K mg base (L2.CX P w) 1 (He.fAd K ("TextSort", some "holds")) fd ["self", "value"] (sp_TextSort_holds K) := by
  refine F.ok sc_TextSort_holds (fun vs H Q E h => h.1) (fun cdv A outer s H vs Q E hr h => ⟨_, ?_, h.2⟩)
  refine PSs.nox ?_
  exact (pss_cons (ps_if (pt_cmpR op_isX (pv 1) pe_non (nomark _))
        (pss_one (ps_ret pe_bl))
        pss_nil)
        (pss_cons (ps_if (PW.pt (pw_or (pt_not (pt_truth (pe_callB call_isi (by rfl) T.b_isinstance (by decide +kernel) (pa_cons (pv 1) (pa_cons (pe_bltn (by rfl) T.b_str (by decide +kernel) rfl) pa_nil))) fun _ => rfl)) (pw_or1 (pt_cmpR op_gtX (pe_callB call_len (by rfl) T.b_len boot_len (pa_cons (pv 1) pa_nil)) (pe_fld (pv 0) rfl) (nomark _)))))
        (pss_one (ps_ret pe_bl))
        pss_nil)
        (pss_one (ps_ret (pe_or (pe_cmpR op_isX (pe_fld (pv 0) rfl) pe_non (nomark _)) (pe_one (pe_cmpR op_notInX (pe_fld (pv 0) rfl) (pv 1) (by rfl))))))))
theorem Tx.ok_TextSort_holds (T : Tx K mg) : Mt P w K mg base 1 (He.ga K ("TextSort" : Str)) "holds" (sp_TextSort_holds K) [] := by
  obtain ⟨fd, F⟩ := T.d_TextSort_holds
  have ok := fn_TextSort_holds (P := P) (w := w) (base := base) T F
  exact ⟨_, fd, _, [], T.cl_TextSort, T.me_TextSort_holds, ok, (FunD.bindsN F fun _ _ _ _ _ _ us hl => match us, hl with | [_, _], _ => rfl), .nil⟩
theorem fn_ChoiceSort_holds (T : Tx K mg) {fd : FuncData} (F : FunD K "holds" "ChoiceSort.holds" (defArgs s_ChoiceSort_holds) (defBody s_ChoiceSort_holds) (defScope s_ChoiceSort_holds) [] [] (He.fAd K ("ChoiceSort", some "holds")) fd) : FnOk P w K mg base (L2.CX P w) 1 (He.fAd K ("ChoiceSort", some "holds")) fd ["self", "value"] (sp_ChoiceSort_holds K) := by
  refine F.ok sc_ChoiceSort_holds (fun vs H Q E h => h.1) (fun cdv A outer s H vs Q E hr h => ⟨_, ?_, h.2⟩)
  refine PSs.nox ?_
  exact (pss_one (ps_ret (pe_or (pe_cmpR op_isX (pv 1) pe_non (nomark _)) (pe_one (pe_and (pe_callB call_isi (by rfl) T.b_isinstance (by decide +kernel) (pa_cons (pv 1) (pa_cons (pe_bltn (by rfl) T.b_str (by decide +kernel) rfl) pa_nil))) (pe_one (pe_cmpR op_inX (pv 1) (pe_fld (pv 0) rfl) (by rfl))))))))
theorem Tx.ok_ChoiceSort_holds (T : Tx K mg) : Mt P w K mg base 1 (He.ga K ("ChoiceSort" : Str)) "holds" (sp_ChoiceSort_holds K) [] := by
  obtain ⟨fd, F⟩ := T.d_ChoiceSort_holds
  have ok := fn_ChoiceSort_holds (P := P) (w := w) (base := base) T F
  exact ⟨_, fd, _, [], T.cl_ChoiceSort, T.me_ChoiceSort_holds, ok, (FunD.bindsN F fun _ _ _ _ _ _ us hl => match us, hl with | [_, _], _ => rfl), .nil⟩
theorem fn_RefSort_holds (T : Tx K mg) {fd : FuncData} (F : FunD K "holds" "RefSort.holds" (defArgs s_RefSort_holds) (defBody s_RefSort_holds) (defScope s_RefSort_holds) [] [] (He.fAd K ("RefSort", some "holds")) fd) : FnOk P w K mg base (L2.CX P w) 1 (He.fAd K ("RefSort", some "holds")) fd ["self", "value"] (sp_RefSort_holds K) := by
  refine F.ok sc_RefSort_holds (fun vs H Q E h => h.1) (fun cdv A outer s H vs Q E hr h => ⟨_, ?_, h.2⟩)
  refine PSs.nox ?_
  exact (pss_one (ps_ret (pe_cmpR op_isX (pv 1) pe_non (nomark _))))
theorem Tx.ok_RefSort_holds (T : Tx K mg) : Mt P w K mg base 1 (He.ga K ("RefSort" : Str)) "holds" (sp_RefSort_holds K) [] := by
  obtain ⟨fd, F⟩ := T.d_RefSort_holds
  have ok := fn_RefSort_holds (P := P) (w := w) (base := base) T F
  exact ⟨_, fd, _, [], T.cl_RefSort, T.me_RefSort_holds, ok, (FunD.bindsN F fun _ _ _ _ _ _ us hl => match us, hl with | [_, _], _ => rfl), .nil⟩
theorem fn_ListSort_holds (T : Tx K mg) {fd : FuncData} (F : FunD K "holds" "ListSort.holds" (defArgs s_ListSort_holds) (defBody s_ListSort_holds) (defScope s_ListSort_holds) [] [] (He.fAd K ("ListSort", some "holds")) fd) : FnOk P w K mg base (L2.CX P w) 1 (He.fAd K ("ListSort", some "holds")) fd ["self", "value"] (sp_ListSort_holds K) := by
  refine F.ok sc_ListSort_holds (fun vs H Q E h => h.1) (fun cdv A outer s H vs Q E hr h => ⟨_, ?_, h.2⟩)
  refine PSs.nox ?_
  exact (pss_one (ps_ret pe_bl))
theorem Tx.ok_ListSort_holds (T : Tx K mg) : Mt P w K mg base 1 (He.ga K ("ListSort" : Str)) "holds" (sp_ListSort_holds K) [] := by
  obtain ⟨fd, F⟩ := T.d_ListSort_holds
  have ok := fn_ListSort_holds (P := P) (w := w) (base := base) T F
  exact ⟨_, fd, _, [], T.cl_ListSort, T.me_ListSort_holds, ok, (FunD.bindsN F fun _ _ _ _ _ _ us hl => match us, hl with | [_, _], _ => rfl), .nil⟩
theorem fn__law_due (T : Tx K mg) {fd : FuncData} (F : FunD K "_law_due" "_law_due" (defArgs s__law_due) (defBody s__law_due) (defScope s__law_due) [] [] (He.fAd K ("_law_due", none)) fd) : FnOk P w K mg base (L2.CX P w) 1 (He.fAd K ("_law_due", none)) fd ["_law_shape_here", "_law_value"] (sp__law_due K) := by
  refine F.ok sc__law_due (fun vs H Q E h => h.1) (fun cdv A outer s H vs Q E hr h => ⟨_, ?_, h.2⟩)
  refine PSs.nox ?_
  exact (pss_cons (ps_if (pt_cmpR op_isX (pv 1) pe_non (nomark _))
        (pss_one (ps_ret (pe_cmpR (op_neX hr.units) (pe_ix ix_seq (pv 0) pe_int fun _ _ => rfl) pe_str (nomark _))))
        pss_nil)
        (pss_cons (ps_if (PW.pt (pw_or (pt_cmpR op_isX (pv 1) pe_bl (nomark _)) (pw_or1 (pt_cmpR op_isX (pv 1) pe_bl (nomark _)))))
        (pss_one (ps_ret pe_bl))
        pss_nil)
        (pss_cons (ps_if (pt_cmpR (op_eqX hr.units) (pe_ix ix_seq (pv 0) pe_int fun _ _ => rfl) pe_str (nomark _))
        (pss_one (ps_ret (pe_and (pe_callB call_isi (by rfl) T.b_isinstance (by decide +kernel) (pa_cons (pv 1) (pa_cons (pe_bltn (by rfl) T.b_int (by decide +kernel) rfl) pa_nil))) (pe_one (pe_cmpR op_inX (pv 1) (pe_listRg rfl (by rfl) T.b_list (prg_2 (by rfl) T.b_range (pe_ix ix_seq (pv 0) pe_int fun _ _ => rfl) (pe_op op_addX (pe_ix ix_seq (pv 0) pe_int fun _ _ => rfl) pe_int))) (by rfl))))))
        pss_nil)
        (pss_cons (ps_if (pt_cmpR (op_eqX hr.units) (pe_ix ix_seq (pv 0) pe_int fun _ _ => rfl) pe_str (nomark _))
        (pss_one (ps_ret (pe_and (pe_callB call_isi (by rfl) T.b_isinstance (by decide +kernel) (pa_cons (pv 1) (pa_cons (pe_bltn (by rfl) T.b_str (by decide +kernel) rfl) pa_nil))) (pe_and (pe_cmpR op_leX (pe_callB call_len (by rfl) T.b_len boot_len (pa_cons (pv 1) pa_nil)) (pe_ix ix_seq (pv 0) pe_int fun _ _ => rfl) (nomark _)) (pe_one (pe_or (pe_cmpR op_isX (pe_ix ix_seq (pv 0) pe_int fun _ _ => rfl) pe_non (nomark _)) (pe_one (pe_cmpR (op_ltX hr.units) (pe_bm PySem.F.plainAttrs_str PySem.F.slot_str_find PySem.F.type_str_find mt_find (pv 1) (pa_cons (pe_ix ix_seq (pv 0) pe_int fun _ _ => rfl) pa_nil)) pe_int (nomark _)))))))))
        pss_nil)
        (pss_cons (ps_if (pt_cmpR (op_eqX hr.units) (pe_ix ix_seq (pv 0) pe_int fun _ _ => rfl) pe_str (nomark _))
        (pss_one (ps_ret (pe_and (pe_callB call_isi (by rfl) T.b_isinstance (by decide +kernel) (pa_cons (pv 1) (pa_cons (pe_bltn (by rfl) T.b_str (by decide +kernel) rfl) pa_nil))) (pe_one (pe_cmpR op_inX (pv 1) (pe_ix ix_seq (pv 0) pe_int fun _ _ => rfl) (by rfl))))))
        pss_nil)
        (pss_one (ps_ret pe_bl)))))))
theorem Tx.ok__law_due (T : Tx K mg) : Cl P w K mg base 1 "_law_due" (sp__law_due K) [] := by
  obtain ⟨fd, F⟩ := T.d__law_due
  have ok := fn__law_due (P := P) (w := w) (base := base) T F
  exact ⟨_, fd, _, [], ok, T.g__law_due, F.kp, (FunD.bindsN F fun _ _ _ _ _ _ us hl => match us, hl with | [_, _], _ => rfl), .nil⟩
theorem fn_is_list (T : Tx K mg) {fd : FuncData} (F : FunD K "is_list" "is_list" (defArgs s_is_list) (defBody s_is_list) (defScope s_is_list) [] [] (He.fAd K ("is_list", none)) fd) : FnOk P w K mg base (L2.CX P w) 1 (He.fAd K ("is_list", none)) fd ["sort"] (sp_is_list K) := by
  refine F.ok sc_is_list (fun vs H Q E h => h.1) (fun cdv A outer s H vs Q E hr h => ⟨_, ?_, h.2⟩)
  refine PSs.nox ?_
  exact (pss_one (ps_ret (pe_callB call_isi (by rfl) T.b_isinstance (by decide +kernel) (pa_cons (pv 0) (pa_cons (pe_glob rfl T.gc_ListSort rfl) pa_nil)))))
theorem Tx.ok_is_list (T : Tx K mg) : Cl P w K mg base 1 "is_list" (sp_is_list K) [] := by
  obtain ⟨fd, F⟩ := T.d_is_list
  have ok := fn_is_list (P := P) (w := w) (base := base) T F
  exact ⟨_, fd, _, [], ok, T.g_is_list, F.kp, (FunD.bindsN F fun _ _ _ _ _ _ us hl => match us, hl with | [_], _ => rfl), .nil⟩
theorem fn_is_reference (T : Tx K mg) {fd : FuncData} (F : FunD K "is_reference" "is_reference" (defArgs s_is_reference) (defBody s_is_reference) (defScope s_is_reference) [] [] (He.fAd K ("is_reference", none)) fd) : FnOk P w K mg base (L2.CX P w) 1 (He.fAd K ("is_reference", none)) fd ["sort"] (sp_is_reference K) := by
  refine F.ok sc_is_reference (fun vs H Q E h => h.1) (fun cdv A outer s H vs Q E hr h => ⟨_, ?_, h.2⟩)
  refine PSs.nox ?_
  exact (pss_one (ps_ret (pe_callB call_isi (by rfl) T.b_isinstance (by decide +kernel) (pa_cons (pv 0) (pa_cons (pe_glob rfl T.gc_RefSort rfl) pa_nil)))))
theorem Tx.ok_is_reference (T : Tx K mg) : Cl P w K mg base 1 "is_reference" (sp_is_reference K) [] := by
  obtain ⟨fd, F⟩ := T.d_is_reference
  have ok := fn_is_reference (P := P) (w := w) (base := base) T F
  exact ⟨_, fd, _, [], ok, T.g_is_reference, F.kp, (FunD.bindsN F fun _ _ _ _ _ _ us hl => match us, hl with | [_], _ => rfl), .nil⟩
theorem fn_is_link (T : Tx K mg) {fd : FuncData} (F : FunD K "is_link" "is_link" (defArgs s_is_link) (defBody s_is_link) (defScope s_is_link) [] [] (He.fAd K ("is_link", none)) fd) : FnOk P w K mg base (L2.CX P w) 1 (He.fAd K ("is_link", none)) fd ["sort"] (sp_is_link K) := by
  refine F.ok sc_is_link (fun vs H Q E h => h.1) (fun cdv A outer s H vs Q E hr h => ⟨_, ?_, h.2⟩)
  refine PSs.nox ?_
  exact (pss_one (ps_ret (pe_or (pe_callB call_isi (by rfl) T.b_isinstance (by decide +kernel) (pa_cons (pv 0) (pa_cons (pe_glob rfl T.gc_RefSort rfl) pa_nil))) (pe_one (pe_callB call_isi (by rfl) T.b_isinstance (by decide +kernel) (pa_cons (pv 0) (pa_cons (pe_glob rfl T.gc_ListSort rfl) pa_nil)))))))
theorem Tx.ok_is_link (T : Tx K mg) : Cl P w K mg base 1 "is_link" (sp_is_link K) [] := by
  obtain ⟨fd, F⟩ := T.d_is_link
  have ok := fn_is_link (P := P) (w := w) (base := base) T F
  exact ⟨_, fd, _, [], ok, T.g_is_link, F.kp, (FunD.bindsN F fun _ _ _ _ _ _ us hl => match us, hl with | [_], _ => rfl), .nil⟩
theorem fn_blank (T : Tx K mg) {fd : FuncData} (F : FunD K "blank" "blank" (defArgs s_blank) (defBody s_blank) (defScope s_blank) [] [] (He.fAd K ("blank", none)) fd) : FnOk P w K mg base (L2.CX P w) 1 (He.fAd K ("blank", none)) fd ["sort"] (sp_blank K) := by
  refine F.ok sc_blank (fun vs H Q E h => h.1) (fun cdv A outer s H vs Q E hr h => ⟨_, ?_, h.2⟩)
  refine PSs.nox ?_
  exact (pss_cons (ps_if (pt_truth (pe_callB call_isi (by rfl) T.b_isinstance (by decide +kernel) (pa_cons (pv 0) (pa_cons (pe_glob rfl T.gc_ListSort rfl) pa_nil))) fun _ => rfl)
        (pss_one (ps_ret (pe_lst pa_nil)))
        pss_nil)
        (pss_one (ps_ret pe_non)))
theorem Tx.ok_blank (T : Tx K mg) : Cl P w K mg base 1 "blank" (sp_blank K) [] := by
  obtain ⟨fd, F⟩ := T.d_blank
  have ok := fn_blank (P := P) (w := w) (base := base) T F
  exact ⟨_, fd, _, [], ok, T.g_blank, F.kp, (FunD.bindsN F fun _ _ _ _ _ _ us hl => match us, hl with | [_], _ => rfl), .nil⟩
theorem fn_law (T : Tx K mg) {fd : FuncData} (F : FunD K "law" "law" (defArgs s_law) (defBody s_law) (defScope s_law) [] [] (He.fAd K ("law", none)) fd) : FnOk P w K mg base (L2.CX P w) 4 (He.fAd K ("law", none)) fd ["_law_script"] (sp_law K) := by
  refine F.ok sc_law (fun vs H Q E h => h.1) (fun cdv A outer s H vs Q E hr h => ⟨_, ?_, h.2⟩)
  refine PSs.nox ?_
  exact (pss_cons (ps_set (i := 1) sc_law.nd rfl (by first | exact Or.inl rfl | exact Or.inr rfl) (pe_cl (T.ok__law_cells) hr (by decide) (fun _ => pz) rfl (pa_cons (pv 0) (pa_cons pe_int pa_nil))))
        (pss_cons (ps_set (i := 2) sc_law.nd rfl (by first | exact Or.inl rfl | exact Or.inr rfl) (pe_cl (T.ok__law_shape) hr (by decide) (fun _ => pz) rfl (pa_cons (pv 1) (pa_cons (pe_lst (pa_cons pe_str (pa_cons pe_str (pa_cons pe_str pa_nil)))) pa_nil))))
        (pss_cons (ps_set (i := 3) sc_law.nd rfl (by first | exact Or.inl rfl | exact Or.inr rfl) (pe_cl (T.ok__law_object) hr (by decide) (fun _ => pz) rfl (pa_cons (pv 2) pa_nil)))
        (pss_cons (ps_set (i := 4) sc_law.nd rfl (by first | exact Or.inl rfl | exact Or.inr rfl) (pe_op op_addX (pe_lst (pa_cons pe_non (pa_cons pe_bl (pa_cons pe_bl (pa_cons pe_str (pa_cons pe_str (pa_cons pe_str (pa_cons pe_str (pa_cons pe_str pa_nil))))))))) (pe_listRg rfl (by rfl) T.b_list (prg_2 (by rfl) T.b_range (pe_un un_neg pe_int) pe_int))))
        (pss_cons (ps_for PassesOwn.never rfl (pi_range1 rfl T.b_range (pa_cons pe_int pa_nil)) (pg_name (i := 5) sc_law.nd rfl (by first | exact Or.inl rfl | exact Or.inr rfl))
        (pss_cons (ps_expr (pe_bm PySem.F.plainAttrs_list PySem.F.slot_list_append PySem.F.type_list_append mt_append (pv 4) (pa_cons (pe_op op_mulX pe_str (pv 5)) pa_nil)))
        (pss_one (ps_expr (pe_bm PySem.F.plainAttrs_list PySem.F.slot_list_append PySem.F.type_list_append mt_append (pv 4) (pa_cons (pe_slice sl_X (pe_op op_addX (pe_op op_addX (pe_op op_mulX pe_str (pv 5)) pe_str) pe_str) (po_some (pe_op op_divX (pv 5) pe_int)) po_none) pa_nil))))))
        (pss_cons (ps_for PassesOwn.never rfl (pi_any (pv 4)) (pg_name (i := 6) sc_law.nd rfl (by first | exact Or.inl rfl | exact Or.inr rfl))
        (pss_cons (ps_set (i := 7) sc_law.nd rfl (by first | exact Or.inl rfl | exact Or.inr rfl) (pe_or2 (pe_or2 (pe_or2 (pe_or2 (pe_mt1 (T.ok_IntSort_holds) hr (by decide) (fun _ => pz) (pv 3) (pa_cons (pv 6) pa_nil)) (pe_mt1 (T.ok_TextSort_holds) hr (by decide) (fun _ => pz) (pv 3) (pa_cons (pv 6) pa_nil))) (pe_mt1 (T.ok_ChoiceSort_holds) hr (by decide) (fun _ => pz) (pv 3) (pa_cons (pv 6) pa_nil))) (pe_mt1 (T.ok_RefSort_holds) hr (by decide) (fun _ => pz) (pv 3) (pa_cons (pv 6) pa_nil))) (pe_mt1 (T.ok_ListSort_holds) hr (by decide) (fun _ => pz) (pv 3) (pa_cons (pv 6) pa_nil))))
        (pss_one (ps_if (PW.pt (pw_or (PW.pt (pw_and (pt_cmpR op_isNotX (pv 7) pe_bl (nomark _)) (pw_and1 (pt_cmpR op_isNotX (pv 7) pe_bl (nomark _))))) (pw_or1 (pt_cmpR (op_neX hr.units) (pv 7) (pe_cl (T.ok__law_due) hr (by decide) (fun _ => pz) rfl (pa_cons (pv 2) (pa_cons (pv 6) pa_nil))) (nomark _)))))
        (pss_one (ps_ret pe_bl))
        pss_nil))))
        (pss_cons (ps_if (PW.pt (pw_or (pt_cmpR (op_neX hr.units) (pe_cl (T.ok_is_list) hr (by decide) (fun _ => pz) rfl (pa_cons (pv 3) pa_nil)) (pe_cmpR (op_eqX hr.units) (pe_ix ix_seq (pv 2) pe_int fun _ _ => rfl) pe_str (nomark _)) (nomark _)) (pw_or1 (pt_cmpR (op_neX hr.units) (pe_cl (T.ok_is_reference) hr (by decide) (fun _ => pz) rfl (pa_cons (pv 3) pa_nil)) (pe_cmpR (op_eqX hr.units) (pe_ix ix_seq (pv 2) pe_int fun _ _ => rfl) pe_str (nomark _)) (nomark _)))))
        (pss_one (ps_ret pe_bl))
        pss_nil)
        (pss_cons (ps_if (pt_cmpR (op_neX hr.units) (pe_cl (T.ok_is_link) hr (by decide) (fun _ => pz) rfl (pa_cons (pv 3) pa_nil)) (pe_or (pe_cmpR (op_eqX hr.units) (pe_ix ix_seq (pv 2) pe_int fun _ _ => rfl) pe_str (nomark _)) (pe_one (pe_cmpR (op_eqX hr.units) (pe_ix ix_seq (pv 2) pe_int fun _ _ => rfl) pe_str (nomark _)))) (nomark _))
        (pss_one (ps_ret pe_bl))
        pss_nil)
        (pss_cons (ps_set (i := 8) sc_law.nd rfl (by first | exact Or.inl rfl | exact Or.inr rfl) (pe_cl (T.ok_blank) hr (by decide) (fun _ => pz) rfl (pa_cons (pv 3) pa_nil)))
        (pss_cons (ps_if (pt_cmpR (op_neX hr.units) (pe_ix ix_seq (pv 2) pe_int fun _ _ => rfl) pe_str (nomark _))
        (pss_one (ps_ret (pe_cmpR op_isX (pv 8) pe_non (nomark _))))
        pss_nil)
        (pss_cons (ps_if (PW.pt (pw_or (pt_not (pt_truth (pe_callB call_isi (by rfl) T.b_isinstance (by decide +kernel) (pa_cons (pv 8) (pa_cons (pe_bltn (by rfl) T.b_list (by decide +kernel) rfl) pa_nil))) fun _ => rfl)) (pw_or1 (pt_cmpR (op_neX hr.units) (pe_callB call_len (by rfl) T.b_len boot_len (pa_cons (pv 8) pa_nil)) pe_int (nomark _)))))
        (pss_one (ps_ret pe_bl))
        pss_nil)
        (pss_cons (ps_expr (pe_bm PySem.F.plainAttrs_list PySem.F.slot_list_append PySem.F.type_list_append mt_append (pv 8) (pa_cons pe_int pa_nil)))
        (pss_one (ps_ret (pe_cmpR (op_eqX hr.units) (pe_callB call_len (by rfl) T.b_len boot_len (pa_cons (pe_cl (T.ok_blank) hr (by decide) (fun _ => pz) rfl (pa_cons (pv 3) pa_nil)) pa_nil)) pe_int (nomark _))))))))))))))))
theorem Tx.law (T : Tx K mg) : ∃ fd : FuncData, (∀ (s : Shared) (u : Value), BindsTo s fd ⟨[u], []⟩ [("_law_script", u)]) ∧ ∀ base : Heap, FnOk P w K mg base (L2.CX P w) 4 (He.ga K "law") fd ["_law_script"] (sp_law K) := by
  obtain ⟨fd, F⟩ := T.d_law
  have b := FunD.bindsA (ps := ["_law_script"]) F fun _ _ _ _ _ _ us hl => match us, hl with | [_], _ => rfl
  exact ⟨fd, fun s v => b s [v] rfl, fun base => fn_law T F⟩
end
end Lw

namespace Lw
open PySem PySem.Spec PyProof.Rows L2 G
def dd__law_cells : He.DefD := ⟨("_law_cells", none), "_law_cells", "_law_cells", defArgs s__law_cells, defBody s__law_cells, defScope s__law_cells, [], []⟩
def dd__law_draw : He.DefD := ⟨("_law_draw", none), "_law_draw", "_law_draw", defArgs s__law_draw, defBody s__law_draw, defScope s__law_draw, [], []⟩
def dd__law_pick : He.DefD := ⟨("_law_pick", none), "_law_pick", "_law_pick", defArgs s__law_pick, defBody s__law_pick, defScope s__law_pick, [], []⟩
def dd__law_shape : He.DefD := ⟨("_law_shape", none), "_law_shape", "_law_shape", defArgs s__law_shape, defBody s__law_shape, defScope s__law_shape, [], []⟩
def dd_IntSort_init : He.DefD := ⟨("IntSort", some "__init__"), "__init__", "IntSort.__init__", defArgs s_IntSort_init, defBody s_IntSort_init, defScope s_IntSort_init, [], []⟩
def dd_TextSort_init : He.DefD := ⟨("TextSort", some "__init__"), "__init__", "TextSort.__init__", defArgs s_TextSort_init, defBody s_TextSort_init, defScope s_TextSort_init, [.non], []⟩
def dd_ChoiceSort_init : He.DefD := ⟨("ChoiceSort", some "__init__"), "__init__", "ChoiceSort.__init__", defArgs s_ChoiceSort_init, defBody s_ChoiceSort_init, defScope s_ChoiceSort_init, [], []⟩
def dd_ListSort_init : He.DefD := ⟨("ListSort", some "__init__"), "__init__", "ListSort.__init__", defArgs s_ListSort_init, defBody s_ListSort_init, defScope s_ListSort_init, [], []⟩
def dd_RefSort_init : He.DefD := ⟨("RefSort", some "__init__"), "__init__", "RefSort.__init__", defArgs s_RefSort_init, defBody s_RefSort_init, defScope s_RefSort_init, [], []⟩
def dd__law_object : He.DefD := ⟨("_law_object", none), "_law_object", "_law_object", defArgs s__law_object, defBody s__law_object, defScope s__law_object, [], []⟩
def dd_is_whole : He.DefD := ⟨("is_whole", none), "is_whole", "is_whole", defArgs s_is_whole, defBody s_is_whole, defScope s_is_whole, [], []⟩
def dd_IntSort_holds : He.DefD := ⟨("IntSort", some "holds"), "holds", "IntSort.holds", defArgs s_IntSort_holds, defBody s_IntSort_holds, defScope s_IntSort_holds, [], []⟩
def dd_TextSort_holds : He.DefD := ⟨("TextSort", some "holds"), "holds", "TextSort.holds", defArgs s_TextSort_holds, defBody s_TextSort_holds, defScope s_TextSort_holds, [], []⟩
def dd_ChoiceSort_holds : He.DefD := ⟨("ChoiceSort", some "holds"), "holds", "ChoiceSort.holds", defArgs s_ChoiceSort_holds, defBody s_ChoiceSort_holds, defScope s_ChoiceSort_holds, [], []⟩
def dd_RefSort_holds : He.DefD := ⟨("RefSort", some "holds"), "holds", "RefSort.holds", defArgs s_RefSort_holds, defBody s_RefSort_holds, defScope s_RefSort_holds, [], []⟩
def dd_ListSort_holds : He.DefD := ⟨("ListSort", some "holds"), "holds", "ListSort.holds", defArgs s_ListSort_holds, defBody s_ListSort_holds, defScope s_ListSort_holds, [], []⟩
def dd__law_due : He.DefD := ⟨("_law_due", none), "_law_due", "_law_due", defArgs s__law_due, defBody s__law_due, defScope s__law_due, [], []⟩
def dd_is_list : He.DefD := ⟨("is_list", none), "is_list", "is_list", defArgs s_is_list, defBody s_is_list, defScope s_is_list, [], []⟩
def dd_is_reference : He.DefD := ⟨("is_reference", none), "is_reference", "is_reference", defArgs s_is_reference, defBody s_is_reference, defScope s_is_reference, [], []⟩
def dd_is_link : He.DefD := ⟨("is_link", none), "is_link", "is_link", defArgs s_is_link, defBody s_is_link, defScope s_is_link, [], []⟩
def dd_blank : He.DefD := ⟨("blank", none), "blank", "blank", defArgs s_blank, defBody s_blank, defScope s_blank, [], []⟩
def dd_law : He.DefD := ⟨("law", none), "law", "law", defArgs s_law, defBody s_law, defScope s_law, [], []⟩
def fn : List He.DefD := [dd__law_cells, dd__law_draw, dd__law_pick, dd__law_shape, dd_IntSort_init, dd_TextSort_init, dd_ChoiceSort_init, dd_ListSort_init, dd_RefSort_init, dd__law_object, dd_is_whole, dd_IntSort_holds, dd_TextSort_holds, dd_ChoiceSort_holds, dd_RefSort_holds, dd_ListSort_holds, dd__law_due, dd_is_list, dd_is_reference, dd_is_link, dd_blank, dd_law]
def fa : List He.Fa := [.glo "_law_cells", .glo "_law_draw", .glo "_law_pick", .glo "_law_shape", .glo "_law_object", .glo "is_whole", .glo "_law_due", .glo "is_list", .glo "is_reference", .glo "is_link", .glo "blank", .glo "law", .free "bool", .free "int", .free "isinstance", .free "len", .free "list", .free "range", .free "str", .glo "IntSort", .cls "IntSort", .meth "IntSort" "holds", .mkr "IntSort", .noat "IntSort" "high", .noat "IntSort" "low", .glo "TextSort", .cls "TextSort", .meth "TextSort" "holds", .mkr "TextSort", .noat "TextSort" "longest", .noat "TextSort" "without", .glo "ChoiceSort", .cls "ChoiceSort", .meth "ChoiceSort" "holds", .mkr "ChoiceSort", .noat "ChoiceSort" "choices", .glo "RefSort", .cls "RefSort", .meth "RefSort" "holds", .mkr "RefSort", .noat "RefSort" "kinds", .noat "RefSort" "rule", .glo "ListSort", .cls "ListSort", .meth "ListSort" "holds", .mkr "ListSort", .noat "ListSort" "kinds"]
theorem kstr {K : PySem.W.Frag} {h : Heap} {mg : Str → Option Value} (X : K.In h) (G : h.Ns mainGlobals mg) {x z : Str} (c : (He.Fa.str x z).ok K = true) : ∃ u, mg x = some u ∧ RelV (.str z) u := by
  obtain ⟨t, e⟩ := He.str_ok X G c
  exact ⟨_, e, _, rfl⟩
theorem kint {K : PySem.W.Frag} {h : Heap} {mg : Str → Option Value} (X : K.In h) (G : h.Ns mainGlobals mg) {x : Str} {z : Int} (c : (He.Fa.int x z).ok K = true) : ∃ u, mg x = some u ∧ RelV (.int z) u := by
  obtain ⟨t, e⟩ := He.int_ok X G c
  exact ⟨_, e, _, rfl⟩
def exs : List (PySem.W.Frag → Bool) := [fIn "IntSort", fIsT "IntSort" "bool" false, fIsT "IntSort" "int" false, fIsT "IntSort" "list" false, fIsT "IntSort" "str" false, fIs "IntSort" "ListSort" false, fIs "IntSort" "RefSort" false, fIn "TextSort", fIsT "TextSort" "bool" false, fIsT "TextSort" "int" false, fIsT "TextSort" "list" false, fIsT "TextSort" "str" false, fIs "TextSort" "ListSort" false, fIs "TextSort" "RefSort" false, fIn "ChoiceSort", fIsT "ChoiceSort" "bool" false, fIsT "ChoiceSort" "int" false, fIsT "ChoiceSort" "list" false, fIsT "ChoiceSort" "str" false, fIs "ChoiceSort" "ListSort" false, fIs "ChoiceSort" "RefSort" false, fIn "RefSort", fIsT "RefSort" "bool" false, fIsT "RefSort" "int" false, fIsT "RefSort" "list" false, fIsT "RefSort" "str" false, fIs "RefSort" "ListSort" false, fIs "RefSort" "RefSort" true, fIn "ListSort", fIsT "ListSort" "bool" false, fIsT "ListSort" "int" false, fIsT "ListSort" "list" false, fIsT "ListSort" "str" false, fIs "ListSort" "ListSort" true, fIs "ListSort" "RefSort" false, fTIs "NoneType" "ListSort" false, fTIs "bool" "ListSort" false, fTIs "int" "ListSort" false, fTIs "str" "ListSort" false, fTIs "list" "ListSort" false, fTIs "tuple" "ListSort" false, fTIs "dict" "ListSort" false, fTIs "NoneType" "RefSort" false, fTIs "bool" "RefSort" false, fTIs "int" "RefSort" false, fTIs "str" "RefSort" false, fTIs "list" "RefSort" false, fTIs "tuple" "RefSort" false, fTIs "dict" "RefSort" false]
theorem tx {K : PySem.W.Frag} {h : Heap} {mg : Str → Option Value} (X : K.In h) (G : h.Ns mainGlobals mg) (c : He.SaysD fa fn K) (x : allB exs K = true) : Tx K mg where
  d__law_cells := c.def_ 0 (d := dd__law_cells) rfl
  d__law_draw := c.def_ 1 (d := dd__law_draw) rfl
  d__law_pick := c.def_ 2 (d := dd__law_pick) rfl
  d__law_shape := c.def_ 3 (d := dd__law_shape) rfl
  d_IntSort_init := c.def_ 4 (d := dd_IntSort_init) rfl
  d_TextSort_init := c.def_ 5 (d := dd_TextSort_init) rfl
  d_ChoiceSort_init := c.def_ 6 (d := dd_ChoiceSort_init) rfl
  d_ListSort_init := c.def_ 7 (d := dd_ListSort_init) rfl
  d_RefSort_init := c.def_ 8 (d := dd_RefSort_init) rfl
  d__law_object := c.def_ 9 (d := dd__law_object) rfl
  d_is_whole := c.def_ 10 (d := dd_is_whole) rfl
  d_IntSort_holds := c.def_ 11 (d := dd_IntSort_holds) rfl
  d_TextSort_holds := c.def_ 12 (d := dd_TextSort_holds) rfl
  d_ChoiceSort_holds := c.def_ 13 (d := dd_ChoiceSort_holds) rfl
  d_RefSort_holds := c.def_ 14 (d := dd_RefSort_holds) rfl
  d_ListSort_holds := c.def_ 15 (d := dd_ListSort_holds) rfl
  d__law_due := c.def_ 16 (d := dd__law_due) rfl
  d_is_list := c.def_ 17 (d := dd_is_list) rfl
  d_is_reference := c.def_ 18 (d := dd_is_reference) rfl
  d_is_link := c.def_ 19 (d := dd_is_link) rfl
  d_blank := c.def_ 20 (d := dd_blank) rfl
  d_law := c.def_ 21 (d := dd_law) rfl
  g__law_cells := He.glo_ok X G (c.fact 0 (f := .glo "_law_cells") rfl)
  g__law_draw := He.glo_ok X G (c.fact 1 (f := .glo "_law_draw") rfl)
  g__law_pick := He.glo_ok X G (c.fact 2 (f := .glo "_law_pick") rfl)
  g__law_shape := He.glo_ok X G (c.fact 3 (f := .glo "_law_shape") rfl)
  g__law_object := He.glo_ok X G (c.fact 4 (f := .glo "_law_object") rfl)
  g_is_whole := He.glo_ok X G (c.fact 5 (f := .glo "is_whole") rfl)
  g__law_due := He.glo_ok X G (c.fact 6 (f := .glo "_law_due") rfl)
  g_is_list := He.glo_ok X G (c.fact 7 (f := .glo "is_list") rfl)
  g_is_reference := He.glo_ok X G (c.fact 8 (f := .glo "is_reference") rfl)
  g_is_link := He.glo_ok X G (c.fact 9 (f := .glo "is_link") rfl)
  g_blank := He.glo_ok X G (c.fact 10 (f := .glo "blank") rfl)
  g_law := He.glo_ok X G (c.fact 11 (f := .glo "law") rfl)
  b_bool := He.free_ok X G (c.fact 12 (f := .free "bool") rfl)
  b_int := He.free_ok X G (c.fact 13 (f := .free "int") rfl)
  b_isinstance := He.free_ok X G (c.fact 14 (f := .free "isinstance") rfl)
  b_len := He.free_ok X G (c.fact 15 (f := .free "len") rfl)
  b_list := He.free_ok X G (c.fact 16 (f := .free "list") rfl)
  b_range := He.free_ok X G (c.fact 17 (f := .free "range") rfl)
  b_str := He.free_ok X G (c.fact 18 (f := .free "str") rfl)
  gc_IntSort := He.glo_ok X G (c.fact 19 (f := .glo "IntSort") rfl)
  cl_IntSort := He.cls_ok (c.fact 20 (f := .cls "IntSort") rfl)
  me_IntSort_holds := He.meth_ok (c.fact 21 (f := .meth "IntSort" "holds") rfl)
  mk_IntSort := He.mkr_ok (c.fact 22 (f := .mkr "IntSort") rfl)
  no_IntSort_high := He.noat_ok (c.fact 23 (f := .noat "IntSort" "high") rfl)
  no_IntSort_low := He.noat_ok (c.fact 24 (f := .noat "IntSort" "low") rfl)
  gc_TextSort := He.glo_ok X G (c.fact 25 (f := .glo "TextSort") rfl)
  cl_TextSort := He.cls_ok (c.fact 26 (f := .cls "TextSort") rfl)
  me_TextSort_holds := He.meth_ok (c.fact 27 (f := .meth "TextSort" "holds") rfl)
  mk_TextSort := He.mkr_ok (c.fact 28 (f := .mkr "TextSort") rfl)
  no_TextSort_longest := He.noat_ok (c.fact 29 (f := .noat "TextSort" "longest") rfl)
  no_TextSort_without := He.noat_ok (c.fact 30 (f := .noat "TextSort" "without") rfl)
  gc_ChoiceSort := He.glo_ok X G (c.fact 31 (f := .glo "ChoiceSort") rfl)
  cl_ChoiceSort := He.cls_ok (c.fact 32 (f := .cls "ChoiceSort") rfl)
  me_ChoiceSort_holds := He.meth_ok (c.fact 33 (f := .meth "ChoiceSort" "holds") rfl)
  mk_ChoiceSort := He.mkr_ok (c.fact 34 (f := .mkr "ChoiceSort") rfl)
  no_ChoiceSort_choices := He.noat_ok (c.fact 35 (f := .noat "ChoiceSort" "choices") rfl)
  gc_RefSort := He.glo_ok X G (c.fact 36 (f := .glo "RefSort") rfl)
  cl_RefSort := He.cls_ok (c.fact 37 (f := .cls "RefSort") rfl)
  me_RefSort_holds := He.meth_ok (c.fact 38 (f := .meth "RefSort" "holds") rfl)
  mk_RefSort := He.mkr_ok (c.fact 39 (f := .mkr "RefSort") rfl)
  no_RefSort_kinds := He.noat_ok (c.fact 40 (f := .noat "RefSort" "kinds") rfl)
  no_RefSort_rule := He.noat_ok (c.fact 41 (f := .noat "RefSort" "rule") rfl)
  gc_ListSort := He.glo_ok X G (c.fact 42 (f := .glo "ListSort") rfl)
  cl_ListSort := He.cls_ok (c.fact 43 (f := .cls "ListSort") rfl)
  me_ListSort_holds := He.meth_ok (c.fact 44 (f := .meth "ListSort" "holds") rfl)
  mk_ListSort := He.mkr_ok (c.fact 45 (f := .mkr "ListSort") rfl)
  no_ListSort_kinds := He.noat_ok (c.fact 46 (f := .noat "ListSort" "kinds") rfl)
  if_IntSort := fIn_ok (allB_at x 0 (f := fIn "IntSort") rfl)
  it_IntSort_bool := fIsT_ok (allB_at x 1 (f := fIsT "IntSort" "bool" false) rfl)
  it_IntSort_int := fIsT_ok (allB_at x 2 (f := fIsT "IntSort" "int" false) rfl)
  it_IntSort_list := fIsT_ok (allB_at x 3 (f := fIsT "IntSort" "list" false) rfl)
  it_IntSort_str := fIsT_ok (allB_at x 4 (f := fIsT "IntSort" "str" false) rfl)
  is_IntSort_ListSort := fIs_ok (allB_at x 5 (f := fIs "IntSort" "ListSort" false) rfl)
  is_IntSort_RefSort := fIs_ok (allB_at x 6 (f := fIs "IntSort" "RefSort" false) rfl)
  if_TextSort := fIn_ok (allB_at x 7 (f := fIn "TextSort") rfl)
  it_TextSort_bool := fIsT_ok (allB_at x 8 (f := fIsT "TextSort" "bool" false) rfl)
  it_TextSort_int := fIsT_ok (allB_at x 9 (f := fIsT "TextSort" "int" false) rfl)
  it_TextSort_list := fIsT_ok (allB_at x 10 (f := fIsT "TextSort" "list" false) rfl)
  it_TextSort_str := fIsT_ok (allB_at x 11 (f := fIsT "TextSort" "str" false) rfl)
  is_TextSort_ListSort := fIs_ok (allB_at x 12 (f := fIs "TextSort" "ListSort" false) rfl)
  is_TextSort_RefSort := fIs_ok (allB_at x 13 (f := fIs "TextSort" "RefSort" false) rfl)
  if_ChoiceSort := fIn_ok (allB_at x 14 (f := fIn "ChoiceSort") rfl)
  it_ChoiceSort_bool := fIsT_ok (allB_at x 15 (f := fIsT "ChoiceSort" "bool" false) rfl)
  it_ChoiceSort_int := fIsT_ok (allB_at x 16 (f := fIsT "ChoiceSort" "int" false) rfl)
  it_ChoiceSort_list := fIsT_ok (allB_at x 17 (f := fIsT "ChoiceSort" "list" false) rfl)
  it_ChoiceSort_str := fIsT_ok (allB_at x 18 (f := fIsT "ChoiceSort" "str" false) rfl)
  is_ChoiceSort_ListSort := fIs_ok (allB_at x 19 (f := fIs "ChoiceSort" "ListSort" false) rfl)
  is_ChoiceSort_RefSort := fIs_ok (allB_at x 20 (f := fIs "ChoiceSort" "RefSort" false) rfl)
  if_RefSort := fIn_ok (allB_at x 21 (f := fIn "RefSort") rfl)
  it_RefSort_bool := fIsT_ok (allB_at x 22 (f := fIsT "RefSort" "bool" false) rfl)
  it_RefSort_int := fIsT_ok (allB_at x 23 (f := fIsT "RefSort" "int" false) rfl)
  it_RefSort_list := fIsT_ok (allB_at x 24 (f := fIsT "RefSort" "list" false) rfl)
  it_RefSort_str := fIsT_ok (allB_at x 25 (f := fIsT "RefSort" "str" false) rfl)
  is_RefSort_ListSort := fIs_ok (allB_at x 26 (f := fIs "RefSort" "ListSort" false) rfl)
  is_RefSort_RefSort := fIs_ok (allB_at x 27 (f := fIs "RefSort" "RefSort" true) rfl)
  if_ListSort := fIn_ok (allB_at x 28 (f := fIn "ListSort") rfl)
  it_ListSort_bool := fIsT_ok (allB_at x 29 (f := fIsT "ListSort" "bool" false) rfl)
  it_ListSort_int := fIsT_ok (allB_at x 30 (f := fIsT "ListSort" "int" false) rfl)
  it_ListSort_list := fIsT_ok (allB_at x 31 (f := fIsT "ListSort" "list" false) rfl)
  it_ListSort_str := fIsT_ok (allB_at x 32 (f := fIsT "ListSort" "str" false) rfl)
  is_ListSort_ListSort := fIs_ok (allB_at x 33 (f := fIs "ListSort" "ListSort" true) rfl)
  is_ListSort_RefSort := fIs_ok (allB_at x 34 (f := fIs "ListSort" "RefSort" false) rfl)
  ti_NoneType_ListSort := fTIs_ok (allB_at x 35 (f := fTIs "NoneType" "ListSort" false) rfl)
  ti_bool_ListSort := fTIs_ok (allB_at x 36 (f := fTIs "bool" "ListSort" false) rfl)
  ti_int_ListSort := fTIs_ok (allB_at x 37 (f := fTIs "int" "ListSort" false) rfl)
  ti_str_ListSort := fTIs_ok (allB_at x 38 (f := fTIs "str" "ListSort" false) rfl)
  ti_list_ListSort := fTIs_ok (allB_at x 39 (f := fTIs "list" "ListSort" false) rfl)
  ti_tuple_ListSort := fTIs_ok (allB_at x 40 (f := fTIs "tuple" "ListSort" false) rfl)
  ti_dict_ListSort := fTIs_ok (allB_at x 41 (f := fTIs "dict" "ListSort" false) rfl)
  ti_NoneType_RefSort := fTIs_ok (allB_at x 42 (f := fTIs "NoneType" "RefSort" false) rfl)
  ti_bool_RefSort := fTIs_ok (allB_at x 43 (f := fTIs "bool" "RefSort" false) rfl)
  ti_int_RefSort := fTIs_ok (allB_at x 44 (f := fTIs "int" "RefSort" false) rfl)
  ti_str_RefSort := fTIs_ok (allB_at x 45 (f := fTIs "str" "RefSort" false) rfl)
  ti_list_RefSort := fTIs_ok (allB_at x 46 (f := fTIs "list" "RefSort" false) rfl)
  ti_tuple_RefSort := fTIs_ok (allB_at x 47 (f := fTIs "tuple" "RefSort" false) rfl)
  ti_dict_RefSort := fTIs_ok (allB_at x 48 (f := fTIs "dict" "RefSort" false) rfl)
abbrev R : PySem.W.OpenRow := PySem.W.OpenLaw.row PySem.Challenge.rw_oneheap_k02_shapes_hold_values
abbrev hk : PySem.W.Hook := He.hookX 5 fa fn [] [] (allB exs)
def ob (s : PySem.W.SharedT) : He.AlX := He.obsX 5 fa fn [] [] (allB exs) (HandSHeadRun.getT s)
theorem ob_eq (s : PySem.W.SharedT) : ob s = hk.obs s.abs := He.obsX_eq (HandSHeadRun.getT_eq s)
def nm : List Str := ["_wall", "is_whole", "IntSort", "TextSort", "ChoiceSort", "RefSort", "ListSort", "is_link", "is_list", "is_reference", "blank", "_law_cells", "_law_draw", "_law_pick", "_law_shape", "_law_object", "_law_due"]
theorem run (w : World) : HandSHeadRun.RunEq R (PySem.W.view R.prog [19]) hk ob 4000 nm w := by
  intro os
  kernel_rfl
end Lw

local macro_rules | `(tactic| walk_at "go1") => `(tactic| first
  | with_reducible refine G.g_seq ?_
  | (with_reducible show L2.tVar _ _ _ _; refine G.g_var rfl ?_)
  | with_reducible refine G.g_c ?_
  | with_reducible refine G.g_op ?_
  | with_reducible refine G.g_asg ?_
  | with_reducible refine G.g_if ?_
  | with_reducible refine G.g_test ?_
  | with_reducible refine G.g_k ?_
  | with_reducible refine G.g_tru ?_
  | with_reducible refine G.v_truB ?_
  | with_reducible refine G.v_truN ?_
  | with_reducible refine L2.iteT ?_
  | with_reducible refine L2.iteF ?_
  | with_reducible refine G.iteNT ?_
  | with_reducible refine G.iteNF ?_
  | with_reducible refine G.v_addI ?_
  | with_reducible refine G.v_sub ?_
  | with_reducible refine G.v_lt ?_
  | with_reducible refine G.v_le ?_
  | with_reducible refine G.v_gt ?_
  | with_reducible refine G.v_ge ?_
  | with_reducible refine G.v_eqI ?_
  | with_reducible refine G.v_eqS ?_
  | with_reducible refine G.v_eqB ?_
  | with_reducible refine G.v_neI ?_
  | with_reducible refine G.v_neS ?_
  | with_reducible refine G.v_neB ?_
  | with_reducible refine G.v_inS ?_
  | with_reducible refine G.v_notInS ?_
  | with_reducible refine G.v_isN ?_
  | with_reducible refine G.v_isNotN ?_
  | with_reducible refine G.v_isB ?_
  | with_reducible refine G.v_isNotB ?_
  | with_reducible refine G.g_chain ?_
  | with_reducible refine G.v_find ?_
  | with_reducible refine G.g_meth1 ?_
  | with_reducible refine G.g_yes ?_
  | with_reducible refine G.g_lstRg ?_
  | with_reducible refine G.v_intI ?_
  | with_reducible refine G.g_callB ?_
  | with_reducible refine G.g_call ?_
  | with_reducible refine G.g_nil ?_
  | with_reducible refine G.g_cons ?_
  | with_reducible refine G.g_and ?_
  | with_reducible refine G.g_or ?_
  | with_reducible refine G.g_not ?_
  | with_reducible refine G.g_andV ?_
  | with_reducible refine G.g_orV ?_
  | with_reducible refine G.g_notV ?_
  | with_reducible refine G.g_ifE ?_
  | with_reducible refine G.g_un ?_
  | with_reducible refine G.g_tup ?_
  | with_reducible refine G.g_lst ?_
  | with_reducible refine G.g_small (Nat.le_of_ble_eq_true rfl) ?_
  | with_reducible refine G.g_drop ?_
  | with_reducible refine G.g_ret ?_
  | with_reducible refine G.g_retN ?_
  | with_reducible refine G.g_next ?_
  | with_reducible refine G.g_brk ?_
  | with_reducible refine G.g_cont ?_
  | with_reducible refine G.g_for ?_
  | with_reducible refine G.g_name ?_
  | with_reducible refine G.g_rng1 ?_
  | with_reducible refine G.g_rng2 ?_
  | with_reducible refine G.g_bm ?_
  | with_reducible refine G.g_bm0 ?_
  | with_reducible refine G.g_tyS ?_
  | with_reducible refine G.g_m1 ?_
  | with_reducible refine G.g_isS ?_
  | with_reducible refine G.v_starts3 ?_
  | with_reducible refine G.g_sl ?_
  | with_reducible refine G.g_no ?_
  | with_reducible refine G.g_part ?_
  | with_reducible refine G.g_isI ?_
  | with_reducible refine G.g_make ?_
  | with_reducible refine G.g_fld ?_
  | with_reducible refine G.g_sfld ?_
  | with_reducible refine G.g_asgG ?_
  | with_reducible refine G.g_sub ?_
  | with_reducible refine G.g_gcons ?_
  | with_reducible refine G.g_gnil ?_
  | with_reducible refine G.v_mulI (by unfold L2.CMul; first | (left; omega) | (right; omega)) ?_
  | with_reducible refine G.v_mod (by omega) ?_
  | with_reducible refine G.v_div (by unfold L2.CDiv; omega) ?_)
local macro_rules | `(tactic| walk_at "go") => `(tactic| repeat walk_at "go1")

namespace Lw
open PySem PySem.Spec PyProof.Rows L2 G
section
variable {K : PySem.W.Frag} {H : Hp} {Q : VK} {E : XK}
theorem rd_cells {a : Addr} {ns : List Int} {n : Nat} (hS : SqL K H a (ns.map V.int)) (hn : n ≤ 64)
    (q : ∀ p xs H', H p = none → H' p = some (.lst ((xs : List Int).map V.int)) → xs.length = n → Same H H' → Q (.ref p) H') : sp__law_cells K [.ref a, .int (n : Int)] H Q E := by
  refine ⟨rfl, ?_⟩
  unfold t__law_cells
  walk_at "go"
  intro p hp
  walk_at "go"
  refine g_rngN (n := n) (by omega) ?_
  refine l_range (fun i σ H' => i ≤ n ∧ ∃ (xs : List Int) (v4 v5 : Option V), xs.length = i ∧ σ = [some (.ref a), some (.int n), some (.ref p), v4, v5] ∧ H' p = some (.lst (xs.map V.int)) ∧ Same H H')
    ⟨Nat.zero_le _, [], none, none, rfl, rfl, upd_same, same_new hp⟩ ?_ ?_
  · rintro i σ H' hi ⟨_, xs, v4, v5, hl, rfl, hx, hs⟩
    walk_at "go"
    refine g_cut (fun σ' H'' => H' = H'' ∧ ∃ c : Int, σ' = [some (.ref a), some (.int n), some (.ref p), some (.int (0 + i)), some (.int c)]) ?_ ?_
    · walk_at "go"
      refine v_lenSq (hs.seq hS) ?_
      walk_at "go"
      refine ite2 (fun hlt => ?_) (fun hlt => ?_)
      · have hlt' := of_decide_eq_true hlt
        rw [List.length_map] at hlt'
        walk_at "go"
        refine v_ixSq (hs.seq hS) (atN (i := i) (by omega) (List.getElem?_eq_getElem (by rw [List.length_map]; omega))) ?_
        rw [List.getElem_map]
        walk_at "go"
        refine ite2 (fun h0 => ?_) (fun h0 => ?_)
        · walk_at "go"
          exact ⟨rfl, _, rfl⟩
        · walk_at "go"
          exact ⟨rfl, _, rfl⟩
      · walk_at "go"
        exact ⟨rfl, _, rfl⟩
    rintro σ' H'' ⟨rfl, c, rfl⟩
    refine g_cut (fun σ' H'' => H' = H'' ∧ ∃ c : Int, σ' = [some (.ref a), some (.int n), some (.ref p), some (.int (0 + i)), some (.int c)]) ?_ ?_
    · walk_at "go"
      refine ite2 (fun hlt => ?_) (fun hlt => ?_)
      · walk_at "go"
        exact ⟨rfl, _, rfl⟩
      · walk_at "go"
        exact ⟨rfl, _, rfl⟩
    rintro σ' H'' ⟨rfl, c, rfl⟩
    walk_at "go"
    refine g_tyL hx ?_
    walk_at "go"
    refine v_append hx (by rw [List.length_map]; exact small1000 (by omega)) ?_
    refine ⟨by omega, xs ++ [c], some (.int (0 + i)), some (.int c), by simp [hl], rfl, by rw [List.map_append]; exact upd_same, fun b o e => ?_⟩
    rw [upd_ne (ne_of_none e hp)]
    exact hs b o e
  · rintro σ H' ⟨_, xs, v4, v5, hl, rfl, hx, hs⟩
    walk_at "go"
    exact q p xs _ hp hx hl hs
/-- the draws: a list of ints, not empty -/
def Dr (d : Addr) (H : Hp) : Prop := ∃ xs : List Int, xs ≠ [] ∧ xs.length ≤ 64 ∧ H d = some (.lst (xs.map V.int))
theorem rd_draw {d : Addr} {b : Int} (hd : Dr d H) (hb : 0 < b ∧ b < 1073741824) (q : ∀ v H', 0 ≤ v → v < b → Dr d H' → Sb d H H' → Q (.int v) H') : sp__law_draw K [.ref d, .int b] H Q E := by
  obtain ⟨xs, hx, hxl, hd⟩ := hd
  refine ⟨rfl, ?_⟩
  unfold t__law_draw
  refine g_cut (fun σ' H' => σ' = [some (.ref d), some (.int b), none] ∧ Sb d H H' ∧ ∃ (y : Int) (ys : List Int), ys.length + 1 ≤ 64 ∧ H' d = some (.lst ((y :: ys).map V.int))) ?_ ?_
  · obtain ⟨y, ys, rfl⟩ : ∃ y ys, xs = y :: ys := by
      cases xs with
      | nil => exact absurd rfl hx
      | cons y ys => exact ⟨y, ys, rfl⟩
    have fin : ∀ {A B : Prop}, A → B → A ∧ B := fun a b => ⟨a, b⟩
    walk_at "go"
    refine v_ixL hd (atN (i := 0) rfl rfl) ?_
    walk_at "go"
    refine ite2 (fun h0 => ?_) (fun h0 => ?_)
    · walk_at "go"
      refine v_lenL hd ?_
      walk_at "go"
      refine ite2 (fun h1 => ?_) (fun h1 => ?_)
      · have h1' := of_decide_eq_true h1
        rw [List.length_map] at h1'
        cases ys with
        | nil => simp at h1'
        | cons z zs =>
          walk_at "go"
          refine g_tyL hd ?_
          walk_at "go"
          refine .inr ⟨_, _, 0, 0, _, rfl, rfl, hd, by decide, by decide, (ixN_seq (j := 0) (by simp [ixN]; omega)).1, rfl, ?_⟩
          exact ⟨rfl, Sb.upd, z, zs, by simp at hxl ⊢; omega, upd_same⟩
      · walk_at "go"
        exact ⟨rfl, Sb.refl, y, ys, hxl, hd⟩
    · walk_at "go"
      exact ⟨rfl, Sb.refl, y, ys, hxl, hd⟩
  rintro σ' H' ⟨rfl, hs, y, ys, hl, hd'⟩
  walk_at "go"
  refine v_ixL hd' (atN (i := 0) rfl rfl) ?_
  walk_at "go"
  refine v_ixL hd' (atN (i := 0) rfl rfl) ?_
  walk_at "go"
  refine v_setL (j := 0) hd' (by simp [ixN]) ?_
  walk_at "go"
  exact q _ _ (Int.emod_nonneg _ (by omega)) (Int.emod_lt_of_pos _ hb.1) ⟨y / b :: ys, by simp, by simpa using hl, upd_same⟩ (hs.trans Sb.upd)
end
end Lw

namespace Lw
open PySem PySem.Spec PyProof.Rows L2 G
theorem sl_const : sizeLine = 16777216 := sizeLine_eq
theorem lk_cons (f g : Str) (y : V) (fs : List (Str × V)) : ((f, y) :: fs).lookup g = if g = f then some y else fs.lookup g := by
  by_cases h : g = f
  · subst h
    simp [List.lookup]
  · have e : (g == f) = false := by simpa using h
    rw [if_neg h]
    simp [List.lookup, e]
theorem putF_lt {f : Str} {v : V} {n : Nat} : ∀ {fs : List (Str × V)}, fs.length < n → (putF f v fs).length < n + 1
  | [], h => by simp [putF]; omega
  | (g, z) :: r, h => by
    unfold putF
    split
    · simp only [List.length_cons] at h ⊢; omega
    · cases n with
      | zero => simp at h
      | succ n =>
        have := putF_lt (f := f) (v := v) (n := n) (fs := r) (by simpa using h)
        simp only [List.length_cons]
        omega
theorem at_some {α : Type} {xs : List α} {n : Int} (h0 : 0 ≤ n) (h1 : n < xs.length) : ∃ c, xs[n.toNat]? = some c ∧ atI xs n = some c := by
  obtain ⟨i, rfl⟩ := Int.eq_ofNat_of_zero_le h0
  have hi : i < xs.length := by omega
  exact ⟨xs[i], by simp [hi], atI_nat (by simp [hi])⟩
/-- a single value whose text is not long -/
def Fl (v : V) : Prop := flatV v = true ∧ ∀ z, v = .str z → z.length ≤ 100
/-- the shapes -/
inductive Sh where
  | int (lo hi : Int)
  | text (n : Int) (w : Option Nat)
  | one (cs : List V)
  | lst
  | ref
def wV : Option Nat → V
  | none => .non
  | some c => .str ⟨#[c]⟩
/-- the law's tuple of a shape -/
def ShAt (H : Hp) (t : Addr) : Sh → Prop
  | .int lo hi => H t = some (.tup [.str "int", .int lo, .int hi]) ∧ -100 ≤ lo ∧ hi ≤ 100 ∧ lo ≤ 100 ∧ -100 ≤ hi
  | .text n w => H t = some (.tup [.str "text", .int n, wV w])
  | .one cs => ∃ l, H t = some (.tup [.str "one", .ref l]) ∧ H l = some (.lst cs) ∧ cs.all flatV = true
  | .lst => ∃ l ks, H t = some (.tup [.str "list", .ref l]) ∧ H l = some (.lst ks)
  | .ref => ∃ l ks r, H t = some (.tup [.str "ref", .ref l, r]) ∧ H l = some (.lst ks)
theorem ShAt.same {H H' : Hp} {t : Addr} {s : Sh} (h : ShAt H t s) (k : Same H H') : ShAt H' t s := by
  cases s with
  | int lo hi => exact ⟨k _ _ h.1, h.2⟩
  | text n w => exact k _ _ h
  | one cs => obtain ⟨l, a, b, c⟩ := h; exact ⟨l, k _ _ a, k _ _ b, c⟩
  | lst => obtain ⟨l, ks, a, b⟩ := h; exact ⟨l, ks, k _ _ a, k _ _ b⟩
  | ref => obtain ⟨l, ks, r, a, b⟩ := h; exact ⟨l, ks, r, k _ _ a, k _ _ b⟩
/-- the object -/
def ObAt (K : PySem.W.Frag) (H : Hp) (o : Addr) : Sh → Prop
  | .int lo hi => ∃ dx, H o = some (.ins (He.ga K "IntSort") dx [("low", .int lo), ("high", .int hi)])
  | .text n w => ∃ dx, H o = some (.ins (He.ga K "TextSort") dx [("longest", .int n), ("without", wV w)])
  | .one cs => ∃ dx l, H o = some (.ins (He.ga K "ChoiceSort") dx [("choices", .ref l)]) ∧ H l = some (.lst cs)
  | .lst => ∃ dx l, H o = some (.ins (He.ga K "ListSort") dx [("kinds", .ref l)])
  | .ref => ∃ dx l r, H o = some (.ins (He.ga K "RefSort") dx [("kinds", .ref l), ("rule", r)])
theorem ObAt.same {K : PySem.W.Frag} {H H' : Hp} {o : Addr} {s : Sh} (h : ObAt K H o s) (k : Same H H') : ObAt K H' o s := by
  cases s with
  | int lo hi => obtain ⟨dx, a⟩ := h; exact ⟨dx, k _ _ a⟩
  | text n w => obtain ⟨dx, a⟩ := h; exact ⟨dx, k _ _ a⟩
  | one cs => obtain ⟨dx, l, a, b⟩ := h; exact ⟨dx, l, k _ _ a, k _ _ b⟩
  | lst => obtain ⟨dx, l, a⟩ := h; exact ⟨dx, l, k _ _ a⟩
  | ref => obtain ⟨dx, l, r, a⟩ := h; exact ⟨dx, l, r, k _ _ a⟩
def woM (w : Option Nat) (z : Str) : Bool := match w with
  | none => true
  | some c => !decide (c ∈ z.cps.toList)
def Sh.nm : Sh → Str
  | .int _ _ => "int"
  | .text _ _ => "text"
  | .one _ => "one"
  | .lst => "list"
  | .ref => "ref"
def hm : Sh → V → Bool
  | .int lo hi, .int i => decide (lo ≤ i) && decide (i ≤ hi)
  | .text n w, .str z => decide ((z.length : Int) ≤ n) && woM w z
  | .one cs, .str z => inV (.str z) cs
  | .lst, _ => false
  | _, .non => true
  | _, _ => false
theorem find_neg (z : Str) (c : Nat) : decide (Txt.find z ⟨#[c]⟩ < 0) = !decide (c ∈ z.cps.toList) := by
  have h := PySem.StrLaws.found_one z c
  rw [← h]
  unfold Txt.find
  cases Builtin.Str.occurrences z ⟨#[c]⟩ 0 z.length 1 with
  | nil => simp
  | cons k r => simp
theorem inV_rg (i a b : Int) : inV (.int i) (rgV a b) = (decide (a ≤ i) && decide (i < b)) := by
  unfold inV rgV
  rw [List.any_map]
  by_cases h : a ≤ i ∧ i < b
  · rw [decide_eq_true h.1, decide_eq_true h.2]
    refine List.any_eq_true.mpr ⟨(i - a).toNat, List.mem_range.mpr (by omega), ?_⟩
    show ((a + ((i - a).toNat : Int)) == i) = true
    simp
    omega
  · have : (decide (a ≤ i) && decide (i < b)) = false := by
      by_cases h1 : a ≤ i
      · have h2 : ¬ i < b := fun z => h ⟨h1, z⟩
        simp [h2]
      · simp [h1]
    rw [this]
    refine List.any_eq_false.mpr fun k hk => ?_
    have hk' := List.mem_range.mp hk
    show ¬ ((a + (k : Int)) == i) = true
    simp
    omega
section
variable {K : PySem.W.Frag} {H : Hp} {Q : VK} {E : XK} {mg : Str → Option Value}
end
end Lw

namespace Lw
open PySem PySem.Spec PyProof.Rows L2 G
theorem nl (f : Str) : True := trivial
section
variable {K : PySem.W.Frag} {H : Hp} {Q : VK} {E : XK} {mg : Str → Option Value}
theorem rd_whole {v : V} (f : flatV v = true) (q : Q (.bl (isI v && !isB v)) H) : sp_is_whole K [v] H Q E := by
  refine ⟨rfl, ?_⟩
  unfold t_is_whole
  walk_at "go"
  refine v_isiI f ?_
  walk_at "go"
  cases h : isI v with
  | false => rw [h] at q; exact q
  | true =>
    rw [h] at q
    walk_at "go"
    refine v_isiB f ?_
    walk_at "go"
    exact q
theorem rd_holdsI (T : Tx K mg) {o : Addr} {lo hi : Int} {v : V} (ho : ObAt K H o (.int lo hi)) (f : flatV v = true) (q : Q (.bl (hm (.int lo hi) v)) H) : sp_IntSort_holds K [.ref o, v] H Q E := by
  obtain ⟨dx, ho⟩ := ho
  refine ⟨rfl, ?_⟩
  unfold t_IntSort_holds
  walk_at "go"
  cases v with
  | non =>
    rw [decide_eq_true rfl]
    walk_at "go"
    exact q
  | bl b =>
    rw [decide_eq_false (fun z => nomatch z)]
    walk_at "go"
    refine rd_whole rfl ?_
    walk_at "go"
    exact q
  | str z =>
    rw [decide_eq_false (fun z => nomatch z)]
    walk_at "go"
    refine rd_whole rfl ?_
    walk_at "go"
    exact q
  | int i =>
    rw [decide_eq_false (fun z => nomatch z)]
    walk_at "go"
    refine rd_whole rfl ?_
    walk_at "go"
    rw [show (isI (V.int i) && !isB (V.int i)) = true from rfl]
    walk_at "go"
    refine v_fld ho T.cl_IntSort T.no_IntSort_low (by rw [lk_cons, if_pos rfl]) ?_
    walk_at "go"
    by_cases h : lo ≤ i
    · rw [decide_eq_true h]
      walk_at "go"
      refine v_fld ho T.cl_IntSort T.no_IntSort_high (by rw [lk_cons, if_neg (by decide +kernel), lk_cons, if_pos rfl]) ?_
      walk_at "go"
      have e : hm (.int lo hi) (.int i) = (decide (lo ≤ i) && decide (i ≤ hi)) := rfl
      rw [e, decide_eq_true h, Bool.true_and] at q
      exact q
    · rw [decide_eq_false h]
      walk_at "go"
      have e : hm (.int lo hi) (.int i) = (decide (lo ≤ i) && decide (i ≤ hi)) := rfl
      rw [e, decide_eq_false h, Bool.false_and] at q
      exact q
  | _ => exact absurd (show false = true from f) Bool.false_ne_true
theorem rd_holdsT (T : Tx K mg) {o : Addr} {n : Int} {w : Option Nat} {v : V} (ho : ObAt K H o (.text n w)) (f : Fl v) (q : Q (.bl (hm (.text n w) v)) H) : sp_TextSort_holds K [.ref o, v] H Q E := by
  obtain ⟨dx, ho⟩ := ho
  obtain ⟨f, f2⟩ := f
  refine ⟨rfl, ?_⟩
  unfold t_TextSort_holds
  walk_at "go"
  cases v with
  | non =>
    rw [decide_eq_true rfl]
    walk_at "go"
    exact q
  | bl b =>
    rw [decide_eq_false (fun z => nomatch z)]
    walk_at "go"
    refine v_isiS rfl ?_
    show TruK K (.bl false) _ _
    walk_at "go"
    exact q
  | int b =>
    rw [decide_eq_false (fun z => nomatch z)]
    walk_at "go"
    refine v_isiS rfl ?_
    show TruK K (.bl false) _ _
    walk_at "go"
    exact q
  | str z =>
    have hz := f2 z rfl
    rw [decide_eq_false (fun z => nomatch z)]
    walk_at "go"
    refine v_isiS rfl ?_
    show TruK K (.bl true) _ _
    walk_at "go"
    refine v_lenS (by rw [sl_const]; omega) ?_
    walk_at "go"
    refine v_fld ho T.cl_TextSort T.no_TextSort_longest (by rw [lk_cons, if_pos rfl]) ?_
    walk_at "go"
    have e : hm (.text n w) (.str z) = (decide ((z.length : Int) ≤ n) && woM w z) := rfl
    rw [e] at q
    refine ite2 (fun h => ?_) (fun h => ?_)
    · have h' := of_decide_eq_true h
      rw [decide_eq_false (by omega), Bool.false_and] at q
      walk_at "go"
      exact q
    · have h' : ¬ n < (z.length : Int) := fun y => h (decide_eq_true y)
      rw [decide_eq_true (by omega), Bool.true_and] at q
      walk_at "go"
      refine v_fld ho T.cl_TextSort T.no_TextSort_without (by rw [lk_cons, if_neg (by decide +kernel), lk_cons, if_pos rfl]) ?_
      walk_at "go"
      cases w with
      | none =>
        rw [show decide (wV none = V.non) = true from decide_eq_true rfl]
        walk_at "go"
        exact q
      | some c =>
        rw [show decide (wV (some c) = V.non) = false from decide_eq_false (fun z => nomatch z)]
        walk_at "go"
        refine v_fld ho T.cl_TextSort T.no_TextSort_without (by rw [lk_cons, if_neg (by decide +kernel), lk_cons, if_pos rfl]) ?_
        walk_at "go"
        refine v_notInS ?_
        exact q
  | _ => exact absurd (show false = true from f) Bool.false_ne_true
theorem rd_holdsC (T : Tx K mg) {o : Addr} {cs : List V} {v : V} (ho : ObAt K H o (.one cs)) (hc : cs.all flatV = true) (f : flatV v = true) (q : Q (.bl (hm (.one cs) v)) H) : sp_ChoiceSort_holds K [.ref o, v] H Q E := by
  obtain ⟨dx, l, ho, hl⟩ := ho
  refine ⟨rfl, ?_⟩
  unfold t_ChoiceSort_holds
  walk_at "go"
  cases v with
  | non =>
    rw [decide_eq_true rfl]
    walk_at "go"
    exact q
  | bl b =>
    rw [decide_eq_false (fun z => nomatch z)]
    walk_at "go"
    refine v_isiS rfl ?_
    show TestK (.bl false) _ _
    walk_at "go"
    exact q
  | int b =>
    rw [decide_eq_false (fun z => nomatch z)]
    walk_at "go"
    refine v_isiS rfl ?_
    show TestK (.bl false) _ _
    walk_at "go"
    exact q
  | str z =>
    rw [decide_eq_false (fun z => nomatch z)]
    walk_at "go"
    refine v_isiS rfl ?_
    show TestK (.bl true) _ _
    walk_at "go"
    refine v_fld ho T.cl_ChoiceSort T.no_ChoiceSort_choices (by rw [lk_cons, if_pos rfl]) ?_
    refine v_inL (SqL.of hl) rfl hc ?_
    exact q
  | _ => exact absurd (show false = true from f) Bool.false_ne_true
theorem rd_holdsL {o : Addr} {v : V} (q : Q (.bl false) H) : sp_ListSort_holds K [.ref o, v] H Q E := by
  refine ⟨rfl, ?_⟩
  unfold t_ListSort_holds
  walk_at "go"
  exact q
theorem rd_holdsR {o : Addr} {v : V} (q : Q (.bl (decide (v = .non))) H) : sp_RefSort_holds K [.ref o, v] H Q E := by
  refine ⟨rfl, ?_⟩
  unfold t_RefSort_holds
  walk_at "go"
  exact q
theorem nmf {s : Sh} {a b : Str} (e : s.nm = a) (h : decide (a = b) = false) : decide (s.nm = b) = false := by
  rw [e]; exact h
theorem nmt {s : Sh} {b : Str} (e : s.nm = b) : decide (s.nm = b) = true := decide_eq_true e
theorem eqn {a b : Str} (h : ¬ a = b) {A B : Prop} (q : B) : if decide (a = b) = true then A else B := by
  rw [decide_eq_false h]
  exact iteF q
theorem rd_due (T : Tx K mg) {t : Addr} {s : Sh} {v : V} (hs : ShAt H t s) (f : Fl v) (q : ∀ H', Same H H' → Q (.bl (hm s v)) H') : sp__law_due K [.ref t, v] H Q E := by
  obtain ⟨f, f2⟩ := f
  have q0 := q H (Same.refl H)
  refine ⟨rfl, ?_⟩
  unfold t__law_due
  walk_at "go"
  -- the tuple and its first item
  obtain ⟨nm, rest, ht, hn⟩ : ∃ (nm : Str) (rest : List V), H t = some (.tup (.str nm :: rest)) ∧ nm = s.nm := by
    cases s with
    | int lo hi => exact ⟨_, _, hs.1, rfl⟩
    | text n w => exact ⟨_, _, hs, rfl⟩
    | one cs => obtain ⟨l, a, b, c⟩ := hs; exact ⟨_, _, a, rfl⟩
    | lst => obtain ⟨l, ks, a, b⟩ := hs; exact ⟨_, _, a, rfl⟩
    | ref => obtain ⟨l, ks, r, a, b⟩ := hs; exact ⟨_, _, a, rfl⟩
  by_cases hv : v = .non
  · subst hv
    rw [decide_eq_true rfl]
    walk_at "go"
    refine v_ixT ht (atN (i := 0) rfl rfl) ?_
    walk_at "go"
    subst hn
    cases s with
    | int lo hi => rw [nmf (a := "int") rfl (by decide +kernel)]; exact q0
    | text n w => rw [nmf (a := "text") rfl (by decide +kernel)]; exact q0
    | one cs => rw [nmf (a := "one") rfl (by decide +kernel)]; exact q0
    | lst => rw [nmt (s := Sh.lst) (b := "list") rfl]; exact q0
    | ref => rw [nmf (a := "ref") rfl (by decide +kernel)]; exact q0
  rw [decide_eq_false hv]
  walk_at "go"
  by_cases hb : ∃ b, v = .bl b
  · obtain ⟨b, rfl⟩ := hb
    cases b with
    | true =>
      have e : hm s (.bl true) = false := by cases s <;> rfl
      rw [e] at q0
      rw [decide_eq_true rfl]
      walk_at "go"
      exact q0
    | false =>
      have e : hm s (.bl false) = false := by cases s <;> rfl
      rw [e] at q0
      rw [decide_eq_false (by decide)]
      walk_at "go"
      rw [decide_eq_true rfl]
      walk_at "go"
      exact q0
  rw [decide_eq_false (fun z => hb ⟨_, z⟩)]
  walk_at "go"
  rw [decide_eq_false (fun z => hb ⟨_, z⟩)]
  walk_at "go"
  refine v_ixT ht (atN (i := 0) rfl rfl) ?_
  walk_at "go"
  subst hn
  cases s with
  | int lo hi =>
    obtain ⟨hs, b1, b2, b3, b4⟩ := hs
    rw [nmt (b := "int") rfl]
    walk_at "go"
    refine v_isiI f ?_
    cases v with
    | int i =>
      show TestK (.bl true) _ _
      walk_at "go"
      refine v_ixT hs (atN (i := 1) rfl rfl) ?_
      walk_at "go"
      refine v_ixT hs (atN (i := 2) rfl rfl) ?_
      walk_at "go"
      refine ⟨_, _, rfl, rfl, ⟨by omega, by omega, by omega, by omega, by omega⟩, fun l hl => ?_⟩
      refine v_inL (SqL.of upd_same) rfl ?_ ?_
      · refine List.all_eq_true.mpr fun x hx => ?_
        obtain ⟨k, _, e⟩ := List.mem_map.mp hx
        rw [← e]; rfl
      · rw [inV_rg]
        have e : (decide (lo ≤ i) && decide (i < hi + 1)) = hm (.int lo hi) (.int i) := by
          show _ = (decide (lo ≤ i) && decide (i ≤ hi))
          congr 1
          exact decide_eq_decide.mpr (by omega)
        rw [e]
        exact q _ (same_new hl)
    | str z =>
      show TestK (.bl false) _ _
      walk_at "go"
      exact q0
    | non => exact absurd rfl hv
    | bl b => exact absurd ⟨b, rfl⟩ hb
    | _ => exact absurd (show false = true from f) Bool.false_ne_true
  | text n w =>
    rw [nmf (a := "text") rfl (by decide +kernel)]
    walk_at "go"
    refine v_ixT ht (atN (i := 0) rfl rfl) ?_
    walk_at "go"
    rw [nmt (b := "text") rfl]
    walk_at "go"
    refine v_isiS f ?_
    have hs' : H t = some (.tup [.str "text", .int n, wV w]) := hs
    cases v with
    | str z =>
      show TestK (.bl true) _ _
      walk_at "go"
      have hz := f2 z rfl
      refine v_lenS (by rw [sl_const]; omega) ?_
      walk_at "go"
      refine v_ixT hs' (atN (i := 1) rfl rfl) ?_
      walk_at "go"
      have e : hm (.text n w) (.str z) = (decide ((z.length : Int) ≤ n) && woM w z) := rfl
      rw [e] at q0
      refine ite2 (fun h => ?_) (fun h => ?_)
      · rw [decide_eq_true (of_decide_eq_true h), Bool.true_and] at q0
        walk_at "go"
        refine v_ixT hs' (atN (i := 2) rfl rfl) ?_
        walk_at "go"
        cases w with
        | none =>
          rw [show decide (wV none = V.non) = true from decide_eq_true rfl]
          walk_at "go"
          exact q0
        | some c =>
          rw [show decide (wV (some c) = V.non) = false from decide_eq_false (fun z => nomatch z)]
          walk_at "go"
          refine v_ixT hs' (atN (i := 2) rfl rfl) ?_
          walk_at "go"
          refine v_find ?_
          walk_at "go"
          rw [find_neg]
          exact q0
      · have h' : ¬ (z.length : Int) ≤ n := fun y => h (decide_eq_true y)
        rw [decide_eq_false h', Bool.false_and] at q0
        exact q0
    | int z =>
      show TestK (.bl false) _ _
      walk_at "go"
      exact q0
    | non => exact absurd rfl hv
    | bl b => exact absurd ⟨b, rfl⟩ hb
    | _ => exact absurd (show false = true from f) Bool.false_ne_true
  | one cs =>
    obtain ⟨l, hs, hl, hc⟩ := hs
    rw [nmf (a := "one") rfl (by decide +kernel)]
    walk_at "go"
    refine v_ixT ht (atN (i := 0) rfl rfl) ?_
    walk_at "go"
    rw [nmf (a := "one") rfl (by decide +kernel)]
    walk_at "go"
    refine v_ixT ht (atN (i := 0) rfl rfl) ?_
    walk_at "go"
    rw [nmt (b := "one") rfl]
    walk_at "go"
    refine v_isiS f ?_
    cases v with
    | str z =>
      show TestK (.bl true) _ _
      walk_at "go"
      refine v_ixT hs (atN (i := 1) rfl rfl) ?_
      refine v_inL (SqL.of hl) rfl hc ?_
      exact q0
    | int z =>
      show TestK (.bl false) _ _
      walk_at "go"
      exact q0
    | non => exact absurd rfl hv
    | bl b => exact absurd ⟨b, rfl⟩ hb
    | _ => exact absurd (show false = true from f) Bool.false_ne_true
  | lst =>
    rw [nmf (a := "list") rfl (by decide +kernel)]
    walk_at "go"
    refine v_ixT ht (atN (i := 0) rfl rfl) ?_
    walk_at "go"
    rw [nmf (a := "list") rfl (by decide +kernel)]
    walk_at "go"
    refine v_ixT ht (atN (i := 0) rfl rfl) ?_
    walk_at "go"
    rw [nmf (a := "list") rfl (by decide +kernel)]
    walk_at "go"
    exact q0
  | ref =>
    rw [nmf (a := "ref") rfl (by decide +kernel)]
    walk_at "go"
    refine v_ixT ht (atN (i := 0) rfl rfl) ?_
    walk_at "go"
    rw [nmf (a := "ref") rfl (by decide +kernel)]
    walk_at "go"
    refine v_ixT ht (atN (i := 0) rfl rfl) ?_
    walk_at "go"
    rw [nmf (a := "ref") rfl (by decide +kernel)]
    walk_at "go"
    have e : hm .ref v = false := by
      cases v with
      | non => exact absurd rfl hv
      | _ => rfl
    rw [e] at q0
    exact q0
end
end Lw

namespace Lw
open PySem PySem.Spec PyProof.Rows L2 G
theorem Dr.same {d : Addr} {H H' : Hp} (h : Dr d H) (s : Same H H') : Dr d H' := by
  obtain ⟨xs, h1, h2, h3⟩ := h
  exact ⟨xs, h1, h2, s _ _ h3⟩
theorem Dr.new {d p : Addr} {H : Hp} {o : HO} (h : Dr d H) (n : H p = none) : Dr d (upd H p o) := h.same (same_new n)
theorem Dr.ne {d p : Addr} {H : Hp} (h : Dr d H) (n : H p = none) : p ≠ d := by
  obtain ⟨xs, _, _, h3⟩ := h
  exact (ne_of_none h3 n).symm
section
variable {K : PySem.W.Frag} {H : Hp} {Q : VK} {E : XK} {mg : Str → Option Value}
theorem rd_pick {d r : Addr} {xs : List V} (hd : Dr d H) (hr : H r = some (.lst xs)) (ne : r ≠ d) (h0 : 0 < xs.length) (hl : xs.length ≤ 1000) (q : ∀ v H', v ∈ xs → Dr d H' → Sb d H H' → Q v H') : sp__law_pick K [.ref d, .ref r] H Q E := by
  refine ⟨rfl, ?_⟩
  unfold t__law_pick
  walk_at "go"
  refine v_lenL hr ?_
  walk_at "go"
  refine rd_draw hd ⟨by omega, by omega⟩ fun v H' v0 v1 hd' hs' => ?_
  obtain ⟨c, hc, ha⟩ := at_some (xs := xs) v0 v1
  exact v_ixL (hs' _ _ ne hr) ha (q c H' (List.mem_of_getElem? hc) hd' hs')
theorem rd_shape {d nms : Addr} {ks : List V} (hd : Dr d H) (hn : H nms = some (.lst ks)) (ne : nms ≠ d) (hk : ks.length = 3) (q : ∀ t s H', ShAt H' t s → Q (.ref t) H') : sp__law_shape K [.ref d, .ref nms] H Q E := by
  refine ⟨rfl, ?_⟩
  unfold t__law_shape
  walk_at "go"
  refine rd_draw hd (by decide) fun ch H1 c0 c1 D1 s1 => ?_
  walk_at "go"
  refine ite2 (fun h => ?_) (fun _ => ?_)
  · walk_at "go"
    refine rd_draw D1 (by decide) fun lo H2 l0 l1 D2 s2 => ?_
    walk_at "go"
    refine rd_draw D2 (by decide) fun hi H3 h0 h1 D3 s3 => ?_
    walk_at "go"
    intro t ht
    exact q t (.int (lo - 3) (lo - 3 + hi)) _ ⟨upd_same, by omega, by omega, by omega, by omega⟩
  walk_at "go"
  refine ite2 (fun h => ?_) (fun _ => ?_)
  · walk_at "go"
    refine rd_draw D1 (by decide) fun n H2 l0 l1 D2 s2 => ?_
    walk_at "go"
    intro r hr
    walk_at "go"
    refine rd_pick (D2.new hr) upd_same (D2.ne hr) (by decide) (by decide) fun v H3 hv D3 s3 => ?_
    walk_at "go"
    intro t ht
    obtain ⟨w, hw⟩ : ∃ w, v = wV w := by
      have e1 : ("," : Str) = ⟨#[44]⟩ := by decide +kernel
      have e2 : ("\"" : Str) = ⟨#[34]⟩ := by decide +kernel
      simp only [List.mem_cons, List.not_mem_nil, or_false] at hv
      rcases hv with h | h | h | h
      · exact ⟨none, h⟩
      · exact ⟨none, h⟩
      · exact ⟨some 44, by rw [h, e1]; rfl⟩
      · exact ⟨some 34, by rw [h, e2]; rfl⟩
    rw [hw]
    exact q t (.text (1 + n) w) _ upd_same
  walk_at "go"
  refine ite2 (fun h => ?_) (fun _ => ?_)
  · walk_at "go"
    intro r hr
    walk_at "go"
    refine rd_draw (D1.new hr) (by decide) fun n H2 l0 l1 D2 s2 => ?_
    walk_at "go"
    refine v_slL (s2 _ _ (D1.ne hr) upd_same) fun l hl => ?_
    walk_at "go"
    intro t ht
    refine q t (.one _) _ ⟨l, upd_same, up_new upd_same ht, ?_⟩
    refine List.all_eq_true.mpr fun x hx => ?_
    have hx2 := List.mem_of_mem_drop (List.mem_of_mem_take hx)
    simp only [List.mem_cons, List.not_mem_nil, or_false] at hx2
    rcases hx2 with h | h | h | h <;> (rw [h]; rfl)
  walk_at "go"
  have n1 := s1 _ _ ne hn
  refine v_lenL n1 ?_
  rw [hk]
  walk_at "go"
  refine rd_draw D1 (by decide) fun n H2 l0 l1 D2 s2 => ?_
  walk_at "go"
  have n2 := s2 _ _ ne n1
  refine v_cat n2 n2 (by rw [hk, sl_const]; decide) fun p hp => ?_
  walk_at "go"
  refine v_lenL (up_new n2 hp) ?_
  rw [hk]
  walk_at "go"
  refine rd_draw (D2.new hp) (by decide) fun m H3 m0 m1 D3 s3 => ?_
  walk_at "go"
  refine v_slL (s3 _ _ (D2.ne hp) upd_same) fun l hl => ?_
  walk_at "go"
  refine ite2 (fun h => ?_) (fun _ => ?_)
  · walk_at "go"
    intro t ht
    exact q t .lst _ ⟨l, _, upd_same, up_new upd_same ht⟩
  · walk_at "go"
    intro r hr
    walk_at "go"
    have D4 : Dr d (upd H3 l (.lst (cutV (ks ++ ks) (some n) (some (n + 1 + m))))) := D3.new hl
    refine rd_pick (D4.new hr) upd_same (D4.ne hr) (by decide) (by decide) fun v H4 hv D5 s5 => ?_
    walk_at "go"
    intro t ht
    have hl2 : H4 l = some (.lst (cutV (ks ++ ks) (some n) (some (n + 1 + m)))) := s5 _ _ (D3.ne hl) (up_new upd_same hr)
    exact q t .ref _ ⟨l, _, v, upd_same, up_new hl2 ht⟩
theorem putF2 {a b : Str} {x y : V} (h : ¬ a = b) : putF b y (putF a x []) = [(a, x), (b, y)] := by
  show (if a = b then _ else _) = _
  rw [if_neg h]
  rfl
theorem rd_object (T : Tx K mg) {t : Addr} {s : Sh} (hs : ShAt H t s) (q : ∀ o H', Same H H' → ObAt K H' o s → Q (.ref o) H') : sp__law_object K [.ref t] H Q E := by
  refine ⟨rfl, ?_⟩
  unfold t__law_object
  walk_at "go"
  obtain ⟨nm, rest, ht, hn⟩ : ∃ (nm : Str) (rest : List V), H t = some (.tup (.str nm :: rest)) ∧ nm = s.nm := by
    cases s with
    | int lo hi => exact ⟨_, _, hs.1, rfl⟩
    | text n w => exact ⟨_, _, hs, rfl⟩
    | one cs => obtain ⟨l, a, b, c⟩ := hs; exact ⟨_, _, a, rfl⟩
    | lst => obtain ⟨l, ks, a, b⟩ := hs; exact ⟨_, _, a, rfl⟩
    | ref => obtain ⟨l, ks, r, a, b⟩ := hs; exact ⟨_, _, a, rfl⟩
  subst hn
  refine v_ixT ht (atN (i := 0) rfl rfl) ?_
  walk_at "go"
  cases s with
  | int lo hi =>
    rw [nmt (b := "int") rfl]
    walk_at "go"
    refine v_ixT hs.1 (atN (i := 1) rfl rfl) ?_
    walk_at "go"
    refine v_ixT hs.1 (atN (i := 2) rfl rfl) ?_
    intro x dx hx hdx ne
    refine ⟨rfl, ?_⟩
    unfold t_IntSort_init
    walk_at "go"
    refine v_sfld upd_same T.cl_IntSort T.no_IntSort_low (by decide) ?_
    walk_at "go"
    refine v_sfld upd_same T.cl_IntSort T.no_IntSort_high (putF_lt (n := 999) (by decide)) ?_
    refine ⟨rfl, q x _ (fun b o e => ?_) ⟨dx, ?_⟩⟩
    · have n1 := ne_of_none e hx
      rw [upd_ne n1, upd_ne n1, upd_ne n1, upd_ne (ne_of_none e hdx)]
      exact e
    · rw [upd_same, putF2 (by decide +kernel)]
  | text n w =>
    have hs' : H t = some (.tup [.str "text", .int n, wV w]) := hs
    rw [nmf (a := "text") rfl (by decide +kernel)]
    walk_at "go"
    refine v_ixT ht (atN (i := 0) rfl rfl) ?_
    walk_at "go"
    rw [nmt (b := "text") rfl]
    walk_at "go"
    refine v_ixT hs' (atN (i := 1) rfl rfl) ?_
    walk_at "go"
    refine v_ixT hs' (atN (i := 2) rfl rfl) ?_
    intro x dx hx hdx ne
    refine ⟨rfl, ?_⟩
    unfold t_TextSort_init
    walk_at "go"
    refine v_sfld upd_same T.cl_TextSort T.no_TextSort_longest (by decide) ?_
    walk_at "go"
    refine v_sfld upd_same T.cl_TextSort T.no_TextSort_without (putF_lt (n := 999) (by decide)) ?_
    refine ⟨rfl, q x _ (fun b o e => ?_) ⟨dx, ?_⟩⟩
    · have n1 := ne_of_none e hx
      rw [upd_ne n1, upd_ne n1, upd_ne n1, upd_ne (ne_of_none e hdx)]
      exact e
    · rw [upd_same, putF2 (by decide +kernel)]
  | one cs =>
    obtain ⟨l, hs', hl, hc⟩ := hs
    rw [nmf (a := "one") rfl (by decide +kernel)]
    walk_at "go"
    refine v_ixT ht (atN (i := 0) rfl rfl) ?_
    walk_at "go"
    rw [nmf (a := "one") rfl (by decide +kernel)]
    walk_at "go"
    refine v_ixT ht (atN (i := 0) rfl rfl) ?_
    walk_at "go"
    rw [nmt (b := "one") rfl]
    walk_at "go"
    refine v_ixT hs' (atN (i := 1) rfl rfl) ?_
    intro x dx hx hdx ne
    refine ⟨rfl, ?_⟩
    unfold t_ChoiceSort_init
    walk_at "go"
    have nlx := ne_of_none hl hx
    refine v_listL (SqL.of (by rw [upd_ne nlx, upd_ne (ne_of_none hl hdx)]; exact hl)) fun p hp => ?_
    walk_at "go"
    have npx : x ≠ p := ne_of_none upd_same hp
    have npx2 : H p = none := by
      rw [upd_ne npx.symm] at hp
      by_cases e : p = dx
      · rw [e, upd_same] at hp; cases hp
      · rw [upd_ne e] at hp; exact hp
    refine v_sfld (by rw [upd_ne npx]; exact upd_same) T.cl_ChoiceSort T.no_ChoiceSort_choices (by decide) ?_
    refine ⟨rfl, q x _ (fun b o e => ?_) ⟨dx, p, upd_same, ?_⟩⟩
    · have n1 := ne_of_none e hx
      rw [upd_ne n1, upd_ne (ne_of_none e npx2), upd_ne n1, upd_ne (ne_of_none e hdx)]
      exact e
    · rw [upd_ne npx.symm, upd_same]
  | lst =>
    obtain ⟨l, ks, hs', hl⟩ := hs
    rw [nmf (a := "list") rfl (by decide +kernel)]
    walk_at "go"
    refine v_ixT ht (atN (i := 0) rfl rfl) ?_
    walk_at "go"
    rw [nmf (a := "list") rfl (by decide +kernel)]
    walk_at "go"
    refine v_ixT ht (atN (i := 0) rfl rfl) ?_
    walk_at "go"
    rw [nmf (a := "list") rfl (by decide +kernel)]
    walk_at "go"
    refine v_ixT ht (atN (i := 0) rfl rfl) ?_
    walk_at "go"
    rw [nmt (b := "list") rfl]
    walk_at "go"
    refine v_ixT hs' (atN (i := 1) rfl rfl) ?_
    intro x dx hx hdx ne
    refine ⟨rfl, ?_⟩
    unfold t_ListSort_init
    walk_at "go"
    have nlx := ne_of_none hl hx
    refine v_listL (SqL.of (by rw [upd_ne nlx, upd_ne (ne_of_none hl hdx)]; exact hl)) fun p hp => ?_
    walk_at "go"
    have npx : x ≠ p := ne_of_none upd_same hp
    have npx2 : H p = none := by
      rw [upd_ne npx.symm] at hp
      by_cases e : p = dx
      · rw [e, upd_same] at hp; cases hp
      · rw [upd_ne e] at hp; exact hp
    refine v_sfld (by rw [upd_ne npx]; exact upd_same) T.cl_ListSort T.no_ListSort_kinds (by decide) ?_
    refine ⟨rfl, q x _ (fun b o e => ?_) ⟨dx, p, upd_same⟩⟩
    have n1 := ne_of_none e hx
    rw [upd_ne n1, upd_ne (ne_of_none e npx2), upd_ne n1, upd_ne (ne_of_none e hdx)]
    exact e
  | ref =>
    obtain ⟨l, ks, r, hs', hl⟩ := hs
    rw [nmf (a := "ref") rfl (by decide +kernel)]
    walk_at "go"
    refine v_ixT ht (atN (i := 0) rfl rfl) ?_
    walk_at "go"
    rw [nmf (a := "ref") rfl (by decide +kernel)]
    walk_at "go"
    refine v_ixT ht (atN (i := 0) rfl rfl) ?_
    walk_at "go"
    rw [nmf (a := "ref") rfl (by decide +kernel)]
    walk_at "go"
    refine v_ixT ht (atN (i := 0) rfl rfl) ?_
    walk_at "go"
    rw [nmf (a := "ref") rfl (by decide +kernel)]
    walk_at "go"
    refine v_ixT hs' (atN (i := 1) rfl rfl) ?_
    walk_at "go"
    refine v_ixT hs' (atN (i := 2) rfl rfl) ?_
    intro x dx hx hdx ne
    refine ⟨rfl, ?_⟩
    unfold t_RefSort_init
    walk_at "go"
    have nlx := ne_of_none hl hx
    refine v_listL (SqL.of (by rw [upd_ne nlx, upd_ne (ne_of_none hl hdx)]; exact hl)) fun p hp => ?_
    walk_at "go"
    have npx : x ≠ p := ne_of_none upd_same hp
    have npx2 : H p = none := by
      rw [upd_ne npx.symm] at hp
      by_cases e : p = dx
      · rw [e, upd_same] at hp; cases hp
      · rw [upd_ne e] at hp; exact hp
    refine v_sfld (by rw [upd_ne npx]; exact upd_same) T.cl_RefSort T.no_RefSort_kinds (by decide) ?_
    walk_at "go"
    refine v_sfld upd_same T.cl_RefSort T.no_RefSort_rule (putF_lt (n := 999) (by decide)) ?_
    refine ⟨rfl, q x _ (fun b o e => ?_) ⟨dx, p, r, ?_⟩⟩
    · have n1 := ne_of_none e hx
      rw [upd_ne n1, upd_ne n1, upd_ne (ne_of_none e npx2), upd_ne n1, upd_ne (ne_of_none e hdx)]
      exact e
    · rw [upd_same, putF2 (by decide +kernel)]
end
end Lw

namespace Lw
open PySem PySem.Spec PyProof.Rows L2 G
def Sh.isL : Sh → Bool
  | .lst => true
  | _ => false
def Sh.isR : Sh → Bool
  | .ref => true
  | _ => false
theorem nm_list (s : Sh) : decide (s.nm = ("list" : Str)) = s.isL := by
  cases s with
  | int lo hi => exact nmf (a := "int") rfl (by decide +kernel)
  | text n w => exact nmf (a := "text") rfl (by decide +kernel)
  | one cs => exact nmf (a := "one") rfl (by decide +kernel)
  | lst => exact nmt (s := .lst) (b := "list") rfl
  | ref => exact nmf (a := "ref") rfl (by decide +kernel)
theorem nm_ref (s : Sh) : decide (s.nm = ("ref" : Str)) = s.isR := by
  cases s with
  | int lo hi => exact nmf (a := "int") rfl (by decide +kernel)
  | text n w => exact nmf (a := "text") rfl (by decide +kernel)
  | one cs => exact nmf (a := "one") rfl (by decide +kernel)
  | lst => exact nmf (a := "list") rfl (by decide +kernel)
  | ref => exact nmt (s := .ref) (b := "ref") rfl
section
variable {K : PySem.W.Frag} {H : Hp} {Q : VK} {E : XK} {mg : Str → Option Value}
/-- isinstance of the object against the two classes of links -/
theorem isi_L (T : Tx K mg) {o : Addr} {s : Sh} (h : ObAt K H o s) (q : Q (.bl s.isL) H) : rIsi K [.ref o, .ref (He.ga K "ListSort")] H Q := by
  cases s with
  | int lo hi => obtain ⟨dx, h⟩ := h; exact v_isiO h T.cl_IntSort T.if_IntSort T.is_IntSort_ListSort q
  | text n w => obtain ⟨dx, h⟩ := h; exact v_isiO h T.cl_TextSort T.if_TextSort T.is_TextSort_ListSort q
  | one cs => obtain ⟨dx, l, h, _⟩ := h; exact v_isiO h T.cl_ChoiceSort T.if_ChoiceSort T.is_ChoiceSort_ListSort q
  | lst => obtain ⟨dx, l, h⟩ := h; exact v_isiO h T.cl_ListSort T.if_ListSort T.is_ListSort_ListSort q
  | ref => obtain ⟨dx, l, r, h⟩ := h; exact v_isiO h T.cl_RefSort T.if_RefSort T.is_RefSort_ListSort q
theorem isi_R (T : Tx K mg) {o : Addr} {s : Sh} (h : ObAt K H o s) (q : Q (.bl s.isR) H) : rIsi K [.ref o, .ref (He.ga K "RefSort")] H Q := by
  cases s with
  | int lo hi => obtain ⟨dx, h⟩ := h; exact v_isiO h T.cl_IntSort T.if_IntSort T.is_IntSort_RefSort q
  | text n w => obtain ⟨dx, h⟩ := h; exact v_isiO h T.cl_TextSort T.if_TextSort T.is_TextSort_RefSort q
  | one cs => obtain ⟨dx, l, h, _⟩ := h; exact v_isiO h T.cl_ChoiceSort T.if_ChoiceSort T.is_ChoiceSort_RefSort q
  | lst => obtain ⟨dx, l, h⟩ := h; exact v_isiO h T.cl_ListSort T.if_ListSort T.is_ListSort_RefSort q
  | ref => obtain ⟨dx, l, r, h⟩ := h; exact v_isiO h T.cl_RefSort T.if_RefSort T.is_RefSort_RefSort q
theorem rd_islist (T : Tx K mg) {o : Addr} {s : Sh} (h : ObAt K H o s) (q : Q (.bl s.isL) H) : sp_is_list K [.ref o] H Q E := by
  refine ⟨rfl, ?_⟩
  unfold t_is_list
  walk_at "go"
  exact isi_L T h q
theorem rd_isref (T : Tx K mg) {o : Addr} {s : Sh} (h : ObAt K H o s) (q : Q (.bl s.isR) H) : sp_is_reference K [.ref o] H Q E := by
  refine ⟨rfl, ?_⟩
  unfold t_is_reference
  walk_at "go"
  exact isi_R T h q
theorem rd_islink (T : Tx K mg) {o : Addr} {s : Sh} (h : ObAt K H o s) (q : Q (.bl (s.isL || s.isR)) H) : sp_is_link K [.ref o] H Q E := by
  refine ⟨rfl, ?_⟩
  unfold t_is_link
  walk_at "go"
  refine isi_R T h ?_
  walk_at "go"
  cases hr : s.isR with
  | true =>
    walk_at "go"
    rw [hr, Bool.or_true] at q
    exact q
  | false =>
    walk_at "go"
    rw [hr, Bool.or_false] at q
    exact isi_L T h q
theorem rd_blank (T : Tx K mg) {o : Addr} {s : Sh} (h : ObAt K H o s) (q1 : s.isL = true → ∀ p, H p = none → Q (.ref p) (upd H p (.lst []))) (q2 : s.isL = false → Q .non H) : sp_blank K [.ref o] H Q E := by
  refine ⟨rfl, ?_⟩
  unfold t_blank
  walk_at "go"
  refine isi_L T h ?_
  walk_at "go"
  cases hl : s.isL with
  | true =>
    walk_at "go"
    exact q1 hl
  | false =>
    walk_at "go"
    exact q2 hl
/-- the object's own holds -/
theorem rd_holds (T : Tx K mg) {o : Addr} {s : Sh} {t : Addr} {v : V} (h : ObAt K H o s) (hs : ShAt H t s) (f : Fl v) {σ : L2.St} {i j : Nat} (h1 : σ[i]? = some (some (.ref o))) (h2 : σ[j]? = some (some v)) (q : Q (.bl (hm s v)) H) :
    tEor (tEor (tEor (tEor (tMethD (He.ga K ("IntSort" : Str)) ("holds" : Str) (sp_IntSort_holds K) [] Ez (tVar i) (tCons (tVar j) tNil)) (tMethD (He.ga K ("TextSort" : Str)) ("holds" : Str) (sp_TextSort_holds K) [] Ez (tVar i) (tCons (tVar j) tNil))) (tMethD (He.ga K ("ChoiceSort" : Str)) ("holds" : Str) (sp_ChoiceSort_holds K) [] Ez (tVar i) (tCons (tVar j) tNil))) (tMethD (He.ga K ("RefSort" : Str)) ("holds" : Str) (sp_RefSort_holds K) [] Ez (tVar i) (tCons (tVar j) tNil))) (tMethD (He.ga K ("ListSort" : Str)) ("holds" : Str) (sp_ListSort_holds K) [] Ez (tVar i) (tCons (tVar j) tNil)) σ H Q := by
  have lk : ∀ {a : Str} {x : V} {fs : List (Str × V)}, ¬ ("holds" : Str) = a → fs.lookup ("holds" : Str) = none → ((a, x) :: fs).lookup ("holds" : Str) = none := fun n e => by rw [lk_cons, if_neg n]; exact e
  have l0 : ([] : List (Str × V)).lookup ("holds" : Str) = none := rfl
  cases s with
  | int lo hi =>
    have h0 := h
    obtain ⟨dx, h⟩ := h
    refine g_orL (g_orL (g_orL (g_orL (g_meth1 (g_var h1 (v_meth h (lk (by decide +kernel) (lk (by decide +kernel) l0)) (g_cons (g_var h2 (g_nil ?_)))))))))
    exact rd_holdsI T h0 f.1 q
  | text n w =>
    have h0 := h
    obtain ⟨dx, h⟩ := h
    refine g_orL (g_orL (g_orL (g_orR (g_meth1 (g_var h1 (v_meth h (lk (by decide +kernel) (lk (by decide +kernel) l0)) (g_cons (g_var h2 (g_nil ?_)))))))))
    exact rd_holdsT T h0 f q
  | one cs =>
    have h0 := h
    obtain ⟨dx, l, h, _⟩ := h
    obtain ⟨_, _, _, hc⟩ := hs
    refine g_orL (g_orL (g_orR (g_meth1 (g_var h1 (v_meth h (lk (by decide +kernel) l0) (g_cons (g_var h2 (g_nil ?_))))))))
    exact rd_holdsC T h0 hc f.1 q
  | lst =>
    obtain ⟨dx, l, h⟩ := h
    refine g_orR (g_meth1 (g_var h1 (v_meth h (lk (by decide +kernel) l0) (g_cons (g_var h2 (g_nil ?_))))))
    exact rd_holdsL (by cases v <;> exact q)
  | ref =>
    obtain ⟨dx, l, r, h⟩ := h
    refine g_orL (g_orR (g_meth1 (g_var h1 (v_meth h (lk (by decide +kernel) (lk (by decide +kernel) l0)) (g_cons (g_var h2 (g_nil ?_)))))))
    refine rd_holdsR ?_
    cases v <;> exact q
theorem isW_bl {b : Bool} : (decide (V.bl b = V.bl true) = b) ∧ (decide (V.bl b = V.bl false) = !b) := by cases b <;> decide
theorem fl_str {z : Str} (h : z.length ≤ 100) : Fl (.str z) := ⟨rfl, fun y e => by cases e; exact h⟩
theorem mul_len {z : Str} {n : Int} (h0 : 0 ≤ n) (h1 : n ≤ 20) (hz : z.length ≤ 1) : (Txt.mul z n).length ≤ 20 := by
  have h := len_mul z n
  rw [decide_eq_false (show ¬ n < 0 by omega)] at h
  simp only [Bool.false_eq_true, if_false] at h
  have h2 : (z.length : Int) * n ≤ 1 * n := Int.mul_le_mul_of_nonneg_right (by omega) h0
  omega
theorem law02 (T : Tx K mg) (H : Hp) (a : Addr) (ns : List Int) (hl : ns.length ≤ 63) (hO : Only H) (hS : SqL K H a (ns.map V.int)) : sp_law K [.ref a] H (fun v _ => v = .bl true) fun _ _ _ => False := by
  refine ⟨rfl, ?_⟩
  unfold t_law
  walk_at "go"
  refine rd_cells (n := 6) hS (by decide) fun d xs H1 hd0 hd1 hlx hs1 => ?_
  have D1 : Dr d H1 := ⟨xs, by intro z; rw [z] at hlx; simp at hlx, by omega, hd1⟩
  walk_at "go"
  intro nms hnms
  walk_at "go"
  refine rd_shape (D1.new hnms) upd_same (D1.ne hnms) rfl fun t s H2 ht => ?_
  walk_at "go"
  refine rd_object T ht fun o H3 s3 ho => ?_
  have ht3 := ht.same s3
  walk_at "go"
  intro l1 hl1
  walk_at "go"
  refine ⟨_, rfl, ?_⟩
  walk_at "go"
  refine ⟨_, _, rfl, rfl, ⟨by omega, by omega, by omega, by omega, by omega⟩, fun l2 hl2 => ?_⟩
  refine v_cat (up_new upd_same hl2) upd_same (by rw [rgV_length, sl_const]; decide) fun L hL => ?_
  have s4 : Same H3 (upd (upd (upd H3 l1 (.lst [.non, .bl true, .bl false, .str "a", .str "b c", .str "\"", .str "d\\", .str ""])) l2 (.lst (rgV (-5) 9))) L (.lst ([.non, .bl true, .bl false, .str "a", .str "b c", .str "\"", .str "d\\", .str ""] ++ rgV (-5) 9))) :=
    ((same_new hl1).trans (same_new hl2)).trans (same_new hL)
  have ho4 := ho.same s4
  have ht4 := ht3.same s4
  clear s4
  walk_at "go"
  have big : ∀ x ∈ ([.non, .bl true, .bl false, .str "a", .str "b c", .str "\"", .str "d\\", .str ""] ++ rgV (-5) 9 : List V), Fl x := by
    intro x hx
    rcases List.mem_append.mp hx with h | h
    · simp only [List.mem_cons, List.not_mem_nil, or_false] at h
      rcases h with h | h | h | h | h | h | h | h
      · rw [h]; exact ⟨rfl, fun z e => nomatch e⟩
      · rw [h]; exact ⟨rfl, fun z e => nomatch e⟩
      · rw [h]; exact ⟨rfl, fun z e => nomatch e⟩
      · rw [h]; exact fl_str (by decide +kernel)
      · rw [h]; exact fl_str (by decide +kernel)
      · rw [h]; exact fl_str (by decide +kernel)
      · rw [h]; exact fl_str (by decide +kernel)
      · rw [h]; exact fl_str (by decide +kernel)
    · obtain ⟨k, _, e⟩ := List.mem_map.mp h
      rw [← e]
      exact ⟨rfl, fun z e => nomatch e⟩
  generalize hg : ([.non, .bl true, .bl false, .str "a", .str "b c", .str "\"", .str "d\\", .str ""] ++ rgV (-5) 9 : List V) = vs at *
  have hvl : vs.length ≤ 22 := by
    rw [← hg, List.length_append, rgV_length]
    decide
  refine g_rngN (n := 8) (by decide) ?_
  have hL0 := hL
  refine l_range (fun i σ H' => ∃ (us : List V) (v5 : Option V), us.length ≤ 22 + 2 * i ∧ (∀ x ∈ us, Fl x) ∧ σ = [some (.ref a), some (.ref d), some (.ref t), some (.ref o), some (.ref L), v5, none, none, none] ∧
    H' L = some (.lst us) ∧ Sb L (upd (upd H3 l1 (.lst [.non, .bl true, .bl false, .str "a", .str "b c", .str "\"", .str "d\\", .str ""])) l2 (.lst (rgV (-5) 9))) H')
    ⟨vs, none, by omega, big, rfl, upd_same, Sb.upd⟩ ?_ ?_
  · rintro i σ H' hi ⟨us, v5, hul, hus, rfl, hx, hsb⟩
    have ex : ("x" : Str).length ≤ 1 := by decide +kernel
    walk_at "go"
    refine g_tyL hx ?_
    walk_at "go"
    refine v_mulS ⟨by decide +kernel, by omega, by omega⟩ ?_
    walk_at "go"
    refine v_append hx (by rw [sl_const]; omega) ?_
    walk_at "go"
    refine g_tyL upd_same ?_
    walk_at "go"
    refine v_mulS ⟨by decide +kernel, by omega, by omega⟩ ?_
    walk_at "go"
    have m1 : (Txt.mul ("x" : Str) (0 + (i : Int))).length ≤ 20 := mul_len (by omega) (by omega) ex
    have e1 : ("," : Str).length = 1 := by decide +kernel
    have e2 : ("y" : Str).length = 1 := by decide +kernel
    have la : ∀ x y : Str, (x ++ y).length = x.length + y.length := fun x y => by
      show (x.cps ++ y.cps).size = _
      rw [Array.size_append]
      rfl
    refine v_addS (by rw [e1, sl_const]; omega) ?_
    walk_at "go"
    refine v_addS (by rw [la, e1, e2, sl_const]; omega) ?_
    walk_at "go"
    refine v_slS (by rw [la, la, e1, e2, sl_const]; omega) ?_
    walk_at "go"
    refine v_append upd_same (by rw [List.length_append, sl_const]; simp only [List.length_cons, List.length_nil]; omega) ?_
    refine ⟨_, _, ?_, ?_, rfl, upd_same, hsb.trans (Sb.upd.trans Sb.upd)⟩
    · rw [List.length_append, List.length_append]; simp only [List.length_cons, List.length_nil]; omega
    · intro x hx
      rcases List.mem_append.mp hx with h | h
      · rcases List.mem_append.mp h with h | h
        · exact hus x h
        · rw [List.mem_singleton.mp h]
          exact fl_str (by omega)
      · rw [List.mem_singleton.mp h]
        refine fl_str ?_
        unfold cutS
        show (List.toArray _).size ≤ 100
        simp only [List.size_toArray, List.length_take, List.length_drop]
        have : (Txt.mul ("x" : Str) (0 + (i : Int)) ++ "," ++ "y").cps.toList.length ≤ 22 := by
          have h1 := la (Txt.mul ("x" : Str) (0 + (i : Int))) ","
          have h2 := la (Txt.mul ("x" : Str) (0 + (i : Int)) ++ ",") "y"
          rw [e1] at h1
          rw [e2] at h2
          rw [Array.length_toList]
          show Str.length _ ≤ _
          omega
        omega
  rintro σ H' ⟨us, v5, hul, hus, rfl, hx, hsb⟩
  have ho5 : ObAt K H' o s := by
    have k : ∀ b u, H3 b = some u → b ≠ L → H' b = some u := fun b u e n => hsb b u n (up_new (up_new e hl1) hl2)
    have nL : ∀ b u, H3 b = some u → b ≠ L := fun b u e => ne_of_none (up_new (up_new e hl1) hl2) hL0
    exact ho.same fun b u e => k b u e (nL b u e)
  have ht5 : ShAt H' t s := by
    have k : ∀ b u, H3 b = some u → b ≠ L → H' b = some u := fun b u e n => hsb b u n (up_new (up_new e hl1) hl2)
    have nL : ∀ b u, H3 b = some u → b ≠ L := fun b u e => ne_of_none (up_new (up_new e hl1) hl2) hL0
    exact ht3.same fun b u e => k b u e (nL b u e)
  walk_at "go"
  refine gi_list ?_
  walk_at "go"
  refine v_ovL (SqL.of hx) ?_
  refine l_list (xs := us) (fun i σ H2 => ∃ (v6 v7 : Option V), σ = [some (.ref a), some (.ref d), some (.ref t), some (.ref o), some (.ref L), v5, v6, v7, none] ∧ Same H' H2)
    ⟨none, none, rfl, Same.refl _⟩ (fun i σ H2 _ h => ?_) ?_ ?_
  · obtain ⟨_, _, _, h⟩ := h
    exact SqL.of (h _ _ hx)
  · rintro i x σ H2 hi ⟨v6, v7, rfl, hsm⟩
    have fx := hus x (List.mem_of_getElem? hi)
    walk_at "go"
    refine rd_holds T (ho5.same hsm) (ht5.same hsm) fx rfl rfl ?_
    walk_at "go"
    rw [isW_bl.1]
    have due : ∀ {A B : Hp → Prop}, (∀ H4, Same H' H4 → B H4) → sp__law_due K [.ref t, x] H2 (fun y H5 => rNeX K (.bl (hm s x)) y H5 fun z H6 => TestK z H6 fun b H7 => if b = true then A H7 else B H7) (Ez [some (.ref a), some (.ref d), some (.ref t), some (.ref o), some (.ref L), v5, some x, some (.bl (hm s x)), none]) := fun hB =>
      rd_due T (ht5.same hsm) fx fun H4 hs4 => v_neB (by rw [decide_eq_true rfl]; exact g_k (iteNT (hsm.trans hs4 |> hB H4)))
    cases hb : hm s x with
    | true =>
      rw [hb] at due
      walk_at "go"
      refine due fun H4 hs4 => ?_
      walk_at "go"
      exact ⟨_, _, rfl, hs4⟩
    | false =>
      rw [hb] at due
      walk_at "go"
      rw [isW_bl.2, Bool.not_false]
      walk_at "go"
      refine due fun H4 hs4 => ?_
      walk_at "go"
      exact ⟨_, _, rfl, hs4⟩
  · rintro σ H2 ⟨v6, v7, rfl, hsm⟩
    have ho6 := ho5.same hsm
    have ht6 := ht5.same hsm
    obtain ⟨rest, ht0⟩ : ∃ rest, H2 t = some (.tup (.str s.nm :: rest)) := by
      cases s with
      | int lo hi => exact ⟨_, ht6.1⟩
      | text n w => exact ⟨_, ht6⟩
      | one cs => obtain ⟨l, a, b, c⟩ := ht6; exact ⟨_, a⟩
      | lst => obtain ⟨l, ks, a, b⟩ := ht6; exact ⟨_, a⟩
      | ref => obtain ⟨l, ks, r, a, b⟩ := ht6; exact ⟨_, a⟩
    walk_at "go"
    refine rd_islist T ho6 ?_
    walk_at "go"
    refine v_ixT ht0 (atN (i := 0) rfl rfl) ?_
    walk_at "go"
    rw [nm_list, decide_eq_true rfl]
    walk_at "go"
    refine rd_isref T ho6 ?_
    walk_at "go"
    refine v_ixT ht0 (atN (i := 0) rfl rfl) ?_
    walk_at "go"
    rw [nm_ref, decide_eq_true rfl]
    walk_at "go"
    refine rd_islink T ho6 ?_
    walk_at "go"
    refine v_ixT ht0 (atN (i := 0) rfl rfl) ?_
    walk_at "go"
    rw [nm_list]
    cases hL2 : s.isL with
    | true =>
      walk_at "go"
      rw [Bool.true_or, decide_eq_true rfl]
      walk_at "go"
      refine rd_blank T ho6 (fun _ p hp => ?_) (fun z => by rw [hL2] at z; cases z)
      walk_at "go"
      refine v_ixT (up_new ht0 hp) (atN (i := 0) rfl rfl) ?_
      walk_at "go"
      rw [nm_list, hL2]
      walk_at "go"
      refine v_isiL upd_same ?_
      walk_at "go"
      refine v_lenL upd_same ?_
      walk_at "go"
      rw [decide_eq_true (show ((([] : List V).length : Nat) : Int) = 0 from rfl)]
      walk_at "go"
      refine g_tyL upd_same ?_
      walk_at "go"
      refine v_append upd_same (by show 0 < sizeLine; rw [sl_const]; decide) ?_
      walk_at "go"
      rw [upd_upd]
      refine rd_blank T (ho6.same (same_new hp)) (fun _ p2 hp2 => ?_) (fun z => by rw [hL2] at z; cases z)
      walk_at "go"
      refine v_lenL upd_same ?_
      walk_at "go"
      exact congrArg V.bl (decide_eq_true rfl)
    | false =>
      walk_at "go"
      refine v_ixT ht0 (atN (i := 0) rfl rfl) ?_
      walk_at "go"
      rw [nm_ref, Bool.false_or, decide_eq_true rfl]
      walk_at "go"
      refine rd_blank T ho6 (fun z => by rw [hL2] at z; cases z) (fun _ => ?_)
      walk_at "go"
      refine v_ixT ht0 (atN (i := 0) rfl rfl) ?_
      walk_at "go"
      rw [nm_list, hL2]
      walk_at "go"
      exact congrArg V.bl (decide_eq_true rfl)
end
end Lw

open PySem PySem.W PySem.Calls PyProof.Rows
set_option maxHeartbeats 0 in
theorem PySem.Challenge.cw_oneheap_k02_shapes_hold_values_holds : PySem.Challenge.rw_oneheap_k02_shapes_hold_values.Holds := by
  w_on; o_law
  refine HandSHeadRun.head_any (r := OpenLaw.row PySem.Challenge.rw_oneheap_k02_shapes_hold_values) (q := view (OpenLaw.row PySem.Challenge.rw_oneheap_k02_shapes_hold_values).prog [19]) (H := Lw.hk) (ob := Lw.ob) (M := 4000) (loose := Lw.nm) (d := HandSHeadRun.topDef (OpenLaw.row PySem.Challenge.rw_oneheap_k02_shapes_hold_values).prog 19) (kwd := []) Lw.ob_eq
    (by kernel_rfl) (fun s => by kernel_rfl) Lw.run (by kernel_rfl) (by kernel_rfl) (by kernel_rfl) (by rfl) (by first | assumption | decide +kernel) (by decide +kernel) ⟨rfl, rfl, rfl, rfl, rfl, by decide +kernel⟩ ?hw ?hc
  case hw => w_witness2
  case hc =>
    refine G.walk_ofW (l := PySem.Challenge.rw_oneheap_k02_shapes_hold_values) (n := 63) (k := 4) (x := "_law_script") rfl (by decide) (by kernel_rfl) ⟨rfl, by decide, by decide⟩ ?F
    intro w mg fa h Y G hmg0
    obtain ⟨K, KX, c⟩ := Y
    have hmg : mg ("law" : PySem.Str) = some (.ref fa) := by
      have e : (HandSHeadRun.topDef (OpenLaw.row PySem.Challenge.rw_oneheap_k02_shapes_hold_values).prog 19).name = ("law" : PySem.Str) := by kernel_rfl
      rw [← e]
      exact hmg0
    have T := Lw.tx KX G c.t.d c.more
    have e : fa = He.ga K "law" := by
      have z := hmg.symm.trans T.g_law
      cases z
      rfl
    subst e
    obtain ⟨fd, hb, hF⟩ := T.law (P := (PySem.Challenge.rw_oneheap_k02_shapes_hold_values).prog) (w := w)
    exact ⟨K, fd, Lw.sp_law K, KX, hb, fun H a ns hl hO hS => Lw.law02 T H a ns hl hO hS, hF⟩
