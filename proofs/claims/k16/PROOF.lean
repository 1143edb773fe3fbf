import PyProof.Rows.All
import Wide.All
import OpenK.AllK
import Wide.FinOn
import KE.KStateDown
import Lean
import HandS.ForMost
import HandS.ForExc
import HandS.More
import HandS.Defaults
import HandS.CallSlots
import HandS.StrMore
import HandS.Steps
import HandS.Codes
import HandS.Iter
import HandS.IsInst
import HandS.FStr
import HandS.Wide
import HandS.Head0
import HandS.Head1
import HandS.Head2
import HandS.HeadEnd
import HandS.HeadHook1
import HandS.HeadHook2
import HandS.HeadHook3
import HandS.HeadHook4
import HandS.Conv
import HandS.Style
import PySem.Challenge.RW_oneheap_k16_nearest_integers
set_option Elab.async false
set_option linter.all false
set_option maxRecDepth 100000
set_option maxHeartbeats 4000000
namespace G
open PySem PySem.Spec PyProof.Rows L2

/-! ### what a callee keeps, by its name -/
structure Cl (P : Program) (w : World) (K : PySem.W.Frag) (mg : Str → Option Value) (base : Heap) (k : Nat) (x : Str) (sp : Sp) (dvs : List V) : Prop where
  ex : ∃ (f : Addr) (fd : FuncData) (ps : List Str) (ds : List Value), FnOk P w K mg base (L2.CX P w) k f fd ps sp ∧ mg x = some (.ref f) ∧ PySem.W.keepIn K (.ref f) = true ∧ Binds K fd ps ds ∧ Vals dvs ds
structure Mt (P : Program) (w : World) (K : PySem.W.Frag) (mg : Str → Option Value) (base : Heap) (k : Nat) (C : Addr) (m : Str) (sp : Sp) (dvs : List V) : Prop where
  ex : ∃ (f : Addr) (fd : FuncData) (ps : List Str) (ds : List Value), Cls K C ∧ Meth K C m f ∧ FnOk P w K mg base (L2.CX P w) k f fd ps sp ∧ Binds K fd ps ds ∧ Vals dvs ds
structure Mq (P : Program) (w : World) (K : PySem.W.Frag) (mg : Str → Option Value) (base : Heap) (k : Nat) (x : Str) (C : Addr) (sp : Sp) (dvs : List V) : Prop where
  ex : ∃ (f : Addr) (fd : FuncData) (ps : List Str) (ds : List Value), Mk K C f ∧ FnOk P w K mg base (L2.CX P w) k f fd ps sp ∧ mg x = some (.ref C) ∧ Binds K fd ps ds ∧ Vals dvs ds
/-- a law's end, where its defs may raise -/
theorem walk_ofW {l : PySem.W.OpenLaw} {n k : Nat} {q : Program} {loose : List Str} {XP : (Str → Option Value) → Heap → Prop} {YP : World → Heap → Prop} {d : DefRec} {x : Str}
    (hn : l.most = some n) (hn2 : n ≤ sizeLine) (hdf : d.params.defaults = []) (hr : Room k callerA)
    (F : ∀ (w : World) (mg : Str → Option Value) (fa : Addr) (h : Heap), YP w h → h.Ns mainGlobals mg → mg d.name = some (.ref fa) →
      ∃ (K : PySem.W.Frag) (fd : FuncData) (sp : Sp), K.In h ∧ (∀ (s : Shared) (u : Value), BindsTo s fd ⟨[u], []⟩ [(x, u)]) ∧
        (∀ (H : Hp) (a : Addr) (ns : List Int), ns.length ≤ n → Only H → SqL K H a (ns.map V.int) → sp [.ref a] H (fun v _ => v = .bl true) fun _ _ _ => False) ∧
        ∀ base : Heap, FnOk l.prog w K mg base (L2.CX l.prog w) k fa fd [x] sp) :
    PySem.W.WalkO q loose XP YP l.row.toRowW d [] (fun f vs => PySem.call f vs) := by
  refine Att.attach_call hn hdf fun w s₀ s₁ mg mb fa o pm cd doc a vs ns G Y ho hd hcd hmg hobj hints hlen hg => ?_
  obtain ⟨K, fd, sp, KX, hb, hsp, hF⟩ := F w mg fa _ Y G.T.g hmg
  refine law_call (CX := L2.CX l.prog w) KX G.T.g G.T.b G.T.builtins G.T.nolimit hg hobj hints (Nat.le_trans hlen hn2) hr (fun base _ _ => hF base) hb (fun H hO hS => hsp H a ns hlen hO hS) fun H e s' c => ?_
  obtain ⟨_, _, _, _, _, _, _, _, _, _, _, _, z⟩ := c
  exact z.elim
/-- nothing is let out -/
def Ez : L2.St → XK := fun _ _ _ _ => False
section
variable {X : Cx} {k j : Nat} {C : Addr} {x m : Str} {sp : Sp} {dvs : List V} {p pos apos : Pos} {e o : Expr} {es : List Expr} {ta : TE} {t : TA} {E : L2.St → XK}
theorem pz {σ : L2.St} : PassesAt (L2.CX X.prog X.w) X σ (Ez σ) := fun _ _ _ _ _ _ h => by
  obtain ⟨_, _, _, _, _, _, _, _, _, _, _, _, z⟩ := h
  exact z.elim
theorem pe_cl (c : Cl X.prog X.w X.K X.mg X.base k x sp dvs) (hr : Room j X.A) (hk : k ≤ j) (hx : ∀ σ, PassesAt (L2.CX X.prog X.w) X σ (E σ)) (hg : Gl X x) (ha : PA X (e :: es) t)
    (hdb : (x == ("__debug__" : Str)) = false := by decide) (he : starEach (e :: es) X.env = (false, eval e X.env) :: starEach es X.env := by rfl) (hpl : (backTo pos (starEach es X.env)).any (·.1) = false := by rfl) :
    PE X (.Call (.Name x p) (e :: es) [] pos) (tCallSD sp dvs E t) := by
  obtain ⟨f, fd, ps, ds, F, hm, kp, b, d⟩ := c.ex
  exact pe_callSD F (hr.mono hk) hg hm kp b d hx ha hdb he hpl
theorem pe_mq (c : Mq X.prog X.w X.K X.mg X.base k x C sp dvs) (hr : Room j X.A) (hk : k + 1 ≤ j) (hg : Gl X x) (ha : PA X (e :: es) t)
    (hdb : (x == ("__debug__" : Str)) = false := by decide) (he : starEach (e :: es) X.env = (false, eval e X.env) :: starEach es X.env := by rfl) (hpl : (backTo pos (starEach es X.env)).any (·.1) = false := by rfl) :
    PE X (.Call (.Name x p) (e :: es) [] pos) (tMake C sp dvs E0 t) := by
  obtain ⟨f, fd, ps, ds, M, F, hm, b, d⟩ := c.ex
  exact pe_make M F (hr.mono hk) hg hm b d passL ha hdb he hpl
/-- a constant of the module -/
theorem pe_gc {v : V} (hg : Gl X x) (h : ∃ u, X.mg x = some u ∧ RelV v u) (hd : (x == ("__debug__" : Str)) = false := by decide) : PE X (.Name x pos) (tC v) := by
  obtain ⟨u, hm, r⟩ := h
  exact pe_glob hg hm r hd
end

section
variable {X : Cx} {k j : Nat} {C : Addr} {x m : Str} {sp : Sp} {dvs : List V} {p pos apos : Pos} {e o : Expr} {es : List Expr} {ta : TE} {t : TA} {E : L2.St → XK}
/-- an expression has two readings: either will do -/
def tEor (t u : TE) : TE := fun σ H Q => t σ H Q ∨ u σ H Q
theorem pe_or2 {t u : TE} (h : PE X e t) (h' : PE X e u) : PE X e (tEor t u) := ⟨fun pins s σ H Q I q => q.elim (h.run pins s σ H Q I) (h'.run pins s σ H Q I)⟩
/-- o.m(..), what is raised is wished for at the caller's slots -/
def tMethD (C : Addr) (m : Str) (sp : Sp) (dvs : List V) (E : L2.St → XK) (ta : TE) (t : TA) : TE := fun σ H Q => ta σ H fun x H1 => ∃ a dx fs, x = .ref a ∧ H1 a = some (.ins C dx fs) ∧ fs.lookup m = none ∧
  t σ H1 fun vs H2 => sp (x :: (vs ++ dvs)) H2 Q (E σ)
theorem pe_mt1 {pl : Sem Bool} (c : Mt X.prog X.w X.K X.mg X.base k C m sp dvs) (hr : Room j X.A) (hk : k ≤ j) (hx : ∀ σ, PassesAt (L2.CX X.prog X.w) X σ (E σ)) (he : PE X o ta) (ha : PA X (e :: es) t)
    (hst : starEach (e :: es) X.env = (false, eval e X.env) :: starEach es X.env := by rfl) (hpl : (backTo pos (starEach es X.env)).any (·.1) = false := by rfl)
    (ht : eval (.Call (.Attribute o m apos) (e :: es) [] pos) X.env = (do
      let ov ← eval o X.env
      standAt apos.atName
      let (f, first) ← holding [ov] (getMethod ov m pl)
      callWith pos f first (backTo pos (starEach (e :: es) X.env)) (backToKw pos (keywordEach [] X.env))) := by rfl) :
    PE X (.Call (.Attribute o m apos) (e :: es) [] pos) (tMethD C m sp dvs E ta t) := by
  obtain ⟨f, fd, ps, ds, cl, hm, F, b, d⟩ := c.ex
  refine ⟨fun pins s σ H Q I h => ?_⟩
  refine PySem.W.methodCall_KW (pl := pl) (thn (he.run pins s σ H _ I h) fun u s1 ⟨x, H1, I1, rx, a, dx, fs, ex, ea, l, q⟩ => ?_) ht
  subst ex
  obtain rfl : u = Value.ref a := rx
  refine getmeth_ok I1 ea cl hm l (PySem.W.callWith_K (first := [.ref a]) (h₀ := X.base) I.ok.mod.kin hm.kp (thn (ha.run pos pins s1 σ H1 _ I1 q) fun us s2 ⟨vs, H2, I2, r, q2⟩ => ⟨I2.kIn, ?_⟩) hst hpl)
  exact run_fnSD (us := .ref a :: us) (vs := .ref a :: vs) F (hr.mono hk) b d (hx σ) I2 (.cons rfl r) q2
theorem pe_mt0 {pl : Sem Bool} (c : Mt X.prog X.w X.K X.mg X.base k C m sp dvs) (hr : Room j X.A) (hk : k ≤ j) (hx : ∀ σ, PassesAt (L2.CX X.prog X.w) X σ (E σ)) (he : PE X o ta)
    (ht : eval (.Call (.Attribute o m apos) [] [] pos) X.env = (do
      let ov ← eval o X.env
      standAt apos.atName
      let (f, first) ← holding [ov] (getMethod ov m pl)
      callWith pos f first (backTo pos (starEach [] X.env)) (backToKw pos (keywordEach [] X.env))) := by rfl) :
    PE X (.Call (.Attribute o m apos) [] [] pos) (tMethD C m sp dvs E ta tNil) := by
  obtain ⟨f, fd, ps, ds, cl, hm, F, b, d⟩ := c.ex
  refine ⟨fun pins s σ H Q I h => ?_⟩
  refine PySem.W.methodCall_KW (pl := pl) (thn (he.run pins s σ H _ I h) fun u s1 ⟨x, H1, I1, rx, a, dx, fs, ex, ea, l, q⟩ => ?_) ht
  subst ex
  obtain rfl : u = Value.ref a := rx
  exact getmeth_ok I1 ea cl hm l (PySem.W.callWith_K0 (first := [.ref a]) I1.kIn hm.kp (run_fnSD (us := [.ref a]) (vs := [.ref a]) F (hr.mono hk) b d (hx σ) I1 (.cons rfl .nil) q))
def rAbs : List V → Hp → VK → Prop := fun xs H Q => ∃ i, xs = [.int i] ∧ Q (.int (if i < 0 then -i else i)) H
def rMax2 : List V → Hp → VK → Prop := fun xs H Q => ∃ i j, xs = [.int i, .int j] ∧ Q (.int (if j > i then j else i)) H
def rMin2 : List V → Hp → VK → Prop := fun xs H Q => ∃ i j, xs = [.int i, .int j] ∧ Q (.int (if j < i then j else i)) H
def rFind : V → List V → Hp → VK → Prop := fun x xs H Q => ∃ a b, x = .str a ∧ xs = [.str b] ∧ Q (.int (Txt.find a b)) H
def rListX (K : PySem.W.Frag) : List V → Hp → VK → Prop := fun xs H Q => (∃ p ys, xs = [.ref p] ∧ (SqL K H p ys ∨ SqT K H p ys) ∧ ∀ l, H l = none → Q (.ref l) (upd H l (.lst ys))) ∨ rListD xs H Q
/-- a fact of the head that is told as a Bool -/
def fIs (C D : Str) (b : Bool) (K : PySem.W.Frag) : Bool := decide (PySem.W.kitOne K (.ref (He.ga K C)) (.ref (He.ga K D)) = some b)
def fIsT (C : Str) (D : String) (b : Bool) (K : PySem.W.Frag) : Bool := decide (PySem.W.kitOne K (.ref (He.ga K C)) (.type D) = some b)
def fTIs (D : String) (C : Str) (b : Bool) (K : PySem.W.Frag) : Bool := decide (PySem.W.kitOne K (.type D) (.ref (He.ga K C)) = some b)
def fIn (C : Str) (K : PySem.W.Frag) : Bool := He.eqO (PySem.W.findIn K (.ref (He.ga K C)) "__class__") (some (some (.builtin "object.__class__"))) &&
  (He.eqO (PySem.W.specialIn K (.builtin "object.__class__") "__get__") (some (some (.builtin "getset_descriptor.__get__"))) && (decide (PySem.W.takesIn K (.builtin "object.__class__") = some true) && decide (PySem.W.mroIn K (He.ga K C) (.type "object") = some true)))
theorem fIs_ok {C D : Str} {b : Bool} {K : PySem.W.Frag} (h : fIs C D b K = true) : PySem.W.kitOne K (.ref (He.ga K C)) (.ref (He.ga K D)) = some b := of_decide_eq_true h
theorem fIsT_ok {C : Str} {D : String} {b : Bool} {K : PySem.W.Frag} (h : fIsT C D b K = true) : PySem.W.kitOne K (.ref (He.ga K C)) (.type D) = some b := of_decide_eq_true h
theorem fTIs_ok {C : Str} {D : String} {b : Bool} {K : PySem.W.Frag} (h : fTIs D C b K = true) : PySem.W.kitOne K (.type D) (.ref (He.ga K C)) = some b := of_decide_eq_true h
/-- what isinstance asks of an instance of the class -/
structure InsF (K : PySem.W.Frag) (C : Addr) : Prop where
  ha : PySem.W.findIn K (.ref C) "__class__" = some (some (.builtin "object.__class__"))
  hn : PySem.W.specialIn K (.builtin "object.__class__") "__get__" = some (some (.builtin "getset_descriptor.__get__"))
  htk : PySem.W.takesIn K (.builtin "object.__class__") = some true
  hm : PySem.W.mroIn K C (.type "object") = some true
theorem fIn_ok {C : Str} {K : PySem.W.Frag} (h : fIn C K = true) : InsF K (He.ga K C) := by
  obtain ⟨h1, h2⟩ := He.ba h
  obtain ⟨h2, h3⟩ := He.ba h2
  obtain ⟨h3, h4⟩ := He.ba h3
  exact ⟨He.eqO_ok h1, He.eqO_ok h2, of_decide_eq_true h3, of_decide_eq_true h4⟩
def allB (fs : List (PySem.W.Frag → Bool)) (K : PySem.W.Frag) : Bool := fs.all fun f => f K
theorem allB_at {fs : List (PySem.W.Frag → Bool)} {K : PySem.W.Frag} (h : allB fs K = true) (i : Nat) {f : PySem.W.Frag → Bool} (hf : fs[i]? = some f := by rfl) : f K = true := List.all_eq_true.mp h f (List.mem_of_getElem? hf)
end

/-! ### operators by the values' kinds -/
section
variable {X : Cx}
def MulS (z : Str) (n : Int) : Prop := z.length ≤ 1024 ∧ n ≤ 1024 ∧ -1024 ≤ n
def rMulS : R2 := fun x y H Q => ∃ z n, x = .str z ∧ y = .int n ∧ MulS z n ∧ Q (.str (Txt.mul z n)) H
theorem op_mulS : OpR X (binaryOp .Mult) rMulS := by
  intro pins s σ H x y v u Q I rx ry h
  obtain ⟨z, n, rfl, rfl, ⟨h1, h2, h3⟩, q⟩ := h
  obtain ⟨t, rfl⟩ := rx
  obtain ⟨t', rfl⟩ := ry
  exact SB.mul (mulOk_of 1024 1024 h1 h2 (by omega) (by decide) (by decide)) fun t' k => ⟨.str _, H, I.tok _, ⟨_, rfl⟩, q⟩
def rAddS : R2 := fun x y H Q => ∃ i j, x = .str i ∧ y = .str j ∧ i.length + j.length ≤ sizeLine ∧ Q (.str (i ++ j)) H
/-- a + b: ints, texts, lists, tuples -/
def rAddX (K : PySem.W.Frag) : R2 := fun x y H Q => rI0 (fun i j => .int (i + j)) x y H Q ∨ rAddS x y H Q ∨ rCat x y H Q ∨ rCatT K x y H Q
theorem op_addX : OpR X (binaryOp .Add) (rAddX X.K) := OpR.or op_add (OpR.or op_add_str (OpR.or op_cat op_catT))
def rSubX : R2 := rI0 fun i j => .int (i - j)
theorem op_subX : OpR X (binaryOp .Sub) rSubX := op_sub
def rMulX : R2 := fun x y H Q => rI CMul (fun i j => .int (i * j)) x y H Q ∨ rMulS x y H Q ∨ rRep x y H Q
theorem op_mulX : OpR X (binaryOp .Mult) rMulX := OpR.or op_mul (OpR.or op_mulS op_rep)
def rModX : R2 := fun x y H Q => rI (fun _ j => 0 < j) (fun i j => .int (i % j)) x y H Q ∨ rI (fun _ j => j ≠ 0) (fun i j => .int (i.fmod j)) x y H Q
theorem op_modX : OpR X (binaryOp .Mod) rModX := OpR.or op_mod op_modN
def rDivX : R2 := fun x y H Q => rI CDiv (fun i j => .int (i / j)) x y H Q ∨ rI CDivN (fun i j => .int (i.fdiv j)) x y H Q
theorem op_divX : OpR X (binaryOp .FloorDiv) rDivX := OpR.or op_fdiv op_fdivN
def rInStr : R2 := fun x y H Q => ∃ (c : Nat) (z : Str), x = .str ⟨#[c]⟩ ∧ y = .str z ∧ Q (.bl (decide (c ∈ z.cps.toList))) H
def rNotInStr : R2 := fun x y H Q => ∃ (c : Nat) (z : Str), x = .str ⟨#[c]⟩ ∧ y = .str z ∧ Q (.bl (!decide (c ∈ z.cps.toList))) H
def rInX (K : PySem.W.Frag) : R2 := fun x y H Q => rIn K false x y H Q ∨ rInStr x y H Q
theorem op_inX : OpR X (compareOp .In) (rInX X.K) := OpR.or op_in_seq op_in_sign
def rNotInX (K : PySem.W.Frag) : R2 := fun x y H Q => rIn K true x y H Q ∨ rNotInStr x y H Q
theorem op_notInX : OpR X (compareOp .NotIn) (rNotInX X.K) := OpR.or op_notIn_seq op_notIn_sign
def rLtS : R2 := fun x y H Q => ∃ i j, x = .str i ∧ y = .str j ∧ Q (.bl (decide (i.cps.toList < j.cps.toList))) H
def rLtX (K : PySem.W.Frag) : R2 := fun x y H Q => rI0 (fun i j => .bl (decide (i < j))) x y H Q ∨ rLtS x y H Q ∨ rLtT K x y H Q
def rLeX : R2 := rI0 fun i j => .bl (decide (i ≤ j))
def rGtX : R2 := rI0 fun i j => .bl (decide (j < i))
def rGeX : R2 := rI0 fun i j => .bl (decide (j ≤ i))
theorem op_ltX (hu : X.A.units + 64 < cLine) : OpR X (compareOp .Lt) (rLtX X.K) := OpR.or op_lt (OpR.or op_lt_str (op_ltT (by omega)))
theorem op_leX : OpR X (compareOp .LtE) rLeX := op_le
theorem op_gtX : OpR X (compareOp .Gt) rGtX := op_gt
theorem op_geX : OpR X (compareOp .GtE) rGeX := op_ge
/-- x is None, True, False, an object -/
def isW : V → Bool
  | .non => true
  | .bl _ => true
  | _ => false
def rIsW : R2 := fun x y H Q => isW y = true ∧ Q (.bl (decide (x = y))) H
def rIsNotW : R2 := fun x y H Q => isW y = true ∧ Q (.bl (!decide (x = y))) H
theorem is_b_gen {prog : Program} {w : World} {A : Around} {E : Value → Shared → Prop} {s : Shared} {x : V} {v : Value} {b : Bool} {Q : Value → Shared → Prop} (r : RelV x v) (h : Q (.bool (decide (x = .bl b))) s) : wpAny (model prog w) A (compareOp .Is v (.bool b)) Q E s := by
  cases x with
  | bl c =>
    cases r
    have e : (Value.bool c == Value.bool b) = decide (V.bl c = V.bl b) := by
      cases c <;> cases b <;> decide
    exact wpAny_pure (by rw [← e] at h; exact h)
  | non => cases r; exact wpAny_pure h
  | int i => obtain ⟨t, rfl⟩ := r; exact wpAny_pure h
  | str i => obtain ⟨t, rfl⟩ := r; exact wpAny_pure h
  | byt i => obtain ⟨t, rfl⟩ := r; exact wpAny_pure h
  | flt i => obtain ⟨t, rfl⟩ := r; exact wpAny_pure h
  | ref i => cases r; exact wpAny_pure h
  | ty i => cases r; exact wpAny_pure h
theorem isnot_b_gen {prog : Program} {w : World} {A : Around} {E : Value → Shared → Prop} {s : Shared} {x : V} {v : Value} {b : Bool} {Q : Value → Shared → Prop} (r : RelV x v) (h : Q (.bool (!decide (x = .bl b))) s) : wpAny (model prog w) A (compareOp .IsNot v (.bool b)) Q E s := by
  cases x with
  | bl c =>
    cases r
    have e : (Value.bool c == Value.bool b) = decide (V.bl c = V.bl b) := by
      cases c <;> cases b <;> decide
    exact wpAny_pure (by rw [← e] at h; exact h)
  | non => cases r; exact wpAny_pure h
  | int i => obtain ⟨t, rfl⟩ := r; exact wpAny_pure h
  | str i => obtain ⟨t, rfl⟩ := r; exact wpAny_pure h
  | byt i => obtain ⟨t, rfl⟩ := r; exact wpAny_pure h
  | flt i => obtain ⟨t, rfl⟩ := r; exact wpAny_pure h
  | ref i => cases r; exact wpAny_pure h
  | ty i => cases r; exact wpAny_pure h
theorem op_isW : OpR X (compareOp .Is) rIsW := by
  intro pins s σ H x y v u Q I rx ry h
  obtain ⟨hy, q⟩ := h
  cases y with
  | non => exact op_isN pins s σ H x .non v u Q I rx ry ⟨rfl, q⟩
  | bl b => cases ry; exact is_b_gen rx ⟨.bl _, H, I, rfl, q⟩
  | _ => exact absurd (show false = true from hy) Bool.false_ne_true
theorem op_isNotW : OpR X (compareOp .IsNot) rIsNotW := by
  intro pins s σ H x y v u Q I rx ry h
  obtain ⟨hy, q⟩ := h
  cases y with
  | non => exact op_notN pins s σ H x .non v u Q I rx ry ⟨rfl, q⟩
  | bl b => cases ry; exact isnot_b_gen rx ⟨.bl _, H, I, rfl, q⟩
  | _ => exact absurd (show false = true from hy) Bool.false_ne_true
def rIsO : R2 := fun x y H Q => ∃ a b oa ob, x = .ref a ∧ y = .ref b ∧ H a = some oa ∧ isObj oa = true ∧ H b = some ob ∧ isObj ob = true ∧ Q (.bl (decide (a = b))) H
def rIsNotO : R2 := fun x y H Q => ∃ a b oa ob, x = .ref a ∧ y = .ref b ∧ H a = some oa ∧ isObj oa = true ∧ H b = some ob ∧ isObj ob = true ∧ Q (.bl (!decide (a = b))) H
def rIsX : R2 := fun x y H Q => rIsW x y H Q ∨ rIsO x y H Q
def rIsNotX : R2 := fun x y H Q => rIsNotW x y H Q ∨ rIsNotO x y H Q
theorem op_isX : OpR X (compareOp .Is) rIsX := OpR.or op_isW op_is_ref
theorem op_isNotX : OpR X (compareOp .IsNot) rIsNotX := OpR.or op_isNotW op_isnot_ref
/-- ==: of single values, of data at any depth -/
def rEqX (K : PySem.W.Frag) : R2 := fun x y H Q => rEq x y H Q ∨ rEqD K x y H Q
def rNeX (K : PySem.W.Frag) : R2 := fun x y H Q => rNe x y H Q ∨ rNeD K x y H Q
theorem op_eqX (hu : X.A.units + 64 < cLine) : OpR X (compareOp .Eq) (rEqX X.K) := OpR.or op_eq (op_eqD hu)
theorem op_neX (hu : X.A.units + 64 < cLine) : OpR X (compareOp .NotEq) (rNeX X.K) := OpR.or op_ne (op_neD hu)
/-- a[i:j] of texts and lists -/
def rSlX (K : PySem.W.Frag) : V → Option Int → Option Int → Hp → VK → Prop := fun x lo hi H Q => rSlS x lo hi H Q ∨ rSlL K x lo hi H Q
theorem sl_X : SlR X (rSlX X.K) := SlR.or sl_str sl_list
def rIntX : List V → Hp → VK → Prop := fun xs H Q => ((∃ i, xs = [.int i] ∧ Q (.int i) H) ∨ ∃ k, xs = [.bl k] ∧ Q (.int (b2i k)) H) ∨ ∃ a n, xs = [.str a] ∧ PySem.intText? a = some n ∧ a.length ≤ 640 ∧ Q (.int n) H
end

section
variable {X : Cx}
def rJoin (K : PySem.W.Frag) : V → List V → Hp → VK → Prop := fun x xs H Q => ∃ a p, ∃ ys : List Str, x = .str a ∧ xs = [.ref p] ∧ (SqL K H p (ys.map V.str) ∨ SqT K H p (ys.map V.str)) ∧
  (ys.map (·.length)).sum + ys.length * a.length ≤ 16777216 ∧ Q (.str (Txt.join a ys)) H
def rStarts3 : V → List V → Hp → VK → Prop := fun x xs H Q => ∃ (a b : Str) (i : Int), x = .str a ∧ xs = [.str b, .int i] ∧ Q (.bl (Txt.startswith3 a b i)) H
/-- what a for walks: a list, a tuple, a text -/
def iAny (K : PySem.W.Frag) (te : TE) : TI := fun σ H R => iList K te σ H R ∨ iTup K te σ H R ∨ iStr te σ H R
theorem pi_any {tg e : Expr} {te : TE} (he : PE X e te) : PI X tg e (iAny X.K te) := ⟨fun pins s σ H R I h => by
  rcases h with h | h | h
  · exact (pi_list he).run pins s σ H R I h
  · exact (pi_tup he).run pins s σ H R I h
  · exact (pi_str he).run pins s σ H R I h⟩
end

/-! ### the reading, step by step: each ⟨nx, rt, bk, ct⟩ stands open -/
section
variable {nx bk ct : L2.St → Hp → Prop} {rt : VK} {σ : L2.St} {H : Hp} {Q : VK} {te ta tb tc : TE} {t u : TS} {tt tt' : TT} {K : PySem.W.Frag} {v x y : V} {i : Nat} {r : R2} {TA1 : TA}
theorem g_seq (h : t ⟨u ⟨nx, rt, bk, ct⟩, rt, bk, ct⟩ σ H) : tSeq t u ⟨nx, rt, bk, ct⟩ σ H := h
theorem g_next (h : nx σ H) : tNext ⟨nx, rt, bk, ct⟩ σ H := h
theorem g_brk (h : bk σ H) : tBreak ⟨nx, rt, bk, ct⟩ σ H := h
theorem g_cont (h : ct σ H) : tCont ⟨nx, rt, bk, ct⟩ σ H := h
theorem g_asg (h : te σ H fun x H1 => nx (σ.set i (some x)) H1) : tAsg te (gName i) ⟨nx, rt, bk, ct⟩ σ H := h
theorem g_drop (h : te σ H fun _ H1 => nx σ H1) : tDrop te ⟨nx, rt, bk, ct⟩ σ H := h
theorem g_ret (h : te σ H rt) : tRet te ⟨nx, rt, bk, ct⟩ σ H := h
theorem g_retN (h : rt .non H) : tRetN ⟨nx, rt, bk, ct⟩ σ H := h
theorem g_if (h : tt σ H fun b H1 => if b = true then t ⟨nx, rt, bk, ct⟩ σ H1 else u ⟨nx, rt, bk, ct⟩ σ H1) : tIfS tt t u ⟨nx, rt, bk, ct⟩ σ H := h
theorem g_var (h : σ[i]? = some (some v)) (q : Q v H) : tVar i σ H Q := ⟨v, h, q⟩
theorem g_c (q : Q v H) : tC v σ H Q := q
theorem g_op (h : ta σ H fun x H1 => tb σ H1 fun y H2 => r x y H2 Q) : tOp r ta tb σ H Q := h
theorem g_un {r : V → Hp → VK → Prop} (h : ta σ H fun x H1 => r x H1 Q) : tUn r ta σ H Q := h
theorem g_nil {Q : List V → Hp → Prop} (h : Q [] H) : tNil σ H Q := h
theorem g_cons {Q : List V → Hp → Prop} (h : ta σ H fun x H1 => TA1 σ H1 fun xs H2 => Q (x :: xs) H2) : tCons ta TA1 σ H Q := h
def TestK (x : V) (H : Hp) (Q : Bool → Hp → Prop) : Prop := ∃ k, x = .bl k ∧ Q k H
theorem g_test {Q : Bool → Hp → Prop} (h : te σ H fun x H' => TestK x H' Q) : tTest te σ H Q := h
theorem g_b {Q : Bool → Hp → Prop} (h : te σ H fun x H' => TestK x H' Q) : tB te σ H Q := h
theorem g_k {Q : Bool → Hp → Prop} {b : Bool} (q : Q b H) : TestK (.bl b) H Q := ⟨b, rfl, q⟩
def TruK (K : PySem.W.Frag) (x : V) (H : Hp) (Q : Bool → Hp → Prop) : Prop := ∃ k, TruV K x H k ∧ Q k H
theorem g_tru {Q : Bool → Hp → Prop} (h : te σ H fun x H' => TruK K x H' Q) : tTru K te σ H Q := h
theorem v_truB {Q : Bool → Hp → Prop} {b : Bool} (q : Q b H) : TruK K (.bl b) H Q := ⟨b, rfl, q⟩
theorem v_truN {Q : Bool → Hp → Prop} (q : Q false H) : TruK K .non H Q := ⟨_, rfl, q⟩
theorem v_truI {Q : Bool → Hp → Prop} {i : Int} (q : Q (i != 0) H) : TruK K (.int i) H Q := ⟨_, rfl, q⟩
theorem g_and {Q : Bool → Hp → Prop} (h : tt σ H fun c H1 => if c = true then tt' σ H1 Q else Q false H1) : tAnd tt tt' σ H Q := h
theorem g_or {Q : Bool → Hp → Prop} (h : tt σ H fun c H1 => if c = true then Q true H1 else tt' σ H1 Q) : tOr tt tt' σ H Q := h
theorem g_not {Q : Bool → Hp → Prop} (h : tt σ H fun c H1 => Q (!c) H1) : tNot tt σ H Q := h
theorem g_andV (h : ta σ H fun x H1 => TestK x H1 fun c H1 => if c = true then tb σ H1 Q else Q (.bl false) H1) : tAndV ta tb σ H Q := h
theorem g_orV (h : ta σ H fun x H1 => TestK x H1 fun c H1 => if c = true then Q (.bl true) H1 else tb σ H1 Q) : tOrV ta tb σ H Q := h
theorem g_notV (h : ta σ H fun x H1 => TestK x H1 fun c H1 => Q (.bl (!c)) H1) : tNotV ta σ H Q := h
theorem g_ifE (h : tt σ H fun c H1 => if c = true then ta σ H1 Q else tb σ H1 Q) : tIf tt ta tb σ H Q := h
theorem g_callB {r : List V → Hp → VK → Prop} (h : TA1 σ H fun vs H1 => r vs H1 Q) : tCB r TA1 σ H Q := h
theorem g_call {sp : Sp} {E : L2.St → XK} (h : TA1 σ H fun vs H1 => sp vs H1 Q (E σ)) : tCallSD sp [] E TA1 σ H Q := by
  show TA1 σ H fun vs H1 => sp (vs ++ []) H1 Q (E σ)
  simp only [List.append_nil]
  exact h
theorem g_tup (h : TA1 σ H fun xs H1 => xs.length ≤ sizeLine ∧ ∀ p, H1 p = none → Q (.ref p) (upd H1 p (.tup xs))) : tTup TA1 σ H Q := h
theorem g_lst (h : TA1 σ H fun xs H1 => xs.length ≤ sizeLine ∧ ∀ p, H1 p = none → Q (.ref p) (upd H1 p (.lst xs))) : tLst TA1 σ H Q := h
theorem g_small {xs : List V} {A : Prop} (h : xs.length ≤ 1000) (q : A) : xs.length ≤ sizeLine ∧ A := ⟨Nat.le_of_lt (small1000 h), q⟩
/-! by values -/
theorem v_addI {i j : Int} (q : Q (.int (i + j)) H) : rAddX K (.int i) (.int j) H Q := .inl ⟨_, _, rfl, rfl, q⟩
theorem v_addS {a b : Str} (h : a.length + b.length ≤ sizeLine) (q : Q (.str (a ++ b)) H) : rAddX K (.str a) (.str b) H Q := .inr (.inl ⟨_, _, rfl, rfl, h, q⟩)
theorem v_sub {i j : Int} (q : Q (.int (i - j)) H) : rSubX (.int i) (.int j) H Q := ⟨_, _, rfl, rfl, q⟩
theorem v_mulI {i j : Int} (h : CMul i j) (q : Q (.int (i * j)) H) : rMulX (.int i) (.int j) H Q := .inl ⟨_, _, rfl, rfl, h, q⟩
theorem v_mulS {z : Str} {n : Int} (h : MulS z n) (q : Q (.str (Txt.mul z n)) H) : rMulX (.str z) (.int n) H Q := .inr (.inl ⟨_, _, rfl, rfl, h, q⟩)
theorem v_mod {i j : Int} (h : 0 < j) (q : Q (.int (i % j)) H) : rModX (.int i) (.int j) H Q := .inl ⟨_, _, rfl, rfl, h, q⟩
theorem v_div {i j : Int} (h : CDiv i j) (q : Q (.int (i / j)) H) : rDivX (.int i) (.int j) H Q := .inl ⟨_, _, rfl, rfl, h, q⟩
theorem v_lt {i j : Int} (q : Q (.bl (decide (i < j))) H) : rLtX K (.int i) (.int j) H Q := .inl ⟨_, _, rfl, rfl, q⟩
theorem v_le {i j : Int} (q : Q (.bl (decide (i ≤ j))) H) : rLeX (.int i) (.int j) H Q := ⟨_, _, rfl, rfl, q⟩
theorem v_gt {i j : Int} (q : Q (.bl (decide (j < i))) H) : rGtX (.int i) (.int j) H Q := ⟨_, _, rfl, rfl, q⟩
theorem v_ge {i j : Int} (q : Q (.bl (decide (j ≤ i))) H) : rGeX (.int i) (.int j) H Q := ⟨_, _, rfl, rfl, q⟩
theorem dS {a b : Str} : decide (V.str a = V.str b) = decide (a = b) := by
  by_cases h : a = b
  · rw [h]; simp
  · rw [decide_eq_false h, decide_eq_false]; intro z; exact h (V.str.inj z)
theorem dI {a b : Int} : decide (V.int a = V.int b) = decide (a = b) := by
  by_cases h : a = b
  · rw [h]; simp
  · rw [decide_eq_false h, decide_eq_false]; intro z; exact h (V.int.inj z)
theorem dB {a b : Bool} : decide (V.bl a = V.bl b) = decide (a = b) := by
  by_cases h : a = b
  · rw [h]; simp
  · rw [decide_eq_false h, decide_eq_false]; intro z; exact h (V.bl.inj z)
theorem v_eqI {i j : Int} (q : Q (.bl (decide (i = j))) H) : rEqX K (.int i) (.int j) H Q := .inl ⟨rfl, by rw [dI]; exact q⟩
theorem v_eqS {i j : Str} (q : Q (.bl (decide (i = j))) H) : rEqX K (.str i) (.str j) H Q := .inl ⟨rfl, by rw [dS]; exact q⟩
theorem v_eqB {i j : Bool} (q : Q (.bl (decide (i = j))) H) : rEqX K (.bl i) (.bl j) H Q := .inl ⟨rfl, by rw [dB]; exact q⟩
theorem v_neI {i j : Int} (q : Q (.bl (!decide (i = j))) H) : rNeX K (.int i) (.int j) H Q := .inl ⟨rfl, by rw [dI]; exact q⟩
theorem v_neS {i j : Str} (q : Q (.bl (!decide (i = j))) H) : rNeX K (.str i) (.str j) H Q := .inl ⟨rfl, by rw [dS]; exact q⟩
theorem v_neB {i j : Bool} (q : Q (.bl (!decide (i = j))) H) : rNeX K (.bl i) (.bl j) H Q := .inl ⟨rfl, by rw [dB]; exact q⟩
theorem v_isN (q : Q (.bl (decide (x = .non))) H) : rIsX x .non H Q := .inl ⟨rfl, q⟩
theorem v_isNotN (q : Q (.bl (!decide (x = .non))) H) : rIsNotX x .non H Q := .inl ⟨rfl, q⟩
theorem v_isB {b : Bool} (q : Q (.bl (decide (x = .bl b))) H) : rIsX x (.bl b) H Q := .inl ⟨rfl, q⟩
theorem v_isNotB {b : Bool} (q : Q (.bl (!decide (x = .bl b))) H) : rIsNotX x (.bl b) H Q := .inl ⟨rfl, q⟩
theorem v_eqV (h : scal x y = true) (q : Q (.bl (decide (x = y))) H) : rEqX K x y H Q := .inl ⟨h, q⟩
theorem v_neV (h : scal x y = true) (q : Q (.bl (!decide (x = y))) H) : rNeX K x y H Q := .inl ⟨h, q⟩
theorem v_eqD {d e : PyData} (h1 : Dp K H x d) (h2 : Dp K H y e) (s1 : SeqAt.shaped d = true) (s2 : SeqAt.shaped e = true) (q : Q (.bl (PyData.eqv d e)) H) : rEqX K x y H Q := .inr ⟨_, _, h1, h2, s1, s2, q⟩
theorem v_neD {d e : PyData} (h1 : Dp K H x d) (h2 : Dp K H y e) (s1 : SeqAt.shaped d = true) (s2 : SeqAt.shaped e = true) (q : Q (.bl (!PyData.eqv d e)) H) : rNeX K x y H Q := .inr ⟨_, _, h1, h2, s1, s2, q⟩
theorem v_inL {p : Addr} {xs : List V} (h : SqL K H p xs) (f1 : flatV x = true) (f2 : xs.all flatV = true) (q : Q (.bl (inV x xs)) H) : rInX K x (.ref p) H Q := .inl ⟨p, xs, rfl, .inl h, f1, f2, q⟩
theorem v_notInL {p : Addr} {xs : List V} (h : SqL K H p xs) (f1 : flatV x = true) (f2 : xs.all flatV = true) (q : Q (.bl (!inV x xs)) H) : rNotInX K x (.ref p) H Q := .inl ⟨p, xs, rfl, .inl h, f1, f2, q⟩
theorem v_cat {l b : Addr} {xs zs : List V} (h : H l = some (.lst xs)) (h2 : H b = some (.lst zs)) (hz : xs.length + zs.length ≤ sizeLine) (q : ∀ p, H p = none → Q (.ref p) (upd H p (.lst (xs ++ zs)))) : rAddX K (.ref l) (.ref b) H Q := .inr (.inr (.inl ⟨_, _, _, _, rfl, rfl, h, h2, hz, q⟩))
theorem v_inS {c : Nat} {z : Str} (q : Q (.bl (decide (c ∈ z.cps.toList))) H) : rInX K (.str ⟨#[c]⟩) (.str z) H Q := .inr ⟨_, _, rfl, rfl, q⟩
theorem v_notInS {c : Nat} {z : Str} (q : Q (.bl (!decide (c ∈ z.cps.toList))) H) : rNotInX K (.str ⟨#[c]⟩) (.str z) H Q := .inr ⟨_, _, rfl, rfl, q⟩
theorem v_inT {p : Addr} {xs : List V} (h : H p = some (.tup xs)) (f1 : flatV x = true) (f2 : xs.all flatV = true) (q : Q (.bl (inV x xs)) H) : rInX K x (.ref p) H Q := .inl ⟨p, xs, rfl, .inr (SqT.of h), f1, f2, q⟩
theorem v_notInT {p : Addr} {xs : List V} (h : H p = some (.tup xs)) (f1 : flatV x = true) (f2 : xs.all flatV = true) (q : Q (.bl (!inV x xs)) H) : rNotInX K x (.ref p) H Q := .inl ⟨p, xs, rfl, .inr (SqT.of h), f1, f2, q⟩
theorem v_lenS {z : Str} (h : z.length ≤ sizeLine) (q : Q (.int (z.length : Int)) H) : rLen K [.str z] H Q := ⟨_, _, rfl, ⟨h, rfl⟩, q⟩
theorem v_lenL {p : Addr} {xs : List V} (h : H p = some (.lst xs)) (q : Q (.int (xs.length : Int)) H) : rLen K [.ref p] H Q := ⟨_, _, rfl, .inl ⟨_, SqL.of h, rfl⟩, q⟩
theorem v_lenT {p : Addr} {xs : List V} (h : H p = some (.tup xs)) (q : Q (.int (xs.length : Int)) H) : rLen K [.ref p] H Q := ⟨_, _, rfl, .inr ⟨_, SqT.of h, rfl⟩, q⟩
theorem v_ixL {p : Addr} {xs : List V} {n : Int} (h : H p = some (.lst xs)) (e : atI xs n = some v) (q : Q v H) : rIx K (.ref p) (.int n) H Q := .inl ⟨_, _, _, _, rfl, rfl, SqL.of h, e, q⟩
theorem v_ixT {p : Addr} {xs : List V} {n : Int} (h : H p = some (.tup xs)) (e : atI xs n = some v) (q : Q v H) : rIx K (.ref p) (.int n) H Q := .inr (.inl ⟨_, _, _, _, rfl, rfl, SqT.of h, e, q⟩)
theorem v_ixS {z : Str} {n : Int} {c : Nat} (h : z.length ≤ sizeLine) (e : atI z.cps.toList n = some c) (q : Q (.str ⟨#[c]⟩) H) : rIx K (.str z) (.int n) H Q := .inr (.inr ⟨_, _, _, rfl, rfl, h, e, q⟩)
theorem v_intI {n : Int} (q : Q (.int n) H) : rIntX [.int n] H Q := .inl (.inl ⟨_, rfl, q⟩)
theorem v_intS {a : Str} {n : Int} (h : PySem.intText? a = some n) (hl : a.length ≤ 640) (q : Q (.int n) H) : rIntX [.str a] H Q := .inr ⟨_, _, rfl, h, hl, q⟩
/-! loops -/
def LoopG (J : It) (g : TG) (tb : TS) : TS := fun D σ H => ∃ W : Nat → Nat → L2.St → Hp → Prop, (∃ m, W 0 m σ H) ∧ ∀ i m σ H, W i m σ H →
  (J.stop i H ∧ D.nx σ H) ∨ (J.go i H ∧ ∃ N : L2.St → Hp → Prop, (∀ σ' H', N σ' H' → ∃ m', m' < m ∧ W (i + 1) m' σ' H') ∧ ∀ x H', J.yld i H x H' → g x σ H' fun σ2 H2 => tb { D with nx := N, ct := N, bk := D.nx } σ2 H2)
variable {wi : TI} {g : TG} {tb : TS}
theorem g_for (h : wi σ H fun J H1 => LoopG J g tb ⟨nx, rt, bk, ct⟩ σ H1) : tFor wi g tb ⟨nx, rt, bk, ct⟩ σ H := h
theorem g_name {S : L2.St → Hp → Prop} (h : S (σ.set i (some v)) H) : gName i v σ H S := h
def Rng1 (R : It → Hp → Prop) (vs : List V) (H : Hp) : Prop := ∃ j : Int, vs = [.int j] ∧ -(2 ^ 62) ≤ j ∧ j < 2 ^ 62 ∧ R (Itr 0 j.toNat) H
def Rng2 (R : It → Hp → Prop) (vs : List V) (H : Hp) : Prop := ∃ i j : Int, vs = [.int i, .int j] ∧ (-(2 ^ 62) ≤ i ∧ i < 2 ^ 62 ∧ -(2 ^ 62) ≤ j ∧ j < 2 ^ 62) ∧ R (Itr i (j - i).toNat) H
theorem g_rng1 {R : It → Hp → Prop} (h : TA1 σ H (Rng1 R)) : iRng1 TA1 σ H R := h
theorem g_rng2 {R : It → Hp → Prop} (h : TA1 σ H (Rng2 R)) : iRng2 TA1 σ H R := h
theorem g_rngN {R : It → Hp → Prop} {n : Nat} (hn : n < 2 ^ 62) (h : R (Itr 0 n) H) : Rng1 R [V.int (n : Int)] H := ⟨_, rfl, by omega, by omega, by rw [Int.toNat_natCast]; exact h⟩
theorem g_rngI {R : It → Hp → Prop} {n : Int} (h1 : -(2 ^ 62) ≤ n) (h2 : n < 2 ^ 62) (h : R (Itr 0 n.toNat) H) : Rng1 R [V.int n] H := ⟨_, rfl, h1, h2, h⟩
theorem g_rngT {R : It → Hp → Prop} {m n : Int} (h1 : -(2 ^ 62) ≤ m ∧ m < 2 ^ 62 ∧ -(2 ^ 62) ≤ n ∧ n < 2 ^ 62) (h : R (Itr m (n - m).toNat) H) : Rng2 R [V.int m, V.int n] H := ⟨_, _, rfl, h1, h⟩
def OvL (K : PySem.W.Frag) (R : It → Hp → Prop) (x : V) (H : Hp) : Prop := ∃ a, x = .ref a ∧ (∃ xs, SqL K H a xs) ∧ R (Itl K a) H
def OvT (K : PySem.W.Frag) (R : It → Hp → Prop) (x : V) (H : Hp) : Prop := ∃ a, x = .ref a ∧ (∃ xs, SqT K H a xs) ∧ R (Itt K a) H
def OvS (R : It → Hp → Prop) (x : V) (H : Hp) : Prop := ∃ z, x = .str z ∧ R (Its z) H
theorem gi_list {R : It → Hp → Prop} (h : te σ H (OvL K R)) : iAny K te σ H R := .inl h
theorem gi_tup {R : It → Hp → Prop} (h : te σ H (OvT K R)) : iAny K te σ H R := .inr (.inl h)
theorem gi_str {R : It → Hp → Prop} (h : te σ H (OvS R)) : iAny K te σ H R := .inr (.inr h)
theorem v_ovL {R : It → Hp → Prop} {p : Addr} {xs : List V} (h : SqL K H p xs) (q : R (Itl K p) H) : OvL K R (.ref p) H := ⟨p, rfl, ⟨xs, h⟩, q⟩
theorem v_ovT {R : It → Hp → Prop} {p : Addr} {xs : List V} (h : SqT K H p xs) (q : R (Itt K p) H) : OvT K R (.ref p) H := ⟨p, rfl, ⟨xs, h⟩, q⟩
theorem v_ovS {R : It → Hp → Prop} {z : Str} (q : R (Its z) H) : OvS R (.str z) H := ⟨z, rfl, q⟩
theorem l_range {lo : Int} {n : Nat} (Pv : Nat → L2.St → Hp → Prop) (h0 : Pv 0 σ H) (hs : ∀ i σ H, i < n → Pv i σ H → g (.int (lo + i)) σ H fun σ2 H2 => tb ⟨Pv (i + 1), rt, nx, Pv (i + 1)⟩ σ2 H2)
    (hd : ∀ σ H, Pv n σ H → nx σ H) : LoopG (Itr lo n) g tb ⟨nx, rt, bk, ct⟩ σ H := for_range (D := ⟨nx, rt, bk, ct⟩) Pv h0 hs hd
theorem l_list {a : Addr} {xs : List V} (Pv : Nat → L2.St → Hp → Prop) (h0 : Pv 0 σ H) (hl : ∀ i σ H, i ≤ xs.length → Pv i σ H → SqL K H a xs)
    (hs : ∀ i x σ H, xs[i]? = some x → Pv i σ H → g x σ H fun σ2 H2 => tb ⟨Pv (i + 1), rt, nx, Pv (i + 1)⟩ σ2 H2) (hd : ∀ σ H, Pv xs.length σ H → nx σ H) : LoopG (Itl K a) g tb ⟨nx, rt, bk, ct⟩ σ H := for_list (D := ⟨nx, rt, bk, ct⟩) Pv h0 hl hs hd
theorem l_tup {a : Addr} {xs : List V} (Pv : Nat → L2.St → Hp → Prop) (h0 : Pv 0 σ H) (hl : ∀ i σ H, i ≤ xs.length → Pv i σ H → SqT K H a xs)
    (hs : ∀ i x σ H, xs[i]? = some x → Pv i σ H → g x σ H fun σ2 H2 => tb ⟨Pv (i + 1), rt, nx, Pv (i + 1)⟩ σ2 H2) (hd : ∀ σ H, Pv xs.length σ H → nx σ H) : LoopG (Itt K a) g tb ⟨nx, rt, bk, ct⟩ σ H := for_tup (D := ⟨nx, rt, bk, ct⟩) Pv h0 hl hs hd
theorem l_str {zs : List Nat} (Pv : Nat → L2.St → Hp → Prop) (h0 : Pv 0 σ H) (hs : ∀ i c σ H, zs[i]? = some c → Pv i σ H → g (.str ⟨#[c]⟩) σ H fun σ2 H2 => tb ⟨Pv (i + 1), rt, nx, Pv (i + 1)⟩ σ2 H2)
    (hd : ∀ σ H, Pv zs.length σ H → nx σ H) : LoopG (Its ⟨zs.toArray⟩) g tb ⟨nx, rt, bk, ct⟩ σ H := by
  refine ⟨fun i m σ H => m = zs.length - i ∧ i ≤ zs.length ∧ Pv i σ H, ⟨zs.length, by simp, Nat.zero_le _, h0⟩, ?_⟩
  rintro i m σ H ⟨rfl, hi, p⟩
  by_cases hlt : i < zs.length
  · refine .inr ⟨(by show i < zs.toArray.size; simpa using hlt), Pv (i + 1), fun σ' H' p' => ⟨zs.length - (i + 1), by omega, rfl, hlt, p'⟩, fun x H' y => ?_⟩
    obtain ⟨e, c, hc, ex⟩ := y
    subst e ex
    exact hs i c σ _ (by simpa using hc) p
  · have e : i = zs.length := by omega
    subst e
    exact .inl ⟨(by show zs.toArray.size ≤ zs.length; simp), hd σ H p⟩
theorem g_while (h : ∃ W : Nat → L2.St → Hp → Prop, (∃ m, W m σ H) ∧ ∀ m σ H, W m σ H →
    tt σ H fun b H1 => if b = true then ∃ N : L2.St → Hp → Prop, (∀ σ' H', N σ' H' → ∃ m', m' < m ∧ W m' σ' H') ∧ tb ⟨N, rt, nx, N⟩ σ H1 else nx σ H1) : tWhile tt tb ⟨nx, rt, bk, ct⟩ σ H := h
theorem g_turn {W : Nat → L2.St → Hp → Prop} {m : Nat} (h : tb ⟨fun σ' H' => ∃ m', m' < m ∧ W m' σ' H', rt, nx, fun σ' H' => ∃ m', m' < m ∧ W m' σ' H'⟩ σ H) :
    ∃ N : L2.St → Hp → Prop, (∀ σ' H', N σ' H' → ∃ m', m' < m ∧ W m' σ' H') ∧ tb ⟨N, rt, nx, N⟩ σ H := ⟨_, fun _ _ z => z, h⟩
/-! methods of lists, texts, stores -/
theorem g_bm {T : String} {r : V → List V → Hp → VK → Prop} (h : ta σ H fun x H1 => tyV K T x H1 ∧ TA1 σ H1 fun xs H2 => r x xs H2 Q) : tBM K T r ta TA1 σ H Q := h
theorem g_bm0 {T : String} {r : V → List V → Hp → VK → Prop} (h : ta σ H fun x H1 => tyV K T x H1 ∧ r x [] H1 Q) : tBM0 K T r ta σ H Q := h
theorem g_tyL {p : Addr} {xs : List V} {A : Prop} (h : H p = some (.lst xs)) (q : A) : tyV K "list" (.ref p) H ∧ A := ⟨.inl ⟨rfl, _, SqL.of h⟩, q⟩
theorem g_tyS {z : Str} {A : Prop} (q : A) : tyV K "str" (.str z) H ∧ A := ⟨rfl, q⟩
theorem v_append {l : Addr} {xs : List V} (h : H l = some (.lst xs)) (hl : xs.length < sizeLine) (q : Q .non (upd H l (.lst (xs ++ [y])))) : rAppend (.ref l) [y] H Q := ⟨_, _, _, rfl, rfl, h, hl, q⟩
theorem g_m1 {r : V → List V → Hp → VK → Prop} (h : ta σ H fun x H1 => (∃ a, x = .str a) ∧ tc σ H1 fun y H2 => r x [y] H2 Q) : tM1 r ta tc σ H Q := h
theorem g_isS {z : Str} {A : Prop} (q : A) : (∃ a, V.str z = .str a) ∧ A := ⟨⟨_, rfl⟩, q⟩
theorem v_join {p : Addr} {a : Str} {ys : List Str} (h : H p = some (.lst (ys.map V.str))) (hz : (ys.map (·.length)).sum + ys.length * a.length ≤ 16777216) (q : Q (.str (Txt.join a ys)) H) : rJoin K (.str a) [.ref p] H Q := ⟨_, _, _, rfl, rfl, .inl (SqL.of h), hz, q⟩
theorem v_starts3 {a b : Str} {n : Int} (q : Q (.bl (Txt.startswith3 a b n)) H) : rStarts3 (.str a) [.str b, .int n] H Q := ⟨_, _, _, rfl, rfl, q⟩
theorem g_sl {r : V → Option Int → Option Int → Hp → VK → Prop} {tl th : TO} (h : te σ H fun x H1 => tl σ H1 fun l H2 => th σ H2 fun u H3 => r x l u H3 Q) : tSl r te tl th σ H Q := h
theorem g_no {Q : Option Int → Hp → Prop} (h : Q none H) : tNoPart σ H Q := h
def PartK (x : V) (H : Hp) (Q : Option Int → Hp → Prop) : Prop := ∃ i, x = .int i ∧ Q (some i) H
theorem g_part {Q : Option Int → Hp → Prop} (h : te σ H fun x H1 => PartK x H1 Q) : tPart te σ H Q := h
theorem g_isI {n : Int} {Q : Option Int → Hp → Prop} (h : Q (some n) H) : PartK (.int n) H Q := ⟨_, rfl, h⟩
theorem v_slS {z : Str} {lo hi : Option Int} (h : z.length ≤ sizeLine) (q : Q (.str (cutS z lo hi)) H) : rSlX K (.str z) lo hi H Q := .inl ⟨_, rfl, h, q⟩
theorem v_slL {p : Addr} {xs : List V} {lo hi : Option Int} (h : H p = some (.lst xs)) (q : ∀ p, H p = none → Q (.ref p) (upd H p (.lst (cutV xs lo hi)))) : rSlX K (.ref p) lo hi H Q := .inr ⟨_, _, rfl, SqL.of h, q⟩
theorem g_make {C : Addr} {sp : Sp} {E : XK} (h : TA1 σ H fun vs H1 => ∀ x dx, H1 x = none → H1 dx = none → dx ≠ x → sp (.ref x :: vs) (upd (upd H1 dx (.own x)) x (.ins C dx [])) (fun v H2 => v = .non ∧ Q (.ref x) H2) E) : tMake C sp [] E TA1 σ H Q := by
  show TA1 σ H fun vs H1 => ∀ x dx, H1 x = none → H1 dx = none → dx ≠ x → sp (.ref x :: (vs ++ [])) (upd (upd H1 dx (.own x)) x (.ins C dx [])) (fun v H2 => v = .non ∧ Q (.ref x) H2) E
  simp only [List.append_nil]
  exact h
def FldK (K : PySem.W.Frag) (f : Str) (x : V) (H : Hp) (Q : VK) : Prop := ∃ a C dx fs v, x = .ref a ∧ H a = some (.ins C dx fs) ∧ Cls K C ∧ NoAttr K C f ∧ fs.lookup f = some v ∧ Q v H
theorem g_fld {f : Str} (h : ta σ H fun x H1 => FldK K f x H1 Q) : tFld K ta f σ H Q := h
theorem v_fld {a C dx : Addr} {fs : List (Str × V)} {f : Str} (h : H a = some (.ins C dx fs)) (c : Cls K C) (n : NoAttr K C f) (l : fs.lookup f = some v) (q : Q v H) : FldK K f (.ref a) H Q := ⟨_, _, _, _, _, rfl, h, c, n, l, q⟩
def SfldK (K : PySem.W.Frag) (f : Str) (x y : V) (H : Hp) (S : Hp → Prop) : Prop := ∃ a C dx fs, x = .ref a ∧ H a = some (.ins C dx fs) ∧ Cls K C ∧ NoAttr K C f ∧ fs.length < 1000 ∧ S (upd H a (.ins C dx (putF f y fs)))
theorem g_sfld {tv : TE} {f : Str} (h : tv σ H fun y H1 => ta σ H1 fun x H2 => SfldK K f x y H2 (nx σ)) : sFld K ta tv f ⟨nx, rt, bk, ct⟩ σ H := h
theorem v_sfld {a C dx : Addr} {fs : List (Str × V)} {f : Str} {S : Hp → Prop} (h : H a = some (.ins C dx fs)) (c : Cls K C) (n : NoAttr K C f) (l : fs.length < 1000) (q : S (upd H a (.ins C dx (putF f y fs)))) :
    SfldK K f (.ref a) y H S := ⟨_, _, _, _, rfl, h, c, n, l, q⟩
theorem g_asgG (h : te σ H fun x H1 => g x σ H1 nx) : tAsg te g ⟨nx, rt, bk, ct⟩ σ H := h
theorem g_sub {S : L2.St → Hp → Prop} {to ti : TE} {ts : TSet} (h : to σ H fun o H1 => ti σ H1 fun i H2 => ts o i v H2 fun H3 => S σ H3) : gSub to ti ts v σ H S := h
theorem v_setL {p : Addr} {xs : List V} {n : Int} {j : Nat} {S : Hp → Prop} (h : H p = some (.lst xs)) (e : ixN xs.length n = some j) (q : S (upd H p (.lst (xs.set j v)))) : rSetL (.ref p) (.int n) v H S := ⟨_, _, _, _, rfl, rfl, h, e, q⟩
theorem g_gtup {S : L2.St → Hp → Prop} {n : Nat} {t : TGs} {a : Addr} {xs : List V} (h : H a = some (.tup xs)) (l : xs.length = n) (q : t xs σ H S) : gTup K n t (.ref a) σ H S := ⟨a, xs, rfl, SqT.of h, l, q⟩
theorem g_gcons {S : L2.St → Hp → Prop} {t : TG} {u : TGs} {r : List V} (h : t v σ H fun σ' H' => u r σ' H' S) : gCons t u (v :: r) σ H S := ⟨v, r, rfl, h⟩
theorem g_gnil {S : L2.St → Hp → Prop} (h : S σ H) : gNil [] σ H S := ⟨rfl, h⟩
theorem g_cut (Mid : L2.St → Hp → Prop) (h1 : t ⟨Mid, rt, bk, ct⟩ σ H) (h2 : ∀ σ' H', Mid σ' H' → u ⟨nx, rt, bk, ct⟩ σ' H') : C8.tCut t u ⟨nx, rt, bk, ct⟩ σ H := ⟨Mid, h1, h2⟩
theorem g_thr (h : t ⟨u ⟨nx, rt, bk, ct⟩, rt, bk, ct⟩ σ H) : C8.tCut t u ⟨nx, rt, bk, ct⟩ σ H := ⟨_, h, fun _ _ z => z⟩
theorem v_lenSq {p : Addr} {xs : List V} (h : SqL K H p xs) (q : Q (.int (xs.length : Int)) H) : rLen K [.ref p] H Q := ⟨_, _, rfl, .inl ⟨_, h, rfl⟩, q⟩
theorem v_ixSq {p : Addr} {xs : List V} {n : Int} (h : SqL K H p xs) (e : atI xs n = some v) (q : Q v H) : rIx K (.ref p) (.int n) H Q := .inl ⟨_, _, _, _, rfl, rfl, h, e, q⟩
theorem up_new {p a : Addr} {o u : HO} (h : H a = some u) (n : H p = none) : upd H p o a = some u := by rw [upd_ne (ne_of_none h n)]; exact h
theorem same_new {p : Addr} {o : HO} (n : H p = none) : Same H (upd H p o) := fun _ _ h => up_new h n
/-- all stays but what stands at d -/
def Sb (d : Addr) (H H' : Hp) : Prop := ∀ b o, b ≠ d → H b = some o → H' b = some o
theorem Sb.refl {d : Addr} : Sb d H H := fun _ _ _ h => h
theorem Sb.trans {d : Addr} {H1 H2 : Hp} (a : Sb d H H1) (b : Sb d H1 H2) : Sb d H H2 := fun c o n h => b c o n (a c o n h)
theorem Sb.upd {d : Addr} {o : HO} : Sb d H (L2.upd H d o) := fun b _ n h => by rw [upd_ne n]; exact h
theorem Same.sb {d : Addr} {H1 : Hp} (a : Same H H1) : Sb d H H1 := fun c o _ h => a c o h
theorem atN {α : Type} {xs : List α} {i : Nat} {x : α} {n : Int} (e : n = (i : Int)) (h : xs[i]? = some x) : atI xs n = some x := by rw [e]; exact atI_nat h
theorem iteNT {A B : Prop} (h : B) : if (!true) = true then A else B := by
  rw [if_neg (by decide)]
  exact h
theorem iteNF {A B : Prop} (h : A) : if (!false) = true then A else B := by
  rw [if_pos (by decide)]
  exact h
theorem g_meth {C : Addr} {m : Str} {sp : Sp} {E : L2.St → XK} (h : ta σ H fun x H1 => ∃ a dx fs, x = .ref a ∧ H1 a = some (.ins C dx fs) ∧ fs.lookup m = none ∧ TA1 σ H1 fun vs H2 => sp (x :: vs) H2 Q (E σ)) : tMethD C m sp [] E ta TA1 σ H Q := by
  show ta σ H fun x H1 => ∃ a dx fs, x = .ref a ∧ H1 a = some (.ins C dx fs) ∧ fs.lookup m = none ∧ TA1 σ H1 fun vs H2 => sp (x :: (vs ++ [])) H2 Q (E σ)
  simp only [List.append_nil]
  exact h
theorem v_find {a b : Str} (q : Q (.int (Txt.find a b)) H) : rFind (.str a) [.str b] H Q := ⟨_, _, rfl, rfl, q⟩
theorem v_listL {p : Addr} {ys : List V} (h : SqL K H p ys) (q : ∀ l, H l = none → Q (.ref l) (upd H l (.lst ys))) : rListX K [.ref p] H Q := .inl ⟨_, _, rfl, .inl h, q⟩
theorem v_listT {p : Addr} {ys : List V} (h : SqT K H p ys) (q : ∀ l, H l = none → Q (.ref l) (upd H l (.lst ys))) : rListX K [.ref p] H Q := .inl ⟨_, _, rfl, .inr h, q⟩
/-! comprehensions -/
def LcG (J : It) (g : TG) (tt : TT) (te : TE) (σ0 : L2.St) (vs : List Nat) (D : Addr) (H1 : Hp) (Qd : Hp → Prop) : Prop := ∃ W : Nat → Nat → Hp → Prop, (∃ m, W 0 m (upd H1 D (.lst []))) ∧ ∀ i m H, W i m H →
      (J.stop i H ∧ Qd H) ∨ (J.go i H ∧ ∃ Nx : Hp → Prop, (∀ H', Nx H' → ∃ m', m' < m ∧ W (i + 1) m' H') ∧ ∀ x H', J.yld i H x H' → g x (wipe σ0 vs) H' fun σ2 H2 => wipe σ2 vs = wipe σ0 vs ∧ tt σ2 H2 fun b H3 =>
        if b = true then te σ2 H3 fun y H4 => ∃ acc, H4 D = some (.lst acc) ∧ acc.length < sizeLine ∧ Nx (upd H4 D (.lst (acc ++ [y]))) else Nx H3)
theorem g_lc {vs : List Nat} {g : TG} (h : wi σ H fun J H1 => ∀ D, H1 D = none → LcG J g tt te σ vs D H1 (Q (.ref D))) : tLc wi g tt te vs σ H Q := h
/-- a comprehension's new item -/
def PutC (D : Addr) (y : V) (H4 : Hp) (S : Hp → Prop) : Prop := ∃ acc, H4 D = some (.lst acc) ∧ acc.length < sizeLine ∧ S (upd H4 D (.lst (acc ++ [y])))
theorem v_put {D : Addr} {acc : List V} {S : Hp → Prop} (h : H D = some (.lst acc)) (hl : acc.length < sizeLine) (q : S (upd H D (.lst (acc ++ [y])))) : PutC D y H S := ⟨acc, h, hl, q⟩
theorem c_range {lo : Int} {n : Nat} {g : TG} {vs : List Nat} {D : Addr} {Qd : Hp → Prop} (Pv : Nat → Hp → Prop) (h0 : Pv 0 (upd H D (.lst [])))
    (hs : ∀ i H, i < n → Pv i H → g (.int (lo + i)) (wipe σ vs) H fun σ2 H2 => wipe σ2 vs = wipe σ vs ∧ tt σ2 H2 fun b H3 => if b = true then te σ2 H3 fun y H4 => PutC D y H4 (Pv (i + 1)) else Pv (i + 1) H3) (hd : ∀ H, Pv n H → Qd H) : LcG (Itr lo n) g tt te σ vs D H Qd := lc_range Pv h0 hs hd
theorem c_list {a : Addr} {xs : List V} {g : TG} {vs : List Nat} {D : Addr} {Qd : Hp → Prop} (Pv : Nat → Hp → Prop) (h0 : Pv 0 (upd H D (.lst []))) (hl : ∀ i H, i ≤ xs.length → Pv i H → SqL K H a xs)
    (hs : ∀ i x H, xs[i]? = some x → Pv i H → g x (wipe σ vs) H fun σ2 H2 => wipe σ2 vs = wipe σ vs ∧ tt σ2 H2 fun b H3 => if b = true then te σ2 H3 fun y H4 => PutC D y H4 (Pv (i + 1)) else Pv (i + 1) H3) (hd : ∀ H, Pv xs.length H → Qd H) : LcG (Itl K a) g tt te σ vs D H Qd := lc_list Pv h0 hl hs hd
theorem c_tup {a : Addr} {xs : List V} {g : TG} {vs : List Nat} {D : Addr} {Qd : Hp → Prop} (Pv : Nat → Hp → Prop) (h0 : Pv 0 (upd H D (.lst []))) (hl : ∀ i H, i ≤ xs.length → Pv i H → SqT K H a xs)
    (hs : ∀ i x H, xs[i]? = some x → Pv i H → g x (wipe σ vs) H fun σ2 H2 => wipe σ2 vs = wipe σ vs ∧ tt σ2 H2 fun b H3 => if b = true then te σ2 H3 fun y H4 => PutC D y H4 (Pv (i + 1)) else Pv (i + 1) H3) (hd : ∀ H, Pv xs.length H → Qd H) : LcG (Itt K a) g tt te σ vs D H Qd := lc_tup Pv h0 hl hs hd
theorem g_yes {Q : Bool → Hp → Prop} (h : Q true H) : tYes σ H Q := h
theorem g_chain {tb' : TE} {r' : R2} (h : ta σ H fun x H1 => tb' σ H1 fun y H2 => r x y H2 fun z H3 => TestK z H3 fun k H3 => if k = true then tc σ H3 fun w' H4 => r' y w' H4 Q else Q (.bl false) H3) : tChain r r' ta tb' tc σ H Q := h
/-! isinstance of single values -/
def isI : V → Bool
  | .int _ => true
  | .bl _ => true
  | _ => false
def isS : V → Bool
  | .str _ => true
  | _ => false
def isB : V → Bool
  | .bl _ => true
  | _ => false
theorem isi_flat {c : String} {b : Bool} (h : match x with | .non => kitB "NoneType" c = some b | .bl _ => kitB "bool" c = some b | .int _ => kitB "int" c = some b | .str _ => kitB "str" c = some b | _ => False) (q : Q (.bl b) H) : rIsi K [x, .ty c] H Q := by
  cases x with
  | non => exact ⟨_, _, _, _, b, rfl, .ty c, .base .non, kit_ty h, q⟩
  | bl z => exact ⟨_, _, _, _, b, rfl, .ty c, .base (.bl z), kit_ty h, q⟩
  | int z => exact ⟨_, _, _, _, b, rfl, .ty c, .base (.int z), kit_ty h, q⟩
  | str z => exact ⟨_, _, _, _, b, rfl, .ty c, .base (.str z), kit_ty h, q⟩
  | _ => exact h.elim
theorem v_isiI (f : flatV x = true) (q : Q (.bl (isI x)) H) : rIsi K [x, .ty "int"] H Q := by
  refine isi_flat ?_ q
  cases x with
  | non => exact (by decide +kernel : kitB "NoneType" "int" = some false)
  | bl z => exact (by decide +kernel : kitB "bool" "int" = some true)
  | int z => exact (by decide +kernel : kitB "int" "int" = some true)
  | str z => exact (by decide +kernel : kitB "str" "int" = some false)
  | _ => exact absurd (show false = true from f) Bool.false_ne_true
theorem v_isiS (f : flatV x = true) (q : Q (.bl (isS x)) H) : rIsi K [x, .ty "str"] H Q := by
  refine isi_flat ?_ q
  cases x with
  | non => exact (by decide +kernel : kitB "NoneType" "str" = some false)
  | bl z => exact (by decide +kernel : kitB "bool" "str" = some false)
  | int z => exact (by decide +kernel : kitB "int" "str" = some false)
  | str z => exact (by decide +kernel : kitB "str" "str" = some true)
  | _ => exact absurd (show false = true from f) Bool.false_ne_true
theorem v_isiB (f : flatV x = true) (q : Q (.bl (isB x)) H) : rIsi K [x, .ty "bool"] H Q := by
  refine isi_flat ?_ q
  cases x with
  | non => exact (by decide +kernel : kitB "NoneType" "bool" = some false)
  | bl z => exact (by decide +kernel : kitB "bool" "bool" = some true)
  | int z => exact (by decide +kernel : kitB "int" "bool" = some false)
  | str z => exact (by decide +kernel : kitB "str" "bool" = some false)
  | _ => exact absurd (show false = true from f) Bool.false_ne_true
theorem v_isiL {p : Addr} {xs : List V} (h : H p = some (.lst xs)) (q : Q (.bl true) H) : rIsi K [.ref p, .ty "list"] H Q := ⟨_, _, _, _, true, rfl, .ty _, .base (.lst h), kit_ty (by decide +kernel), q⟩
theorem v_isiO {p C C' dx : Addr} {fs : List (Str × V)} {b : Bool} (h : H p = some (.ins C dx fs)) (cl : Cls K C) (f : InsF K C) (k : PySem.W.kitOne K (.ref C) (.ref C') = some b) (q : Q (.bl b) H) : rIsi K [.ref p, .ref C'] H Q :=
  ⟨_, _, _, _, b, rfl, .own C', .base (.ins h cl f.ha f.hn f.htk f.hm), k, q⟩
theorem v_isiOT {p C dx : Addr} {fs : List (Str × V)} {b : Bool} {c : String} (h : H p = some (.ins C dx fs)) (cl : Cls K C) (f : InsF K C) (k : PySem.W.kitOne K (.ref C) (.type c) = some b) (q : Q (.bl b) H) : rIsi K [.ref p, .ty c] H Q :=
  ⟨_, _, _, _, b, rfl, .ty c, .base (.ins h cl f.ha f.hn f.htk f.hm), k, q⟩
def MethK (C : Addr) (m : Str) (x : V) (H1 : Hp) (S : Hp → Prop) : Prop := ∃ a dx fs, x = .ref a ∧ H1 a = some (.ins C dx fs) ∧ fs.lookup m = none ∧ S H1
theorem g_meth1 {C : Addr} {m : Str} {sp : Sp} {E : L2.St → XK} (h : ta σ H fun x H1 => MethK C m x H1 fun H1 => TA1 σ H1 fun vs H2 => sp (x :: vs) H2 Q (E σ)) : tMethD C m sp [] E ta TA1 σ H Q := g_meth h
theorem v_meth {C a dx : Addr} {m : Str} {fs : List (Str × V)} {S : Hp → Prop} (h : H a = some (.ins C dx fs)) (l : fs.lookup m = none) (q : S H) : MethK C m (.ref a) H S := ⟨_, _, _, rfl, h, l, q⟩
theorem g_orL {te' : TE} (h : te σ H Q) : tEor te te' σ H Q := .inl h
theorem g_orR {te' : TE} (h : te' σ H Q) : tEor te te' σ H Q := .inr h
theorem g_lstRg {a b : TE} (h : a σ H fun x H1 => b σ H1 fun y H2 => ∃ i j, x = .int i ∧ y = .int j ∧ RgOk i j ∧ ∀ q, H2 q = none → Q (.ref q) (upd H2 q (.lst (rgV i j)))) : tLstRg (tRg2 a b) σ H Q := h
theorem ite_same {c A : Prop} [Decidable c] (h : A) : if c then A else A := by
  split <;> exact h
end
end G

namespace Lw
open PySem PySem.Spec PyProof.Rows L2 G
def top (i : Nat) : Stmt := PySem.Challenge.pw_oneheap_k16_nearest_integers.main.body.getD i (.Pass ⟨0, 0, 0, 0⟩)
abbrev s__law_cells : Stmt := top 16
abbrev s__law_draw : Stmt := top 17
abbrev s__law_pick : Stmt := top 18
abbrev s__law_terms : Stmt := top 19
abbrev s__law_factor : Stmt := top 21
abbrev s__law_rows : Stmt := top 22
abbrev s__law_value : Stmt := top 20
abbrev s__law_better : Stmt := top 23
abbrev s_clamp : Stmt := top 5
abbrev s_Form_factor_of : Stmt := inClass (top 14) 2
abbrev s_Form_alone : Stmt := inClass (top 14) 1
abbrev s_within : Stmt := top 3
abbrev s_Form_result : Stmt := inClass (top 14) 3
abbrev s_solves : Stmt := top 4
abbrev s_one_source : Stmt := top 6
abbrev s_crossing : Stmt := top 10
abbrev s_bezout : Stmt := top 2
abbrev s_step_range : Stmt := top 7
abbrev s_nearest_step : Stmt := top 8
abbrev s_on_a_line : Stmt := top 9
abbrev s_two_sources : Stmt := top 11
abbrev s_nearest_source : Stmt := top 12
abbrev s_Form_init : Stmt := inClass (top 14) 0
abbrev s_law : Stmt := top 24
/-! ### readings -/
/-- _law_cells: 0 _law_script, 1 _law_count, 2 _law_cells_here, 3 _law_k, 4 _law_cell -/
def t__law_cells (K : PySem.W.Frag) : TS :=
  (tSeq (tAsg (tLst tNil) (gName 2)) (tSeq (tFor (iRng1 (tCons (tVar 1) tNil)) (gName 3) (tSeq (tAsg (tOp (rAddX K) (tOp rMulX (tC (.int 7)) (tVar 3)) (tC (.int 3))) (gName 4)) (C8.tCut (tIfS (tTest (tOp (rLtX K) (tVar 3) (tCB (rLen K) (tCons (tVar 0) tNil)))) (tSeq (tAsg (tCB rIntX (tCons (tOp (rIx K) (tVar 0) (tVar 3)) tNil)) (gName 4)) (tIfS (tTest (tOp (rLtX K) (tVar 4) (tC (.int 0)))) (tAsg (tOp rSubX (tC (.int 1)) (tOp rMulX (tC (.int 2)) (tVar 4))) (gName 4)) tNext)) tNext) (C8.tCut (tIfS (tTest (tOp (rLtX K) (tVar 4) (tC (.int 1000000000)))) (tSeq (tAsg (tOp rModX (tOp (rAddX K) (tOp (rAddX K) (tOp rMulX (tCB rIntX (tCons (tVar 4) tNil)) (tC (.int 1103515245))) (tC (.int 12345))) (tOp rMulX (tC (.int 131)) (tVar 3))) (tC (.int 2147483647))) (gName 4)) (tAsg (tOp rModX (tOp (rAddX K) (tOp rMulX (tCB rIntX (tCons (tVar 4) tNil)) (tC (.int 6364136223846793005))) (tC (.int 1442695040888963407))) (tC (.int 18446744073709551557))) (gName 4))) tNext) (tDrop (tBM K "list" rAppend (tVar 2) (tCons (tVar 4) tNil))))))) (tRet (tVar 2))))
def sp__law_cells (K : PySem.W.Frag) : Sp := fun vs H Q E => vs.length = 2 ∧ t__law_cells K ⟨fun _ H' => Q .non H', Q, fun _ _ => False, fun _ _ => False⟩ (start ["_law_script", "_law_count", "_law_cells_here", "_law_k", "_law_cell"] vs) H
/-- _law_draw: 0 _law_draws, 1 _law_bound, 2 _law_value_here -/
def t__law_draw (K : PySem.W.Frag) : TS :=
  (C8.tCut (tIfS (tAnd (tTest (tOp (rEqX K) (tOp (rIx K) (tVar 0) (tC (.int 0))) (tC (.int 0)))) (tTest (tOp rGtX (tCB (rLen K) (tCons (tVar 0) tNil)) (tC (.int 1))))) (tDrop (tBM K "list" (fun x vs H Q => rPop x vs H Q ∨ rPopAt x vs H Q) (tVar 0) (tCons (tC (.int 0)) tNil))) tNext) (tSeq (tAsg (tOp rModX (tCB rIntX (tCons (tOp (rIx K) (tVar 0) (tC (.int 0))) tNil)) (tVar 1)) (gName 2)) (tSeq (tAsg (tOp rDivX (tOp (rIx K) (tVar 0) (tC (.int 0))) (tVar 1)) (gSub (tVar 0) (tC (.int 0)) rSetL)) (tRet (tVar 2)))))
def sp__law_draw (K : PySem.W.Frag) : Sp := fun vs H Q E => vs.length = 2 ∧ t__law_draw K ⟨fun _ H' => Q .non H', Q, fun _ _ => False, fun _ _ => False⟩ (start ["_law_draws", "_law_bound", "_law_value_here"] vs) H
/-- _law_pick: 0 _law_draws, 1 _law_row -/
def t__law_pick (K : PySem.W.Frag) : TS :=
  (tRet (tOp (rIx K) (tVar 1) (tCallSD (sp__law_draw K) [] Ez (tCons (tVar 0) (tCons (tCB (rLen K) (tCons (tVar 1) tNil)) tNil)))))
def sp__law_pick (K : PySem.W.Frag) : Sp := fun vs H Q E => vs.length = 2 ∧ t__law_pick K ⟨fun _ H' => Q .non H', Q, fun _ _ => False, fun _ _ => False⟩ (start ["_law_draws", "_law_row"] vs) H
/-- _law_terms: 0 _law_draws, 1 _law_names, 2 _law_row, 3 _law_turn -/
def t__law_terms (K : PySem.W.Frag) : TS :=
  (tSeq (tAsg (tLst tNil) (gName 2)) (tSeq (tFor (iRng1 (tCons (tOp (rAddX K) (tC (.int 1)) (tCallSD (sp__law_draw K) [] Ez (tCons (tVar 0) (tCons (tC (.int 3)) tNil)))) tNil)) (gName 3) (tDrop (tBM K "list" rAppend (tVar 2) (tCons (tTup (tCons (tOp rSubX (tCallSD (sp__law_draw K) [] Ez (tCons (tVar 0) (tCons (tC (.int 9)) tNil))) (tC (.int 4))) (tCons (tCallSD (sp__law_pick K) [] Ez (tCons (tVar 0) (tCons (tOp (rAddX K) (tOp (rAddX K) (tLst (tCons (tC .non) tNil)) (tVar 1)) (tVar 1)) tNil))) tNil))) tNil)))) (tRet (tVar 2))))
def sp__law_terms (K : PySem.W.Frag) : Sp := fun vs H Q E => vs.length = 2 ∧ t__law_terms K ⟨fun _ H' => Q .non H', Q, fun _ _ => False, fun _ _ => False⟩ (start ["_law_draws", "_law_names", "_law_row", "_law_turn"] vs) H
/-- _law_factor: 0 _law_terms_here, 1 _law_name, 2 _law_term -/
def t__law_factor (K : PySem.W.Frag) : TS :=
  (tRet (tCB (rSum K) (tCons (tLc (iAny K (tVar 0)) (gName 2) (tTest (tOp (rEqX K) (tOp (rIx K) (tVar 2) (tC (.int 1))) (tVar 1))) (tOp (rIx K) (tVar 2) (tC (.int 0))) [2]) tNil)))
def sp__law_factor (K : PySem.W.Frag) : Sp := fun vs H Q E => vs.length = 2 ∧ t__law_factor K ⟨fun _ H' => Q .non H', Q, fun _ _ => False, fun _ _ => False⟩ (start ["_law_terms_here", "_law_name", "_law_term"] vs) H
/-- _law_rows: 0 _law_bounds, 1 _law_rows_here, 2 _law_pair, 3 _law_longer, 4 _law_row, 5 _law_value_here -/
def t__law_rows (K : PySem.W.Frag) : TS :=
  (tSeq (tAsg (tLst (tCons (tLst tNil) tNil)) (gName 1)) (tSeq (tFor (iAny K (tVar 0)) (gName 2) (tSeq (tAsg (tLst tNil) (gName 3)) (tSeq (tFor (iAny K (tVar 1)) (gName 4) (tFor (iRng2 (tCons (tOp (rIx K) (tVar 2) (tC (.int 0))) (tCons (tOp (rAddX K) (tOp (rIx K) (tVar 2) (tC (.int 1))) (tC (.int 1))) tNil))) (gName 5) (tDrop (tBM K "list" rAppend (tVar 3) (tCons (tOp (rAddX K) (tVar 4) (tLst (tCons (tVar 5) tNil))) tNil))))) (tAsg (tVar 3) (gName 1))))) (tRet (tVar 1))))
def sp__law_rows (K : PySem.W.Frag) : Sp := fun vs H Q E => vs.length = 1 ∧ t__law_rows K ⟨fun _ H' => Q .non H', Q, fun _ _ => False, fun _ _ => False⟩ (start ["_law_bounds", "_law_rows_here", "_law_pair", "_law_longer", "_law_row", "_law_value_here"] vs) H
/-- _law_value: 0 _law_terms_here, 1 _law_names, 2 _law_row, 3 _law_total, 4 _law_term -/
def t__law_value (K : PySem.W.Frag) : TS :=
  (tSeq (tAsg (tC (.int 0)) (gName 3)) (tSeq (tFor (iAny K (tVar 0)) (gName 4) (tIfS (tTest (tOp rIsX (tOp (rIx K) (tVar 4) (tC (.int 1))) (tC .non))) (tAsg (tOp (rAddX K) (tVar 3) (tOp (rIx K) (tVar 4) (tC (.int 0)))) (gName 3)) (tAsg (tOp (rAddX K) (tVar 3) (tOp rMulX (tOp (rIx K) (tVar 4) (tC (.int 0))) (tOp (rIx K) (tVar 2) (tBM K "list" (rIndex K) (tVar 1) (tCons (tOp (rIx K) (tVar 4) (tC (.int 1))) tNil))))) (gName 3)))) (tRet (tVar 3))))
def sp__law_value (K : PySem.W.Frag) : Sp := fun vs H Q E => vs.length = 3 ∧ t__law_value K ⟨fun _ H' => Q .non H', Q, fun _ _ => False, fun _ _ => False⟩ (start ["_law_terms_here", "_law_names", "_law_row", "_law_total", "_law_term"] vs) H
/-- _law_better: 0 _law_row, 1 _law_best, 2 _law_old, 3 _law_k -/
def t__law_better (K : PySem.W.Frag) : TS :=
  (tSeq (tIfS (tTest (tOp rIsX (tVar 1) (tC .non))) (tRet (tC (.bl true))) tNext) (tSeq (tFor (iRng1 (tCons (tCB (rLen K) (tCons (tVar 0) tNil)) tNil)) (gName 3) (tIfS (tOr (tTest (tOp rIsX (tVar 2) (tC .non))) (tTest (tOp (rInX K) (tC .non) (tVar 2)))) (tIfS (tTest (tOp (rNeX K) (tOp (rIx K) (tVar 0) (tVar 3)) (tOp (rIx K) (tVar 1) (tVar 3)))) (tRet (tOp (rLtX K) (tOp (rIx K) (tVar 0) (tVar 3)) (tOp (rIx K) (tVar 1) (tVar 3)))) tNext) (tIfS (tTest (tOp (rNeX K) (tCB rAbs (tCons (tOp rSubX (tOp (rIx K) (tVar 0) (tVar 3)) (tOp (rIx K) (tVar 2) (tVar 3))) tNil)) (tCB rAbs (tCons (tOp rSubX (tOp (rIx K) (tVar 1) (tVar 3)) (tOp (rIx K) (tVar 2) (tVar 3))) tNil)))) (tRet (tOp (rLtX K) (tCB rAbs (tCons (tOp rSubX (tOp (rIx K) (tVar 0) (tVar 3)) (tOp (rIx K) (tVar 2) (tVar 3))) tNil)) (tCB rAbs (tCons (tOp rSubX (tOp (rIx K) (tVar 1) (tVar 3)) (tOp (rIx K) (tVar 2) (tVar 3))) tNil)))) (tIfS (tTest (tOp (rNeX K) (tOp (rIx K) (tVar 0) (tVar 3)) (tOp (rIx K) (tVar 1) (tVar 3)))) (tRet (tOp (rLtX K) (tOp (rIx K) (tVar 0) (tVar 3)) (tOp (rIx K) (tVar 1) (tVar 3)))) tNext)))) (tRet (tC (.bl false)))))
def sp__law_better (K : PySem.W.Frag) : Sp := fun vs H Q E => vs.length = 3 ∧ t__law_better K ⟨fun _ H' => Q .non H', Q, fun _ _ => False, fun _ _ => False⟩ (start ["_law_row", "_law_best", "_law_old", "_law_k"] vs) H
/-- clamp: 0 low, 1 high, 2 value -/
def t_clamp (K : PySem.W.Frag) : TS :=
  (tRet (tCB rMax2 (tCons (tVar 0) (tCons (tCB rMin2 (tCons (tVar 1) (tCons (tVar 2) tNil))) tNil))))
def sp_clamp (K : PySem.W.Frag) : Sp := fun vs H Q E => vs.length = 3 ∧ t_clamp K ⟨fun _ H' => Q .non H', Q, fun _ _ => False, fun _ _ => False⟩ (start ["low", "high", "value"] vs) H
/-- Form.factor_of: 0 self, 1 wanted, 2 factor, 3 name -/
def t_Form_factor_of (K : PySem.W.Frag) : TS :=
  (tRet (tCB (rSum K) (tCons (tLc (iAny K (tFld K (tVar 0) ("terms" : Str))) (gTup K 2 (gCons (gName 2) (gCons (gName 3) gNil))) (tTest (tOp (rEqX K) (tVar 3) (tVar 1))) (tVar 2) [2, 3]) tNil)))
def sp_Form_factor_of (K : PySem.W.Frag) : Sp := fun vs H Q E => vs.length = 2 ∧ t_Form_factor_of K ⟨fun _ H' => Q .non H', Q, fun _ _ => False, fun _ _ => False⟩ (start ["self", "wanted", "factor", "name"] vs) H
/-- Form.alone: 0 self, 1 factor, 2 name -/
def t_Form_alone (K : PySem.W.Frag) : TS :=
  (tRet (tCB (rSum K) (tCons (tLc (iAny K (tFld K (tVar 0) ("terms" : Str))) (gTup K 2 (gCons (gName 1) (gCons (gName 2) gNil))) (tTest (tOp rIsX (tVar 2) (tC .non))) (tVar 1) [1, 2]) tNil)))
def sp_Form_alone (K : PySem.W.Frag) : Sp := fun vs H Q E => vs.length = 1 ∧ t_Form_alone K ⟨fun _ H' => Q .non H', Q, fun _ _ => False, fun _ _ => False⟩ (start ["self", "factor", "name"] vs) H
/-- within: 0 bounds, 1 row, 2 low, 3 high, 4 value -/
def t_within (K : PySem.W.Frag) : TS :=
  (tRet (tCB (rAll K) (tCons (tLc (iZip K (tCons (tVar 0) (tCons (tVar 1) tNil))) (gTup K 2 (gCons (gTup K 2 (gCons (gName 2) (gCons (gName 3) gNil))) (gCons (gName 4) gNil))) tYes (tChain rLeX rLeX (tVar 2) (tVar 4) (tVar 3)) [2, 3, 4]) tNil)))
def sp_within (K : PySem.W.Frag) : Sp := fun vs H Q E => vs.length = 2 ∧ t_within K ⟨fun _ H' => Q .non H', Q, fun _ _ => False, fun _ _ => False⟩ (start ["bounds", "row", "low", "high", "value"] vs) H
/-- Form.result: 0 self, 1 group, 2 row, 3 total, 4 name, 5 value -/
def t_Form_result (K : PySem.W.Frag) : TS :=
  (tSeq (tAsg (tMethD (He.ga K ("Form" : Str)) ("alone" : Str) (sp_Form_alone K) [] Ez (tVar 0) tNil) (gName 3)) (tSeq (tFor (iZip K (tCons (tVar 1) (tCons (tVar 2) tNil))) (gTup K 2 (gCons (gName 4) (gCons (gName 5) gNil))) (tAsg (tOp (rAddX K) (tVar 3) (tOp rMulX (tMethD (He.ga K ("Form" : Str)) ("factor_of" : Str) (sp_Form_factor_of K) [] Ez (tVar 0) (tCons (tVar 4) tNil)) (tVar 5))) (gName 3))) (tRet (tVar 3))))
def sp_Form_result (K : PySem.W.Frag) : Sp := fun vs H Q E => vs.length = 3 ∧ t_Form_result K ⟨fun _ H' => Q .non H', Q, fun _ _ => False, fun _ _ => False⟩ (start ["self", "group", "row", "total", "name", "value"] vs) H
/-- solves: 0 forms, 1 names, 2 made, 3 row, 4 form, 5 value -/
def t_solves (K : PySem.W.Frag) : TS :=
  (tRet (tCB (rAll K) (tCons (tLc (iZip K (tCons (tVar 0) (tCons (tVar 2) tNil))) (gTup K 2 (gCons (gName 4) (gCons (gName 5) gNil))) tYes (tOp (rEqX K) (tMethD (He.ga K ("Form" : Str)) ("result" : Str) (sp_Form_result K) [] Ez (tVar 4) (tCons (tVar 1) (tCons (tVar 3) tNil))) (tVar 5)) [4, 5]) tNil)))
def sp_solves (K : PySem.W.Frag) : Sp := fun vs H Q E => vs.length = 4 ∧ t_solves K ⟨fun _ H' => Q .non H', Q, fun _ _ => False, fun _ _ => False⟩ (start ["forms", "names", "made", "row", "form", "value"] vs) H
/-- one_source: 0 forms, 1 names, 2 bounds, 3 made, 4 target, 5 low, 6 high, 7 row, 8 form, 9 value, 10 factor -/
def t_one_source (K : PySem.W.Frag) : TS :=
  (tSeq (tAsg (tOp (rIx K) (tVar 2) (tC (.int 0))) (gTup K 2 (gCons (gName 5) (gCons (gName 6) gNil)))) (tSeq (tAsg (tLst (tCons (tCallSD (sp_clamp K) [] Ez (tCons (tVar 5) (tCons (tVar 6) (tCons (tOp (rIx K) (tVar 4) (tC (.int 0))) tNil)))) tNil)) (gName 7)) (tSeq (tFor (iZip K (tCons (tVar 0) (tCons (tVar 3) tNil))) (gTup K 2 (gCons (gName 8) (gCons (gName 9) gNil))) (tSeq (tAsg (tMethD (He.ga K ("Form" : Str)) ("factor_of" : Str) (sp_Form_factor_of K) [] Ez (tVar 8) (tCons (tOp (rIx K) (tVar 1) (tC (.int 0))) tNil)) (gName 10)) (tIfS (tTest (tOp (rNeX K) (tVar 10) (tC (.int 0)))) (tSeq (tAsg (tLst (tCons (tOp rDivX (tOp rSubX (tVar 9) (tMethD (He.ga K ("Form" : Str)) ("alone" : Str) (sp_Form_alone K) [] Ez (tVar 8) tNil)) (tVar 10)) tNil)) (gName 7)) tBreak) tNext))) (tSeq (tIfS (tAnd (tTru K (tCallSD (sp_within K) [] Ez (tCons (tVar 2) (tCons (tVar 7) tNil)))) (tTru K (tCallSD (sp_solves K) [] Ez (tCons (tVar 0) (tCons (tVar 1) (tCons (tVar 3) (tCons (tVar 7) tNil))))))) (tRet (tVar 7)) tNext) (tRet (tC .non))))))
def sp_one_source (K : PySem.W.Frag) : Sp := fun vs H Q E => vs.length = 5 ∧ t_one_source K ⟨fun _ H' => Q .non H', Q, fun _ _ => False, fun _ _ => False⟩ (start ["forms", "names", "bounds", "made", "target", "low", "high", "row", "form", "value", "factor"] vs) H
/-- crossing: 0 first, 1 second, 2 det, 3 x, 4 z -/
def t_crossing (K : PySem.W.Frag) : TS :=
  (tSeq (tAsg (tOp rSubX (tOp rMulX (tOp (rIx K) (tVar 0) (tC (.int 0))) (tOp (rIx K) (tVar 1) (tC (.int 1)))) (tOp rMulX (tOp (rIx K) (tVar 0) (tC (.int 1))) (tOp (rIx K) (tVar 1) (tC (.int 0))))) (gName 2)) (tSeq (tAsg (tOp rSubX (tOp rMulX (tOp (rIx K) (tVar 0) (tC (.int 2))) (tOp (rIx K) (tVar 1) (tC (.int 1)))) (tOp rMulX (tOp (rIx K) (tVar 1) (tC (.int 2))) (tOp (rIx K) (tVar 0) (tC (.int 1))))) (gName 3)) (tSeq (tAsg (tOp rSubX (tOp rMulX (tOp (rIx K) (tVar 0) (tC (.int 0))) (tOp (rIx K) (tVar 1) (tC (.int 2)))) (tOp rMulX (tOp (rIx K) (tVar 1) (tC (.int 0))) (tOp (rIx K) (tVar 0) (tC (.int 2))))) (gName 4)) (tSeq (tIfS (tOr (tTest (tOp (rNeX K) (tOp rModX (tVar 3) (tVar 2)) (tC (.int 0)))) (tTest (tOp (rNeX K) (tOp rModX (tVar 4) (tVar 2)) (tC (.int 0))))) (tRet (tC .non)) tNext) (tRet (tLst (tCons (tOp rDivX (tVar 3) (tVar 2)) (tCons (tOp rDivX (tVar 4) (tVar 2)) tNil))))))))
def sp_crossing (K : PySem.W.Frag) : Sp := fun vs H Q E => vs.length = 2 ∧ t_crossing K ⟨fun _ H' => Q .non H', Q, fun _ _ => False, fun _ _ => False⟩ (start ["first", "second", "det", "x", "z"] vs) H
/-- bezout: 0 a, 1 b, 2 old, 3 new, 4 x, 5 next_x, 6 y, 7 next_y, 8 part -/
def t_bezout (K : PySem.W.Frag) : TS :=
  (tSeq (tPar 2 3 (tCons (tVar 0) (tCons (tVar 1) tNil))) (tSeq (tAsg (tTup (tCons (tC (.int 1)) (tCons (tC (.int 0)) tNil))) (gTup K 2 (gCons (gName 4) (gCons (gName 5) gNil)))) (tSeq (tAsg (tTup (tCons (tC (.int 0)) (tCons (tC (.int 1)) tNil))) (gTup K 2 (gCons (gName 6) (gCons (gName 7) gNil)))) (tSeq (tWhile (tTest (tOp (rNeX K) (tVar 3) (tC (.int 0)))) (tSeq (tAsg (tOp rDivX (tVar 2) (tVar 3)) (gName 8)) (tSeq (tPar 2 3 (tCons (tVar 3) (tCons (tOp rSubX (tVar 2) (tOp rMulX (tVar 8) (tVar 3))) tNil))) (tSeq (tPar 4 5 (tCons (tVar 5) (tCons (tOp rSubX (tVar 4) (tOp rMulX (tVar 8) (tVar 5))) tNil))) (tPar 6 7 (tCons (tVar 7) (tCons (tOp rSubX (tVar 6) (tOp rMulX (tVar 8) (tVar 7))) tNil))))))) (tSeq (tIfS (tTest (tOp (rLtX K) (tVar 2) (tC (.int 0)))) (tRet (tTup (tCons (tUn (rU fun i => .int (-i)) (tVar 2)) (tCons (tUn (rU fun i => .int (-i)) (tVar 4)) (tCons (tUn (rU fun i => .int (-i)) (tVar 6)) tNil))))) tNext) (tRet (tTup (tCons (tVar 2) (tCons (tVar 4) (tCons (tVar 6) tNil))))))))))
def sp_bezout (K : PySem.W.Frag) : Sp := fun vs H Q E => vs.length = 2 ∧ t_bezout K ⟨fun _ H' => Q .non H', Q, fun _ _ => False, fun _ _ => False⟩ (start ["a", "b", "old", "new", "x", "next_x", "y", "next_y", "part"] vs) H
/-- step_range: 0 low, 1 high, 2 start, 3 stride -/
def t_step_range (K : PySem.W.Frag) : TS :=
  (tSeq (tIfS (tTest (tOp rGtX (tVar 3) (tC (.int 0)))) (tRet (tTup (tCons (tUn (rU fun i => .int (-i)) (tOp rDivX (tOp rSubX (tVar 2) (tVar 0)) (tVar 3))) (tCons (tOp rDivX (tOp rSubX (tVar 1) (tVar 2)) (tVar 3)) tNil)))) tNext) (tRet (tTup (tCons (tUn (rU fun i => .int (-i)) (tOp rDivX (tOp rSubX (tVar 1) (tVar 2)) (tUn (rU fun i => .int (-i)) (tVar 3)))) (tCons (tOp rDivX (tOp rSubX (tVar 2) (tVar 0)) (tUn (rU fun i => .int (-i)) (tVar 3))) tNil)))))
def sp_step_range (K : PySem.W.Frag) : Sp := fun vs H Q E => vs.length = 4 ∧ t_step_range K ⟨fun _ H' => Q .non H', Q, fun _ _ => False, fun _ _ => False⟩ (start ["low", "high", "start", "stride"] vs) H
/-- nearest_step: 0 least, 1 greatest, 2 start, 3 stride, 4 target, 5 best, 6 guess, 7 t, 8 at, 9 value, 10 key -/
def t_nearest_step (K : PySem.W.Frag) : TS :=
  (tSeq (tAsg (tC .non) (gName 5)) (tSeq (tAsg (tOp rDivX (tOp rSubX (tVar 4) (tVar 2)) (tVar 3)) (gName 6)) (tSeq (tFor (iAny K (tTup (tCons (tVar 6) (tCons (tOp (rAddX K) (tVar 6) (tC (.int 1))) tNil)))) (gName 7) (tSeq (tAsg (tCallSD (sp_clamp K) [] Ez (tCons (tVar 0) (tCons (tVar 1) (tCons (tVar 7) tNil)))) (gName 8)) (tSeq (tAsg (tOp (rAddX K) (tVar 2) (tOp rMulX (tVar 3) (tVar 8))) (gName 9)) (tSeq (tAsg (tTup (tCons (tCB rAbs (tCons (tOp rSubX (tVar 9) (tVar 4)) tNil)) (tCons (tVar 9) tNil))) (gName 10)) (tIfS (tOr (tTest (tOp rIsX (tVar 5) (tC .non))) (tTest (tOp (rLtX K) (tVar 10) (tOp (rIx K) (tVar 5) (tC (.int 0)))))) (tAsg (tTup (tCons (tVar 10) (tCons (tVar 8) tNil))) (gName 5)) tNext))))) (tRet (tOp (rIx K) (tVar 5) (tC (.int 1)))))))
def sp_nearest_step (K : PySem.W.Frag) : Sp := fun vs H Q E => vs.length = 5 ∧ t_nearest_step K ⟨fun _ H' => Q .non H', Q, fun _ _ => False, fun _ _ => False⟩ (start ["least", "greatest", "start", "stride", "target", "best", "guess", "t", "at", "value", "key"] vs) H
/-- on_a_line: 0 factors, 1 rest, 2 bounds, 3 target, 4 a, 5 b, 6 g, 7 x, 8 z, 9 start, 10 stride, 11 least, 12 greatest, 13 k, 14 low, 15 high, 16 first, 17 last, 18 t -/
def t_on_a_line (K : PySem.W.Frag) : TS :=
  (tSeq (tAsg (tVar 0) (gTup K 2 (gCons (gName 4) (gCons (gName 5) gNil)))) (tSeq (tAsg (tCallSD (sp_bezout K) [] Ez (tCons (tVar 4) (tCons (tVar 5) tNil))) (gTup K 3 (gCons (gName 6) (gCons (gName 7) (gCons (gName 8) gNil))))) (tSeq (tIfS (tTest (tOp (rNeX K) (tOp rModX (tVar 1) (tVar 6)) (tC (.int 0)))) (tRet (tC .non)) tNext) (tSeq (tAsg (tTup (tCons (tOp rMulX (tVar 7) (tOp rDivX (tVar 1) (tVar 6))) (tCons (tOp rMulX (tVar 8) (tOp rDivX (tVar 1) (tVar 6))) tNil))) (gName 9)) (tSeq (tAsg (tTup (tCons (tOp rDivX (tVar 5) (tVar 6)) (tCons (tUn (rU fun i => .int (-i)) (tOp rDivX (tVar 4) (tVar 6))) tNil))) (gName 10)) (tSeq (tAsg (tC .non) (gName 11)) (tSeq (tAsg (tC .non) (gName 12)) (tSeq (tFor (iRng1 (tCons (tC (.int 2)) tNil)) (gName 13) (tSeq (tAsg (tOp (rIx K) (tVar 2) (tVar 13)) (gTup K 2 (gCons (gName 14) (gCons (gName 15) gNil)))) (tIfS (tTest (tOp (rEqX K) (tOp (rIx K) (tVar 10) (tVar 13)) (tC (.int 0)))) (tIfS (tNot (tTest (tChain rLeX rLeX (tVar 14) (tOp (rIx K) (tVar 9) (tVar 13)) (tVar 15)))) (tRet (tC .non)) tNext) (tSeq (tAsg (tCallSD (sp_step_range K) [] Ez (tCons (tVar 14) (tCons (tVar 15) (tCons (tOp (rIx K) (tVar 9) (tVar 13)) (tCons (tOp (rIx K) (tVar 10) (tVar 13)) tNil))))) (gTup K 2 (gCons (gName 16) (gCons (gName 17) gNil)))) (C8.tCut (tIfS (tOr (tTest (tOp rIsX (tVar 11) (tC .non))) (tTest (tOp rGtX (tVar 16) (tVar 11)))) (tAsg (tVar 16) (gName 11)) tNext) (tIfS (tOr (tTest (tOp rIsX (tVar 12) (tC .non))) (tTest (tOp (rLtX K) (tVar 17) (tVar 12)))) (tAsg (tVar 17) (gName 12)) tNext)))))) (tSeq (tIfS (tTest (tOp rGtX (tVar 11) (tVar 12))) (tRet (tC .non)) tNext) (tSeq (tAsg (tC (.int 0)) (gName 13)) (C8.tCut (tIfS (tTest (tOp (rEqX K) (tOp (rIx K) (tVar 10) (tC (.int 0))) (tC (.int 0)))) (tAsg (tC (.int 1)) (gName 13)) tNext) (tSeq (tAsg (tCallSD (sp_nearest_step K) [] Ez (tCons (tVar 11) (tCons (tVar 12) (tCons (tOp (rIx K) (tVar 9) (tVar 13)) (tCons (tOp (rIx K) (tVar 10) (tVar 13)) (tCons (tOp (rIx K) (tVar 3) (tVar 13)) tNil)))))) (gName 18)) (tRet (tLst (tCons (tOp (rAddX K) (tOp (rIx K) (tVar 9) (tC (.int 0))) (tOp rMulX (tOp (rIx K) (tVar 10) (tC (.int 0))) (tVar 18))) (tCons (tOp (rAddX K) (tOp (rIx K) (tVar 9) (tC (.int 1))) (tOp rMulX (tOp (rIx K) (tVar 10) (tC (.int 1))) (tVar 18))) tNil))))))))))))))))
def sp_on_a_line (K : PySem.W.Frag) : Sp := fun vs H Q E => vs.length = 4 ∧ t_on_a_line K ⟨fun _ H' => Q .non H', Q, fun _ _ => False, fun _ _ => False⟩ (start ["factors", "rest", "bounds", "target", "a", "b", "g", "x", "z", "start", "stride", "least", "greatest", "k", "low", "high", "first", "last", "t"] vs) H
/-- two_sources: 0 forms, 1 names, 2 bounds, 3 made, 4 target, 5 lines, 6 form, 7 value, 8 straight, 9 line, 10 row -/
def t_two_sources (K : PySem.W.Frag) : TS :=
  (tSeq (tAsg (tLst tNil) (gName 5)) (tSeq (tFor (iZip K (tCons (tVar 0) (tCons (tVar 3) tNil))) (gTup K 2 (gCons (gName 6) (gCons (gName 7) gNil))) (tDrop (tBM K "list" rAppend (tVar 5) (tCons (tTup (tCons (tMethD (He.ga K ("Form" : Str)) ("factor_of" : Str) (sp_Form_factor_of K) [] Ez (tVar 6) (tCons (tOp (rIx K) (tVar 1) (tC (.int 0))) tNil)) (tCons (tMethD (He.ga K ("Form" : Str)) ("factor_of" : Str) (sp_Form_factor_of K) [] Ez (tVar 6) (tCons (tOp (rIx K) (tVar 1) (tC (.int 1))) tNil)) (tCons (tOp rSubX (tVar 7) (tMethD (He.ga K ("Form" : Str)) ("alone" : Str) (sp_Form_alone K) [] Ez (tVar 6) tNil)) tNil)))) tNil)))) (tSeq (tAsg (tLc (iAny K (tVar 5)) (gName 9) (tOr (tTest (tOp (rNeX K) (tOp (rIx K) (tVar 9) (tC (.int 0))) (tC (.int 0)))) (tTest (tOp (rNeX K) (tOp (rIx K) (tVar 9) (tC (.int 1))) (tC (.int 0))))) (tVar 9) [9]) (gName 8)) (tSeq (tAsg (tC .non) (gName 10)) (C8.tCut (tIfS (tAnd (tTest (tOp (rEqX K) (tCB (rLen K) (tCons (tVar 8) tNil)) (tC (.int 2)))) (tTest (tOp (rNeX K) (tOp rMulX (tOp (rIx K) (tOp (rIx K) (tVar 8) (tC (.int 0))) (tC (.int 0))) (tOp (rIx K) (tOp (rIx K) (tVar 8) (tC (.int 1))) (tC (.int 1)))) (tOp rMulX (tOp (rIx K) (tOp (rIx K) (tVar 8) (tC (.int 0))) (tC (.int 1))) (tOp (rIx K) (tOp (rIx K) (tVar 8) (tC (.int 1))) (tC (.int 0))))))) (tAsg (tCallSD (sp_crossing K) [] Ez (tCons (tOp (rIx K) (tVar 8) (tC (.int 0))) (tCons (tOp (rIx K) (tVar 8) (tC (.int 1))) tNil))) (gName 10)) (tAsg (tCallSD (sp_on_a_line K) [] Ez (tCons (tTup (tCons (tOp (rIx K) (tOp (rIx K) (tVar 8) (tC (.int 0))) (tC (.int 0))) (tCons (tOp (rIx K) (tOp (rIx K) (tVar 8) (tC (.int 0))) (tC (.int 1))) tNil))) (tCons (tOp (rIx K) (tOp (rIx K) (tVar 8) (tC (.int 0))) (tC (.int 2))) (tCons (tVar 2) (tCons (tVar 4) tNil))))) (gName 10))) (tSeq (tIfS (tAnd (tTest (tOp rIsNotX (tVar 10) (tC .non))) (tAnd (tTru K (tCallSD (sp_within K) [] Ez (tCons (tVar 2) (tCons (tVar 10) tNil)))) (tTru K (tCallSD (sp_solves K) [] Ez (tCons (tVar 0) (tCons (tVar 1) (tCons (tVar 3) (tCons (tVar 10) tNil)))))))) (tRet (tVar 10)) tNext) (tRet (tC .non))))))))
def sp_two_sources (K : PySem.W.Frag) : Sp := fun vs H Q E => vs.length = 5 ∧ t_two_sources K ⟨fun _ H' => Q .non H', Q, fun _ _ => False, fun _ _ => False⟩ (start ["forms", "names", "bounds", "made", "target", "lines", "form", "value", "straight", "line", "row"] vs) H
/-- nearest_source: 0 forms, 1 names, 2 bounds, 3 made, 4 old, 5 target, 6 value, 7 low, 8 high -/
def t_nearest_source (K : PySem.W.Frag) : TS :=
  (tSeq (tAsg (tVar 4) (gName 5)) (C8.tCut (tIfS (tOr (tTest (tOp rIsX (tVar 4) (tC .non))) (tTru K (tCB (rAny K) (tCons (tLc (iAny K (tVar 4)) (gName 6) tYes (tOp rIsX (tVar 6) (tC .non)) [6]) tNil)))) (tAsg (tLc (iAny K (tVar 2)) (gTup K 2 (gCons (gName 7) (gCons (gName 8) gNil))) tYes (tVar 7) [7, 8]) (gName 5)) tNext) (tSeq (tIfS (tTest (tOp (rEqX K) (tCB (rLen K) (tCons (tVar 1) tNil)) (tC (.int 1)))) (tRet (tCallSD (sp_one_source K) [] Ez (tCons (tVar 0) (tCons (tVar 1) (tCons (tVar 2) (tCons (tVar 3) (tCons (tVar 5) tNil))))))) tNext) (tRet (tCallSD (sp_two_sources K) [] Ez (tCons (tVar 0) (tCons (tVar 1) (tCons (tVar 2) (tCons (tVar 3) (tCons (tVar 5) tNil))))))))))
def sp_nearest_source (K : PySem.W.Frag) : Sp := fun vs H Q E => vs.length = 5 ∧ t_nearest_source K ⟨fun _ H' => Q .non H', Q, fun _ _ => False, fun _ _ => False⟩ (start ["forms", "names", "bounds", "made", "old", "target", "value", "low", "high"] vs) H
/-- Form.__init__: 0 self, 1 terms -/
def t_Form_init (K : PySem.W.Frag) : TS :=
  (sFld K (tVar 0) (tCB (rListX K) (tCons (tVar 1) tNil)) ("terms" : Str))
def sp_Form_init (K : PySem.W.Frag) : Sp := fun vs H Q E => vs.length = 2 ∧ t_Form_init K ⟨fun _ H' => Q .non H', Q, fun _ _ => False, fun _ _ => False⟩ (start ["self", "terms"] vs) H
/-- law: 0 _law_script, 1 _law_draws, 2 _law_names, 3 _law_bounds, 4 _law_name, 5 _law_low, 6 _law_forms, 7 _law_turn, 8 _law_terms_here, 9 _law_rows_here, 10 _law_row, 11 _law_made, 12 _law_old, 13 _law_pair, 14 _law_best, 15 _law_told, 16 _law_found -/
def t_law (K : PySem.W.Frag) : TS :=
  (tSeq (tAsg (tCallSD (sp__law_cells K) [] Ez (tCons (tVar 0) (tCons (tC (.int 8)) tNil))) (gName 1)) (tSeq (tAsg (tCallSD (sp__law_pick K) [] Ez (tCons (tVar 1) (tCons (tLst (tCons (tLst (tCons (tC (.str ("x" : Str))) tNil)) (tCons (tLst (tCons (tC (.str ("x" : Str))) (tCons (tC (.str ("z" : Str))) tNil))) (tCons (tLst (tCons (tC (.str ("x" : Str))) (tCons (tC (.str ("z" : Str))) tNil))) tNil)))) tNil))) (gName 2)) (tSeq (tAsg (tLst tNil) (gName 3)) (tSeq (tFor (iAny K (tVar 2)) (gName 4) (tSeq (tAsg (tOp rSubX (tCallSD (sp__law_draw K) [] Ez (tCons (tVar 1) (tCons (tC (.int 9)) tNil))) (tC (.int 5))) (gName 5)) (tDrop (tBM K "list" rAppend (tVar 3) (tCons (tTup (tCons (tVar 5) (tCons (tOp (rAddX K) (tVar 5) (tCallSD (sp__law_draw K) [] Ez (tCons (tVar 1) (tCons (tC (.int 10)) tNil)))) tNil))) tNil))))) (tSeq (tAsg (tLc (iRng1 (tCons (tOp (rAddX K) (tC (.int 1)) (tCallSD (sp__law_draw K) [] Ez (tCons (tVar 1) (tCons (tC (.int 2)) tNil)))) tNil)) (gName 7) tYes (tCallSD (sp__law_terms K) [] Ez (tCons (tVar 1) (tCons (tVar 2) tNil))) [7]) (gName 6)) (C8.tCut (tIfS (tTest (tOp (rEqX K) (tCB (rLen K) (tCons (tVar 2) tNil)) (tC (.int 2)))) (tFor (iAny K (tVar 2)) (gName 4) (tIfS (tTru K (tCB (rAll K) (tCons (tLc (iAny K (tVar 6)) (gName 8) tYes (tOp (rEqX K) (tCallSD (sp__law_factor K) [] Ez (tCons (tVar 8) (tCons (tVar 4) tNil))) (tC (.int 0))) [8]) tNil))) (tDrop (tBM K "list" rAppend (tOp (rIx K) (tVar 6) (tC (.int 0))) (tCons (tTup (tCons (tOp (rAddX K) (tC (.int 1)) (tCallSD (sp__law_draw K) [] Ez (tCons (tVar 1) (tCons (tC (.int 4)) tNil)))) (tCons (tVar 4) tNil))) tNil))) tNext)) tNext) (tSeq (tAsg (tCallSD (sp__law_rows K) [] Ez (tCons (tVar 3) tNil)) (gName 9)) (tSeq (tAsg (tCallSD (sp__law_pick K) [] Ez (tCons (tVar 1) (tCons (tVar 9) tNil))) (gName 10)) (tSeq (tAsg (tLc (iAny K (tVar 6)) (gName 8) tYes (tCallSD (sp__law_value K) [] Ez (tCons (tVar 8) (tCons (tVar 2) (tCons (tVar 10) tNil)))) [8]) (gName 11)) (C8.tCut (tIfS (tTest (tOp (rEqX K) (tCallSD (sp__law_draw K) [] Ez (tCons (tVar 1) (tCons (tC (.int 4)) tNil))) (tC (.int 0)))) (tAsg (tOp rSubX (tOp (rAddX K) (tOp (rIx K) (tVar 11) (tC (.int 0))) (tCallSD (sp__law_draw K) [] Ez (tCons (tVar 1) (tCons (tC (.int 5)) tNil)))) (tC (.int 2))) (gSub (tVar 11) (tC (.int 0)) rSetL)) tNext) (tSeq (tAsg (tC .non) (gName 12)) (C8.tCut (tIfS (tTest (tOp rGtX (tCallSD (sp__law_draw K) [] Ez (tCons (tVar 1) (tCons (tC (.int 3)) tNil))) (tC (.int 0)))) (tSeq (tAsg (tLc (iAny K (tVar 3)) (gName 13) tYes (tOp (rAddX K) (tOp (rIx K) (tVar 13) (tC (.int 0))) (tCallSD (sp__law_draw K) [] Ez (tCons (tVar 1) (tCons (tOp (rAddX K) (tOp rSubX (tOp (rIx K) (tVar 13) (tC (.int 1))) (tOp (rIx K) (tVar 13) (tC (.int 0)))) (tC (.int 1))) tNil)))) [13]) (gName 12)) (tIfS (tTest (tOp (rEqX K) (tCallSD (sp__law_draw K) [] Ez (tCons (tVar 1) (tCons (tC (.int 6)) tNil))) (tC (.int 0)))) (tAsg (tC .non) (gSub (tVar 12) (tCallSD (sp__law_draw K) [] Ez (tCons (tVar 1) (tCons (tCB (rLen K) (tCons (tVar 12) tNil)) tNil))) rSetL)) tNext)) tNext) (tSeq (tAsg (tC .non) (gName 14)) (tSeq (tFor (iAny K (tVar 9)) (gName 10) (tIfS (tAnd (tTest (tOp (rEqX K) (tLc (iAny K (tVar 6)) (gName 8) tYes (tCallSD (sp__law_value K) [] Ez (tCons (tVar 8) (tCons (tVar 2) (tCons (tVar 10) tNil)))) [8]) (tVar 11))) (tTru K (tCallSD (sp__law_better K) [] Ez (tCons (tVar 10) (tCons (tVar 14) (tCons (tVar 12) tNil)))))) (tAsg (tVar 10) (gName 14)) tNext)) (tSeq (tAsg (tCB (rListX K) (tCons (tVar 11) tNil)) (gName 15)) (tSeq (tAsg (tCallSD (sp_nearest_source K) [] Ez (tCons (tLc (iAny K (tVar 6)) (gName 8) tYes (tMake (He.ga K ("Form" : Str)) (sp_Form_init K) [] E0 (tCons (tVar 8) tNil)) [8]) (tCons (tCB (rListX K) (tCons (tVar 2) tNil)) (tCons (tCB (rListX K) (tCons (tVar 3) tNil)) (tCons (tVar 15) (tCons (tVar 12) tNil)))))) (gName 16)) (tSeq (tIfS (tTest (tOp (rNeX K) (tVar 15) (tVar 11))) (tRet (tC (.bl false))) tNext) (tSeq (tIfS (tTest (tOp rIsX (tVar 14) (tC .non))) (tRet (tOp rIsX (tVar 16) (tC .non))) tNext) (tRet (tAndV (tCB (rIsi K) (tCons (tVar 16) (tCons (tC (.ty "list")) tNil))) (tOp (rEqX K) (tVar 16) (tVar 14))))))))))))))))))))))
def sp_law (K : PySem.W.Frag) : Sp := fun vs H Q E => vs.length = 1 ∧ t_law K ⟨fun _ H' => Q .non H', Q, fun _ _ => False, fun _ _ => False⟩ (start ["_law_script", "_law_draws", "_law_names", "_law_bounds", "_law_name", "_law_low", "_law_forms", "_law_turn", "_law_terms_here", "_law_rows_here", "_law_row", "_law_made", "_law_old", "_law_pair", "_law_best", "_law_told", "_law_found"] vs) H
/-! ### the scopes -/
theorem sc__law_cells : FnScope ["_law_script", "_law_count", "_law_cells_here", "_law_k", "_law_cell"] ["_law_script", "_law_count"] (defScope s__law_cells) := ⟨rfl, rfl, rfl, by decide +kernel, rfl, by decide +kernel, by decide +kernel⟩
theorem sc__law_draw : FnScope ["_law_draws", "_law_bound", "_law_value_here"] ["_law_draws", "_law_bound"] (defScope s__law_draw) := ⟨rfl, rfl, rfl, by decide +kernel, rfl, by decide +kernel, by decide +kernel⟩
theorem sc__law_pick : FnScope ["_law_draws", "_law_row"] ["_law_draws", "_law_row"] (defScope s__law_pick) := ⟨rfl, rfl, rfl, by decide +kernel, rfl, by decide +kernel, by decide +kernel⟩
theorem sc__law_terms : FnScope ["_law_draws", "_law_names", "_law_row", "_law_turn"] ["_law_draws", "_law_names"] (defScope s__law_terms) := ⟨rfl, rfl, rfl, by decide +kernel, rfl, by decide +kernel, by decide +kernel⟩
theorem sc__law_factor : FnScope ["_law_terms_here", "_law_name", "_law_term"] ["_law_terms_here", "_law_name"] (defScope s__law_factor) := ⟨rfl, rfl, rfl, by decide +kernel, rfl, by decide +kernel, by decide +kernel⟩
theorem sc__law_rows : FnScope ["_law_bounds", "_law_rows_here", "_law_pair", "_law_longer", "_law_row", "_law_value_here"] ["_law_bounds"] (defScope s__law_rows) := ⟨rfl, rfl, rfl, by decide +kernel, rfl, by decide +kernel, by decide +kernel⟩
theorem sc__law_value : FnScope ["_law_terms_here", "_law_names", "_law_row", "_law_total", "_law_term"] ["_law_terms_here", "_law_names", "_law_row"] (defScope s__law_value) := ⟨rfl, rfl, rfl, by decide +kernel, rfl, by decide +kernel, by decide +kernel⟩
theorem sc__law_better : FnScope ["_law_row", "_law_best", "_law_old", "_law_k"] ["_law_row", "_law_best", "_law_old"] (defScope s__law_better) := ⟨rfl, rfl, rfl, by decide +kernel, rfl, by decide +kernel, by decide +kernel⟩
theorem sc_clamp : FnScope ["low", "high", "value"] ["low", "high", "value"] (defScope s_clamp) := ⟨rfl, rfl, rfl, by decide +kernel, rfl, by decide +kernel, by decide +kernel⟩
theorem sc_Form_factor_of : FnScope ["self", "wanted", "factor", "name"] ["self", "wanted"] (defScope s_Form_factor_of) := ⟨rfl, rfl, rfl, by decide +kernel, rfl, by decide +kernel, by decide +kernel⟩
theorem sc_Form_alone : FnScope ["self", "factor", "name"] ["self"] (defScope s_Form_alone) := ⟨rfl, rfl, rfl, by decide +kernel, rfl, by decide +kernel, by decide +kernel⟩
theorem sc_within : FnScope ["bounds", "row", "low", "high", "value"] ["bounds", "row"] (defScope s_within) := ⟨rfl, rfl, rfl, by decide +kernel, rfl, by decide +kernel, by decide +kernel⟩
theorem sc_Form_result : FnScope ["self", "group", "row", "total", "name", "value"] ["self", "group", "row"] (defScope s_Form_result) := ⟨rfl, rfl, rfl, by decide +kernel, rfl, by decide +kernel, by decide +kernel⟩
theorem sc_solves : FnScope ["forms", "names", "made", "row", "form", "value"] ["forms", "names", "made", "row"] (defScope s_solves) := ⟨rfl, rfl, rfl, by decide +kernel, rfl, by decide +kernel, by decide +kernel⟩
theorem sc_one_source : FnScope ["forms", "names", "bounds", "made", "target", "low", "high", "row", "form", "value", "factor"] ["forms", "names", "bounds", "made", "target"] (defScope s_one_source) := ⟨rfl, rfl, rfl, by decide +kernel, rfl, by decide +kernel, by decide +kernel⟩
theorem sc_crossing : FnScope ["first", "second", "det", "x", "z"] ["first", "second"] (defScope s_crossing) := ⟨rfl, rfl, rfl, by decide +kernel, rfl, by decide +kernel, by decide +kernel⟩
theorem sc_bezout : FnScope ["a", "b", "old", "new", "x", "next_x", "y", "next_y", "part"] ["a", "b"] (defScope s_bezout) := ⟨rfl, rfl, rfl, by decide +kernel, rfl, by decide +kernel, by decide +kernel⟩
theorem sc_step_range : FnScope ["low", "high", "start", "stride"] ["low", "high", "start", "stride"] (defScope s_step_range) := ⟨rfl, rfl, rfl, by decide +kernel, rfl, by decide +kernel, by decide +kernel⟩
theorem sc_nearest_step : FnScope ["least", "greatest", "start", "stride", "target", "best", "guess", "t", "at", "value", "key"] ["least", "greatest", "start", "stride", "target"] (defScope s_nearest_step) := ⟨rfl, rfl, rfl, by decide +kernel, rfl, by decide +kernel, by decide +kernel⟩
theorem sc_on_a_line : FnScope ["factors", "rest", "bounds", "target", "a", "b", "g", "x", "z", "start", "stride", "least", "greatest", "k", "low", "high", "first", "last", "t"] ["factors", "rest", "bounds", "target"] (defScope s_on_a_line) := ⟨rfl, rfl, rfl, by decide +kernel, rfl, by decide +kernel, by decide +kernel⟩
theorem sc_two_sources : FnScope ["forms", "names", "bounds", "made", "target", "lines", "form", "value", "straight", "line", "row"] ["forms", "names", "bounds", "made", "target"] (defScope s_two_sources) := ⟨rfl, rfl, rfl, by decide +kernel, rfl, by decide +kernel, by decide +kernel⟩
theorem sc_nearest_source : FnScope ["forms", "names", "bounds", "made", "old", "target", "value", "low", "high"] ["forms", "names", "bounds", "made", "old"] (defScope s_nearest_source) := ⟨rfl, rfl, rfl, by decide +kernel, rfl, by decide +kernel, by decide +kernel⟩
theorem sc_Form_init : FnScope ["self", "terms"] ["self", "terms"] (defScope s_Form_init) := ⟨rfl, rfl, rfl, by decide +kernel, rfl, by decide +kernel, by decide +kernel⟩
theorem sc_law : FnScope ["_law_script", "_law_draws", "_law_names", "_law_bounds", "_law_name", "_law_low", "_law_forms", "_law_turn", "_law_terms_here", "_law_rows_here", "_law_row", "_law_made", "_law_old", "_law_pair", "_law_best", "_law_told", "_law_found"] ["_law_script"] (defScope s_law) := ⟨rfl, rfl, rfl, by decide +kernel, rfl, by decide +kernel, by decide +kernel⟩
/-! ### what the top left -/
structure Tx (K : PySem.W.Frag) (mg : Str → Option Value) : Prop where
  d__law_cells : ∃ fd, FunD K "_law_cells" "_law_cells" (defArgs s__law_cells) (defBody s__law_cells) (defScope s__law_cells) [] [] (He.fAd K ("_law_cells", none)) fd
  d__law_draw : ∃ fd, FunD K "_law_draw" "_law_draw" (defArgs s__law_draw) (defBody s__law_draw) (defScope s__law_draw) [] [] (He.fAd K ("_law_draw", none)) fd
  d__law_pick : ∃ fd, FunD K "_law_pick" "_law_pick" (defArgs s__law_pick) (defBody s__law_pick) (defScope s__law_pick) [] [] (He.fAd K ("_law_pick", none)) fd
  d__law_terms : ∃ fd, FunD K "_law_terms" "_law_terms" (defArgs s__law_terms) (defBody s__law_terms) (defScope s__law_terms) [] [] (He.fAd K ("_law_terms", none)) fd
  d__law_factor : ∃ fd, FunD K "_law_factor" "_law_factor" (defArgs s__law_factor) (defBody s__law_factor) (defScope s__law_factor) [] [] (He.fAd K ("_law_factor", none)) fd
  d__law_rows : ∃ fd, FunD K "_law_rows" "_law_rows" (defArgs s__law_rows) (defBody s__law_rows) (defScope s__law_rows) [] [] (He.fAd K ("_law_rows", none)) fd
  d__law_value : ∃ fd, FunD K "_law_value" "_law_value" (defArgs s__law_value) (defBody s__law_value) (defScope s__law_value) [] [] (He.fAd K ("_law_value", none)) fd
  d__law_better : ∃ fd, FunD K "_law_better" "_law_better" (defArgs s__law_better) (defBody s__law_better) (defScope s__law_better) [] [] (He.fAd K ("_law_better", none)) fd
  d_clamp : ∃ fd, FunD K "clamp" "clamp" (defArgs s_clamp) (defBody s_clamp) (defScope s_clamp) [] [] (He.fAd K ("clamp", none)) fd
  d_Form_factor_of : ∃ fd, FunD K "factor_of" "Form.factor_of" (defArgs s_Form_factor_of) (defBody s_Form_factor_of) (defScope s_Form_factor_of) [] [] (He.fAd K ("Form", some "factor_of")) fd
  d_Form_alone : ∃ fd, FunD K "alone" "Form.alone" (defArgs s_Form_alone) (defBody s_Form_alone) (defScope s_Form_alone) [] [] (He.fAd K ("Form", some "alone")) fd
  d_within : ∃ fd, FunD K "within" "within" (defArgs s_within) (defBody s_within) (defScope s_within) [] [] (He.fAd K ("within", none)) fd
  d_Form_result : ∃ fd, FunD K "result" "Form.result" (defArgs s_Form_result) (defBody s_Form_result) (defScope s_Form_result) [] [] (He.fAd K ("Form", some "result")) fd
  d_solves : ∃ fd, FunD K "solves" "solves" (defArgs s_solves) (defBody s_solves) (defScope s_solves) [] [] (He.fAd K ("solves", none)) fd
  d_one_source : ∃ fd, FunD K "one_source" "one_source" (defArgs s_one_source) (defBody s_one_source) (defScope s_one_source) [] [] (He.fAd K ("one_source", none)) fd
  d_crossing : ∃ fd, FunD K "crossing" "crossing" (defArgs s_crossing) (defBody s_crossing) (defScope s_crossing) [] [] (He.fAd K ("crossing", none)) fd
  d_bezout : ∃ fd, FunD K "bezout" "bezout" (defArgs s_bezout) (defBody s_bezout) (defScope s_bezout) [] [] (He.fAd K ("bezout", none)) fd
  d_step_range : ∃ fd, FunD K "step_range" "step_range" (defArgs s_step_range) (defBody s_step_range) (defScope s_step_range) [] [] (He.fAd K ("step_range", none)) fd
  d_nearest_step : ∃ fd, FunD K "nearest_step" "nearest_step" (defArgs s_nearest_step) (defBody s_nearest_step) (defScope s_nearest_step) [] [] (He.fAd K ("nearest_step", none)) fd
  d_on_a_line : ∃ fd, FunD K "on_a_line" "on_a_line" (defArgs s_on_a_line) (defBody s_on_a_line) (defScope s_on_a_line) [] [] (He.fAd K ("on_a_line", none)) fd
  d_two_sources : ∃ fd, FunD K "two_sources" "two_sources" (defArgs s_two_sources) (defBody s_two_sources) (defScope s_two_sources) [] [] (He.fAd K ("two_sources", none)) fd
  d_nearest_source : ∃ fd, FunD K "nearest_source" "nearest_source" (defArgs s_nearest_source) (defBody s_nearest_source) (defScope s_nearest_source) [] [] (He.fAd K ("nearest_source", none)) fd
  d_Form_init : ∃ fd, FunD K "__init__" "Form.__init__" (defArgs s_Form_init) (defBody s_Form_init) (defScope s_Form_init) [] [] (He.fAd K ("Form", some "__init__")) fd
  d_law : ∃ fd, FunD K "law" "law" (defArgs s_law) (defBody s_law) (defScope s_law) [] [] (He.fAd K ("law", none)) fd
  g__law_cells : mg "_law_cells" = some (.ref (He.ga K "_law_cells"))
  g__law_draw : mg "_law_draw" = some (.ref (He.ga K "_law_draw"))
  g__law_pick : mg "_law_pick" = some (.ref (He.ga K "_law_pick"))
  g__law_terms : mg "_law_terms" = some (.ref (He.ga K "_law_terms"))
  g__law_factor : mg "_law_factor" = some (.ref (He.ga K "_law_factor"))
  g__law_rows : mg "_law_rows" = some (.ref (He.ga K "_law_rows"))
  g__law_value : mg "_law_value" = some (.ref (He.ga K "_law_value"))
  g__law_better : mg "_law_better" = some (.ref (He.ga K "_law_better"))
  g_clamp : mg "clamp" = some (.ref (He.ga K "clamp"))
  g_within : mg "within" = some (.ref (He.ga K "within"))
  g_solves : mg "solves" = some (.ref (He.ga K "solves"))
  g_one_source : mg "one_source" = some (.ref (He.ga K "one_source"))
  g_crossing : mg "crossing" = some (.ref (He.ga K "crossing"))
  g_bezout : mg "bezout" = some (.ref (He.ga K "bezout"))
  g_step_range : mg "step_range" = some (.ref (He.ga K "step_range"))
  g_nearest_step : mg "nearest_step" = some (.ref (He.ga K "nearest_step"))
  g_on_a_line : mg "on_a_line" = some (.ref (He.ga K "on_a_line"))
  g_two_sources : mg "two_sources" = some (.ref (He.ga K "two_sources"))
  g_nearest_source : mg "nearest_source" = some (.ref (He.ga K "nearest_source"))
  g_law : mg "law" = some (.ref (He.ga K "law"))
  b_abs : mg "abs" = none
  b_all : mg "all" = none
  b_any : mg "any" = none
  b_int : mg "int" = none
  b_isinstance : mg "isinstance" = none
  b_len : mg "len" = none
  b_list : mg "list" = none
  b_max : mg "max" = none
  b_min : mg "min" = none
  b_range : mg "range" = none
  b_sum : mg "sum" = none
  b_zip : mg "zip" = none
  gc_Form : mg "Form" = some (.ref (He.ga K "Form"))
  cl_Form : Cls K (He.ga K "Form")
  me_Form_alone : Meth K (He.ga K "Form") "alone" (He.fAd K ("Form", some "alone"))
  me_Form_factor_of : Meth K (He.ga K "Form") "factor_of" (He.fAd K ("Form", some "factor_of"))
  me_Form_result : Meth K (He.ga K "Form") "result" (He.fAd K ("Form", some "result"))
  mk_Form : Mk K (He.ga K "Form") (He.fAd K ("Form", some "__init__"))
  no_Form_terms : NoAttr K (He.ga K "Form") "terms"
  if_Form : InsF K (He.ga K "Form")
  it_Form_list : PySem.W.kitOne K (.ref (He.ga K "Form")) (.type "list") = some false
/-! ### each def keeps its reading -/
section
variable {P : Program} {w : World} {K : PySem.W.Frag} {mg : Str → Option Value} {base : Heap}
theorem fn__law_cells (T : Tx K mg) {fd : FuncData} (F : FunD K "_law_cells" "_law_cells" (defArgs s__law_cells) (defBody s__law_cells) (defScope s__law_cells) [] [] (He.fAd K ("_law_cells", none)) fd) : FnOk P w K mg base (L2.CX P w) 1 (He.fAd K ("_law_cells", none)) fd ["_law_script", "_law_count"] (sp__law_cells K) := by
  refine F.ok sc__law_cells (fun vs H Q E h => h.1) (fun cdv A outer s H vs Q E hr h => ⟨_, ?_, h.2⟩)
  refine PSs.nox ?_
  exact (pss_cons (ps_set (i := 2) sc__law_cells.nd rfl (by first | exact Or.inl rfl | exact Or.inr rfl) (pe_lst pa_nil))
        (pss_cons (ps_for PassesOwn.never rfl (pi_range1 rfl T.b_range (pa_cons (pv 1) pa_nil)) (pg_name (i := 3) sc__law_cells.nd rfl (by first | exact Or.inl rfl | exact Or.inr rfl))
        (pss_cons (ps_set (i := 4) sc__law_cells.nd rfl (by first | exact Or.inl rfl | exact Or.inr rfl) (pe_op op_addX (pe_op op_mulX pe_int (pv 3)) pe_int))
        (C8.pss_cut (ps_if (pt_cmpR (op_ltX hr.units) (pv 3) (pe_callB call_len (by rfl) T.b_len boot_len (pa_cons (pv 0) pa_nil)) (nomark _))
        (pss_cons (ps_set (i := 4) sc__law_cells.nd rfl (by first | exact Or.inl rfl | exact Or.inr rfl) (pe_callTy (CallR.or call_int1 call_int_str) (by rfl) T.b_int (by decide +kernel) (pa_cons (pe_ix ix_seq (pv 0) (pv 3) fun _ _ => rfl) pa_nil)))
        (pss_one (ps_if (pt_cmpR (op_ltX hr.units) (pv 4) pe_int (nomark _))
        (pss_one (ps_set (i := 4) sc__law_cells.nd rfl (by first | exact Or.inl rfl | exact Or.inr rfl) (pe_op op_subX pe_int (pe_op op_mulX pe_int (pv 4)))))
        pss_nil)))
        pss_nil)
        (C8.pss_cut (ps_if (pt_cmpR (op_ltX hr.units) (pv 4) pe_int (nomark _))
        (pss_cons (ps_set (i := 4) sc__law_cells.nd rfl (by first | exact Or.inl rfl | exact Or.inr rfl) (pe_op op_modX (pe_op op_addX (pe_op op_addX (pe_op op_mulX (pe_callTy (CallR.or call_int1 call_int_str) (by rfl) T.b_int (by decide +kernel) (pa_cons (pv 4) pa_nil)) pe_int) pe_int) (pe_op op_mulX pe_int (pv 3))) pe_int))
        (pss_one (ps_set (i := 4) sc__law_cells.nd rfl (by first | exact Or.inl rfl | exact Or.inr rfl) (pe_op op_modX (pe_op op_addX (pe_op op_mulX (pe_callTy (CallR.or call_int1 call_int_str) (by rfl) T.b_int (by decide +kernel) (pa_cons (pv 4) pa_nil)) pe_int) pe_int) pe_int))))
        pss_nil)
        (pss_one (ps_expr (pe_bm PySem.F.plainAttrs_list PySem.F.slot_list_append PySem.F.type_list_append mt_append (pv 2) (pa_cons (pv 4) pa_nil))))))))
        (pss_one (ps_ret (pv 2)))))
theorem Tx.ok__law_cells (T : Tx K mg) : Cl P w K mg base 1 "_law_cells" (sp__law_cells K) [] := by
  obtain ⟨fd, F⟩ := T.d__law_cells
  have ok := fn__law_cells (P := P) (w := w) (base := base) T F
  exact ⟨_, fd, _, [], ok, T.g__law_cells, F.kp, (FunD.bindsN F fun _ _ _ _ _ _ us hl => match us, hl with | [_, _], _ => rfl), .nil⟩
theorem fn__law_draw (T : Tx K mg) {fd : FuncData} (F : FunD K "_law_draw" "_law_draw" (defArgs s__law_draw) (defBody s__law_draw) (defScope s__law_draw) [] [] (He.fAd K ("_law_draw", none)) fd) : FnOk P w K mg base (L2.CX P w) 1 (He.fAd K ("_law_draw", none)) fd ["_law_draws", "_law_bound"] (sp__law_draw K) := by
  refine F.ok sc__law_draw (fun vs H Q E h => h.1) (fun cdv A outer s H vs Q E hr h => ⟨_, ?_, h.2⟩)
  refine PSs.nox ?_
  exact (C8.pss_cut (ps_if (PW.pt (pw_and (pt_cmpR (op_eqX hr.units) (pe_ix ix_seq (pv 0) pe_int fun _ _ => rfl) pe_int (nomark _)) (pw_and1 (pt_cmpR op_gtX (pe_callB call_len (by rfl) T.b_len boot_len (pa_cons (pv 0) pa_nil)) pe_int (nomark _)))))
        (pss_one (ps_expr (pe_bm PySem.F.plainAttrs_list PySem.F.slot_list_pop PySem.F.type_list_pop (MtR.or mt_pop mt_popAt) (pv 0) (pa_cons pe_int pa_nil))))
        pss_nil)
        (pss_cons (ps_set (i := 2) sc__law_draw.nd rfl (by first | exact Or.inl rfl | exact Or.inr rfl) (pe_op op_modX (pe_callTy (CallR.or call_int1 call_int_str) (by rfl) T.b_int (by decide +kernel) (pa_cons (pe_ix ix_seq (pv 0) pe_int fun _ _ => rfl) pa_nil)) (pv 1)))
        (pss_cons (ps_asg (pe_op op_divX (pe_ix ix_seq (pv 0) pe_int fun _ _ => rfl) (pv 1)) (pg_sub (pv 0) pe_int set_list))
        (pss_one (ps_ret (pv 2))))))
theorem Tx.ok__law_draw (T : Tx K mg) : Cl P w K mg base 1 "_law_draw" (sp__law_draw K) [] := by
  obtain ⟨fd, F⟩ := T.d__law_draw
  have ok := fn__law_draw (P := P) (w := w) (base := base) T F
  exact ⟨_, fd, _, [], ok, T.g__law_draw, F.kp, (FunD.bindsN F fun _ _ _ _ _ _ us hl => match us, hl with | [_, _], _ => rfl), .nil⟩
theorem fn__law_pick (T : Tx K mg) {fd : FuncData} (F : FunD K "_law_pick" "_law_pick" (defArgs s__law_pick) (defBody s__law_pick) (defScope s__law_pick) [] [] (He.fAd K ("_law_pick", none)) fd) : FnOk P w K mg base (L2.CX P w) 2 (He.fAd K ("_law_pick", none)) fd ["_law_draws", "_law_row"] (sp__law_pick K) := by
  refine F.ok sc__law_pick (fun vs H Q E h => h.1) (fun cdv A outer s H vs Q E hr h => ⟨_, ?_, h.2⟩)
  refine PSs.nox ?_
  exact (pss_one (ps_ret (pe_ix ix_seq (pv 1) (pe_cl (T.ok__law_draw) hr (by decide) (fun _ => pz) rfl (pa_cons (pv 0) (pa_cons (pe_callB call_len (by rfl) T.b_len boot_len (pa_cons (pv 1) pa_nil)) pa_nil))) fun _ _ => rfl)))
theorem Tx.ok__law_pick (T : Tx K mg) : Cl P w K mg base 2 "_law_pick" (sp__law_pick K) [] := by
  obtain ⟨fd, F⟩ := T.d__law_pick
  have ok := fn__law_pick (P := P) (w := w) (base := base) T F
  exact ⟨_, fd, _, [], ok, T.g__law_pick, F.kp, (FunD.bindsN F fun _ _ _ _ _ _ us hl => match us, hl with | [_, _], _ => rfl), .nil⟩
theorem fn__law_terms (T : Tx K mg) {fd : FuncData} (F : FunD K "_law_terms" "_law_terms" (defArgs s__law_terms) (defBody s__law_terms) (defScope s__law_terms) [] [] (He.fAd K ("_law_terms", none)) fd) : FnOk P w K mg base (L2.CX P w) 3 (He.fAd K ("_law_terms", none)) fd ["_law_draws", "_law_names"] (sp__law_terms K) := by
  refine F.ok sc__law_terms (fun vs H Q E h => h.1) (fun cdv A outer s H vs Q E hr h => ⟨_, ?_, h.2⟩)
  refine PSs.nox ?_
  exact (pss_cons (ps_set (i := 2) sc__law_terms.nd rfl (by first | exact Or.inl rfl | exact Or.inr rfl) (pe_lst pa_nil))
        (pss_cons (ps_for PassesOwn.never rfl (pi_range1 rfl T.b_range (pa_cons (pe_op op_addX pe_int (pe_cl (T.ok__law_draw) hr (by decide) (fun _ => pz) rfl (pa_cons (pv 0) (pa_cons pe_int pa_nil)))) pa_nil)) (pg_name (i := 3) sc__law_terms.nd rfl (by first | exact Or.inl rfl | exact Or.inr rfl))
        (pss_one (ps_expr (pe_bm PySem.F.plainAttrs_list PySem.F.slot_list_append PySem.F.type_list_append mt_append (pv 2) (pa_cons (pe_tup (pa_cons (pe_op op_subX (pe_cl (T.ok__law_draw) hr (by decide) (fun _ => pz) rfl (pa_cons (pv 0) (pa_cons pe_int pa_nil))) pe_int) (pa_cons (pe_cl (T.ok__law_pick) hr (by decide) (fun _ => pz) rfl (pa_cons (pv 0) (pa_cons (pe_op op_addX (pe_op op_addX (pe_lst (pa_cons pe_non pa_nil)) (pv 1)) (pv 1)) pa_nil))) pa_nil))) pa_nil)))))
        (pss_one (ps_ret (pv 2)))))
theorem Tx.ok__law_terms (T : Tx K mg) : Cl P w K mg base 3 "_law_terms" (sp__law_terms K) [] := by
  obtain ⟨fd, F⟩ := T.d__law_terms
  have ok := fn__law_terms (P := P) (w := w) (base := base) T F
  exact ⟨_, fd, _, [], ok, T.g__law_terms, F.kp, (FunD.bindsN F fun _ _ _ _ _ _ us hl => match us, hl with | [_, _], _ => rfl), .nil⟩
theorem fn__law_factor (T : Tx K mg) {fd : FuncData} (F : FunD K "_law_factor" "_law_factor" (defArgs s__law_factor) (defBody s__law_factor) (defScope s__law_factor) [] [] (He.fAd K ("_law_factor", none)) fd) : FnOk P w K mg base (L2.CX P w) 1 (He.fAd K ("_law_factor", none)) fd ["_law_terms_here", "_law_name"] (sp__law_factor K) := by
  refine F.ok sc__law_factor (fun vs H Q E h => h.1) (fun cdv A outer s H vs Q E hr h => ⟨_, ?_, h.2⟩)
  refine PSs.nox ?_
  exact (pss_one (ps_ret (pe_callB (cr_sum rfl) (by rfl) T.b_sum (by decide +kernel) (pa_cons (pe_lc (own := [("_law_term", 2)]) rfl sc__law_factor.nd (pi_any (pv 0)) (blkOk_by (N := ["_law_terms_here", "_law_name", "_law_term"]) (sc := defScope s__law_factor) (own := [("_law_term", 2)]) (by decide +kernel)) (fun _ _ _ _ _ => (pg_name (i := 2) sc__law_factor.nd rfl (by first | exact Or.inl rfl | exact Or.inr rfl))) (fun _ _ _ _ _ => pts_one (pt_cmpR (op_eqX hr.units) (pe_ix ix_seq (pv 2) pe_int fun _ _ => rfl) (pv 1) (nomark _))) (fun _ _ _ _ _ => (pe_ix ix_seq (pv 2) pe_int fun _ _ => rfl))) pa_nil))))
theorem Tx.ok__law_factor (T : Tx K mg) : Cl P w K mg base 1 "_law_factor" (sp__law_factor K) [] := by
  obtain ⟨fd, F⟩ := T.d__law_factor
  have ok := fn__law_factor (P := P) (w := w) (base := base) T F
  exact ⟨_, fd, _, [], ok, T.g__law_factor, F.kp, (FunD.bindsN F fun _ _ _ _ _ _ us hl => match us, hl with | [_, _], _ => rfl), .nil⟩
theorem fn__law_rows (T : Tx K mg) {fd : FuncData} (F : FunD K "_law_rows" "_law_rows" (defArgs s__law_rows) (defBody s__law_rows) (defScope s__law_rows) [] [] (He.fAd K ("_law_rows", none)) fd) : FnOk P w K mg base (L2.CX P w) 1 (He.fAd K ("_law_rows", none)) fd ["_law_bounds"] (sp__law_rows K) := by
  refine F.ok sc__law_rows (fun vs H Q E h => h.1) (fun cdv A outer s H vs Q E hr h => ⟨_, ?_, h.2⟩)
  refine PSs.nox ?_
  exact (pss_cons (ps_set (i := 1) sc__law_rows.nd rfl (by first | exact Or.inl rfl | exact Or.inr rfl) (pe_lst (pa_cons (pe_lst pa_nil) pa_nil)))
        (pss_cons (ps_for PassesOwn.never rfl (pi_any (pv 0)) (pg_name (i := 2) sc__law_rows.nd rfl (by first | exact Or.inl rfl | exact Or.inr rfl))
        (pss_cons (ps_set (i := 3) sc__law_rows.nd rfl (by first | exact Or.inl rfl | exact Or.inr rfl) (pe_lst pa_nil))
        (pss_cons (ps_for PassesOwn.never rfl (pi_any (pv 1)) (pg_name (i := 4) sc__law_rows.nd rfl (by first | exact Or.inl rfl | exact Or.inr rfl))
        (pss_one (ps_for PassesOwn.never rfl (pi_range2 rfl T.b_range (pa_cons (pe_ix ix_seq (pv 2) pe_int fun _ _ => rfl) (pa_cons (pe_op op_addX (pe_ix ix_seq (pv 2) pe_int fun _ _ => rfl) pe_int) pa_nil))) (pg_name (i := 5) sc__law_rows.nd rfl (by first | exact Or.inl rfl | exact Or.inr rfl))
        (pss_one (ps_expr (pe_bm PySem.F.plainAttrs_list PySem.F.slot_list_append PySem.F.type_list_append mt_append (pv 3) (pa_cons (pe_op op_addX (pv 4) (pe_lst (pa_cons (pv 5) pa_nil))) pa_nil)))))))
        (pss_one (ps_set (i := 1) sc__law_rows.nd rfl (by first | exact Or.inl rfl | exact Or.inr rfl) (pv 3))))))
        (pss_one (ps_ret (pv 1)))))
theorem Tx.ok__law_rows (T : Tx K mg) : Cl P w K mg base 1 "_law_rows" (sp__law_rows K) [] := by
  obtain ⟨fd, F⟩ := T.d__law_rows
  have ok := fn__law_rows (P := P) (w := w) (base := base) T F
  exact ⟨_, fd, _, [], ok, T.g__law_rows, F.kp, (FunD.bindsN F fun _ _ _ _ _ _ us hl => match us, hl with | [_], _ => rfl), .nil⟩
theorem fn__law_value (T : Tx K mg) {fd : FuncData} (F : FunD K "_law_value" "_law_value" (defArgs s__law_value) (defBody s__law_value) (defScope s__law_value) [] [] (He.fAd K ("_law_value", none)) fd) : FnOk P w K mg base (L2.CX P w) 1 (He.fAd K ("_law_value", none)) fd ["_law_terms_here", "_law_names", "_law_row"] (sp__law_value K) := by
  refine F.ok sc__law_value (fun vs H Q E h => h.1) (fun cdv A outer s H vs Q E hr h => ⟨_, ?_, h.2⟩)
  refine PSs.nox ?_
  exact (pss_cons (ps_set (i := 3) sc__law_value.nd rfl (by first | exact Or.inl rfl | exact Or.inr rfl) pe_int)
        (pss_cons (ps_for PassesOwn.never rfl (pi_any (pv 0)) (pg_name (i := 4) sc__law_value.nd rfl (by first | exact Or.inl rfl | exact Or.inr rfl))
        (pss_one (ps_if (pt_cmpR op_isX (pe_ix ix_seq (pv 4) pe_int fun _ _ => rfl) pe_non (nomark _))
        (pss_one (ps_set (i := 3) sc__law_value.nd rfl (by first | exact Or.inl rfl | exact Or.inr rfl) (pe_op op_addX (pv 3) (pe_ix ix_seq (pv 4) pe_int fun _ _ => rfl))))
        (pss_one (ps_set (i := 3) sc__law_value.nd rfl (by first | exact Or.inl rfl | exact Or.inr rfl) (pe_op op_addX (pv 3) (pe_op op_mulX (pe_ix ix_seq (pv 4) pe_int fun _ _ => rfl) (pe_ix ix_seq (pv 2) (pe_bm PySem.F.plainAttrs_list PySem.F.slot_list_index PySem.F.type_list_index mt_index (pv 1) (pa_cons (pe_ix ix_seq (pv 4) pe_int fun _ _ => rfl) pa_nil)) fun _ _ => rfl))))))))
        (pss_one (ps_ret (pv 3)))))
theorem Tx.ok__law_value (T : Tx K mg) : Cl P w K mg base 1 "_law_value" (sp__law_value K) [] := by
  obtain ⟨fd, F⟩ := T.d__law_value
  have ok := fn__law_value (P := P) (w := w) (base := base) T F
  exact ⟨_, fd, _, [], ok, T.g__law_value, F.kp, (FunD.bindsN F fun _ _ _ _ _ _ us hl => match us, hl with | [_, _, _], _ => rfl), .nil⟩
theorem fn__law_better (T : Tx K mg) {fd : FuncData} (F : FunD K "_law_better" "_law_better" (defArgs s__law_better) (defBody s__law_better) (defScope s__law_better) [] [] (He.fAd K ("_law_better", none)) fd) : FnOk P w K mg base (L2.CX P w) 1 (He.fAd K ("_law_better", none)) fd ["_law_row", "_law_best", "_law_old"] (sp__law_better K) := by
  refine F.ok sc__law_better (fun vs H Q E h => h.1) (fun cdv A outer s H vs Q E hr h => ⟨_, ?_, h.2⟩)
  refine PSs.nox ?_
  exact (pss_cons (ps_if (pt_cmpR op_isX (pv 1) pe_non (nomark _))
        (pss_one (ps_ret pe_bl))
        pss_nil)
        (pss_cons (ps_for PassesOwn.never rfl (pi_range1 rfl T.b_range (pa_cons (pe_callB call_len (by rfl) T.b_len boot_len (pa_cons (pv 0) pa_nil)) pa_nil)) (pg_name (i := 3) sc__law_better.nd rfl (by first | exact Or.inl rfl | exact Or.inr rfl))
        (pss_one (ps_if (PW.pt (pw_or (pt_cmpR op_isX (pv 2) pe_non (nomark _)) (pw_or1 (pt_cmpR op_inX pe_non (pv 2) (by rfl)))))
        (pss_one (ps_if (pt_cmpR (op_neX hr.units) (pe_ix ix_seq (pv 0) (pv 3) fun _ _ => rfl) (pe_ix ix_seq (pv 1) (pv 3) fun _ _ => rfl) (nomark _))
        (pss_one (ps_ret (pe_cmpR (op_ltX hr.units) (pe_ix ix_seq (pv 0) (pv 3) fun _ _ => rfl) (pe_ix ix_seq (pv 1) (pv 3) fun _ _ => rfl) (nomark _))))
        pss_nil))
        (pss_one (ps_if (pt_cmpR (op_neX hr.units) (pe_callB call_abs (by rfl) T.b_abs (by decide +kernel) (pa_cons (pe_op op_subX (pe_ix ix_seq (pv 0) (pv 3) fun _ _ => rfl) (pe_ix ix_seq (pv 2) (pv 3) fun _ _ => rfl)) pa_nil)) (pe_callB call_abs (by rfl) T.b_abs (by decide +kernel) (pa_cons (pe_op op_subX (pe_ix ix_seq (pv 1) (pv 3) fun _ _ => rfl) (pe_ix ix_seq (pv 2) (pv 3) fun _ _ => rfl)) pa_nil)) (nomark _))
        (pss_one (ps_ret (pe_cmpR (op_ltX hr.units) (pe_callB call_abs (by rfl) T.b_abs (by decide +kernel) (pa_cons (pe_op op_subX (pe_ix ix_seq (pv 0) (pv 3) fun _ _ => rfl) (pe_ix ix_seq (pv 2) (pv 3) fun _ _ => rfl)) pa_nil)) (pe_callB call_abs (by rfl) T.b_abs (by decide +kernel) (pa_cons (pe_op op_subX (pe_ix ix_seq (pv 1) (pv 3) fun _ _ => rfl) (pe_ix ix_seq (pv 2) (pv 3) fun _ _ => rfl)) pa_nil)) (nomark _))))
        (pss_one (ps_if (pt_cmpR (op_neX hr.units) (pe_ix ix_seq (pv 0) (pv 3) fun _ _ => rfl) (pe_ix ix_seq (pv 1) (pv 3) fun _ _ => rfl) (nomark _))
        (pss_one (ps_ret (pe_cmpR (op_ltX hr.units) (pe_ix ix_seq (pv 0) (pv 3) fun _ _ => rfl) (pe_ix ix_seq (pv 1) (pv 3) fun _ _ => rfl) (nomark _))))
        pss_nil)))))))
        (pss_one (ps_ret pe_bl))))
theorem Tx.ok__law_better (T : Tx K mg) : Cl P w K mg base 1 "_law_better" (sp__law_better K) [] := by
  obtain ⟨fd, F⟩ := T.d__law_better
  have ok := fn__law_better (P := P) (w := w) (base := base) T F
  exact ⟨_, fd, _, [], ok, T.g__law_better, F.kp, (FunD.bindsN F fun _ _ _ _ _ _ us hl => match us, hl with | [_, _, _], _ => rfl), .nil⟩
theorem fn_clamp (T : Tx K mg) {fd : FuncData} (F : FunD K "clamp" "clamp" (defArgs s_clamp) (defBody s_clamp) (defScope s_clamp) [] [] (He.fAd K ("clamp", none)) fd) : FnOk P w K mg base (L2.CX P w) 1 (He.fAd K ("clamp", none)) fd ["low", "high", "value"] (sp_clamp K) := by
  refine F.ok sc_clamp (fun vs H Q E h => h.1) (fun cdv A outer s H vs Q E hr h => ⟨_, ?_, h.2⟩)
  refine PSs.nox ?_
  exact (pss_one (ps_ret (pe_callB (call_max2 rfl) (by rfl) T.b_max (by decide +kernel) (pa_cons (pv 0) (pa_cons (pe_callB (call_min2 rfl) (by rfl) T.b_min (by decide +kernel) (pa_cons (pv 1) (pa_cons (pv 2) pa_nil))) pa_nil)))))
theorem Tx.ok_clamp (T : Tx K mg) : Cl P w K mg base 1 "clamp" (sp_clamp K) [] := by
  obtain ⟨fd, F⟩ := T.d_clamp
  have ok := fn_clamp (P := P) (w := w) (base := base) T F
  exact ⟨_, fd, _, [], ok, T.g_clamp, F.kp, (FunD.bindsN F fun _ _ _ _ _ _ us hl => match us, hl with | [_, _, _], _ => rfl), .nil⟩
theorem fn_Form_factor_of (T : Tx K mg) {fd : FuncData} (F : FunD K "factor_of" "Form.factor_of" (defArgs s_Form_factor_of) (defBody s_Form_factor_of) (defScope s_Form_factor_of) [] [] (He.fAd K ("Form", some "factor_of")) fd) : FnOk P w K mg base (L2.CX P w) 1 (He.fAd K ("Form", some "factor_of")) fd ["self", "wanted"] (sp_Form_factor_of K) := by
  refine F.ok sc_Form_factor_of (fun vs H Q E h => h.1) (fun cdv A outer s H vs Q E hr h => ⟨_, ?_, h.2⟩)
  refine PSs.nox ?_
  exact (pss_one (ps_ret (pe_callB (cr_sum rfl) (by rfl) T.b_sum (by decide +kernel) (pa_cons (pe_lc (own := [("factor", 2), ("name", 3)]) rfl sc_Form_factor_of.nd (pi_any (pe_fld (pv 0) rfl)) (blkOk_by (N := ["self", "wanted", "factor", "name"]) (sc := defScope s_Form_factor_of) (own := [("factor", 2), ("name", 3)]) (by decide +kernel)) (fun _ _ _ _ _ => (pg_tup rfl (pgs_cons (pg_name (i := 2) sc_Form_factor_of.nd rfl (by first | exact Or.inl rfl | exact Or.inr rfl)) (pgs_cons (pg_name (i := 3) sc_Form_factor_of.nd rfl (by first | exact Or.inl rfl | exact Or.inr rfl)) pgs_nil)))) (fun _ _ _ _ _ => pts_one (pt_cmpR (op_eqX hr.units) (pv 3) (pv 1) (nomark _))) (fun _ _ _ _ _ => (pv 2))) pa_nil))))
theorem Tx.ok_Form_factor_of (T : Tx K mg) : Mt P w K mg base 1 (He.ga K ("Form" : Str)) "factor_of" (sp_Form_factor_of K) [] := by
  obtain ⟨fd, F⟩ := T.d_Form_factor_of
  have ok := fn_Form_factor_of (P := P) (w := w) (base := base) T F
  exact ⟨_, fd, _, [], T.cl_Form, T.me_Form_factor_of, ok, (FunD.bindsN F fun _ _ _ _ _ _ us hl => match us, hl with | [_, _], _ => rfl), .nil⟩
theorem fn_Form_alone (T : Tx K mg) {fd : FuncData} (F : FunD K "alone" "Form.alone" (defArgs s_Form_alone) (defBody s_Form_alone) (defScope s_Form_alone) [] [] (He.fAd K ("Form", some "alone")) fd) : FnOk P w K mg base (L2.CX P w) 1 (He.fAd K ("Form", some "alone")) fd ["self"] (sp_Form_alone K) := by
  refine F.ok sc_Form_alone (fun vs H Q E h => h.1) (fun cdv A outer s H vs Q E hr h => ⟨_, ?_, h.2⟩)
  refine PSs.nox ?_
  exact (pss_one (ps_ret (pe_callB (cr_sum rfl) (by rfl) T.b_sum (by decide +kernel) (pa_cons (pe_lc (own := [("factor", 1), ("name", 2)]) rfl sc_Form_alone.nd (pi_any (pe_fld (pv 0) rfl)) (blkOk_by (N := ["self", "factor", "name"]) (sc := defScope s_Form_alone) (own := [("factor", 1), ("name", 2)]) (by decide +kernel)) (fun _ _ _ _ _ => (pg_tup rfl (pgs_cons (pg_name (i := 1) sc_Form_alone.nd rfl (by first | exact Or.inl rfl | exact Or.inr rfl)) (pgs_cons (pg_name (i := 2) sc_Form_alone.nd rfl (by first | exact Or.inl rfl | exact Or.inr rfl)) pgs_nil)))) (fun _ _ _ _ _ => pts_one (pt_cmpR op_isX (pv 2) pe_non (nomark _))) (fun _ _ _ _ _ => (pv 1))) pa_nil))))
theorem Tx.ok_Form_alone (T : Tx K mg) : Mt P w K mg base 1 (He.ga K ("Form" : Str)) "alone" (sp_Form_alone K) [] := by
  obtain ⟨fd, F⟩ := T.d_Form_alone
  have ok := fn_Form_alone (P := P) (w := w) (base := base) T F
  exact ⟨_, fd, _, [], T.cl_Form, T.me_Form_alone, ok, (FunD.bindsN F fun _ _ _ _ _ _ us hl => match us, hl with | [_], _ => rfl), .nil⟩
theorem fn_within (T : Tx K mg) {fd : FuncData} (F : FunD K "within" "within" (defArgs s_within) (defBody s_within) (defScope s_within) [] [] (He.fAd K ("within", none)) fd) : FnOk P w K mg base (L2.CX P w) 1 (He.fAd K ("within", none)) fd ["bounds", "row"] (sp_within K) := by
  refine F.ok sc_within (fun vs H Q E h => h.1) (fun cdv A outer s H vs Q E hr h => ⟨_, ?_, h.2⟩)
  refine PSs.nox ?_
  exact (pss_one (ps_ret (pe_callB (cr_all rfl) (by rfl) T.b_all (by decide +kernel) (pa_cons (pe_lc (own := [("low", 2), ("high", 3), ("value", 4)]) rfl sc_within.nd (pi_zip (by rfl) T.b_zip (pa_cons (pv 0) (pa_cons (pv 1) pa_nil))) (blkOk_by (N := ["bounds", "row", "low", "high", "value"]) (sc := defScope s_within) (own := [("low", 2), ("high", 3), ("value", 4)]) (by decide +kernel)) (fun _ _ _ _ _ => (pg_tup rfl (pgs_cons (pg_tup rfl (pgs_cons (pg_name (i := 2) sc_within.nd rfl (by first | exact Or.inl rfl | exact Or.inr rfl)) (pgs_cons (pg_name (i := 3) sc_within.nd rfl (by first | exact Or.inl rfl | exact Or.inr rfl)) pgs_nil))) (pgs_cons (pg_name (i := 4) sc_within.nd rfl (by first | exact Or.inl rfl | exact Or.inr rfl)) pgs_nil)))) (fun _ _ _ _ _ => pts_nil) (fun _ _ _ _ _ => (pe_chain op_leX op_leX (pv 2) (pv 4) (pv 3)))) pa_nil))))
theorem Tx.ok_within (T : Tx K mg) : Cl P w K mg base 1 "within" (sp_within K) [] := by
  obtain ⟨fd, F⟩ := T.d_within
  have ok := fn_within (P := P) (w := w) (base := base) T F
  exact ⟨_, fd, _, [], ok, T.g_within, F.kp, (FunD.bindsN F fun _ _ _ _ _ _ us hl => match us, hl with | [_, _], _ => rfl), .nil⟩
theorem fn_Form_result (T : Tx K mg) {fd : FuncData} (F : FunD K "result" "Form.result" (defArgs s_Form_result) (defBody s_Form_result) (defScope s_Form_result) [] [] (He.fAd K ("Form", some "result")) fd) : FnOk P w K mg base (L2.CX P w) 2 (He.fAd K ("Form", some "result")) fd ["self", "group", "row"] (sp_Form_result K) := by
  refine F.ok sc_Form_result (fun vs H Q E h => h.1) (fun cdv A outer s H vs Q E hr h => ⟨_, ?_, h.2⟩)
  refine PSs.nox ?_
  exact (pss_cons (ps_set (i := 3) sc_Form_result.nd rfl (by first | exact Or.inl rfl | exact Or.inr rfl) (pe_mt0 (T.ok_Form_alone) hr (by decide) (fun _ => pz) (pv 0)))
        (pss_cons (ps_for PassesOwn.never rfl (pi_zip (by rfl) T.b_zip (pa_cons (pv 1) (pa_cons (pv 2) pa_nil))) (pg_tup rfl (pgs_cons (pg_name (i := 4) sc_Form_result.nd rfl (by first | exact Or.inl rfl | exact Or.inr rfl)) (pgs_cons (pg_name (i := 5) sc_Form_result.nd rfl (by first | exact Or.inl rfl | exact Or.inr rfl)) pgs_nil)))
        (pss_one (ps_set (i := 3) sc_Form_result.nd rfl (by first | exact Or.inl rfl | exact Or.inr rfl) (pe_op op_addX (pv 3) (pe_op op_mulX (pe_mt1 (T.ok_Form_factor_of) hr (by decide) (fun _ => pz) (pv 0) (pa_cons (pv 4) pa_nil)) (pv 5))))))
        (pss_one (ps_ret (pv 3)))))
theorem Tx.ok_Form_result (T : Tx K mg) : Mt P w K mg base 2 (He.ga K ("Form" : Str)) "result" (sp_Form_result K) [] := by
  obtain ⟨fd, F⟩ := T.d_Form_result
  have ok := fn_Form_result (P := P) (w := w) (base := base) T F
  exact ⟨_, fd, _, [], T.cl_Form, T.me_Form_result, ok, (FunD.bindsN F fun _ _ _ _ _ _ us hl => match us, hl with | [_, _, _], _ => rfl), .nil⟩
theorem fn_solves (T : Tx K mg) {fd : FuncData} (F : FunD K "solves" "solves" (defArgs s_solves) (defBody s_solves) (defScope s_solves) [] [] (He.fAd K ("solves", none)) fd) : FnOk P w K mg base (L2.CX P w) 3 (He.fAd K ("solves", none)) fd ["forms", "names", "made", "row"] (sp_solves K) := by
  refine F.ok sc_solves (fun vs H Q E h => h.1) (fun cdv A outer s H vs Q E hr h => ⟨_, ?_, h.2⟩)
  refine PSs.nox ?_
  exact (pss_one (ps_ret (pe_callB (cr_all rfl) (by rfl) T.b_all (by decide +kernel) (pa_cons (pe_lc (own := [("form", 4), ("value", 5)]) rfl sc_solves.nd (pi_zip (by rfl) T.b_zip (pa_cons (pv 0) (pa_cons (pv 2) pa_nil))) (blkOk_by (N := ["forms", "names", "made", "row", "form", "value"]) (sc := defScope s_solves) (own := [("form", 4), ("value", 5)]) (by decide +kernel)) (fun _ _ _ _ _ => (pg_tup rfl (pgs_cons (pg_name (i := 4) sc_solves.nd rfl (by first | exact Or.inl rfl | exact Or.inr rfl)) (pgs_cons (pg_name (i := 5) sc_solves.nd rfl (by first | exact Or.inl rfl | exact Or.inr rfl)) pgs_nil)))) (fun _ _ _ _ _ => pts_nil) (fun _ _ _ _ _ => (pe_cmpR (op_eqX hr.units) (pe_mt1 (T.ok_Form_result) hr (by decide) (fun _ => pz) (pv 4) (pa_cons (pv 1) (pa_cons (pv 3) pa_nil))) (pv 5) (nomark _)))) pa_nil))))
theorem Tx.ok_solves (T : Tx K mg) : Cl P w K mg base 3 "solves" (sp_solves K) [] := by
  obtain ⟨fd, F⟩ := T.d_solves
  have ok := fn_solves (P := P) (w := w) (base := base) T F
  exact ⟨_, fd, _, [], ok, T.g_solves, F.kp, (FunD.bindsN F fun _ _ _ _ _ _ us hl => match us, hl with | [_, _, _, _], _ => rfl), .nil⟩
theorem fn_one_source (T : Tx K mg) {fd : FuncData} (F : FunD K "one_source" "one_source" (defArgs s_one_source) (defBody s_one_source) (defScope s_one_source) [] [] (He.fAd K ("one_source", none)) fd) : FnOk P w K mg base (L2.CX P w) 4 (He.fAd K ("one_source", none)) fd ["forms", "names", "bounds", "made", "target"] (sp_one_source K) := by
  refine F.ok sc_one_source (fun vs H Q E h => h.1) (fun cdv A outer s H vs Q E hr h => ⟨_, ?_, h.2⟩)
  refine PSs.nox ?_
  exact (pss_cons (ps_asg (pe_ix ix_seq (pv 2) pe_int fun _ _ => rfl) (pg_tup rfl (pgs_cons (pg_name (i := 5) sc_one_source.nd rfl (by first | exact Or.inl rfl | exact Or.inr rfl)) (pgs_cons (pg_name (i := 6) sc_one_source.nd rfl (by first | exact Or.inl rfl | exact Or.inr rfl)) pgs_nil))))
        (pss_cons (ps_set (i := 7) sc_one_source.nd rfl (by first | exact Or.inl rfl | exact Or.inr rfl) (pe_lst (pa_cons (pe_cl (T.ok_clamp) hr (by decide) (fun _ => pz) rfl (pa_cons (pv 5) (pa_cons (pv 6) (pa_cons (pe_ix ix_seq (pv 4) pe_int fun _ _ => rfl) pa_nil)))) pa_nil)))
        (pss_cons (ps_for PassesOwn.never rfl (pi_zip (by rfl) T.b_zip (pa_cons (pv 0) (pa_cons (pv 3) pa_nil))) (pg_tup rfl (pgs_cons (pg_name (i := 8) sc_one_source.nd rfl (by first | exact Or.inl rfl | exact Or.inr rfl)) (pgs_cons (pg_name (i := 9) sc_one_source.nd rfl (by first | exact Or.inl rfl | exact Or.inr rfl)) pgs_nil)))
        (pss_cons (ps_set (i := 10) sc_one_source.nd rfl (by first | exact Or.inl rfl | exact Or.inr rfl) (pe_mt1 (T.ok_Form_factor_of) hr (by decide) (fun _ => pz) (pv 8) (pa_cons (pe_ix ix_seq (pv 1) pe_int fun _ _ => rfl) pa_nil)))
        (pss_one (ps_if (pt_cmpR (op_neX hr.units) (pv 10) pe_int (nomark _))
        (pss_cons (ps_set (i := 7) sc_one_source.nd rfl (by first | exact Or.inl rfl | exact Or.inr rfl) (pe_lst (pa_cons (pe_op op_divX (pe_op op_subX (pv 9) (pe_mt0 (T.ok_Form_alone) hr (by decide) (fun _ => pz) (pv 8))) (pv 10)) pa_nil)))
        (pss_one ps_break))
        pss_nil))))
        (pss_cons (ps_if (PW.pt (pw_and (pt_truth (pe_cl (T.ok_within) hr (by decide) (fun _ => pz) rfl (pa_cons (pv 2) (pa_cons (pv 7) pa_nil))) fun _ => rfl) (pw_and1 (pt_truth (pe_cl (T.ok_solves) hr (by decide) (fun _ => pz) rfl (pa_cons (pv 0) (pa_cons (pv 1) (pa_cons (pv 3) (pa_cons (pv 7) pa_nil))))) fun _ => rfl))))
        (pss_one (ps_ret (pv 7)))
        pss_nil)
        (pss_one (ps_ret pe_non))))))
theorem Tx.ok_one_source (T : Tx K mg) : Cl P w K mg base 4 "one_source" (sp_one_source K) [] := by
  obtain ⟨fd, F⟩ := T.d_one_source
  have ok := fn_one_source (P := P) (w := w) (base := base) T F
  exact ⟨_, fd, _, [], ok, T.g_one_source, F.kp, (FunD.bindsN F fun _ _ _ _ _ _ us hl => match us, hl with | [_, _, _, _, _], _ => rfl), .nil⟩
theorem fn_crossing (T : Tx K mg) {fd : FuncData} (F : FunD K "crossing" "crossing" (defArgs s_crossing) (defBody s_crossing) (defScope s_crossing) [] [] (He.fAd K ("crossing", none)) fd) : FnOk P w K mg base (L2.CX P w) 1 (He.fAd K ("crossing", none)) fd ["first", "second"] (sp_crossing K) := by
  refine F.ok sc_crossing (fun vs H Q E h => h.1) (fun cdv A outer s H vs Q E hr h => ⟨_, ?_, h.2⟩)
  refine PSs.nox ?_
  exact (pss_cons (ps_set (i := 2) sc_crossing.nd rfl (by first | exact Or.inl rfl | exact Or.inr rfl) (pe_op op_subX (pe_op op_mulX (pe_ix ix_seq (pv 0) pe_int fun _ _ => rfl) (pe_ix ix_seq (pv 1) pe_int fun _ _ => rfl)) (pe_op op_mulX (pe_ix ix_seq (pv 0) pe_int fun _ _ => rfl) (pe_ix ix_seq (pv 1) pe_int fun _ _ => rfl))))
        (pss_cons (ps_set (i := 3) sc_crossing.nd rfl (by first | exact Or.inl rfl | exact Or.inr rfl) (pe_op op_subX (pe_op op_mulX (pe_ix ix_seq (pv 0) pe_int fun _ _ => rfl) (pe_ix ix_seq (pv 1) pe_int fun _ _ => rfl)) (pe_op op_mulX (pe_ix ix_seq (pv 1) pe_int fun _ _ => rfl) (pe_ix ix_seq (pv 0) pe_int fun _ _ => rfl))))
        (pss_cons (ps_set (i := 4) sc_crossing.nd rfl (by first | exact Or.inl rfl | exact Or.inr rfl) (pe_op op_subX (pe_op op_mulX (pe_ix ix_seq (pv 0) pe_int fun _ _ => rfl) (pe_ix ix_seq (pv 1) pe_int fun _ _ => rfl)) (pe_op op_mulX (pe_ix ix_seq (pv 1) pe_int fun _ _ => rfl) (pe_ix ix_seq (pv 0) pe_int fun _ _ => rfl))))
        (pss_cons (ps_if (PW.pt (pw_or (pt_cmpR (op_neX hr.units) (pe_op op_modX (pv 3) (pv 2)) pe_int (nomark _)) (pw_or1 (pt_cmpR (op_neX hr.units) (pe_op op_modX (pv 4) (pv 2)) pe_int (nomark _)))))
        (pss_one (ps_ret pe_non))
        pss_nil)
        (pss_one (ps_ret (pe_lst (pa_cons (pe_op op_divX (pv 3) (pv 2)) (pa_cons (pe_op op_divX (pv 4) (pv 2)) pa_nil)))))))))
theorem Tx.ok_crossing (T : Tx K mg) : Cl P w K mg base 1 "crossing" (sp_crossing K) [] := by
  obtain ⟨fd, F⟩ := T.d_crossing
  have ok := fn_crossing (P := P) (w := w) (base := base) T F
  exact ⟨_, fd, _, [], ok, T.g_crossing, F.kp, (FunD.bindsN F fun _ _ _ _ _ _ us hl => match us, hl with | [_, _], _ => rfl), .nil⟩
theorem fn_bezout (T : Tx K mg) {fd : FuncData} (F : FunD K "bezout" "bezout" (defArgs s_bezout) (defBody s_bezout) (defScope s_bezout) [] [] (He.fAd K ("bezout", none)) fd) : FnOk P w K mg base (L2.CX P w) 1 (He.fAd K ("bezout", none)) fd ["a", "b"] (sp_bezout K) := by
  refine F.ok sc_bezout (fun vs H Q E h => h.1) (fun cdv A outer s H vs Q E hr h => ⟨_, ?_, h.2⟩)
  refine PSs.nox ?_
  exact (pss_cons (ps_par (i := 2) (j := 3) (by rfl) sc_bezout.nd rfl rfl (by decide) rfl rfl (pa_cons (pv 0) (pa_cons (pv 1) pa_nil)) (by rfl))
        (pss_cons (ps_asg (pe_tup (pa_cons pe_int (pa_cons pe_int pa_nil))) (pg_tup rfl (pgs_cons (pg_name (i := 4) sc_bezout.nd rfl (by first | exact Or.inl rfl | exact Or.inr rfl)) (pgs_cons (pg_name (i := 5) sc_bezout.nd rfl (by first | exact Or.inl rfl | exact Or.inr rfl)) pgs_nil))))
        (pss_cons (ps_asg (pe_tup (pa_cons pe_int (pa_cons pe_int pa_nil))) (pg_tup rfl (pgs_cons (pg_name (i := 6) sc_bezout.nd rfl (by first | exact Or.inl rfl | exact Or.inr rfl)) (pgs_cons (pg_name (i := 7) sc_bezout.nd rfl (by first | exact Or.inl rfl | exact Or.inr rfl)) pgs_nil))))
        (pss_cons (ps_while PassesOwn.never (pt_cmpR (op_neX hr.units) (pv 3) pe_int (nomark _))
        (pss_cons (ps_set (i := 8) sc_bezout.nd rfl (by first | exact Or.inl rfl | exact Or.inr rfl) (pe_op op_divX (pv 2) (pv 3)))
        (pss_cons (ps_par (i := 2) (j := 3) (by rfl) sc_bezout.nd rfl rfl (by decide) rfl rfl (pa_cons (pv 3) (pa_cons (pe_op op_subX (pv 2) (pe_op op_mulX (pv 8) (pv 3))) pa_nil)) (by rfl))
        (pss_cons (ps_par (i := 4) (j := 5) (by rfl) sc_bezout.nd rfl rfl (by decide) rfl rfl (pa_cons (pv 5) (pa_cons (pe_op op_subX (pv 4) (pe_op op_mulX (pv 8) (pv 5))) pa_nil)) (by rfl))
        (pss_one (ps_par (i := 6) (j := 7) (by rfl) sc_bezout.nd rfl rfl (by decide) rfl rfl (pa_cons (pv 7) (pa_cons (pe_op op_subX (pv 6) (pe_op op_mulX (pv 8) (pv 7))) pa_nil)) (by rfl)))))))
        (pss_cons (ps_if (pt_cmpR (op_ltX hr.units) (pv 2) pe_int (nomark _))
        (pss_one (ps_ret (pe_tup (pa_cons (pe_un un_neg (pv 2)) (pa_cons (pe_un un_neg (pv 4)) (pa_cons (pe_un un_neg (pv 6)) pa_nil))))))
        pss_nil)
        (pss_one (ps_ret (pe_tup (pa_cons (pv 2) (pa_cons (pv 4) (pa_cons (pv 6) pa_nil)))))))))))
theorem Tx.ok_bezout (T : Tx K mg) : Cl P w K mg base 1 "bezout" (sp_bezout K) [] := by
  obtain ⟨fd, F⟩ := T.d_bezout
  have ok := fn_bezout (P := P) (w := w) (base := base) T F
  exact ⟨_, fd, _, [], ok, T.g_bezout, F.kp, (FunD.bindsN F fun _ _ _ _ _ _ us hl => match us, hl with | [_, _], _ => rfl), .nil⟩
theorem fn_step_range (T : Tx K mg) {fd : FuncData} (F : FunD K "step_range" "step_range" (defArgs s_step_range) (defBody s_step_range) (defScope s_step_range) [] [] (He.fAd K ("step_range", none)) fd) : FnOk P w K mg base (L2.CX P w) 1 (He.fAd K ("step_range", none)) fd ["low", "high", "start", "stride"] (sp_step_range K) := by
  refine F.ok sc_step_range (fun vs H Q E h => h.1) (fun cdv A outer s H vs Q E hr h => ⟨_, ?_, h.2⟩)
  refine PSs.nox ?_
  exact (pss_cons (ps_if (pt_cmpR op_gtX (pv 3) pe_int (nomark _))
        (pss_one (ps_ret (pe_tup (pa_cons (pe_un un_neg (pe_op op_divX (pe_op op_subX (pv 2) (pv 0)) (pv 3))) (pa_cons (pe_op op_divX (pe_op op_subX (pv 1) (pv 2)) (pv 3)) pa_nil)))))
        pss_nil)
        (pss_one (ps_ret (pe_tup (pa_cons (pe_un un_neg (pe_op op_divX (pe_op op_subX (pv 1) (pv 2)) (pe_un un_neg (pv 3)))) (pa_cons (pe_op op_divX (pe_op op_subX (pv 2) (pv 0)) (pe_un un_neg (pv 3))) pa_nil))))))
theorem Tx.ok_step_range (T : Tx K mg) : Cl P w K mg base 1 "step_range" (sp_step_range K) [] := by
  obtain ⟨fd, F⟩ := T.d_step_range
  have ok := fn_step_range (P := P) (w := w) (base := base) T F
  exact ⟨_, fd, _, [], ok, T.g_step_range, F.kp, (FunD.bindsN F fun _ _ _ _ _ _ us hl => match us, hl with | [_, _, _, _], _ => rfl), .nil⟩
theorem fn_nearest_step (T : Tx K mg) {fd : FuncData} (F : FunD K "nearest_step" "nearest_step" (defArgs s_nearest_step) (defBody s_nearest_step) (defScope s_nearest_step) [] [] (He.fAd K ("nearest_step", none)) fd) : FnOk P w K mg base (L2.CX P w) 2 (He.fAd K ("nearest_step", none)) fd ["least", "greatest", "start", "stride", "target"] (sp_nearest_step K) := by
  refine F.ok sc_nearest_step (fun vs H Q E h => h.1) (fun cdv A outer s H vs Q E hr h => ⟨_, ?_, h.2⟩)
  refine PSs.nox ?_
  exact (pss_cons (ps_set (i := 5) sc_nearest_step.nd rfl (by first | exact Or.inl rfl | exact Or.inr rfl) pe_non)
        (pss_cons (ps_set (i := 6) sc_nearest_step.nd rfl (by first | exact Or.inl rfl | exact Or.inr rfl) (pe_op op_divX (pe_op op_subX (pv 4) (pv 2)) (pv 3)))
        (pss_cons (ps_for PassesOwn.never rfl (pi_any (pe_tup (pa_cons (pv 6) (pa_cons (pe_op op_addX (pv 6) pe_int) pa_nil)))) (pg_name (i := 7) sc_nearest_step.nd rfl (by first | exact Or.inl rfl | exact Or.inr rfl))
        (pss_cons (ps_set (i := 8) sc_nearest_step.nd rfl (by first | exact Or.inl rfl | exact Or.inr rfl) (pe_cl (T.ok_clamp) hr (by decide) (fun _ => pz) rfl (pa_cons (pv 0) (pa_cons (pv 1) (pa_cons (pv 7) pa_nil)))))
        (pss_cons (ps_set (i := 9) sc_nearest_step.nd rfl (by first | exact Or.inl rfl | exact Or.inr rfl) (pe_op op_addX (pv 2) (pe_op op_mulX (pv 3) (pv 8))))
        (pss_cons (ps_set (i := 10) sc_nearest_step.nd rfl (by first | exact Or.inl rfl | exact Or.inr rfl) (pe_tup (pa_cons (pe_callB call_abs (by rfl) T.b_abs (by decide +kernel) (pa_cons (pe_op op_subX (pv 9) (pv 4)) pa_nil)) (pa_cons (pv 9) pa_nil))))
        (pss_one (ps_if (PW.pt (pw_or (pt_cmpR op_isX (pv 5) pe_non (nomark _)) (pw_or1 (pt_cmpR (op_ltX hr.units) (pv 10) (pe_ix ix_seq (pv 5) pe_int fun _ _ => rfl) (nomark _)))))
        (pss_one (ps_set (i := 5) sc_nearest_step.nd rfl (by first | exact Or.inl rfl | exact Or.inr rfl) (pe_tup (pa_cons (pv 10) (pa_cons (pv 8) pa_nil)))))
        pss_nil))))))
        (pss_one (ps_ret (pe_ix ix_seq (pv 5) pe_int fun _ _ => rfl))))))
theorem Tx.ok_nearest_step (T : Tx K mg) : Cl P w K mg base 2 "nearest_step" (sp_nearest_step K) [] := by
  obtain ⟨fd, F⟩ := T.d_nearest_step
  have ok := fn_nearest_step (P := P) (w := w) (base := base) T F
  exact ⟨_, fd, _, [], ok, T.g_nearest_step, F.kp, (FunD.bindsN F fun _ _ _ _ _ _ us hl => match us, hl with | [_, _, _, _, _], _ => rfl), .nil⟩
theorem fn_on_a_line (T : Tx K mg) {fd : FuncData} (F : FunD K "on_a_line" "on_a_line" (defArgs s_on_a_line) (defBody s_on_a_line) (defScope s_on_a_line) [] [] (He.fAd K ("on_a_line", none)) fd) : FnOk P w K mg base (L2.CX P w) 3 (He.fAd K ("on_a_line", none)) fd ["factors", "rest", "bounds", "target"] (sp_on_a_line K) := by
  refine F.ok sc_on_a_line (fun vs H Q E h => h.1) (fun cdv A outer s H vs Q E hr h => ⟨_, ?_, h.2⟩)
  refine PSs.nox ?_
  exact (pss_cons (ps_asg (pv 0) (pg_tup rfl (pgs_cons (pg_name (i := 4) sc_on_a_line.nd rfl (by first | exact Or.inl rfl | exact Or.inr rfl)) (pgs_cons (pg_name (i := 5) sc_on_a_line.nd rfl (by first | exact Or.inl rfl | exact Or.inr rfl)) pgs_nil))))
        (pss_cons (ps_asg (pe_cl (T.ok_bezout) hr (by decide) (fun _ => pz) rfl (pa_cons (pv 4) (pa_cons (pv 5) pa_nil))) (pg_tup rfl (pgs_cons (pg_name (i := 6) sc_on_a_line.nd rfl (by first | exact Or.inl rfl | exact Or.inr rfl)) (pgs_cons (pg_name (i := 7) sc_on_a_line.nd rfl (by first | exact Or.inl rfl | exact Or.inr rfl)) (pgs_cons (pg_name (i := 8) sc_on_a_line.nd rfl (by first | exact Or.inl rfl | exact Or.inr rfl)) pgs_nil)))))
        (pss_cons (ps_if (pt_cmpR (op_neX hr.units) (pe_op op_modX (pv 1) (pv 6)) pe_int (nomark _))
        (pss_one (ps_ret pe_non))
        pss_nil)
        (pss_cons (ps_set (i := 9) sc_on_a_line.nd rfl (by first | exact Or.inl rfl | exact Or.inr rfl) (pe_tup (pa_cons (pe_op op_mulX (pv 7) (pe_op op_divX (pv 1) (pv 6))) (pa_cons (pe_op op_mulX (pv 8) (pe_op op_divX (pv 1) (pv 6))) pa_nil))))
        (pss_cons (ps_set (i := 10) sc_on_a_line.nd rfl (by first | exact Or.inl rfl | exact Or.inr rfl) (pe_tup (pa_cons (pe_op op_divX (pv 5) (pv 6)) (pa_cons (pe_un un_neg (pe_op op_divX (pv 4) (pv 6))) pa_nil))))
        (pss_cons (ps_set (i := 11) sc_on_a_line.nd rfl (by first | exact Or.inl rfl | exact Or.inr rfl) pe_non)
        (pss_cons (ps_set (i := 12) sc_on_a_line.nd rfl (by first | exact Or.inl rfl | exact Or.inr rfl) pe_non)
        (pss_cons (ps_for PassesOwn.never rfl (pi_range1 rfl T.b_range (pa_cons pe_int pa_nil)) (pg_name (i := 13) sc_on_a_line.nd rfl (by first | exact Or.inl rfl | exact Or.inr rfl))
        (pss_cons (ps_asg (pe_ix ix_seq (pv 2) (pv 13) fun _ _ => rfl) (pg_tup rfl (pgs_cons (pg_name (i := 14) sc_on_a_line.nd rfl (by first | exact Or.inl rfl | exact Or.inr rfl)) (pgs_cons (pg_name (i := 15) sc_on_a_line.nd rfl (by first | exact Or.inl rfl | exact Or.inr rfl)) pgs_nil))))
        (pss_one (ps_if (pt_cmpR (op_eqX hr.units) (pe_ix ix_seq (pv 10) (pv 13) fun _ _ => rfl) pe_int (nomark _))
        (pss_one (ps_if (pt_not (pt_chain op_leX op_leX (pv 14) (pe_ix ix_seq (pv 9) (pv 13) fun _ _ => rfl) (pv 15)))
        (pss_one (ps_ret pe_non))
        pss_nil))
        (pss_cons (ps_asg (pe_cl (T.ok_step_range) hr (by decide) (fun _ => pz) rfl (pa_cons (pv 14) (pa_cons (pv 15) (pa_cons (pe_ix ix_seq (pv 9) (pv 13) fun _ _ => rfl) (pa_cons (pe_ix ix_seq (pv 10) (pv 13) fun _ _ => rfl) pa_nil))))) (pg_tup rfl (pgs_cons (pg_name (i := 16) sc_on_a_line.nd rfl (by first | exact Or.inl rfl | exact Or.inr rfl)) (pgs_cons (pg_name (i := 17) sc_on_a_line.nd rfl (by first | exact Or.inl rfl | exact Or.inr rfl)) pgs_nil))))
        (C8.pss_cut (ps_if (PW.pt (pw_or (pt_cmpR op_isX (pv 11) pe_non (nomark _)) (pw_or1 (pt_cmpR op_gtX (pv 16) (pv 11) (nomark _)))))
        (pss_one (ps_set (i := 11) sc_on_a_line.nd rfl (by first | exact Or.inl rfl | exact Or.inr rfl) (pv 16)))
        pss_nil)
        (pss_one (ps_if (PW.pt (pw_or (pt_cmpR op_isX (pv 12) pe_non (nomark _)) (pw_or1 (pt_cmpR (op_ltX hr.units) (pv 17) (pv 12) (nomark _)))))
        (pss_one (ps_set (i := 12) sc_on_a_line.nd rfl (by first | exact Or.inl rfl | exact Or.inr rfl) (pv 17)))
        pss_nil))))))))
        (pss_cons (ps_if (pt_cmpR op_gtX (pv 11) (pv 12) (nomark _))
        (pss_one (ps_ret pe_non))
        pss_nil)
        (pss_cons (ps_set (i := 13) sc_on_a_line.nd rfl (by first | exact Or.inl rfl | exact Or.inr rfl) pe_int)
        (C8.pss_cut (ps_if (pt_cmpR (op_eqX hr.units) (pe_ix ix_seq (pv 10) pe_int fun _ _ => rfl) pe_int (nomark _))
        (pss_one (ps_set (i := 13) sc_on_a_line.nd rfl (by first | exact Or.inl rfl | exact Or.inr rfl) pe_int))
        pss_nil)
        (pss_cons (ps_set (i := 18) sc_on_a_line.nd rfl (by first | exact Or.inl rfl | exact Or.inr rfl) (pe_cl (T.ok_nearest_step) hr (by decide) (fun _ => pz) rfl (pa_cons (pv 11) (pa_cons (pv 12) (pa_cons (pe_ix ix_seq (pv 9) (pv 13) fun _ _ => rfl) (pa_cons (pe_ix ix_seq (pv 10) (pv 13) fun _ _ => rfl) (pa_cons (pe_ix ix_seq (pv 3) (pv 13) fun _ _ => rfl) pa_nil)))))))
        (pss_one (ps_ret (pe_lst (pa_cons (pe_op op_addX (pe_ix ix_seq (pv 9) pe_int fun _ _ => rfl) (pe_op op_mulX (pe_ix ix_seq (pv 10) pe_int fun _ _ => rfl) (pv 18))) (pa_cons (pe_op op_addX (pe_ix ix_seq (pv 9) pe_int fun _ _ => rfl) (pe_op op_mulX (pe_ix ix_seq (pv 10) pe_int fun _ _ => rfl) (pv 18))) pa_nil)))))))))))))))))
theorem Tx.ok_on_a_line (T : Tx K mg) : Cl P w K mg base 3 "on_a_line" (sp_on_a_line K) [] := by
  obtain ⟨fd, F⟩ := T.d_on_a_line
  have ok := fn_on_a_line (P := P) (w := w) (base := base) T F
  exact ⟨_, fd, _, [], ok, T.g_on_a_line, F.kp, (FunD.bindsN F fun _ _ _ _ _ _ us hl => match us, hl with | [_, _, _, _], _ => rfl), .nil⟩
theorem fn_two_sources (T : Tx K mg) {fd : FuncData} (F : FunD K "two_sources" "two_sources" (defArgs s_two_sources) (defBody s_two_sources) (defScope s_two_sources) [] [] (He.fAd K ("two_sources", none)) fd) : FnOk P w K mg base (L2.CX P w) 4 (He.fAd K ("two_sources", none)) fd ["forms", "names", "bounds", "made", "target"] (sp_two_sources K) := by
  refine F.ok sc_two_sources (fun vs H Q E h => h.1) (fun cdv A outer s H vs Q E hr h => ⟨_, ?_, h.2⟩)
  refine PSs.nox ?_
  exact (pss_cons (ps_set (i := 5) sc_two_sources.nd rfl (by first | exact Or.inl rfl | exact Or.inr rfl) (pe_lst pa_nil))
        (pss_cons (ps_for PassesOwn.never rfl (pi_zip (by rfl) T.b_zip (pa_cons (pv 0) (pa_cons (pv 3) pa_nil))) (pg_tup rfl (pgs_cons (pg_name (i := 6) sc_two_sources.nd rfl (by first | exact Or.inl rfl | exact Or.inr rfl)) (pgs_cons (pg_name (i := 7) sc_two_sources.nd rfl (by first | exact Or.inl rfl | exact Or.inr rfl)) pgs_nil)))
        (pss_one (ps_expr (pe_bm PySem.F.plainAttrs_list PySem.F.slot_list_append PySem.F.type_list_append mt_append (pv 5) (pa_cons (pe_tup (pa_cons (pe_mt1 (T.ok_Form_factor_of) hr (by decide) (fun _ => pz) (pv 6) (pa_cons (pe_ix ix_seq (pv 1) pe_int fun _ _ => rfl) pa_nil)) (pa_cons (pe_mt1 (T.ok_Form_factor_of) hr (by decide) (fun _ => pz) (pv 6) (pa_cons (pe_ix ix_seq (pv 1) pe_int fun _ _ => rfl) pa_nil)) (pa_cons (pe_op op_subX (pv 7) (pe_mt0 (T.ok_Form_alone) hr (by decide) (fun _ => pz) (pv 6))) pa_nil)))) pa_nil)))))
        (pss_cons (ps_setLc (i := 8) (own := [("line", 9)]) rfl sc_two_sources.nd rfl rfl (sw_true rfl rfl rfl (by decide +kernel)) (pi_any (pv 5)) (blkOk_by (N := ["forms", "names", "bounds", "made", "target", "lines", "form", "value", "straight", "line", "row"]) (sc := defScope s_two_sources) (own := [("line", 9)]) (by decide +kernel)) (fun _ _ _ _ _ => (pg_name (i := 9) sc_two_sources.nd rfl (by first | exact Or.inl rfl | exact Or.inr rfl))) (fun _ _ _ _ _ => pts_one (PW.pt (pw_or (pt_cmpR (op_neX hr.units) (pe_ix ix_seq (pv 9) pe_int fun _ _ => rfl) pe_int (nomark _)) (pw_or1 (pt_cmpR (op_neX hr.units) (pe_ix ix_seq (pv 9) pe_int fun _ _ => rfl) pe_int (nomark _)))))) (fun _ _ _ _ _ => (pv 9)))
        (pss_cons (ps_set (i := 10) sc_two_sources.nd rfl (by first | exact Or.inl rfl | exact Or.inr rfl) pe_non)
        (C8.pss_cut (ps_if (PW.pt (pw_and (pt_cmpR (op_eqX hr.units) (pe_callB call_len (by rfl) T.b_len boot_len (pa_cons (pv 8) pa_nil)) pe_int (nomark _)) (pw_and1 (pt_cmpR (op_neX hr.units) (pe_op op_mulX (pe_ix ix_seq (pe_ix ix_seq (pv 8) pe_int fun _ _ => rfl) pe_int fun _ _ => rfl) (pe_ix ix_seq (pe_ix ix_seq (pv 8) pe_int fun _ _ => rfl) pe_int fun _ _ => rfl)) (pe_op op_mulX (pe_ix ix_seq (pe_ix ix_seq (pv 8) pe_int fun _ _ => rfl) pe_int fun _ _ => rfl) (pe_ix ix_seq (pe_ix ix_seq (pv 8) pe_int fun _ _ => rfl) pe_int fun _ _ => rfl)) (nomark _)))))
        (pss_one (ps_set (i := 10) sc_two_sources.nd rfl (by first | exact Or.inl rfl | exact Or.inr rfl) (pe_cl (T.ok_crossing) hr (by decide) (fun _ => pz) rfl (pa_cons (pe_ix ix_seq (pv 8) pe_int fun _ _ => rfl) (pa_cons (pe_ix ix_seq (pv 8) pe_int fun _ _ => rfl) pa_nil)))))
        (pss_one (ps_set (i := 10) sc_two_sources.nd rfl (by first | exact Or.inl rfl | exact Or.inr rfl) (pe_cl (T.ok_on_a_line) hr (by decide) (fun _ => pz) rfl (pa_cons (pe_tup (pa_cons (pe_ix ix_seq (pe_ix ix_seq (pv 8) pe_int fun _ _ => rfl) pe_int fun _ _ => rfl) (pa_cons (pe_ix ix_seq (pe_ix ix_seq (pv 8) pe_int fun _ _ => rfl) pe_int fun _ _ => rfl) pa_nil))) (pa_cons (pe_ix ix_seq (pe_ix ix_seq (pv 8) pe_int fun _ _ => rfl) pe_int fun _ _ => rfl) (pa_cons (pv 2) (pa_cons (pv 4) pa_nil))))))))
        (pss_cons (ps_if (PW.pt (pw_and (pt_cmpR op_isNotX (pv 10) pe_non (nomark _)) (pw_and (pt_truth (pe_cl (T.ok_within) hr (by decide) (fun _ => pz) rfl (pa_cons (pv 2) (pa_cons (pv 10) pa_nil))) fun _ => rfl) (pw_and1 (pt_truth (pe_cl (T.ok_solves) hr (by decide) (fun _ => pz) rfl (pa_cons (pv 0) (pa_cons (pv 1) (pa_cons (pv 3) (pa_cons (pv 10) pa_nil))))) fun _ => rfl)))))
        (pss_one (ps_ret (pv 10)))
        pss_nil)
        (pss_one (ps_ret pe_non))))))))
theorem Tx.ok_two_sources (T : Tx K mg) : Cl P w K mg base 4 "two_sources" (sp_two_sources K) [] := by
  obtain ⟨fd, F⟩ := T.d_two_sources
  have ok := fn_two_sources (P := P) (w := w) (base := base) T F
  exact ⟨_, fd, _, [], ok, T.g_two_sources, F.kp, (FunD.bindsN F fun _ _ _ _ _ _ us hl => match us, hl with | [_, _, _, _, _], _ => rfl), .nil⟩
theorem fn_nearest_source (T : Tx K mg) {fd : FuncData} (F : FunD K "nearest_source" "nearest_source" (defArgs s_nearest_source) (defBody s_nearest_source) (defScope s_nearest_source) [] [] (He.fAd K ("nearest_source", none)) fd) : FnOk P w K mg base (L2.CX P w) 5 (He.fAd K ("nearest_source", none)) fd ["forms", "names", "bounds", "made", "old"] (sp_nearest_source K) := by
  refine F.ok sc_nearest_source (fun vs H Q E h => h.1) (fun cdv A outer s H vs Q E hr h => ⟨_, ?_, h.2⟩)
  refine PSs.nox ?_
  exact (pss_cons (ps_set (i := 5) sc_nearest_source.nd rfl (by first | exact Or.inl rfl | exact Or.inr rfl) (pv 4))
        (C8.pss_cut (ps_if (PW.pt (pw_or (pt_cmpR op_isX (pv 4) pe_non (nomark _)) (pw_or1 (pt_truth (pe_callB (cr_any rfl) (by rfl) T.b_any (by decide +kernel) (pa_cons (pe_lc (own := [("value", 6)]) rfl sc_nearest_source.nd (pi_any (pv 4)) (blkOk_by (N := ["forms", "names", "bounds", "made", "old", "target", "value", "low", "high"]) (sc := defScope s_nearest_source) (own := [("value", 6)]) (by decide +kernel)) (fun _ _ _ _ _ => (pg_name (i := 6) sc_nearest_source.nd rfl (by first | exact Or.inl rfl | exact Or.inr rfl))) (fun _ _ _ _ _ => pts_nil) (fun _ _ _ _ _ => (pe_cmpR op_isX (pv 6) pe_non (nomark _)))) pa_nil)) fun _ => rfl))))
        (pss_one (ps_setLc (i := 5) (own := [("low", 7), ("high", 8)]) rfl sc_nearest_source.nd rfl rfl (sw_true rfl rfl rfl (by decide +kernel)) (pi_any (pv 2)) (blkOk_by (N := ["forms", "names", "bounds", "made", "old", "target", "value", "low", "high"]) (sc := defScope s_nearest_source) (own := [("low", 7), ("high", 8)]) (by decide +kernel)) (fun _ _ _ _ _ => (pg_tup rfl (pgs_cons (pg_name (i := 7) sc_nearest_source.nd rfl (by first | exact Or.inl rfl | exact Or.inr rfl)) (pgs_cons (pg_name (i := 8) sc_nearest_source.nd rfl (by first | exact Or.inl rfl | exact Or.inr rfl)) pgs_nil)))) (fun _ _ _ _ _ => pts_nil) (fun _ _ _ _ _ => (pv 7))))
        pss_nil)
        (pss_cons (ps_if (pt_cmpR (op_eqX hr.units) (pe_callB call_len (by rfl) T.b_len boot_len (pa_cons (pv 1) pa_nil)) pe_int (nomark _))
        (pss_one (ps_ret (pe_cl (T.ok_one_source) hr (by decide) (fun _ => pz) rfl (pa_cons (pv 0) (pa_cons (pv 1) (pa_cons (pv 2) (pa_cons (pv 3) (pa_cons (pv 5) pa_nil))))))))
        pss_nil)
        (pss_one (ps_ret (pe_cl (T.ok_two_sources) hr (by decide) (fun _ => pz) rfl (pa_cons (pv 0) (pa_cons (pv 1) (pa_cons (pv 2) (pa_cons (pv 3) (pa_cons (pv 5) pa_nil)))))))))))
theorem Tx.ok_nearest_source (T : Tx K mg) : Cl P w K mg base 5 "nearest_source" (sp_nearest_source K) [] := by
  obtain ⟨fd, F⟩ := T.d_nearest_source
  have ok := fn_nearest_source (P := P) (w := w) (base := base) T F
  exact ⟨_, fd, _, [], ok, T.g_nearest_source, F.kp, (FunD.bindsN F fun _ _ _ _ _ _ us hl => match us, hl with | [_, _, _, _, _], _ => rfl), .nil⟩
theorem fn_Form_init (T : Tx K mg) {fd : FuncData} (F : FunD K "__init__" "Form.__init__" (defArgs s_Form_init) (defBody s_Form_init) (defScope s_Form_init) [] [] (He.fAd K ("Form", some "__init__")) fd) : FnOk P w K mg base (L2.CX P w) 1 (He.fAd K ("Form", some "__init__")) fd ["self", "terms"] (sp_Form_init K) := by
  refine F.ok sc_Form_init (fun vs H Q E h => h.1) (fun cdv A outer s H vs Q E hr h => ⟨_, ?_, h.2⟩)
  refine PSs.nox ?_
  exact (pss_one (ps_fld (pv 0) (pe_callTy (CallR.or call_list_of (call_list_dK rfl)) (by rfl) T.b_list (by decide +kernel) (pa_cons (pv 1) pa_nil)) rfl))
theorem Tx.ok_Form_init (T : Tx K mg) : Mq P w K mg base 1 "Form" (He.ga K ("Form" : Str)) (sp_Form_init K) [] := by
  obtain ⟨fd, F⟩ := T.d_Form_init
  have ok := fn_Form_init (P := P) (w := w) (base := base) T F
  exact ⟨_, fd, _, [], T.mk_Form, ok, T.gc_Form, (FunD.bindsN F fun _ _ _ _ _ _ us hl => match us, hl with | [_, _], _ => rfl), .nil⟩
theorem fn_law (T : Tx K mg) {fd : FuncData} (F : FunD K "law" "law" (defArgs s_law) (defBody s_law) (defScope s_law) [] [] (He.fAd K ("law", none)) fd) : FnOk P w K mg base (L2.CX P w) 6 (He.fAd K ("law", none)) fd ["_law_script"] (sp_law K) := by
  refine F.ok sc_law (fun vs H Q E h => h.1) (fun cdv A outer s H vs Q E hr h => ⟨_, ?_, h.2⟩)
  refine PSs.nox ?_
  exact (pss_cons (ps_set (i := 1) sc_law.nd rfl (by first | exact Or.inl rfl | exact Or.inr rfl) (pe_cl (T.ok__law_cells) hr (by decide) (fun _ => pz) rfl (pa_cons (pv 0) (pa_cons pe_int pa_nil))))
        (pss_cons (ps_set (i := 2) sc_law.nd rfl (by first | exact Or.inl rfl | exact Or.inr rfl) (pe_cl (T.ok__law_pick) hr (by decide) (fun _ => pz) rfl (pa_cons (pv 1) (pa_cons (pe_lst (pa_cons (pe_lst (pa_cons pe_str pa_nil)) (pa_cons (pe_lst (pa_cons pe_str (pa_cons pe_str pa_nil))) (pa_cons (pe_lst (pa_cons pe_str (pa_cons pe_str pa_nil))) pa_nil)))) pa_nil))))
        (pss_cons (ps_set (i := 3) sc_law.nd rfl (by first | exact Or.inl rfl | exact Or.inr rfl) (pe_lst pa_nil))
        (pss_cons (ps_for PassesOwn.never rfl (pi_any (pv 2)) (pg_name (i := 4) sc_law.nd rfl (by first | exact Or.inl rfl | exact Or.inr rfl))
        (pss_cons (ps_set (i := 5) sc_law.nd rfl (by first | exact Or.inl rfl | exact Or.inr rfl) (pe_op op_subX (pe_cl (T.ok__law_draw) hr (by decide) (fun _ => pz) rfl (pa_cons (pv 1) (pa_cons pe_int pa_nil))) pe_int))
        (pss_one (ps_expr (pe_bm PySem.F.plainAttrs_list PySem.F.slot_list_append PySem.F.type_list_append mt_append (pv 3) (pa_cons (pe_tup (pa_cons (pv 5) (pa_cons (pe_op op_addX (pv 5) (pe_cl (T.ok__law_draw) hr (by decide) (fun _ => pz) rfl (pa_cons (pv 1) (pa_cons pe_int pa_nil)))) pa_nil))) pa_nil))))))
        (pss_cons (ps_setLc (i := 6) (own := [("_law_turn", 7)]) rfl sc_law.nd rfl rfl (sw_true rfl rfl rfl (by decide +kernel)) (pi_range1 rfl T.b_range (pa_cons (pe_op op_addX pe_int (pe_cl (T.ok__law_draw) hr (by decide) (fun _ => pz) rfl (pa_cons (pv 1) (pa_cons pe_int pa_nil)))) pa_nil)) (blkOk_by (N := ["_law_script", "_law_draws", "_law_names", "_law_bounds", "_law_name", "_law_low", "_law_forms", "_law_turn", "_law_terms_here", "_law_rows_here", "_law_row", "_law_made", "_law_old", "_law_pair", "_law_best", "_law_told", "_law_found"]) (sc := defScope s_law) (own := [("_law_turn", 7)]) (by decide +kernel)) (fun _ _ _ _ _ => (pg_name (i := 7) sc_law.nd rfl (by first | exact Or.inl rfl | exact Or.inr rfl))) (fun _ _ _ _ _ => pts_nil) (fun _ _ _ _ _ => (pe_cl (T.ok__law_terms) hr (by decide) (fun _ => pz) rfl (pa_cons (pv 1) (pa_cons (pv 2) pa_nil)))))
        (C8.pss_cut (ps_if (pt_cmpR (op_eqX hr.units) (pe_callB call_len (by rfl) T.b_len boot_len (pa_cons (pv 2) pa_nil)) pe_int (nomark _))
        (pss_one (ps_for PassesOwn.never rfl (pi_any (pv 2)) (pg_name (i := 4) sc_law.nd rfl (by first | exact Or.inl rfl | exact Or.inr rfl))
        (pss_one (ps_if (pt_truth (pe_callB (cr_all rfl) (by rfl) T.b_all (by decide +kernel) (pa_cons (pe_lc (own := [("_law_terms_here", 8)]) rfl sc_law.nd (pi_any (pv 6)) (blkOk_by (N := ["_law_script", "_law_draws", "_law_names", "_law_bounds", "_law_name", "_law_low", "_law_forms", "_law_turn", "_law_terms_here", "_law_rows_here", "_law_row", "_law_made", "_law_old", "_law_pair", "_law_best", "_law_told", "_law_found"]) (sc := defScope s_law) (own := [("_law_terms_here", 8)]) (by decide +kernel)) (fun _ _ _ _ _ => (pg_name (i := 8) sc_law.nd rfl (by first | exact Or.inl rfl | exact Or.inr rfl))) (fun _ _ _ _ _ => pts_nil) (fun _ _ _ _ _ => (pe_cmpR (op_eqX hr.units) (pe_cl (T.ok__law_factor) hr (by decide) (fun _ => pz) rfl (pa_cons (pv 8) (pa_cons (pv 4) pa_nil))) pe_int (nomark _)))) pa_nil)) fun _ => rfl)
        (pss_one (ps_expr (pe_bm PySem.F.plainAttrs_list PySem.F.slot_list_append PySem.F.type_list_append mt_append (pe_ix ix_seq (pv 6) pe_int fun _ _ => rfl) (pa_cons (pe_tup (pa_cons (pe_op op_addX pe_int (pe_cl (T.ok__law_draw) hr (by decide) (fun _ => pz) rfl (pa_cons (pv 1) (pa_cons pe_int pa_nil)))) (pa_cons (pv 4) pa_nil))) pa_nil))))
        pss_nil))))
        pss_nil)
        (pss_cons (ps_set (i := 9) sc_law.nd rfl (by first | exact Or.inl rfl | exact Or.inr rfl) (pe_cl (T.ok__law_rows) hr (by decide) (fun _ => pz) rfl (pa_cons (pv 3) pa_nil)))
        (pss_cons (ps_set (i := 10) sc_law.nd rfl (by first | exact Or.inl rfl | exact Or.inr rfl) (pe_cl (T.ok__law_pick) hr (by decide) (fun _ => pz) rfl (pa_cons (pv 1) (pa_cons (pv 9) pa_nil))))
        (pss_cons (ps_setLc (i := 11) (own := [("_law_terms_here", 8)]) rfl sc_law.nd rfl rfl (sw_true rfl rfl rfl (by decide +kernel)) (pi_any (pv 6)) (blkOk_by (N := ["_law_script", "_law_draws", "_law_names", "_law_bounds", "_law_name", "_law_low", "_law_forms", "_law_turn", "_law_terms_here", "_law_rows_here", "_law_row", "_law_made", "_law_old", "_law_pair", "_law_best", "_law_told", "_law_found"]) (sc := defScope s_law) (own := [("_law_terms_here", 8)]) (by decide +kernel)) (fun _ _ _ _ _ => (pg_name (i := 8) sc_law.nd rfl (by first | exact Or.inl rfl | exact Or.inr rfl))) (fun _ _ _ _ _ => pts_nil) (fun _ _ _ _ _ => (pe_cl (T.ok__law_value) hr (by decide) (fun _ => pz) rfl (pa_cons (pv 8) (pa_cons (pv 2) (pa_cons (pv 10) pa_nil))))))
        (C8.pss_cut (ps_if (pt_cmpR (op_eqX hr.units) (pe_cl (T.ok__law_draw) hr (by decide) (fun _ => pz) rfl (pa_cons (pv 1) (pa_cons pe_int pa_nil))) pe_int (nomark _))
        (pss_one (ps_asg (pe_op op_subX (pe_op op_addX (pe_ix ix_seq (pv 11) pe_int fun _ _ => rfl) (pe_cl (T.ok__law_draw) hr (by decide) (fun _ => pz) rfl (pa_cons (pv 1) (pa_cons pe_int pa_nil)))) pe_int) (pg_sub (pv 11) pe_int set_list)))
        pss_nil)
        (pss_cons (ps_set (i := 12) sc_law.nd rfl (by first | exact Or.inl rfl | exact Or.inr rfl) pe_non)
        (C8.pss_cut (ps_if (pt_cmpR op_gtX (pe_cl (T.ok__law_draw) hr (by decide) (fun _ => pz) rfl (pa_cons (pv 1) (pa_cons pe_int pa_nil))) pe_int (nomark _))
        (pss_cons (ps_setLc (i := 12) (own := [("_law_pair", 13)]) rfl sc_law.nd rfl rfl (sw_true rfl rfl rfl (by decide +kernel)) (pi_any (pv 3)) (blkOk_by (N := ["_law_script", "_law_draws", "_law_names", "_law_bounds", "_law_name", "_law_low", "_law_forms", "_law_turn", "_law_terms_here", "_law_rows_here", "_law_row", "_law_made", "_law_old", "_law_pair", "_law_best", "_law_told", "_law_found"]) (sc := defScope s_law) (own := [("_law_pair", 13)]) (by decide +kernel)) (fun _ _ _ _ _ => (pg_name (i := 13) sc_law.nd rfl (by first | exact Or.inl rfl | exact Or.inr rfl))) (fun _ _ _ _ _ => pts_nil) (fun _ _ _ _ _ => (pe_op op_addX (pe_ix ix_seq (pv 13) pe_int fun _ _ => rfl) (pe_cl (T.ok__law_draw) hr (by decide) (fun _ => pz) rfl (pa_cons (pv 1) (pa_cons (pe_op op_addX (pe_op op_subX (pe_ix ix_seq (pv 13) pe_int fun _ _ => rfl) (pe_ix ix_seq (pv 13) pe_int fun _ _ => rfl)) pe_int) pa_nil))))))
        (pss_one (ps_if (pt_cmpR (op_eqX hr.units) (pe_cl (T.ok__law_draw) hr (by decide) (fun _ => pz) rfl (pa_cons (pv 1) (pa_cons pe_int pa_nil))) pe_int (nomark _))
        (pss_one (ps_asg pe_non (pg_sub (pv 12) (pe_cl (T.ok__law_draw) hr (by decide) (fun _ => pz) rfl (pa_cons (pv 1) (pa_cons (pe_callB call_len (by rfl) T.b_len boot_len (pa_cons (pv 12) pa_nil)) pa_nil))) set_list)))
        pss_nil)))
        pss_nil)
        (pss_cons (ps_set (i := 14) sc_law.nd rfl (by first | exact Or.inl rfl | exact Or.inr rfl) pe_non)
        (pss_cons (ps_for PassesOwn.never rfl (pi_any (pv 9)) (pg_name (i := 10) sc_law.nd rfl (by first | exact Or.inl rfl | exact Or.inr rfl))
        (pss_one (ps_if (PW.pt (pw_and (pt_cmpR (op_eqX hr.units) (pe_lc (own := [("_law_terms_here", 8)]) rfl sc_law.nd (pi_any (pv 6)) (blkOk_by (N := ["_law_script", "_law_draws", "_law_names", "_law_bounds", "_law_name", "_law_low", "_law_forms", "_law_turn", "_law_terms_here", "_law_rows_here", "_law_row", "_law_made", "_law_old", "_law_pair", "_law_best", "_law_told", "_law_found"]) (sc := defScope s_law) (own := [("_law_terms_here", 8)]) (by decide +kernel)) (fun _ _ _ _ _ => (pg_name (i := 8) sc_law.nd rfl (by first | exact Or.inl rfl | exact Or.inr rfl))) (fun _ _ _ _ _ => pts_nil) (fun _ _ _ _ _ => (pe_cl (T.ok__law_value) hr (by decide) (fun _ => pz) rfl (pa_cons (pv 8) (pa_cons (pv 2) (pa_cons (pv 10) pa_nil)))))) (pv 11) (nomark _)) (pw_and1 (pt_truth (pe_cl (T.ok__law_better) hr (by decide) (fun _ => pz) rfl (pa_cons (pv 10) (pa_cons (pv 14) (pa_cons (pv 12) pa_nil)))) fun _ => rfl))))
        (pss_one (ps_set (i := 14) sc_law.nd rfl (by first | exact Or.inl rfl | exact Or.inr rfl) (pv 10)))
        pss_nil)))
        (pss_cons (ps_set (i := 15) sc_law.nd rfl (by first | exact Or.inl rfl | exact Or.inr rfl) (pe_callTy (CallR.or call_list_of (call_list_dK rfl)) (by rfl) T.b_list (by decide +kernel) (pa_cons (pv 11) pa_nil)))
        (pss_cons (ps_set (i := 16) sc_law.nd rfl (by first | exact Or.inl rfl | exact Or.inr rfl) (pe_cl (T.ok_nearest_source) hr (by decide) (fun _ => pz) rfl (pa_cons (pe_lc (own := [("_law_terms_here", 8)]) rfl sc_law.nd (pi_any (pv 6)) (blkOk_by (N := ["_law_script", "_law_draws", "_law_names", "_law_bounds", "_law_name", "_law_low", "_law_forms", "_law_turn", "_law_terms_here", "_law_rows_here", "_law_row", "_law_made", "_law_old", "_law_pair", "_law_best", "_law_told", "_law_found"]) (sc := defScope s_law) (own := [("_law_terms_here", 8)]) (by decide +kernel)) (fun _ _ _ _ _ => (pg_name (i := 8) sc_law.nd rfl (by first | exact Or.inl rfl | exact Or.inr rfl))) (fun _ _ _ _ _ => pts_nil) (fun _ _ _ _ _ => (pe_mq (T.ok_Form_init) hr (by decide) rfl (pa_cons (pv 8) pa_nil)))) (pa_cons (pe_callTy (CallR.or call_list_of (call_list_dK rfl)) (by rfl) T.b_list (by decide +kernel) (pa_cons (pv 2) pa_nil)) (pa_cons (pe_callTy (CallR.or call_list_of (call_list_dK rfl)) (by rfl) T.b_list (by decide +kernel) (pa_cons (pv 3) pa_nil)) (pa_cons (pv 15) (pa_cons (pv 12) pa_nil)))))))
        (pss_cons (ps_if (pt_cmpR (op_neX hr.units) (pv 15) (pv 11) (nomark _))
        (pss_one (ps_ret pe_bl))
        pss_nil)
        (pss_cons (ps_if (pt_cmpR op_isX (pv 14) pe_non (nomark _))
        (pss_one (ps_ret (pe_cmpR op_isX (pv 16) pe_non (nomark _))))
        pss_nil)
        (pss_one (ps_ret (pe_and (pe_callB call_isi (by rfl) T.b_isinstance (by decide +kernel) (pa_cons (pv 16) (pa_cons (pe_bltn (by rfl) T.b_list (by decide +kernel) rfl) pa_nil))) (pe_one (pe_cmpR (op_eqX hr.units) (pv 16) (pv 14) (nomark _))))))))))))))))))))))))
theorem Tx.law (T : Tx K mg) : ∃ fd : FuncData, (∀ (s : Shared) (u : Value), BindsTo s fd ⟨[u], []⟩ [("_law_script", u)]) ∧ ∀ base : Heap, FnOk P w K mg base (L2.CX P w) 6 (He.ga K "law") fd ["_law_script"] (sp_law K) := by
  obtain ⟨fd, F⟩ := T.d_law
  have b := FunD.bindsA (ps := ["_law_script"]) F fun _ _ _ _ _ _ us hl => match us, hl with | [_], _ => rfl
  exact ⟨fd, fun s v => b s [v] rfl, fun base => fn_law T F⟩
end
end Lw

namespace Lw
open PySem PySem.Spec PyProof.Rows L2 G
def dd__law_cells : He.DefD := ⟨("_law_cells", none), "_law_cells", "_law_cells", defArgs s__law_cells, defBody s__law_cells, defScope s__law_cells, [], []⟩
def dd__law_draw : He.DefD := ⟨("_law_draw", none), "_law_draw", "_law_draw", defArgs s__law_draw, defBody s__law_draw, defScope s__law_draw, [], []⟩
def dd__law_pick : He.DefD := ⟨("_law_pick", none), "_law_pick", "_law_pick", defArgs s__law_pick, defBody s__law_pick, defScope s__law_pick, [], []⟩
def dd__law_terms : He.DefD := ⟨("_law_terms", none), "_law_terms", "_law_terms", defArgs s__law_terms, defBody s__law_terms, defScope s__law_terms, [], []⟩
def dd__law_factor : He.DefD := ⟨("_law_factor", none), "_law_factor", "_law_factor", defArgs s__law_factor, defBody s__law_factor, defScope s__law_factor, [], []⟩
def dd__law_rows : He.DefD := ⟨("_law_rows", none), "_law_rows", "_law_rows", defArgs s__law_rows, defBody s__law_rows, defScope s__law_rows, [], []⟩
def dd__law_value : He.DefD := ⟨("_law_value", none), "_law_value", "_law_value", defArgs s__law_value, defBody s__law_value, defScope s__law_value, [], []⟩
def dd__law_better : He.DefD := ⟨("_law_better", none), "_law_better", "_law_better", defArgs s__law_better, defBody s__law_better, defScope s__law_better, [], []⟩
def dd_clamp : He.DefD := ⟨("clamp", none), "clamp", "clamp", defArgs s_clamp, defBody s_clamp, defScope s_clamp, [], []⟩
def dd_Form_factor_of : He.DefD := ⟨("Form", some "factor_of"), "factor_of", "Form.factor_of", defArgs s_Form_factor_of, defBody s_Form_factor_of, defScope s_Form_factor_of, [], []⟩
def dd_Form_alone : He.DefD := ⟨("Form", some "alone"), "alone", "Form.alone", defArgs s_Form_alone, defBody s_Form_alone, defScope s_Form_alone, [], []⟩
def dd_within : He.DefD := ⟨("within", none), "within", "within", defArgs s_within, defBody s_within, defScope s_within, [], []⟩
def dd_Form_result : He.DefD := ⟨("Form", some "result"), "result", "Form.result", defArgs s_Form_result, defBody s_Form_result, defScope s_Form_result, [], []⟩
def dd_solves : He.DefD := ⟨("solves", none), "solves", "solves", defArgs s_solves, defBody s_solves, defScope s_solves, [], []⟩
def dd_one_source : He.DefD := ⟨("one_source", none), "one_source", "one_source", defArgs s_one_source, defBody s_one_source, defScope s_one_source, [], []⟩
def dd_crossing : He.DefD := ⟨("crossing", none), "crossing", "crossing", defArgs s_crossing, defBody s_crossing, defScope s_crossing, [], []⟩
def dd_bezout : He.DefD := ⟨("bezout", none), "bezout", "bezout", defArgs s_bezout, defBody s_bezout, defScope s_bezout, [], []⟩
def dd_step_range : He.DefD := ⟨("step_range", none), "step_range", "step_range", defArgs s_step_range, defBody s_step_range, defScope s_step_range, [], []⟩
def dd_nearest_step : He.DefD := ⟨("nearest_step", none), "nearest_step", "nearest_step", defArgs s_nearest_step, defBody s_nearest_step, defScope s_nearest_step, [], []⟩
def dd_on_a_line : He.DefD := ⟨("on_a_line", none), "on_a_line", "on_a_line", defArgs s_on_a_line, defBody s_on_a_line, defScope s_on_a_line, [], []⟩
def dd_two_sources : He.DefD := ⟨("two_sources", none), "two_sources", "two_sources", defArgs s_two_sources, defBody s_two_sources, defScope s_two_sources, [], []⟩
def dd_nearest_source : He.DefD := ⟨("nearest_source", none), "nearest_source", "nearest_source", defArgs s_nearest_source, defBody s_nearest_source, defScope s_nearest_source, [], []⟩
def dd_Form_init : He.DefD := ⟨("Form", some "__init__"), "__init__", "Form.__init__", defArgs s_Form_init, defBody s_Form_init, defScope s_Form_init, [], []⟩
def dd_law : He.DefD := ⟨("law", none), "law", "law", defArgs s_law, defBody s_law, defScope s_law, [], []⟩
def fn : List He.DefD := [dd__law_cells, dd__law_draw, dd__law_pick, dd__law_terms, dd__law_factor, dd__law_rows, dd__law_value, dd__law_better, dd_clamp, dd_Form_factor_of, dd_Form_alone, dd_within, dd_Form_result, dd_solves, dd_one_source, dd_crossing, dd_bezout, dd_step_range, dd_nearest_step, dd_on_a_line, dd_two_sources, dd_nearest_source, dd_Form_init, dd_law]
def fa : List He.Fa := [.glo "_law_cells", .glo "_law_draw", .glo "_law_pick", .glo "_law_terms", .glo "_law_factor", .glo "_law_rows", .glo "_law_value", .glo "_law_better", .glo "clamp", .glo "within", .glo "solves", .glo "one_source", .glo "crossing", .glo "bezout", .glo "step_range", .glo "nearest_step", .glo "on_a_line", .glo "two_sources", .glo "nearest_source", .glo "law", .free "abs", .free "all", .free "any", .free "int", .free "isinstance", .free "len", .free "list", .free "max", .free "min", .free "range", .free "sum", .free "zip", .glo "Form", .cls "Form", .meth "Form" "alone", .meth "Form" "factor_of", .meth "Form" "result", .mkr "Form", .noat "Form" "terms"]
theorem kstr {K : PySem.W.Frag} {h : Heap} {mg : Str → Option Value} (X : K.In h) (G : h.Ns mainGlobals mg) {x z : Str} (c : (He.Fa.str x z).ok K = true) : ∃ u, mg x = some u ∧ RelV (.str z) u := by
  obtain ⟨t, e⟩ := He.str_ok X G c
  exact ⟨_, e, _, rfl⟩
theorem kint {K : PySem.W.Frag} {h : Heap} {mg : Str → Option Value} (X : K.In h) (G : h.Ns mainGlobals mg) {x : Str} {z : Int} (c : (He.Fa.int x z).ok K = true) : ∃ u, mg x = some u ∧ RelV (.int z) u := by
  obtain ⟨t, e⟩ := He.int_ok X G c
  exact ⟨_, e, _, rfl⟩
def exs : List (PySem.W.Frag → Bool) := [fIn "Form", fIsT "Form" "list" false]
theorem tx {K : PySem.W.Frag} {h : Heap} {mg : Str → Option Value} (X : K.In h) (G : h.Ns mainGlobals mg) (c : He.SaysD fa fn K) (x : allB exs K = true) : Tx K mg where
  d__law_cells := c.def_ 0 (d := dd__law_cells) rfl
  d__law_draw := c.def_ 1 (d := dd__law_draw) rfl
  d__law_pick := c.def_ 2 (d := dd__law_pick) rfl
  d__law_terms := c.def_ 3 (d := dd__law_terms) rfl
  d__law_factor := c.def_ 4 (d := dd__law_factor) rfl
  d__law_rows := c.def_ 5 (d := dd__law_rows) rfl
  d__law_value := c.def_ 6 (d := dd__law_value) rfl
  d__law_better := c.def_ 7 (d := dd__law_better) rfl
  d_clamp := c.def_ 8 (d := dd_clamp) rfl
  d_Form_factor_of := c.def_ 9 (d := dd_Form_factor_of) rfl
  d_Form_alone := c.def_ 10 (d := dd_Form_alone) rfl
  d_within := c.def_ 11 (d := dd_within) rfl
  d_Form_result := c.def_ 12 (d := dd_Form_result) rfl
  d_solves := c.def_ 13 (d := dd_solves) rfl
  d_one_source := c.def_ 14 (d := dd_one_source) rfl
  d_crossing := c.def_ 15 (d := dd_crossing) rfl
  d_bezout := c.def_ 16 (d := dd_bezout) rfl
  d_step_range := c.def_ 17 (d := dd_step_range) rfl
  d_nearest_step := c.def_ 18 (d := dd_nearest_step) rfl
  d_on_a_line := c.def_ 19 (d := dd_on_a_line) rfl
  d_two_sources := c.def_ 20 (d := dd_two_sources) rfl
  d_nearest_source := c.def_ 21 (d := dd_nearest_source) rfl
  d_Form_init := c.def_ 22 (d := dd_Form_init) rfl
  d_law := c.def_ 23 (d := dd_law) rfl
  g__law_cells := He.glo_ok X G (c.fact 0 (f := .glo "_law_cells") rfl)
  g__law_draw := He.glo_ok X G (c.fact 1 (f := .glo "_law_draw") rfl)
  g__law_pick := He.glo_ok X G (c.fact 2 (f := .glo "_law_pick") rfl)
  g__law_terms := He.glo_ok X G (c.fact 3 (f := .glo "_law_terms") rfl)
  g__law_factor := He.glo_ok X G (c.fact 4 (f := .glo "_law_factor") rfl)
  g__law_rows := He.glo_ok X G (c.fact 5 (f := .glo "_law_rows") rfl)
  g__law_value := He.glo_ok X G (c.fact 6 (f := .glo "_law_value") rfl)
  g__law_better := He.glo_ok X G (c.fact 7 (f := .glo "_law_better") rfl)
  g_clamp := He.glo_ok X G (c.fact 8 (f := .glo "clamp") rfl)
  g_within := He.glo_ok X G (c.fact 9 (f := .glo "within") rfl)
  g_solves := He.glo_ok X G (c.fact 10 (f := .glo "solves") rfl)
  g_one_source := He.glo_ok X G (c.fact 11 (f := .glo "one_source") rfl)
  g_crossing := He.glo_ok X G (c.fact 12 (f := .glo "crossing") rfl)
  g_bezout := He.glo_ok X G (c.fact 13 (f := .glo "bezout") rfl)
  g_step_range := He.glo_ok X G (c.fact 14 (f := .glo "step_range") rfl)
  g_nearest_step := He.glo_ok X G (c.fact 15 (f := .glo "nearest_step") rfl)
  g_on_a_line := He.glo_ok X G (c.fact 16 (f := .glo "on_a_line") rfl)
  g_two_sources := He.glo_ok X G (c.fact 17 (f := .glo "two_sources") rfl)
  g_nearest_source := He.glo_ok X G (c.fact 18 (f := .glo "nearest_source") rfl)
  g_law := He.glo_ok X G (c.fact 19 (f := .glo "law") rfl)
  b_abs := He.free_ok X G (c.fact 20 (f := .free "abs") rfl)
  b_all := He.free_ok X G (c.fact 21 (f := .free "all") rfl)
  b_any := He.free_ok X G (c.fact 22 (f := .free "any") rfl)
  b_int := He.free_ok X G (c.fact 23 (f := .free "int") rfl)
  b_isinstance := He.free_ok X G (c.fact 24 (f := .free "isinstance") rfl)
  b_len := He.free_ok X G (c.fact 25 (f := .free "len") rfl)
  b_list := He.free_ok X G (c.fact 26 (f := .free "list") rfl)
  b_max := He.free_ok X G (c.fact 27 (f := .free "max") rfl)
  b_min := He.free_ok X G (c.fact 28 (f := .free "min") rfl)
  b_range := He.free_ok X G (c.fact 29 (f := .free "range") rfl)
  b_sum := He.free_ok X G (c.fact 30 (f := .free "sum") rfl)
  b_zip := He.free_ok X G (c.fact 31 (f := .free "zip") rfl)
  gc_Form := He.glo_ok X G (c.fact 32 (f := .glo "Form") rfl)
  cl_Form := He.cls_ok (c.fact 33 (f := .cls "Form") rfl)
  me_Form_alone := He.meth_ok (c.fact 34 (f := .meth "Form" "alone") rfl)
  me_Form_factor_of := He.meth_ok (c.fact 35 (f := .meth "Form" "factor_of") rfl)
  me_Form_result := He.meth_ok (c.fact 36 (f := .meth "Form" "result") rfl)
  mk_Form := He.mkr_ok (c.fact 37 (f := .mkr "Form") rfl)
  no_Form_terms := He.noat_ok (c.fact 38 (f := .noat "Form" "terms") rfl)
  if_Form := fIn_ok (allB_at x 0 (f := fIn "Form") rfl)
  it_Form_list := fIsT_ok (allB_at x 1 (f := fIsT "Form" "list" false) rfl)
abbrev R : PySem.W.OpenRow := PySem.W.OpenLaw.row PySem.Challenge.rw_oneheap_k16_nearest_integers
abbrev hk : PySem.W.Hook := He.hookX 5 fa fn [] [] (allB exs)
def ob (s : PySem.W.SharedT) : He.AlX := He.obsX 5 fa fn [] [] (allB exs) (HandSHeadRun.getT s)
theorem ob_eq (s : PySem.W.SharedT) : ob s = hk.obs s.abs := He.obsX_eq (HandSHeadRun.getT_eq s)
def nm : List Str := ["_wall", "bezout", "within", "solves", "clamp", "one_source", "step_range", "nearest_step", "on_a_line", "crossing", "two_sources", "nearest_source", "Form", "_law_cells", "_law_draw", "_law_pick", "_law_terms", "_law_value", "_law_factor", "_law_rows", "_law_better"]
theorem run (w : World) : HandSHeadRun.RunEq R (PySem.W.view R.prog [24]) hk ob 4000 nm w := by
  intro os
  kernel_rfl
end Lw

local macro_rules | `(tactic| walk_at "go1") => `(tactic| first
  | with_reducible refine G.g_seq ?_
  | (with_reducible show L2.tVar _ _ _ _; refine G.g_var rfl ?_)
  | with_reducible refine G.g_c ?_
  | with_reducible refine G.g_op ?_
  | with_reducible refine G.g_asg ?_
  | with_reducible refine G.g_if ?_
  | with_reducible refine G.g_test ?_
  | with_reducible refine G.g_k ?_
  | with_reducible refine G.g_tru ?_
  | with_reducible refine G.v_truB ?_
  | with_reducible refine G.v_truN ?_
  | with_reducible refine L2.iteT ?_
  | with_reducible refine L2.iteF ?_
  | with_reducible refine G.iteNT ?_
  | with_reducible refine G.iteNF ?_
  | with_reducible refine G.v_addI ?_
  | with_reducible refine G.v_sub ?_
  | with_reducible refine G.v_lt ?_
  | with_reducible refine G.v_le ?_
  | with_reducible refine G.v_gt ?_
  | with_reducible refine G.v_ge ?_
  | with_reducible refine G.v_eqI ?_
  | with_reducible refine G.v_eqS ?_
  | with_reducible refine G.v_eqB ?_
  | with_reducible refine G.v_neI ?_
  | with_reducible refine G.v_neS ?_
  | with_reducible refine G.v_neB ?_
  | with_reducible refine G.v_inS ?_
  | with_reducible refine G.v_notInS ?_
  | with_reducible refine G.v_isN ?_
  | with_reducible refine G.v_isNotN ?_
  | with_reducible refine G.v_isB ?_
  | with_reducible refine G.v_isNotB ?_
  | with_reducible refine G.g_chain ?_
  | with_reducible refine G.v_find ?_
  | with_reducible refine G.g_meth1 ?_
  | with_reducible refine G.g_yes ?_
  | with_reducible refine G.g_lstRg ?_
  | with_reducible refine G.v_intI ?_
  | with_reducible refine G.g_callB ?_
  | with_reducible refine G.g_call ?_
  | with_reducible refine G.g_nil ?_
  | with_reducible refine G.g_cons ?_
  | with_reducible refine G.g_and ?_
  | with_reducible refine G.g_or ?_
  | with_reducible refine G.g_not ?_
  | with_reducible refine G.g_andV ?_
  | with_reducible refine G.g_orV ?_
  | with_reducible refine G.g_notV ?_
  | with_reducible refine G.g_ifE ?_
  | with_reducible refine G.g_un ?_
  | with_reducible refine G.g_tup ?_
  | with_reducible refine G.g_lst ?_
  | with_reducible refine G.g_small (Nat.le_of_ble_eq_true rfl) ?_
  | with_reducible refine G.g_drop ?_
  | with_reducible refine G.g_ret ?_
  | with_reducible refine G.g_retN ?_
  | with_reducible refine G.g_next ?_
  | with_reducible refine G.g_brk ?_
  | with_reducible refine G.g_cont ?_
  | with_reducible refine G.g_for ?_
  | with_reducible refine G.g_name ?_
  | with_reducible refine G.g_rng1 ?_
  | with_reducible refine G.g_rng2 ?_
  | with_reducible refine G.g_bm ?_
  | with_reducible refine G.g_bm0 ?_
  | with_reducible refine G.g_tyS ?_
  | with_reducible refine G.g_m1 ?_
  | with_reducible refine G.g_isS ?_
  | with_reducible refine G.v_starts3 ?_
  | with_reducible refine G.g_sl ?_
  | with_reducible refine G.g_no ?_
  | with_reducible refine G.g_part ?_
  | with_reducible refine G.g_isI ?_
  | with_reducible refine G.g_make ?_
  | with_reducible refine G.g_fld ?_
  | with_reducible refine G.g_sfld ?_
  | with_reducible refine G.g_asgG ?_
  | with_reducible refine G.g_sub ?_
  | with_reducible refine G.g_gcons ?_
  | with_reducible refine G.g_gnil ?_
  | with_reducible refine G.v_mulI (by unfold L2.CMul; first | (left; omega) | (right; omega)) ?_
  | with_reducible refine G.v_mod (by omega) ?_
  | with_reducible refine G.v_div (by unfold L2.CDiv; omega) ?_)
local macro_rules | `(tactic| walk_at "go") => `(tactic| repeat walk_at "go1")

namespace G
open PySem PySem.Spec PyProof.Rows L2
section
variable {nx bk ct : L2.St → Hp → Prop} {rt : VK} {σ : L2.St} {H : Hp} {Q : VK} {te ta tb tc : TE} {t u : TS} {tt tt' : TT} {K : PySem.W.Frag} {v x y : V} {i : Nat} {r : R2} {TA1 : TA} {wi : TI} {g : TG}
/-! zip -/
def ZipK (K : PySem.W.Frag) (R : It → Hp → Prop) (vs : List V) (H1 : Hp) : Prop := ∃ a b xs ys, vs = [.ref a, .ref b] ∧ SqL K H1 a xs ∧ SqL K H1 b ys ∧ R (Itz K a b) H1
theorem g_zip {R : It → Hp → Prop} (h : TA1 σ H (ZipK K R)) : iZip K TA1 σ H R := h
theorem v_zip {R : It → Hp → Prop} {a b : Addr} {xs ys : List V} (h : SqL K H a xs) (h2 : SqL K H b ys) (q : R (Itz K a b) H) : ZipK K R [.ref a, .ref b] H := ⟨_, _, _, _, rfl, h, h2, q⟩
theorem l_zip {tb : TS} {a b : Addr} {xs ys : List V} (hl : xs.length = ys.length) (Pv : Nat → L2.St → Hp → Prop) (h0 : Pv 0 σ H) (hq : ∀ i σ H, Pv i σ H → SqL K H a xs ∧ SqL K H b ys)
    (hs : ∀ (i : Nat) (x y : V) (T : Addr) (σ : L2.St) (H : Hp), xs[i]? = some x → ys[i]? = some y → Pv i σ H → H T = none → g (.ref T) σ (upd H T (.tup [x, y])) fun σ2 H2 => tb ⟨Pv (i + 1), rt, nx, Pv (i + 1)⟩ σ2 H2) (hd : ∀ σ H, Pv xs.length σ H → nx σ H) : LoopG (Itz K a b) g tb ⟨nx, rt, bk, ct⟩ σ H := by
  refine ⟨fun i m σ H => m = xs.length - i ∧ i ≤ xs.length ∧ Pv i σ H, ⟨xs.length, rfl, Nat.zero_le _, h0⟩, ?_⟩
  rintro i m σ H ⟨rfl, hi, p⟩
  obtain ⟨qx, qy⟩ := hq i σ H p
  by_cases hlt : i < xs.length
  · have hx : xs[i]? = some xs[i] := List.getElem?_eq_getElem hlt
    have hlt2 : i < ys.length := by omega
    have hy : ys[i]? = some ys[i] := List.getElem?_eq_getElem hlt2
    refine .inr ⟨⟨xs, ys, _, _, qx, qy, hx, hy⟩, Pv (i + 1), fun σ' H' p' => ⟨xs.length - (i + 1), by omega, rfl, hlt, p'⟩, fun v H' y => ?_⟩
    obtain ⟨T, x', y', rfl, hT, rfl, f1, f2⟩ := y
    exact hs i x' y' T σ H (f1 xs qx) (f2 ys qy) p hT
  · have e : i = xs.length := by omega
    subst e
    exact .inl ⟨⟨xs, ys, qx, qy, .inl (Nat.le_refl _)⟩, hd σ H p⟩
theorem c_zip {a b : Addr} {xs ys : List V} {vs : List Nat} {D : Addr} {Qd : Hp → Prop} (hl : xs.length = ys.length) (Pv : Nat → Hp → Prop) (h0 : Pv 0 (upd H D (.lst []))) (hq : ∀ i H, Pv i H → SqL K H a xs ∧ SqL K H b ys)
    (hs : ∀ (i : Nat) (x y : V) (T : Addr) (H : Hp), xs[i]? = some x → ys[i]? = some y → Pv i H → H T = none → g (.ref T) (wipe σ vs) (upd H T (.tup [x, y])) fun σ2 H2 => wipe σ2 vs = wipe σ vs ∧ tt σ2 H2 fun b H3 => if b = true then te σ2 H3 fun y H4 => PutC D y H4 (Pv (i + 1)) else Pv (i + 1) H3)
    (hd : ∀ H, Pv xs.length H → Qd H) : LcG (Itz K a b) g tt te σ vs D H Qd := by
  refine ⟨fun i m H => m = xs.length - i ∧ i ≤ xs.length ∧ Pv i H, ⟨xs.length, rfl, Nat.zero_le _, h0⟩, ?_⟩
  rintro i m H ⟨rfl, hi, p⟩
  obtain ⟨qx, qy⟩ := hq i H p
  by_cases hlt : i < xs.length
  · have hx : xs[i]? = some xs[i] := List.getElem?_eq_getElem hlt
    have hlt2 : i < ys.length := by omega
    have hy : ys[i]? = some ys[i] := List.getElem?_eq_getElem hlt2
    refine .inr ⟨⟨xs, ys, _, _, qx, qy, hx, hy⟩, Pv (i + 1), fun H' p' => ⟨xs.length - (i + 1), by omega, rfl, hlt, p'⟩, fun v H' y => ?_⟩
    obtain ⟨T, x', y', rfl, hT, rfl, f1, f2⟩ := y
    exact hs i x' y' T H (f1 xs qx) (f2 ys qy) p hT
  · have e : i = xs.length := by omega
    subst e
    exact .inl ⟨⟨xs, ys, qx, qy, .inl (Nat.le_refl _)⟩, hd H p⟩
/-! the builtins over lists -/
theorem v_sum {p : Addr} {ns : List Int} (h : H p = some (.lst (ns.map V.int))) (q : Q (.int ns.sum) H) : rSum K [.ref p] H Q := ⟨_, _, rfl, SqL.of h, q⟩
theorem v_all {p : Addr} {bs : List Bool} (h : H p = some (.lst (bs.map V.bl))) (q : Q (.bl (bs.all id)) H) : rAll K [.ref p] H Q := ⟨_, _, rfl, SqL.of h, q⟩
theorem v_any {p : Addr} {bs : List Bool} (h : H p = some (.lst (bs.map V.bl))) (q : Q (.bl (bs.any id)) H) : rAny K [.ref p] H Q := ⟨_, _, rfl, SqL.of h, q⟩
theorem v_neg {f : Int → V} {j : Int} (q : Q (f j) H) : rU f (.int j) H Q := ⟨_, rfl, q⟩
def ParK (i j : Nat) (nx : L2.St → Hp → Prop) (σ : L2.St) (vs : List V) (H1 : Hp) : Prop := ∃ v w, vs = [v, w] ∧ nx ((σ.set i (some v)).set j (some w)) H1
theorem g_par {i j : Nat} (h : TA1 σ H (ParK i j nx σ)) : tPar i j TA1 ⟨nx, rt, bk, ct⟩ σ H := h
theorem v_par {i j : Nat} {v w : V} (h : nx ((σ.set i (some v)).set j (some w)) H) : ParK i j nx σ [v, w] H := ⟨_, _, rfl, h⟩
theorem v_modN {i j : Int} (h : j ≠ 0) (q : Q (.int (i.fmod j)) H) : rModX (.int i) (.int j) H Q := .inr ⟨_, _, rfl, rfl, h, q⟩
theorem v_divN {i j : Int} (h : CDivN i j) (q : Q (.int (i.fdiv j)) H) : rDivX (.int i) (.int j) H Q := .inr ⟨_, _, rfl, rfl, h, q⟩
theorem v_ltT {a b : Addr} {ns ms : List Int} (h : H a = some (.tup (ns.map V.int))) (h2 : H b = some (.tup (ms.map V.int))) (q : Q (.bl (HT.lexLt ns ms)) H) : rLtX K (.ref a) (.ref b) H Q := .inr (.inr ⟨_, _, _, _, rfl, rfl, SqT.of h, SqT.of h2, q⟩)
theorem v_abs {j : Int} (q : Q (.int (if j < 0 then -j else j)) H) : rAbs [.int j] H Q := ⟨_, rfl, q⟩
theorem v_max {i j : Int} (q : Q (.int (if j > i then j else i)) H) : rMax2 [.int i, .int j] H Q := ⟨_, _, rfl, q⟩
theorem v_min {i j : Int} (q : Q (.int (if j < i then j else i)) H) : rMin2 [.int i, .int j] H Q := ⟨_, _, rfl, q⟩
/-! lists of ints are equal -/
theorem dp_ints : ∀ (xs : List Int), DpAll K H (xs.map V.int) (xs.map PyData.int)
  | [] => .nil
  | x :: xs => .cons (.int x) (dp_ints xs)
theorem dp_lst {p : Addr} {xs : List Int} (h : H p = some (.lst (xs.map V.int))) : Dp K H (.ref p) (.list (xs.map PyData.int)) := .lst (SqL.of h) (dp_ints xs)
end
end G
namespace G
open PySem PySem.Spec PyProof.Rows L2
section
variable {H : Hp} {Q : VK} {K : PySem.W.Frag}
theorem eqv_ints : ∀ xs ys : List Int, PyData.eqvAll (xs.map PyData.int) (ys.map PyData.int) = decide (xs = ys)
  | [], [] => by simp only [List.map_nil, PyData.eqvAll, decide_true]
  | [], _ :: _ => by simp [PyData.eqvAll]
  | _ :: _, [] => by simp [PyData.eqvAll]
  | x :: xs, y :: ys => by
    rw [List.map_cons, List.map_cons, PyData.eqvAll, eqv_ints xs ys]
    have e : PyData.eqv (.int x) (.int y) = decide (x = y) := by
      simp only [PyData.eqv]
      by_cases h : x = y <;> simp [h]
    rw [e, ← Bool.decide_and]
    exact decide_eq_decide.mpr (by rw [List.cons.injEq])
theorem lay_ints : ∀ xs : List Int, PyData.canLayAll0 (xs.map PyData.int) = true
  | [] => by simp [PyData.canLayAll0]
  | x :: xs => by
    rw [List.map_cons, PyData.canLayAll0, lay_ints xs]
    simp [PyData.canLay0]
theorem dep_ints : ∀ xs : List Int, PyData.depthAll (xs.map PyData.int) = 0
  | [] => by simp [PyData.depthAll]
  | x :: xs => by
    rw [List.map_cons, PyData.depthAll, dep_ints xs]
    simp [PyData.depth]
theorem shp_ints (xs : List Int) : SeqAt.shaped (.list (xs.map PyData.int)) = true := by
  unfold SeqAt.shaped
  rw [PyData.canLay0, lay_ints, PyData.depth, dep_ints]
  rfl
theorem v_eqLI {p q' : Addr} {xs ys : List Int} (h : H p = some (.lst (xs.map V.int))) (h2 : H q' = some (.lst (ys.map V.int))) (q : Q (.bl (decide (xs = ys))) H) : rEqX K (.ref p) (.ref q') H Q := by
  refine v_eqD (dp_lst h) (dp_lst h2) (shp_ints _) (shp_ints _) ?_
  rw [PyData.eqv, eqv_ints]
  exact q
theorem v_neLI {p q' : Addr} {xs ys : List Int} (h : H p = some (.lst (xs.map V.int))) (h2 : H q' = some (.lst (ys.map V.int))) (q : Q (.bl (!decide (xs = ys))) H) : rNeX K (.ref p) (.ref q') H Q := by
  refine v_neD (dp_lst h) (dp_lst h2) (shp_ints _) (shp_ints _) ?_
  rw [PyData.eqv, eqv_ints]
  exact q
/-! a list of things, told by a relation -/
def AtL {α : Type} (R : Hp → V → α → Prop) (H : Hp) (l : Addr) (xs : List α) : Prop := ∃ vs, H l = some (.lst vs) ∧ vs.length = xs.length ∧ ∀ (i : Nat) (v : V) (x : α), vs[i]? = some v → xs[i]? = some x → R H v x
theorem AtL.same {α : Type} {R : Hp → V → α → Prop} {H H' : Hp} {l : Addr} {xs : List α} (h : AtL R H l xs) (s : Same H H') (m : ∀ v x, R H v x → R H' v x) : AtL R H' l xs := by
  obtain ⟨vs, a, b, c⟩ := h
  exact ⟨vs, s _ _ a, b, fun i v x e1 e2 => m _ _ (c i v x e1 e2)⟩
theorem AtL.get {α : Type} {R : Hp → V → α → Prop} {l : Addr} {xs : List α} (h : AtL R H l xs) {i : Nat} {x : α} (e : xs[i]? = some x) : ∃ vs v, H l = some (.lst vs) ∧ vs[i]? = some v ∧ R H v x := by
  obtain ⟨vs, a, b, c⟩ := h
  have hi : i < xs.length := by
    rcases Nat.lt_or_ge i xs.length with z | z
    · exact z
    · rw [List.getElem?_eq_none z] at e; cases e
  have hv : i < vs.length := by omega
  exact ⟨vs, vs[i], a, List.getElem?_eq_getElem hv, c i _ _ (List.getElem?_eq_getElem hv) e⟩
/-- the heap without what stands at d -/
def Wm (d : Addr) (H : Hp) : Hp := fun a => if a = d then none else H a
theorem Wm.same {d : Addr} : Same (Wm d H) H := fun b o h => by
  unfold Wm at h
  split at h
  · cases h
  · exact h
theorem Wm.ne {d a : Addr} {o : HO} (h : Wm d H a = some o) : a ≠ d := by
  intro e
  unfold Wm at h
  rw [if_pos e] at h
  cases h
theorem Wm.of {d a : Addr} {o : HO} (h : H a = some o) (n : a ≠ d) : Wm d H a = some o := by
  unfold Wm
  rw [if_neg n]
  exact h
theorem Sb.wm {d : Addr} {H H' : Hp} (s : Sb d H H') : Same (Wm d H) (Wm d H') := fun b o h => Wm.of (s b o (Wm.ne h) (Wm.same _ _ h)) (Wm.ne h)
theorem Sb.of_wm {d : Addr} {H H' : Hp} (s : Same (Wm d H) (Wm d H')) : Sb d H H' := fun b o n h => Wm.same _ _ (s b o (Wm.of h n))
theorem Wm.none {d a : Addr} (h : H a = none) : Wm d H a = none := by
  unfold Wm
  split
  · rfl
  · exact h
end
end G

namespace Lw
open PySem PySem.Spec PyProof.Rows L2 G
section
variable {K : PySem.W.Frag} {H : Hp} {Q : VK} {E : XK}
theorem rd_cells {a : Addr} {ns : List Int} {n : Nat} (hS : SqL K H a (ns.map V.int)) (hn : n ≤ 64)
    (q : ∀ p xs H', H p = none → H' p = some (.lst ((xs : List Int).map V.int)) → xs.length = n → Same H H' → Q (.ref p) H') : sp__law_cells K [.ref a, .int (n : Int)] H Q E := by
  refine ⟨rfl, ?_⟩
  unfold t__law_cells
  walk_at "go"
  intro p hp
  walk_at "go"
  refine g_rngN (n := n) (by omega) ?_
  refine l_range (fun i σ H' => i ≤ n ∧ ∃ (xs : List Int) (v4 v5 : Option V), xs.length = i ∧ σ = [some (.ref a), some (.int n), some (.ref p), v4, v5] ∧ H' p = some (.lst (xs.map V.int)) ∧ Same H H')
    ⟨Nat.zero_le _, [], none, none, rfl, rfl, upd_same, same_new hp⟩ ?_ ?_
  · rintro i σ H' hi ⟨_, xs, v4, v5, hl, rfl, hx, hs⟩
    walk_at "go"
    refine g_cut (fun σ' H'' => H' = H'' ∧ ∃ c : Int, σ' = [some (.ref a), some (.int n), some (.ref p), some (.int (0 + i)), some (.int c)]) ?_ ?_
    · walk_at "go"
      refine v_lenSq (hs.seq hS) ?_
      walk_at "go"
      refine ite2 (fun hlt => ?_) (fun hlt => ?_)
      · have hlt' := of_decide_eq_true hlt
        rw [List.length_map] at hlt'
        walk_at "go"
        refine v_ixSq (hs.seq hS) (atN (i := i) (by omega) (List.getElem?_eq_getElem (by rw [List.length_map]; omega))) ?_
        rw [List.getElem_map]
        walk_at "go"
        refine ite2 (fun h0 => ?_) (fun h0 => ?_)
        · walk_at "go"
          exact ⟨rfl, _, rfl⟩
        · walk_at "go"
          exact ⟨rfl, _, rfl⟩
      · walk_at "go"
        exact ⟨rfl, _, rfl⟩
    rintro σ' H'' ⟨rfl, c, rfl⟩
    refine g_cut (fun σ' H'' => H' = H'' ∧ ∃ c : Int, σ' = [some (.ref a), some (.int n), some (.ref p), some (.int (0 + i)), some (.int c)]) ?_ ?_
    · walk_at "go"
      refine ite2 (fun hlt => ?_) (fun hlt => ?_)
      · walk_at "go"
        exact ⟨rfl, _, rfl⟩
      · walk_at "go"
        exact ⟨rfl, _, rfl⟩
    rintro σ' H'' ⟨rfl, c, rfl⟩
    walk_at "go"
    refine g_tyL hx ?_
    walk_at "go"
    refine v_append hx (by rw [List.length_map]; exact small1000 (by omega)) ?_
    refine ⟨by omega, xs ++ [c], some (.int (0 + i)), some (.int c), by simp [hl], rfl, by rw [List.map_append]; exact upd_same, fun b o e => ?_⟩
    rw [upd_ne (ne_of_none e hp)]
    exact hs b o e
  · rintro σ H' ⟨_, xs, v4, v5, hl, rfl, hx, hs⟩
    walk_at "go"
    exact q p xs _ hp hx hl hs
/-- the draws: a list of ints, not empty -/
def Dr (d : Addr) (H : Hp) : Prop := ∃ xs : List Int, xs ≠ [] ∧ xs.length ≤ 64 ∧ H d = some (.lst (xs.map V.int))
theorem rd_draw {d : Addr} {b : Int} (hd : Dr d H) (hb : 0 < b ∧ b < 1073741824) (q : ∀ v H', 0 ≤ v → v < b → Dr d H' → Sb d H H' → Q (.int v) H') : sp__law_draw K [.ref d, .int b] H Q E := by
  obtain ⟨xs, hx, hxl, hd⟩ := hd
  refine ⟨rfl, ?_⟩
  unfold t__law_draw
  refine g_cut (fun σ' H' => σ' = [some (.ref d), some (.int b), none] ∧ Sb d H H' ∧ ∃ (y : Int) (ys : List Int), ys.length + 1 ≤ 64 ∧ H' d = some (.lst ((y :: ys).map V.int))) ?_ ?_
  · obtain ⟨y, ys, rfl⟩ : ∃ y ys, xs = y :: ys := by
      cases xs with
      | nil => exact absurd rfl hx
      | cons y ys => exact ⟨y, ys, rfl⟩
    have fin : ∀ {A B : Prop}, A → B → A ∧ B := fun a b => ⟨a, b⟩
    walk_at "go"
    refine v_ixL hd (atN (i := 0) rfl rfl) ?_
    walk_at "go"
    refine ite2 (fun h0 => ?_) (fun h0 => ?_)
    · walk_at "go"
      refine v_lenL hd ?_
      walk_at "go"
      refine ite2 (fun h1 => ?_) (fun h1 => ?_)
      · have h1' := of_decide_eq_true h1
        rw [List.length_map] at h1'
        cases ys with
        | nil => simp at h1'
        | cons z zs =>
          walk_at "go"
          refine g_tyL hd ?_
          walk_at "go"
          refine .inr ⟨_, _, 0, 0, _, rfl, rfl, hd, by decide, by decide, (ixN_seq (j := 0) (by simp [ixN]; omega)).1, rfl, ?_⟩
          exact ⟨rfl, Sb.upd, z, zs, by simp at hxl ⊢; omega, upd_same⟩
      · walk_at "go"
        exact ⟨rfl, Sb.refl, y, ys, hxl, hd⟩
    · walk_at "go"
      exact ⟨rfl, Sb.refl, y, ys, hxl, hd⟩
  rintro σ' H' ⟨rfl, hs, y, ys, hl, hd'⟩
  walk_at "go"
  refine v_ixL hd' (atN (i := 0) rfl rfl) ?_
  walk_at "go"
  refine v_ixL hd' (atN (i := 0) rfl rfl) ?_
  walk_at "go"
  refine v_setL (j := 0) hd' (by simp [ixN]) ?_
  walk_at "go"
  exact q _ _ (Int.emod_nonneg _ (by omega)) (Int.emod_lt_of_pos _ hb.1) ⟨y / b :: ys, by simp, by simpa using hl, upd_same⟩ (hs.trans Sb.upd)
end
end Lw

namespace Lw
open PySem PySem.Spec PyProof.Rows L2 G
abbrev Tm := Int × Option Str
def nV : Option Str → V
  | none => .non
  | some s => .str s
def alone (ts : List Tm) : Int := ((ts.filter fun t => decide (t.2 = none)).map (·.1)).sum
def fac (ts : List Tm) (n : Str) : Int := ((ts.filter fun t => decide (t.2 = some n)).map (·.1)).sum
def zs (nm : List Str) (row : List Int) (ts : List Tm) : List Int := (nm.zip row).map fun p => fac ts p.1 * p.2
def val (nm : List Str) (row : List Int) (ts : List Tm) : Int := alone ts + (zs nm row ts).sum
def TmAt (H : Hp) (v : V) (t : Tm) : Prop := ∃ r, v = .ref r ∧ H r = some (.tup [.int t.1, nV t.2])
theorem TmAt.same {H H' : Hp} (s : Same H H') (v : V) (t : Tm) (h : TmAt H v t) : TmAt H' v t := by
  obtain ⟨r, e, h⟩ := h
  exact ⟨r, e, s _ _ h⟩
def TsAt (H : Hp) (l : Addr) (ts : List Tm) : Prop := AtL TmAt H l ts
theorem TsAt.same {H H' : Hp} {l : Addr} {ts : List Tm} (h : TsAt H l ts) (s : Same H H') : TsAt H' l ts := AtL.same h s fun v t => TmAt.same s v t
def FoAt (K : PySem.W.Frag) (H : Hp) (o : Addr) (ts : List Tm) : Prop := ∃ dx l, H o = some (.ins (He.ga K "Form") dx [("terms", .ref l)]) ∧ TsAt H l ts
def FmAt (K : PySem.W.Frag) (H : Hp) (v : V) (ts : List Tm) : Prop := ∃ o, v = .ref o ∧ FoAt K H o ts
theorem FoAt.same {K : PySem.W.Frag} {H H' : Hp} {o : Addr} {ts : List Tm} (h : FoAt K H o ts) (s : Same H H') : FoAt K H' o ts := by
  obtain ⟨dx, l, h, k⟩ := h
  exact ⟨dx, l, s _ _ h, k.same s⟩
theorem FmAt.same {K : PySem.W.Frag} {H H' : Hp} (s : Same H H') (v : V) (ts : List Tm) (h : FmAt K H v ts) : FmAt K H' v ts := by
  obtain ⟨o, e, h⟩ := h
  exact ⟨o, e, h.same s⟩
theorem take1 {α : Type} {xs : List α} {i : Nat} {x : α} (h : xs[i]? = some x) : xs.take (i + 1) = xs.take i ++ [x] := by rw [List.take_add_one, h]; rfl
theorem takeAll {α : Type} {xs : List α} {n : Nat} (h : xs.length ≤ n) : xs.take n = xs := List.take_of_length_le h
theorem lt_of_get {α : Type} {xs : List α} {i : Nat} {x : α} (h : xs[i]? = some x) : i < xs.length := by
  rcases Nat.lt_or_ge i xs.length with z | z
  · exact z
  · rw [List.getElem?_eq_none z] at h; cases h
theorem dN {o : Option Str} {n : Str} : decide (nV o = .str n) = decide (o = some n) := by
  cases o with
  | none => rw [decide_eq_false, decide_eq_false] <;> intro h <;> cases h
  | some s => rw [show nV (some s) = V.str s from rfl, dS]; exact decide_eq_decide.mpr (by simp)
theorem dNN {o : Option Str} : decide (nV o = .non) = decide (o = none) := by
  cases o with
  | none => rfl
  | some s => rw [decide_eq_false, decide_eq_false] <;> intro h <;> cases h
theorem scN {o : Option Str} {n : Str} : scal (nV o) (.str n) = true := by cases o <;> rfl
theorem upN {H H' : Hp} {D : Addr} {o : HO} (n : H D = none) (s : Same H H') : Same H (upd H' D o) := fun b u h => by
  rw [upd_ne (ne_of_none h n)]
  exact s b u h
theorem small {n : Nat} (h : n ≤ 1000) : n < sizeLine := small1000 h
theorem flen {α : Type} {p : α → Bool} {f : α → Int} {xs : List α} {i : Nat} (h : xs.length ≤ 100) : (((xs.take i).filter p).map f).length ≤ 1000 := by
  rw [List.length_map]
  have h1 := List.length_filter_le p (xs.take i)
  have h2 := List.length_take_le i xs
  rw [List.length_take] at h1
  omega
section
variable {K : PySem.W.Frag} {H : Hp} {Q : VK} {E : XK} {mg : Str → Option Value}
theorem rd_factor_of (T : Tx K mg) {o : Addr} {ts : List Tm} {n : Str} (h : FoAt K H o ts) (hl : ts.length ≤ 100) (q : ∀ H', Same H H' → Q (.int (fac ts n)) H') : sp_Form_factor_of K [.ref o, .str n] H Q E := by
  obtain ⟨dx, l, ho, ha⟩ := h
  refine ⟨rfl, ?_⟩
  unfold t_Form_factor_of
  walk_at "go"
  refine g_lc (gi_list ?_)
  walk_at "go"
  obtain ⟨vs, hv, hvl, hvr⟩ := ha
  refine v_fld ho T.cl_Form T.no_Form_terms rfl ?_
  walk_at "go"
  refine v_ovL (SqL.of hv) ?_
  intro D hD
  refine c_list (fun i H' => H' D = some (.lst ((((ts.take i).filter fun t => decide (t.2 = some n)).map (·.1)).map V.int)) ∧ Same H H') ⟨upd_same, same_new hD⟩ (fun i H' _ p => SqL.of (p.2 _ _ hv)) ?_ ?_
  · rintro i x H' hx ⟨hd, hs⟩
    have hi := lt_of_get hx
    have ht : ts[i]? = some ts[i] := List.getElem?_eq_getElem (by omega)
    obtain ⟨r, rfl, hr⟩ := hvr i x _ hx ht
    walk_at "go"
    refine g_gtup (hs _ _ hr) rfl ?_
    walk_at "go"
    refine ⟨rfl, ?_⟩
    walk_at "go"
    refine v_eqV scN ?_
    walk_at "go"
    rw [dN, take1 ht, List.filter_append, List.map_append, List.map_append]
    refine ite2 (fun hc => ?_) (fun hc => ?_)
    · walk_at "go"
      refine v_put hd (by rw [List.length_map]; exact small (flen hl)) ?_
      refine ⟨?_, upN hD hs⟩
      rw [upd_same, List.filter_cons_of_pos (by exact hc)]
      rfl
    · refine ⟨?_, hs⟩
      rw [hd, List.filter_cons_of_neg (p := fun t : Tm => decide (t.2 = some n)) (a := ts[i]) hc]
      simp
  · rintro H' ⟨hd, hs⟩
    walk_at "go"
    rw [takeAll (by omega)] at hd
    exact v_sum hd (q _ hs)
theorem rd_alone (T : Tx K mg) {o : Addr} {ts : List Tm} (h : FoAt K H o ts) (hl : ts.length ≤ 100) (q : ∀ H', Same H H' → Q (.int (alone ts)) H') : sp_Form_alone K [.ref o] H Q E := by
  obtain ⟨dx, l, ho, ha⟩ := h
  refine ⟨rfl, ?_⟩
  unfold t_Form_alone
  walk_at "go"
  refine g_lc (gi_list ?_)
  walk_at "go"
  obtain ⟨vs, hv, hvl, hvr⟩ := ha
  refine v_fld ho T.cl_Form T.no_Form_terms rfl ?_
  walk_at "go"
  refine v_ovL (SqL.of hv) ?_
  intro D hD
  refine c_list (fun i H' => H' D = some (.lst ((((ts.take i).filter fun t => decide (t.2 = none)).map (·.1)).map V.int)) ∧ Same H H') ⟨upd_same, same_new hD⟩ (fun i H' _ p => SqL.of (p.2 _ _ hv)) ?_ ?_
  · rintro i x H' hx ⟨hd, hs⟩
    have hi := lt_of_get hx
    have ht : ts[i]? = some ts[i] := List.getElem?_eq_getElem (by omega)
    obtain ⟨r, rfl, hr⟩ := hvr i x _ hx ht
    walk_at "go"
    refine g_gtup (hs _ _ hr) rfl ?_
    walk_at "go"
    refine ⟨rfl, ?_⟩
    walk_at "go"
    rw [dNN, take1 ht, List.filter_append, List.map_append, List.map_append]
    refine ite2 (fun hc => ?_) (fun hc => ?_)
    · walk_at "go"
      refine v_put hd (by rw [List.length_map]; exact small (flen hl)) ?_
      refine ⟨?_, upN hD hs⟩
      rw [upd_same, List.filter_cons_of_pos (by exact hc)]
      rfl
    · refine ⟨?_, hs⟩
      rw [hd, List.filter_cons_of_neg (p := fun t : Tm => decide (t.2 = none)) (a := ts[i]) hc]
      simp
  · rintro H' ⟨hd, hs⟩
    walk_at "go"
    rw [takeAll (by omega)] at hd
    exact v_sum hd (q _ hs)
def NsAt (H : Hp) (l : Addr) (nm : List Str) : Prop := H l = some (.lst (nm.map V.str))
def IsAt (H : Hp) (l : Addr) (xs : List Int) : Prop := H l = some (.lst (xs.map V.int))
/-- small ints -/
def Sm (x : Int) : Prop := -(2 ^ 40) < x ∧ x < 2 ^ 40
theorem Sm.mul {x y : Int} (h : Sm x) : CMul x y := by unfold Sm at h; unfold CMul; left; omega
theorem rd_result (T : Tx K mg) {o g l : Addr} {ts : List Tm} {nm : List Str} {row : List Int} (h : FoAt K H o ts) (hl : ts.length ≤ 100) (hg : NsAt H g nm) (hr : IsAt H l row) (he : nm.length = row.length) (hb : ∀ x ∈ row, Sm x)
    (q : ∀ H', Same H H' → Q (.int (val nm row ts)) H') : sp_Form_result K [.ref o, .ref g, .ref l] H Q E := by
  refine ⟨rfl, ?_⟩
  unfold t_Form_result
  have ho := h
  obtain ⟨dx, tl, hoo, _⟩ := ho
  walk_at "go"
  refine v_meth hoo rfl ?_
  walk_at "go"
  refine rd_alone T h hl fun H1 s1 => ?_
  walk_at "go"
  refine g_zip ?_
  walk_at "go"
  refine v_zip (SqL.of (s1 _ _ hg)) (SqL.of (s1 _ _ hr)) ?_
  refine l_zip (xs := nm.map V.str) (ys := row.map V.int) (by rw [List.length_map, List.length_map]; exact he) (fun i σ H' => ∃ v4 v5 : Option V, σ = [some (.ref o), some (.ref g), some (.ref l), some (.int (alone ts + ((zs nm row ts).take i).sum)), v4, v5] ∧ Same H H') ⟨none, none, by rw [List.take_zero, List.sum_nil, Int.add_zero]; rfl, s1⟩ (fun i σ H' p => ?_) ?_ ?_
  · obtain ⟨_, _, _, s⟩ := p
    exact ⟨SqL.of (s _ _ hg), SqL.of (s _ _ hr)⟩
  · rintro i x y A σ H' hx hy ⟨v4, v5, rfl, s⟩ hA
    have h1 := lt_of_get hx
    have h2 := lt_of_get hy
    rw [List.length_map] at h1 h2
    rw [List.getElem?_map, List.getElem?_eq_getElem h1] at hx
    rw [List.getElem?_map, List.getElem?_eq_getElem h2] at hy
    cases hx
    cases hy
    refine g_gtup upd_same rfl ?_
    walk_at "go"
    refine v_meth (up_new (s _ _ hoo) hA) rfl ?_
    walk_at "go"
    refine rd_factor_of T ((h.same s).same (same_new hA)) hl fun H2 s2 => ?_
    walk_at "go"
    refine v_mulI (.inr ?_) ?_
    · have := hb _ (List.getElem_mem h2)
      unfold Sm at this
      omega
    walk_at "go"
    have hz : (zs nm row ts)[i]? = some (fac ts nm[i] * row[i]) := by
      unfold zs
      rw [List.getElem?_map, List.getElem?_eq_getElem (by rw [List.length_zip]; omega), List.getElem_zip]
      rfl
    refine ⟨some (.str nm[i]), some (.int row[i]), ?_, (s.trans (same_new hA)).trans s2⟩
    rw [take1 hz, List.sum_append, List.sum_singleton, ← Int.add_assoc]
    rfl
  · rintro σ H' ⟨v4, v5, rfl, s⟩
    walk_at "go"
    have e : (zs nm row ts).take (nm.map V.str).length = zs nm row ts := takeAll (by unfold zs; rw [List.length_map, List.length_zip, List.length_map]; omega)
    rw [e]
    exact q _ s
/-- bounds -/
def BdAt (H : Hp) (v : V) (b : Int × Int) : Prop := ∃ r, v = .ref r ∧ H r = some (.tup [.int b.1, .int b.2])
theorem BdAt.same {H H' : Hp} (s : Same H H') (v : V) (t : Int × Int) (h : BdAt H v t) : BdAt H' v t := by
  obtain ⟨r, e, h⟩ := h
  exact ⟨r, e, s _ _ h⟩
def BsAt (H : Hp) (l : Addr) (bs : List (Int × Int)) : Prop := AtL BdAt H l bs
theorem BsAt.same {H H' : Hp} {l : Addr} {ts : List (Int × Int)} (h : BsAt H l ts) (s : Same H H') : BsAt H' l ts := AtL.same h s fun v t => BdAt.same s v t
def FsAt (K : PySem.W.Frag) (H : Hp) (l : Addr) (fs : List (List Tm)) : Prop := AtL (FmAt K) H l fs
theorem FsAt.same {H H' : Hp} {l : Addr} {ts : List (List Tm)} (h : FsAt K H l ts) (s : Same H H') : FsAt K H' l ts := AtL.same h s fun v t => FmAt.same s v t
def inB (bs : List (Int × Int)) (row : List Int) : Bool := ((bs.zip row).map fun p => decide (p.1.1 ≤ p.2) && decide (p.2 ≤ p.1.2)).all id
def solv (nm : List Str) (fs : List (List Tm)) (made row : List Int) : Bool := ((fs.zip made).map fun p => decide (val nm row p.1 = p.2)).all id
theorem rd_within {b l : Addr} {bs : List (Int × Int)} {row : List Int} (h : BsAt H b bs) (hr : IsAt H l row) (he : bs.length = row.length) (hn : row.length ≤ 100) (q : ∀ H', Same H H' → Q (.bl (inB bs row)) H') : sp_within K [.ref b, .ref l] H Q E := by
  refine ⟨rfl, ?_⟩
  unfold t_within
  walk_at "go"
  obtain ⟨vs, hv, hvl, hvr⟩ := h
  refine g_lc (g_zip ?_)
  walk_at "go"
  refine v_zip (SqL.of hv) (SqL.of hr) ?_
  intro D hD
  refine c_zip (by rw [List.length_map, hvl]; exact he) (fun i H' => H' D = some (.lst ((((bs.zip row).map fun p => decide (p.1.1 ≤ p.2) && decide (p.2 ≤ p.1.2)).take i).map V.bl)) ∧ Same H H') ⟨upd_same, same_new hD⟩ (fun i H' p => ⟨SqL.of (p.2 _ _ hv), SqL.of (p.2 _ _ hr)⟩) ?_ ?_
  · rintro i x y A H' hx hy ⟨hd, s⟩ hA
    have h1 := lt_of_get hx
    have h2 := lt_of_get hy
    rw [List.length_map] at h2
    rw [List.getElem?_map, List.getElem?_eq_getElem h2] at hy
    cases hy
    have hb : bs[i]? = some bs[i] := List.getElem?_eq_getElem (by omega)
    obtain ⟨r, rfl, hr⟩ := hvr i x _ hx hb
    have hr1 := s _ _ hr
    have hz : ((bs.zip row).map fun p => decide (p.1.1 ≤ p.2) && decide (p.2 ≤ p.1.2))[i]? = some (decide (bs[i].1 ≤ row[i]) && decide (row[i] ≤ bs[i].2)) := by
      rw [List.getElem?_map, List.getElem?_eq_getElem (by rw [List.length_zip]; omega), List.getElem_zip]
      rfl
    refine g_gtup upd_same rfl ?_
    walk_at "go"
    refine g_gtup (up_new hr1 hA) rfl ?_
    walk_at "go"
    refine ⟨rfl, ?_⟩
    walk_at "go"
    have fin : ∀ c, c = (decide (bs[i].1 ≤ row[i]) && decide (row[i] ≤ bs[i].2)) → PutC D (.bl c) (upd H' A (.tup [.ref r, .int row[i]])) (fun H' => H' D = some (.lst ((((bs.zip row).map fun p => decide (p.1.1 ≤ p.2) && decide (p.2 ≤ p.1.2)).take (i + 1)).map V.bl)) ∧ Same H H') := by
      rintro c rfl
      refine v_put (up_new hd hA) (by rw [List.length_map]; refine small (Nat.le_trans (List.length_take_le' _ _) ?_); rw [List.length_map, List.length_zip]; omega) ⟨?_, upN hD (s.trans (same_new hA))⟩
      rw [upd_same, take1 hz, List.map_append]
      rfl
    refine ite2 (fun hc => ?_) (fun hc => ?_)
    · walk_at "go"
      exact fin _ (by rw [hc]; rfl)
    · refine fin _ (by rw [Bool.not_eq_true _ |>.mp hc]; rfl)
  · rintro H' ⟨hd, s⟩
    walk_at "go"
    rw [takeAll (by rw [List.length_map, List.length_zip]; omega)] at hd
    exact v_all hd (q _ s)
theorem rd_solves (T : Tx K mg) {f g m l : Addr} {fs : List (List Tm)} {nm : List Str} {made row : List Int} (h : FsAt K H f fs) (hl : ∀ ts ∈ fs, ts.length ≤ 100) (hg : NsAt H g nm) (hm : IsAt H m made) (hr : IsAt H l row) (he : nm.length = row.length)
    (hb : ∀ x ∈ row, Sm x) (hfm : fs.length = made.length) (hn : made.length ≤ 100) (q : ∀ H', Same H H' → Q (.bl (solv nm fs made row)) H') : sp_solves K [.ref f, .ref g, .ref m, .ref l] H Q E := by
  refine ⟨rfl, ?_⟩
  unfold t_solves
  walk_at "go"
  obtain ⟨vs, hv, hvl, hvr⟩ := h
  refine g_lc (g_zip ?_)
  walk_at "go"
  refine v_zip (SqL.of hv) (SqL.of hm) ?_
  intro D hD
  refine c_zip (by rw [List.length_map, hvl]; exact hfm) (fun i H' => H' D = some (.lst ((((fs.zip made).map fun p => decide (val nm row p.1 = p.2)).take i).map V.bl)) ∧ Same H H') ⟨upd_same, same_new hD⟩ (fun i H' p => ⟨SqL.of (p.2 _ _ hv), SqL.of (p.2 _ _ hm)⟩) ?_ ?_
  · rintro i x y A H' hx hy ⟨hd, s⟩ hA
    have h1 := lt_of_get hx
    have h2 := lt_of_get hy
    rw [List.length_map] at h2
    rw [List.getElem?_map, List.getElem?_eq_getElem h2] at hy
    cases hy
    have hb' : fs[i]? = some fs[i] := List.getElem?_eq_getElem (by omega)
    obtain ⟨o, rfl, ho⟩ := hvr i x _ hx hb'
    have hz : ((fs.zip made).map fun p => decide (val nm row p.1 = p.2))[i]? = some (decide (val nm row fs[i] = made[i])) := by
      rw [List.getElem?_map, List.getElem?_eq_getElem (by rw [List.length_zip]; omega), List.getElem_zip]
      rfl
    refine g_gtup upd_same rfl ?_
    walk_at "go"
    refine ⟨rfl, ?_⟩
    walk_at "go"
    have ho1 : FoAt K (upd H' A (.tup [.ref o, .int made[i]])) o fs[i] := (ho.same s).same (same_new hA)
    obtain ⟨dx, tl, hoo, _⟩ := id ho1
    refine v_meth hoo rfl ?_
    walk_at "go"
    refine rd_result T ho1 (hl _ (List.getElem_mem _)) (up_new (s _ _ hg) hA) (up_new (s _ _ hr) hA) he hb fun H2 s2 => ?_
    walk_at "go"
    refine v_put (s2 _ _ (up_new hd hA)) (by rw [List.length_map]; refine small (Nat.le_trans (List.length_take_le' _ _) ?_); rw [List.length_map, List.length_zip]; omega) ⟨?_, upN hD ((s.trans (same_new hA)).trans s2)⟩
    rw [upd_same, take1 hz, List.map_append]
    rfl
  · rintro H' ⟨hd, s⟩
    walk_at "go"
    rw [takeAll (by rw [List.length_map, List.length_zip]; omega)] at hd
    exact v_all hd (q _ s)
def clampI (lo hi x : Int) : Int := if (if x < hi then x else hi) > lo then (if x < hi then x else hi) else lo
theorem rd_clamp {lo hi x : Int} (q : Q (.int (clampI lo hi x)) H) : sp_clamp K [.int lo, .int hi, .int x] H Q E := by
  refine ⟨rfl, ?_⟩
  unfold t_clamp
  walk_at "go"
  refine v_min ?_
  walk_at "go"
  exact v_max q
end
end Lw

namespace Lw
open PySem PySem.Spec PyProof.Rows L2 G
theorem fm (a b : Int) : a - a.fdiv b * b = a.fmod b := by
  have := Int.fdiv_mul_add_fmod a b
  omega
theorem fm_neg {a b : Int} (h : b < 0) : b < a.fmod b ∧ a.fmod b ≤ 0 := ((Int.fdiv_fmod_unique' h).mp ⟨rfl, rfl⟩).2
theorem fm_lt {a b : Int} (h : b ≠ 0) : (a.fmod b).natAbs < b.natAbs := by
  rcases Int.lt_or_lt_of_ne h with z | z
  · have := fm_neg (a := a) z
    omega
  · have h1 := Int.fmod_nonneg_of_pos a z
    have h2 := Int.fmod_lt_of_pos a z
    omega
/-- nearer to t, of two as near the lesser -/
def lt1 (t u v : Int) : Prop := (u - t).natAbs < (v - t).natAbs ∨ ((u - t).natAbs = (v - t).natAbs ∧ u < v)
theorem clamp_eq {lo hi x : Int} (h : lo ≤ hi) : lo ≤ clampI lo hi x ∧ clampI lo hi x ≤ hi ∧ (x ≤ hi → lo ≤ x → clampI lo hi x = x) ∧ (hi ≤ x → clampI lo hi x = hi) ∧ (x ≤ lo → clampI lo hi x = lo) := by
  unfold clampI
  split <;> split <;> omega
theorem lt1_clamp {lo hi t u : Int} (h : lo ≤ u) (h2 : u ≤ hi) : ¬ lt1 t u (clampI lo hi t) := by
  have := clamp_eq (x := t) (show lo ≤ hi by omega)
  unfold lt1
  omega
/-- the nearest step -/
theorem near_ok {lo hi st sd t g at' : Int} (hd : sd ≠ 0) (hl : lo ≤ hi) (hg : g = (t - st).fdiv sd)
    (hm : ¬ lt1 t (st + sd * clampI lo hi g) (st + sd * at') ∧ ¬ lt1 t (st + sd * clampI lo hi (g + 1)) (st + sd * at')) : ∀ t', lo ≤ t' → t' ≤ hi → ¬ lt1 t (st + sd * t') (st + sd * at') := by
  intro t' h1 h2
  have e := Int.mul_fdiv_add_fmod (t - st) sd
  rw [← hg] at e
  have c0 := clamp_eq (x := g) hl
  have c1 := clamp_eq (x := g + 1) hl
  have eg : sd * (g + 1) = sd * g + sd := by rw [Int.mul_add, Int.mul_one]
  obtain ⟨m0, m1⟩ := hm
  generalize clampI lo hi g = c at *
  generalize clampI lo hi (g + 1) = d at *
  rcases Int.lt_or_lt_of_ne hd with z | z
  · have f := fm_neg (a := t - st) z
    rcases Int.lt_or_le g t' with y | y
    · have k1 : sd * t' ≤ sd * d := Int.mul_le_mul_of_nonpos_left (by omega) (by omega)
      have k2 : sd * d ≤ sd * (g + 1) := Int.mul_le_mul_of_nonpos_left (by omega) (by omega)
      unfold lt1 at *
      omega
    · have k1 : sd * c ≤ sd * t' := Int.mul_le_mul_of_nonpos_left (by omega) (by omega)
      have k2 : sd * g ≤ sd * c := Int.mul_le_mul_of_nonpos_left (by omega) (by omega)
      unfold lt1 at *
      omega
  · have f1 := Int.fmod_nonneg_of_pos (t - st) z
    have f2 := Int.fmod_lt_of_pos (t - st) z
    rcases Int.lt_or_le g t' with y | y
    · have k1 : sd * d ≤ sd * t' := Int.mul_le_mul_of_nonneg_left (by omega) (by omega)
      have k2 : sd * (g + 1) ≤ sd * d := Int.mul_le_mul_of_nonneg_left (by omega) (by omega)
      unfold lt1 at *
      omega
    · have k1 : sd * t' ≤ sd * c := Int.mul_le_mul_of_nonneg_left (by omega) (by omega)
      have k2 : sd * c ≤ sd * g := Int.mul_le_mul_of_nonneg_left (by omega) (by omega)
      unfold lt1 at *
      omega
section
variable {K : PySem.W.Frag} {H : Hp} {Q : VK} {E : XK} {mg : Str → Option Value}
theorem rd_bezout {a b : Int} (h0 : a ≠ 0 ∨ b ≠ 0) (ha : a.natAbs < 1000000) (hb : b.natAbs < 1000000)
    (q : ∀ p g x y H', H' p = some (.tup [.int g, .int x, .int y]) → Same H H' → 0 < g → g < 1000000 → x * a + y * b = g → g ∣ a → g ∣ b → Q (.ref p) H') : sp_bezout K [.int a, .int b] H Q E := by
  refine ⟨rfl, ?_⟩
  unfold t_bezout
  walk_at "go"
  refine g_par ?_
  walk_at "go"
  refine v_par ?_
  walk_at "go"
  intro p1 hp1
  refine g_gtup upd_same rfl ?_
  walk_at "go"
  intro p2 hp2
  refine g_gtup upd_same rfl ?_
  walk_at "go"
  have sH : Same H (upd (upd H p1 (.tup [.int 1, .int 0])) p2 (.tup [.int 0, .int 1])) := (same_new hp1).trans (same_new hp2)
  generalize upd (upd H p1 (.tup [.int 1, .int 0])) p2 (.tup [.int 0, .int 1]) = H1 at sH
  clear hp2
  refine g_while ⟨fun m σ H' => ∃ (o n x nx y ny : Int) (v : Option V), m = n.natAbs ∧ σ = [some (.int a), some (.int b), some (.int o), some (.int n), some (.int x), some (.int nx), some (.int y), some (.int ny), v] ∧ H' = H1 ∧
    x * a + y * b = o ∧ nx * a + ny * b = n ∧ (o ≠ 0 ∨ n ≠ 0) ∧ o.natAbs < 1000000 ∧ n.natAbs < 1000000 ∧ (∀ d : Int, d ∣ o → d ∣ n → d ∣ a ∧ d ∣ b),
    ⟨_, a, b, 1, 0, 0, 1, none, rfl, rfl, rfl, by omega, by omega, h0, ha, hb, fun d h1 h2 => ⟨h1, h2⟩⟩, ?_⟩
  rintro m σ H' ⟨o, n, x, nx, y, ny, v, rfl, rfl, rfl, e1, e2, e0, ho, hn, hd⟩
  walk_at "go"
  by_cases hz : n = 0
  · rw [decide_eq_true hz]
    walk_at "go"
    subst hz
    have hd' := hd o (Int.dvd_refl o) (Int.dvd_zero o)
    by_cases hs : o < 0
    · rw [decide_eq_true hs]
      walk_at "go"
      refine v_neg ?_
      walk_at "go"
      refine v_neg ?_
      walk_at "go"
      refine v_neg ?_
      walk_at "go"
      intro p hp
      refine q p (-o) (-x) (-y) _ upd_same (sH.trans (same_new hp)) (by omega) (by omega) ?_ ?_ ?_
      · rw [Int.neg_mul, Int.neg_mul]; omega
      · exact Int.neg_dvd.mpr hd'.1
      · exact Int.neg_dvd.mpr hd'.2
    · rw [decide_eq_false hs]
      walk_at "go"
      intro p hp
      exact q p o x y _ upd_same (sH.trans (same_new hp)) (by omega) (by omega) e1 hd'.1 hd'.2
  · rw [decide_eq_false hz]
    walk_at "go"
    refine g_turn ?_
    have hp := Int.natAbs_fdiv_le_natAbs o n
    have hlt := fm_lt (a := o) hz
    walk_at "go"
    refine v_divN ⟨hz, by omega⟩ ?_
    walk_at "go"
    refine g_par ?_
    walk_at "go"
    refine v_par ?_
    walk_at "go"
    refine g_par ?_
    walk_at "go"
    refine v_par ?_
    walk_at "go"
    refine g_par ?_
    walk_at "go"
    refine v_par ?_
    rw [fm]
    refine ⟨_, hlt, n, o.fmod n, nx, x - o.fdiv n * nx, ny, y - o.fdiv n * ny, _, rfl, rfl, rfl, e2, ?_, .inl hz, hn, by omega, fun d h1 h2 => ?_⟩
    · rw [Int.sub_mul, Int.sub_mul, ← fm o n, ← e1, ← e2, Int.mul_add, Int.mul_assoc, Int.mul_assoc]
      generalize x * a = A
      generalize y * b = B
      generalize (x * a + y * b).fdiv (nx * a + ny * b) * (nx * a) = C
      omega
    · refine hd d ?_ h1
      rw [← Int.fdiv_mul_add_fmod o n]
      exact Int.dvd_add (Int.dvd_mul_of_dvd_right h1) h2
theorem rd_step_range {lo hi st sd : Int} (hd : sd ≠ 0) (hs : sd.natAbs < 1000000) (q : ∀ p f l H', H' p = some (.tup [.int f, .int l]) → Same H H' → (∀ t, (lo ≤ st + sd * t ∧ st + sd * t ≤ hi) ↔ (f ≤ t ∧ t ≤ l)) → Q (.ref p) H') :
    sp_step_range K [.int lo, .int hi, .int st, .int sd] H Q E := by
  refine ⟨rfl, ?_⟩
  unfold t_step_range
  walk_at "go"
  by_cases h : 0 < sd
  · rw [decide_eq_true h]
    walk_at "go"
    refine v_neg ?_
    walk_at "go"
    intro p hp
    refine q p _ _ _ upd_same (same_new hp) fun t => ?_
    have k1 : -t ≤ (st - lo) / sd ↔ -t * sd ≤ st - lo := Int.le_ediv_iff_mul_le h
    have k2 : t ≤ (hi - st) / sd ↔ t * sd ≤ hi - st := Int.le_ediv_iff_mul_le h
    rw [Int.neg_mul] at k1
    rw [Int.mul_comm sd t]
    omega
  · rw [decide_eq_false h]
    walk_at "go"
    refine v_neg ?_
    walk_at "go"
    refine v_neg ?_
    walk_at "go"
    refine v_neg ?_
    walk_at "go"
    intro p hp
    refine q p _ _ _ upd_same (same_new hp) fun t => ?_
    have k1 : -t ≤ (hi - st) / -sd ↔ -t * -sd ≤ hi - st := Int.le_ediv_iff_mul_le (by omega)
    have k2 : t ≤ (st - lo) / -sd ↔ t * -sd ≤ st - lo := Int.le_ediv_iff_mul_le (by omega)
    rw [Int.neg_mul_neg] at k1
    rw [Int.mul_neg] at k2
    rw [Int.mul_comm sd t]
    omega
end
end Lw

namespace Lw
open PySem PySem.Spec PyProof.Rows L2 G
def absI (j : Int) : Int := if j < 0 then -j else j
theorem absI_eq (j : Int) : absI j = j.natAbs := by unfold absI; split <;> omega
theorem lexLt2 (a b c d : Int) : HT.lexLt [a, b] [c, d] = if a = c then (if b = d then false else decide (b < d)) else decide (a < c) := by
  rw [HT.lexLt_cons, HT.lexLt_cons, HT.lexLt_nil_nil]
/-- the keys' order -/
theorem key_lt (t u v : Int) : (HT.lexLt [absI (u - t), u] [absI (v - t), v] = true) ↔ lt1 t u v := by
  rw [lexLt2, absI_eq, absI_eq]
  unfold lt1
  split
  · split
    · simp; omega
    · rw [decide_eq_true_iff]; omega
  · rw [decide_eq_true_iff]; omega
theorem lt1_irr {t u : Int} : ¬ lt1 t u u := by unfold lt1; omega
section
variable {K : PySem.W.Frag} {H : Hp} {Q : VK} {E : XK} {mg : Str → Option Value}
theorem rd_nearest_step {lo hi st sd t : Int} (hd : sd ≠ 0) (hs : sd.natAbs < 1000000) (hl : lo ≤ hi) (q : ∀ a H', Same H H' → lo ≤ a → a ≤ hi → (∀ t', lo ≤ t' → t' ≤ hi → ¬ lt1 t (st + sd * t') (st + sd * a)) → Q (.int a) H') :
    sp_nearest_step K [.int lo, .int hi, .int st, .int sd, .int t] H Q E := by
  have hcm : ∀ x, CMul sd x := fun x => .inl (by omega)
  refine ⟨rfl, ?_⟩
  unfold t_nearest_step
  walk_at "go"
  refine v_divN ⟨hd, by omega⟩ ?_
  walk_at "go"
  refine gi_tup ?_
  walk_at "go"
  intro p hp
  refine v_ovT (SqT.of upd_same) ?_
  generalize hg : (t - st).fdiv sd = g
  have hcs : ∀ i : Nat, i < 2 → ([V.int g, V.int (g + 1)] : List V)[i]? = some (.int (g + i)) := fun i hi => by
    match i, hi with
    | 0, _ => show some (V.int g) = _; rw [Int.natCast_zero, Int.add_zero]
    | 1, _ => rfl
  obtain ⟨C, hC⟩ : ∃ C : Nat → Int, ∀ i : Nat, C i = clampI lo hi (g + i) := ⟨_, fun _ => rfl⟩
  refine l_tup (fun i σ H' => ∃ (b : V) (v7 v8 v9 v10 : Option V), σ = [some (.int lo), some (.int hi), some (.int st), some (.int sd), some (.int t), some b, some (.int g), v7, v8, v9, v10] ∧ Same (upd H p (.tup [.int g, .int (g + 1)])) H' ∧
    ((i = 0 ∧ b = .non) ∨ ∃ (B k : Addr) (j : Nat), b = .ref B ∧ j < i ∧ H' B = some (.tup [.ref k, .int (C j)]) ∧ H' k = some (.tup [.int (absI (st + sd * C j - t)), .int (st + sd * C j)]) ∧ ∀ i', i' < i → ¬ lt1 t (st + sd * C i') (st + sd * C j)))
    ⟨.non, none, none, none, none, rfl, fun _ _ h => h, .inl ⟨rfl, rfl⟩⟩ (fun i σ H' _ ⟨_, _, _, _, _, _, s, _⟩ => SqT.of (s _ _ upd_same)) ?_ ?_
  · rintro i x σ H' hx ⟨b, v7, v8, v9, v10, rfl, s, hb⟩
    have hlt := lt_of_get hx
    rw [hcs i hlt] at hx
    cases hx
    walk_at "go"
    refine rd_clamp ?_
    rw [← hC]
    walk_at "go"
    refine v_mulI (hcm _) ?_
    walk_at "go"
    refine v_abs ?_
    walk_at "go"
    intro k hk
    walk_at "go"
    rcases hb with ⟨rfl, rfl⟩ | ⟨B, k', j, rfl, hj, hB, hk', hm⟩
    · rw [decide_eq_true rfl]
      walk_at "go"
      intro B hB
      walk_at "go"
      refine ⟨_, _, _, _, _, rfl, (s.trans (same_new hk)).trans (same_new hB), .inr ⟨B, k, 0, rfl, by omega, upd_same, up_new upd_same hB, fun i' hi' => ?_⟩⟩
      obtain rfl : i' = 0 := by omega
      exact lt1_irr
    · rw [decide_eq_false (by intro z; cases z)]
      walk_at "go"
      refine v_ixT (up_new hB hk) (atN (i := 0) rfl rfl) ?_
      refine v_ltT (ns := [absI (st + sd * C i - t), st + sd * C i]) (ms := [absI (st + sd * C j - t), st + sd * C j]) upd_same (up_new hk' hk) ?_
      walk_at "go"
      refine ite2 (fun hc => ?_) (fun hc => ?_)
      · have hc' := (key_lt _ _ _).mp hc
        walk_at "go"
        intro B2 hB2
        walk_at "go"
        refine ⟨_, _, _, _, _, rfl, (s.trans (same_new hk)).trans (same_new hB2), .inr ⟨B2, k, i, rfl, by omega, upd_same, up_new upd_same hB2, fun i' hi' => ?_⟩⟩
        by_cases e : i' = i
        · subst e
          exact lt1_irr
        · have := hm i' (by omega)
          unfold lt1 at *
          omega
      · have hc' := fun z => hc ((key_lt _ _ _).mpr z)
        walk_at "go"
        refine ⟨_, _, _, _, _, rfl, s.trans (same_new hk), .inr ⟨B, k', j, rfl, by omega, up_new hB hk, up_new hk' hk, fun i' hi' => ?_⟩⟩
        by_cases e : i' = i
        · subst e
          exact hc'
        · exact hm i' (by omega)
  · rintro σ H' ⟨b, v7, v8, v9, v10, rfl, s, hb⟩
    rcases hb with ⟨z, _⟩ | ⟨B, k, j, rfl, hj, hB, hk, hm⟩
    · cases z
    walk_at "go"
    refine v_ixT hB (atN (i := 1) rfl rfl) ?_
    have c := clamp_eq (x := g + j) hl
    rw [← hC] at c
    have e0 : C 0 = clampI lo hi g := by rw [hC, Int.natCast_zero, Int.add_zero]
    have e1 : C 1 = clampI lo hi (g + 1) := hC 1
    refine q _ _ ((same_new hp).trans s) c.1 c.2.1 (near_ok hd hl hg.symm ⟨?_, ?_⟩)
    · rw [← e0]
      exact hm 0 (by show 0 < 2; omega)
    · rw [← e1]
      exact hm 1 (by show 1 < 2; omega)
end
end Lw

namespace Lw
open PySem PySem.Spec PyProof.Rows L2 G
theorem line_pt {a b g x y m u w : Int} {a' b' : Int} (hg : 0 < g) (e : x * a + y * b = g) (ea : a = g * a') (eb : b = g * b') (h : a * u + b * w = g * m) :
    u = x * m + b' * (y * u - x * w) ∧ w = y * m + -a' * (y * u - x * w) := by
  subst ea eb
  have hg' : g ≠ 0 := by omega
  have e1 : x * a' + y * b' = 1 := by
    refine Int.eq_of_mul_eq_mul_left hg' ?_
    rw [Int.mul_add, Int.mul_one, Int.mul_left_comm, Int.mul_left_comm g y]
    exact e
  have e2 : a' * u + b' * w = m := by
    refine Int.eq_of_mul_eq_mul_left hg' ?_
    rw [Int.mul_add, ← Int.mul_assoc, ← Int.mul_assoc]
    exact h
  subst e2
  have k1 : u = (x * a' + y * b') * u := by rw [e1, Int.one_mul]
  have k2 : w = (x * a' + y * b') * w := by rw [e1, Int.one_mul]
  constructor
  · calc u = (x * a' + y * b') * u := k1
      _ = _ := by grind
  · calc w = (x * a' + y * b') * w := k2
      _ = _ := by grind
theorem line_on {a b g x y m t : Int} {a' b' : Int} (e : x * a + y * b = g) (ea : a = g * a') (eb : b = g * b') : a * (x * m + b' * t) + b * (y * m + -a' * t) = g * m := by
  have k : a * b' = b * a' := by subst ea eb; grind
  calc a * (x * m + b' * t) + b * (y * m + -a' * t) = (x * a + y * b) * m + (a * b' - b * a') * t := by grind
    _ = g * m := by rw [e, k]; grind
/-- (u, w) stands on the line, in the box -/
def OnB (a b rest : Int) (lo hi : Nat → Int) (u w : Int) : Prop := a * u + b * w = rest ∧ (lo 0 ≤ u ∧ u ≤ hi 0) ∧ lo 1 ≤ w ∧ w ≤ hi 1
section
variable {K : PySem.W.Frag} {H : Hp} {Q : VK} {E : XK} {mg : Str → Option Value}
theorem rd_on_a_line {a b rest : Int} {F B A : Addr} {lo hi : Nat → Int} {t0 t1 : Int} (ha : a ≠ 0) (hb : b ≠ 0) (ha2 : a.natAbs < 1000000) (hb2 : b.natAbs < 1000000) (hr : rest.natAbs < 1000000000)
    (hF : H F = some (.tup [.int a, .int b])) (hB : BsAt H B [(lo 0, hi 0), (lo 1, hi 1)]) (hA : IsAt H A [t0, t1])
    (q1 : ∀ H', Same H H' → (∀ u w, ¬ OnB a b rest lo hi u w) → Q .non H')
    (q2 : ∀ p u w H', Same H H' → IsAt H' p [u, w] → OnB a b rest lo hi u w → (∀ u' w', OnB a b rest lo hi u' w' → ¬ lt1 t0 u' u) → Q (.ref p) H') :
    sp_on_a_line K [.ref F, .int rest, .ref B, .ref A] H Q E := by
  refine ⟨rfl, ?_⟩
  unfold t_on_a_line
  walk_at "go"
  refine g_gtup hF rfl ?_
  walk_at "go"
  refine rd_bezout (.inl ha) ha2 hb2 fun p1 g x y H1 hp1 s1 g0 g1 ge gda gdb => ?_
  walk_at "go"
  refine g_gtup hp1 rfl ?_
  walk_at "go"
  obtain ⟨a', ea⟩ := gda
  obtain ⟨b', eb⟩ := gdb
  have hg' : g ≠ 0 := by omega
  have ea' : a / g = a' := by rw [ea, Int.mul_ediv_cancel_left _ hg']
  have eb' : b / g = b' := by rw [eb, Int.mul_ediv_cancel_left _ hg']
  by_cases hm : rest % g = 0
  case neg =>
    rw [decide_eq_false hm]
    walk_at "go"
    refine q1 _ s1 fun u w h => hm ?_
    have := h.1
    rw [ea, eb, Int.mul_assoc, Int.mul_assoc, ← Int.mul_add] at this
    rw [← this]
    exact Int.mul_emod_right _ _
  rw [decide_eq_true hm]
  walk_at "go"
  obtain ⟨m, em⟩ := Int.dvd_of_emod_eq_zero hm
  have em' : rest / g = m := by rw [em, Int.mul_ediv_cancel_left _ hg']
  have hmb : m.natAbs < 1000000000 := by
    have h := Int.natAbs_ediv_le_natAbs rest g
    rw [em'] at h
    omega
  have hab : a'.natAbs < 1000000 := by
    have h := Int.natAbs_ediv_le_natAbs a g
    rw [ea'] at h
    omega
  have hbb : b'.natAbs < 1000000 := by
    have h := Int.natAbs_ediv_le_natAbs b g
    rw [eb'] at h
    omega
  have hb0 : b' ≠ 0 := by intro z; rw [z, Int.mul_zero] at eb; exact hb eb
  have ha0 : a' ≠ 0 := by intro z; rw [z, Int.mul_zero] at ea; exact ha ea
  have cm : ∀ i, CMul i m := fun i => .inr (by omega)
  have ca : ∀ i, CMul (-a') i := fun i => .inl (by omega)
  have cb : ∀ i, CMul b' i := fun i => .inl (by omega)
  rw [em']
  refine v_mulI (cm _) ?_
  walk_at "go"
  intro p2 hp2
  rw [em']
  walk_at "go"
  rw [eb']
  walk_at "go"
  rw [ea']
  refine v_neg ?_
  walk_at "go"
  intro p3 hp3
  walk_at "go"
  obtain ⟨st, hst⟩ : ∃ st : Nat → Int, st 0 = x * m ∧ st 1 = y * m := ⟨fun i => if i = 0 then x * m else y * m, rfl, rfl⟩
  obtain ⟨sd, hsd⟩ : ∃ sd : Nat → Int, sd 0 = b' ∧ sd 1 = -a' := ⟨fun i => if i = 0 then b' else -a', rfl, rfl⟩
  have hst' : (upd (upd H1 p2 (.tup [.int (x * m), .int (y * m)])) p3 (.tup [.int b', .int (-a')])) p2 = some (.tup [.int (st 0), .int (st 1)]) := by rw [hst.1, hst.2]; exact up_new upd_same hp3
  have hsd' : (upd (upd H1 p2 (.tup [.int (x * m), .int (y * m)])) p3 (.tup [.int b', .int (-a')])) p3 = some (.tup [.int (sd 0), .int (sd 1)]) := by rw [hsd.1, hsd.2]; exact upd_same
  have s2 : Same H (upd (upd H1 p2 (.tup [.int (x * m), .int (y * m)])) p3 (.tup [.int b', .int (-a')])) := (s1.trans (same_new hp2)).trans (same_new hp3)
  generalize upd (upd H1 p2 (.tup [.int (x * m), .int (y * m)])) p3 (.tup [.int b', .int (-a')]) = H3 at hst' hsd' s2
  clear hp3 hp2 hp1 s1
  have c2 : ∀ (f : Nat → Int) (i : Nat), i < 2 → ([V.int (f 0), V.int (f 1)] : List V)[i]? = some (.int (f i)) := fun f i h => by
    match i, h with
    | 0, _ => rfl
    | 1, _ => rfl
  have cB : ∀ (i : Nat), i < 2 → ([(lo 0, hi 0), (lo 1, hi 1)] : List (Int × Int))[i]? = some (lo i, hi i) := fun i h => by
    match i, h with
    | 0, _ => rfl
    | 1, _ => rfl
  have hs0 : ∀ i, i < 2 → sd i ≠ 0 ∧ (sd i).natAbs < 1000000 := fun i h => by
    match i, h with
    | 0, _ => rw [hsd.1]; exact ⟨hb0, hbb⟩
    | 1, _ => rw [hsd.2]; exact ⟨by omega, by omega⟩
  refine g_rngN (n := 2) (by decide) ?_
  refine l_range (fun i σ H' => ∃ (L G : V) (v13 v14 v15 v16 v17 : Option V), σ = [some (.ref F), some (.int rest), some (.ref B), some (.ref A), some (.int a), some (.int b), some (.int g), some (.int x), some (.int y), some (.ref p2), some (.ref p3), some L, some G, v13, v14, v15, v16, v17, none] ∧ Same H3 H' ∧
    ((i = 0 ∧ L = .non ∧ G = .non) ∨ ∃ l g, 0 < i ∧ L = .int l ∧ G = .int g ∧ ∀ t, (∀ k, k < i → lo k ≤ st k + sd k * t ∧ st k + sd k * t ≤ hi k) ↔ (l ≤ t ∧ t ≤ g)))
    ⟨.non, .non, none, none, none, none, none, rfl, fun _ _ h => h, .inl ⟨rfl, rfl, rfl⟩⟩ ?_ ?_
  · rintro i σ H' hi2 ⟨L, G, v13, v14, v15, v16, v17, rfl, s, hLG⟩
    walk_at "go"
    obtain ⟨vs, v, hv, hvi, ⟨r, rfl, hr⟩⟩ := AtL.get (hB.same (s2.trans s)) (cB i hi2)
    refine v_ixL hv (atN (i := i) (by omega) hvi) ?_
    refine g_gtup hr rfl ?_
    walk_at "go"
    refine v_ixT (s _ _ hsd') (atN (i := i) (by omega) (c2 sd i hi2)) ?_
    walk_at "go"
    rw [decide_eq_false (hs0 i hi2).1]
    walk_at "go"
    refine v_ixT (s _ _ hst') (atN (i := i) (by omega) (c2 st i hi2)) ?_
    walk_at "go"
    refine v_ixT (s _ _ hsd') (atN (i := i) (by omega) (c2 sd i hi2)) ?_
    walk_at "go"
    refine rd_step_range (hs0 i hi2).1 (hs0 i hi2).2 fun p f l H4 hp4 s4 hfl => ?_
    refine g_gtup hp4 rfl ?_
    walk_at "go"
    refine g_cut (fun σ' H'' => H4 = H'' ∧ ∃ l' : Int, σ' = [some (.ref F), some (.int rest), some (.ref B), some (.ref A), some (.int a), some (.int b), some (.int g), some (.int x), some (.int y), some (.ref p2), some (.ref p3), some (.int l'), some G, some (.int (0 + i)), some (.int (lo i)), some (.int (hi i)), some (.int f), some (.int l), none] ∧
      ∀ t, l' ≤ t ↔ (f ≤ t ∧ ∀ z, L = .int z → z ≤ t)) ?_ ?_
    · walk_at "go"
      rcases hLG with ⟨_, rfl, rfl⟩ | ⟨l1, g1, hi0, rfl, rfl, hk⟩
      · rw [decide_eq_true rfl]
        walk_at "go"
        exact ⟨rfl, f, rfl, fun t => ⟨fun h => ⟨h, fun z e => by cases e⟩, fun h => h.1⟩⟩
      · rw [decide_eq_false (by intro z; cases z)]
        walk_at "go"
        by_cases hc : l1 < f
        · rw [decide_eq_true hc]
          walk_at "go"
          exact ⟨rfl, f, rfl, fun t => ⟨fun h => ⟨h, fun z e => by cases e; omega⟩, fun h => h.1⟩⟩
        · rw [decide_eq_false hc]
          walk_at "go"
          exact ⟨rfl, l1, rfl, fun t => ⟨fun h => ⟨by omega, fun z e => by cases e; omega⟩, fun h => h.2 _ rfl⟩⟩
    rintro σ' H'' ⟨rfl, l', rfl, hl'⟩
    have fin : ∀ g' : Int, (∀ t, t ≤ g' ↔ (t ≤ l ∧ ∀ z, G = .int z → t ≤ z)) → ∃ l2 g2, 0 < i + 1 ∧ V.int l' = .int l2 ∧ V.int g' = .int g2 ∧ ∀ t, (∀ k, k < i + 1 → lo k ≤ st k + sd k * t ∧ st k + sd k * t ≤ hi k) ↔ (l2 ≤ t ∧ t ≤ g2) := by
      intro g' hg'
      refine ⟨l', g', by omega, rfl, rfl, fun t => ⟨fun h => ?_, fun h k hk => ?_⟩⟩
      · have h1 := (hfl t).mp (h i (by omega))
        refine ⟨(hl' t).mpr ⟨h1.1, fun z e => ?_⟩, (hg' t).mpr ⟨h1.2, fun z e => ?_⟩⟩
        · rcases hLG with ⟨_, e', _⟩ | ⟨l1, g1, _, e', _, hk⟩
          · rw [e'] at e; cases e
          · rw [e'] at e; cases e
            exact ((hk t).mp fun k hk => h k (by omega)).1
        · rcases hLG with ⟨_, _, e'⟩ | ⟨l1, g1, _, _, e', hk⟩
          · rw [e'] at e; cases e
          · rw [e'] at e; cases e
            exact ((hk t).mp fun k hk => h k (by omega)).2
      · have h1 := (hl' t).mp h.1
        have h2 := (hg' t).mp h.2
        by_cases e : k = i
        · subst e
          exact (hfl t).mpr ⟨h1.1, h2.1⟩
        · rcases hLG with ⟨z, _, _⟩ | ⟨l1, g1, _, e1, e2, hk'⟩
          · omega
          · exact (hk' t).mpr ⟨h1.2 _ e1, h2.2 _ e2⟩ k (by omega)
    walk_at "go"
    have sw := s.trans s4
    rcases id hLG with ⟨_, rfl, rfl⟩ | ⟨l1, g1, hi0, rfl, rfl, hk⟩
    · rw [decide_eq_true rfl]
      walk_at "go"
      exact ⟨_, _, _, _, _, _, _, rfl, sw, .inr (fin l fun t => ⟨fun h => ⟨h, fun z e => by cases e⟩, fun h => h.1⟩)⟩
    · rw [decide_eq_false (by intro z; cases z)]
      walk_at "go"
      by_cases hc : l < g1
      · rw [decide_eq_true hc]
        walk_at "go"
        exact ⟨_, _, _, _, _, _, _, rfl, sw, .inr (fin l fun t => ⟨fun h => ⟨h, fun z e => by cases e; omega⟩, fun h => h.1⟩)⟩
      · rw [decide_eq_false hc]
        walk_at "go"
        exact ⟨_, _, _, _, _, _, _, rfl, sw, .inr (fin g1 fun t => ⟨fun h => ⟨by omega, fun z e => by cases e; omega⟩, fun h => h.2 _ rfl⟩)⟩
  · rintro σ H' ⟨L, G, v13, v14, v15, v16, v17, rfl, s, hLG⟩
    rcases hLG with ⟨z, _, _⟩ | ⟨l, g2, _, rfl, rfl, hk⟩
    · cases z
    have box : ∀ u w, OnB a b rest lo hi u w → ∃ t, (l ≤ t ∧ t ≤ g2) ∧ u = st 0 + sd 0 * t ∧ w = st 1 + sd 1 * t := by
      intro u w h
      rw [em] at h
      have e := line_pt g0 ge ea eb h.1
      refine ⟨y * u - x * w, (hk _).mp fun k hk2 => ?_, ?_, ?_⟩
      · match k, hk2 with
        | 0, _ => rw [hst.1, hsd.1, ← e.1]; exact h.2.1
        | 1, _ => rw [hst.2, hsd.2, ← e.2]; exact h.2.2
      · rw [hst.1, hsd.1]; exact e.1
      · rw [hst.2, hsd.2]; exact e.2
    walk_at "go"
    by_cases hc : g2 < l
    · rw [decide_eq_true hc]
      walk_at "go"
      refine q1 _ (s2.trans s) fun u w h => ?_
      obtain ⟨t, ht, _⟩ := box u w h
      omega
    rw [decide_eq_false hc]
    walk_at "go"
    refine g_cut (fun σ' H'' => H' = H'' ∧ σ' = [some (.ref F), some (.int rest), some (.ref B), some (.ref A), some (.int a), some (.int b), some (.int g), some (.int x), some (.int y), some (.ref p2), some (.ref p3), some (.int l), some (.int g2), some (.int 0), v14, v15, v16, v17, none]) ?_ ?_
    · walk_at "go"
      refine v_ixT (s _ _ hsd') (atN (i := 0) rfl rfl) ?_
      walk_at "go"
      rw [decide_eq_false (hs0 0 (by decide)).1]
      walk_at "go"
      exact ⟨rfl, rfl⟩
    rintro σ' H'' ⟨rfl, rfl⟩
    walk_at "go"
    refine v_ixT (s _ _ hst') (atN (i := 0) rfl rfl) ?_
    walk_at "go"
    refine v_ixT (s _ _ hsd') (atN (i := 0) rfl rfl) ?_
    walk_at "go"
    refine v_ixL ((s2.trans s) _ _ hA) (atN (i := 0) rfl rfl) ?_
    walk_at "go"
    refine rd_nearest_step (hs0 0 (by decide)).1 (hs0 0 (by decide)).2 (by omega) fun t H4 s4 ht1 ht2 hnear => ?_
    walk_at "go"
    refine v_ixT (s4 _ _ (s _ _ hst')) (atN (i := 0) rfl rfl) ?_
    walk_at "go"
    refine v_ixT (s4 _ _ (s _ _ hsd')) (atN (i := 0) rfl rfl) ?_
    walk_at "go"
    refine v_ixT (s4 _ _ (s _ _ hst')) (atN (i := 1) rfl rfl) ?_
    walk_at "go"
    refine v_ixT (s4 _ _ (s _ _ hsd')) (atN (i := 1) rfl rfl) ?_
    walk_at "go"
    intro p hp
    have hin := (hk t).mpr ⟨ht1, ht2⟩
    refine q2 p _ _ _ (((s2.trans s).trans s4).trans (same_new hp)) upd_same ⟨?_, hin 0 (by decide), hin 1 (by decide)⟩ fun u' w' h => ?_
    · rw [hst.1, hst.2, hsd.1, hsd.2, em]
      exact line_on ge ea eb
    · obtain ⟨t', ht', e1, e2⟩ := box u' w' h
      rw [e1]
      exact hnear t' ht'.1 ht'.2
end
end Lw

namespace Lw
open PySem PySem.Spec PyProof.Rows L2 G
def TpAt {α : Type} (f : α → List V) (H : Hp) (v : V) (x : α) : Prop := ∃ r, v = .ref r ∧ H r = some (.tup (f x))
theorem TpAt.same {α : Type} {f : α → List V} {H H' : Hp} (s : Same H H') (v : V) (x : α) (h : TpAt f H v x) : TpAt f H' v x := by
  obtain ⟨r, e, h⟩ := h
  exact ⟨r, e, s _ _ h⟩
theorem TpAt.sb {α : Type} {f : α → List V} {H H' : Hp} {l : Addr} {vs : List V} (s : Sb l H H') (hl : H l = some (.lst vs)) {v : V} {x : α} (h : TpAt f H v x) : TpAt f H' v x := by
  obtain ⟨r, e, h⟩ := h
  refine ⟨r, e, s _ _ (fun z => ?_) h⟩
  rw [z, hl] at h
  cases h
theorem push_tp {α : Type} {f : α → List V} {H : Hp} {l : Addr} {xs : List α} {x : α} {v : V} {vs : List V} (h : AtL (TpAt f) H l xs) (hl : H l = some (.lst vs)) (hv : TpAt f H v x) : AtL (TpAt f) (upd H l (.lst (vs ++ [v]))) l (xs ++ [x]) := by
  obtain ⟨vs', e, el, hr⟩ := h
  rw [hl] at e
  cases e
  refine ⟨_, upd_same, by simp [el], fun i w y hw hy => ?_⟩
  refine TpAt.sb (H := H) (vs := vs) Sb.upd hl ?_
  by_cases hi : i < vs.length
  · rw [List.getElem?_append_left hi] at hw
    rw [List.getElem?_append_left (by omega)] at hy
    exact hr i w y hw hy
  · rw [List.getElem?_append_right (by omega)] at hw hy
    rw [el] at hw
    generalize i - xs.length = k at hw hy
    match k with
    | 0 => cases hw; cases hy; exact hv
    | k + 1 => cases hw
theorem atl_nil {α : Type} {R : Hp → V → α → Prop} {H : Hp} {l : Addr} : AtL R (upd H l (.lst [])) l [] := ⟨[], upd_same, rfl, fun i v x h => by cases h⟩
abbrev Ln := Int × Int × Int
def lnV (l : Ln) : List V := [.int l.1, .int l.2.1, .int l.2.2]
def nz (l : Ln) : Bool := decide (l.1 ≠ 0) || decide (l.2.1 ≠ 0)
def onL (l : Ln) (u w : Int) : Prop := l.1 * u + l.2.1 * w = l.2.2
def lnOf (x z : Str) (p : List Tm × Int) : Ln := (fac p.1 x, fac p.1 z, p.2 - alone p.1)
theorem cramer {a1 b1 c1 a2 b2 c2 u w : Int} (h1 : a1 * u + b1 * w = c1) (h2 : a2 * u + b2 * w = c2) : (a1 * b2 - b1 * a2) * u = c1 * b2 - c2 * b1 ∧ (a1 * b2 - b1 * a2) * w = a1 * c2 - a2 * c1 := by
  subst h1 h2
  constructor <;> grind
theorem lines0 {ls : List Ln} (hl : ls.length ≤ 2) (hx : ∃ l ∈ ls, l.1 ≠ 0) (hz : ∃ l ∈ ls, l.2.1 ≠ 0) :
    (∃ l1 l2, ls.filter nz = [l1, l2] ∧ l1 ∈ ls ∧ l2 ∈ ls ∧ l1.1 * l2.2.1 ≠ l1.2.1 * l2.1) ∨
    (∃ l r, ls.filter nz = l :: r ∧ l ∈ ls ∧ (∀ l2, r = [l2] → l.1 * l2.2.1 = l.2.1 * l2.1) ∧ r.length ≤ 1 ∧ l.1 ≠ 0 ∧ l.2.1 ≠ 0 ∧ ∀ l' ∈ ls, l.1 * l'.2.1 = l.2.1 * l'.1) := by
  have nzf : ∀ l, nz l = false → l.1 = 0 ∧ l.2.1 = 0 := fun l h => by
    unfold nz at h
    simp at h
    exact h
  match ls, hl with
  | [], _ => obtain ⟨l, h, _⟩ := hx; cases h
  | [l], _ =>
    obtain ⟨m, h, hx⟩ := hx
    rw [List.mem_singleton.mp h] at hx
    obtain ⟨m, h, hz⟩ := hz
    rw [List.mem_singleton.mp h] at hz
    refine .inr ⟨l, [], ?_, by simp, (fun l2 e => by cases e), by simp, hx, hz, fun l' h => ?_⟩
    · rw [List.filter_cons_of_pos (by unfold nz; rw [decide_eq_true hx]; rfl)]
      rfl
    · rw [List.mem_singleton.mp h, Int.mul_comm]
  | [l, m], _ =>
    have hx' : l.1 ≠ 0 ∨ m.1 ≠ 0 := by
      obtain ⟨k, h, hx⟩ := hx
      simp at h
      rcases h with h | h <;> rw [h] at hx
      · exact .inl hx
      · exact .inr hx
    have hz' : l.2.1 ≠ 0 ∨ m.2.1 ≠ 0 := by
      obtain ⟨k, h, hx⟩ := hz
      simp at h
      rcases h with h | h <;> rw [h] at hx
      · exact .inl hx
      · exact .inr hx
    cases e1 : nz l with
    | false =>
      have k := nzf l e1
      have hm1 : m.1 ≠ 0 := hx'.resolve_left (fun z => z k.1)
      have hm2 : m.2.1 ≠ 0 := hz'.resolve_left (fun z => z k.2)
      refine .inr ⟨m, [], ?_, by simp, (fun l2 e => by cases e), by simp, hm1, hm2, fun l' h => ?_⟩
      · rw [List.filter_cons_of_neg (by rw [e1]; decide), List.filter_cons_of_pos (by unfold nz; rw [decide_eq_true hm1]; rfl)]
        rfl
      · simp at h
        rcases h with h | h <;> rw [h]
        · rw [k.1, k.2]; simp
        · rw [Int.mul_comm]
    | true =>
      cases e2 : nz m with
      | false =>
        have k := nzf m e2
        have hm1 : l.1 ≠ 0 := hx'.resolve_right (fun z => z k.1)
        have hm2 : l.2.1 ≠ 0 := hz'.resolve_right (fun z => z k.2)
        refine .inr ⟨l, [], ?_, by simp, (fun l2 e => by cases e), by simp, hm1, hm2, fun l' h => ?_⟩
        · rw [List.filter_cons_of_pos e1, List.filter_cons_of_neg (by rw [e2]; decide)]
          rfl
        · simp at h
          rcases h with h | h <;> rw [h]
          · rw [Int.mul_comm]
          · rw [k.1, k.2]; simp
      | true =>
        have ef : [l, m].filter nz = [l, m] := by rw [List.filter_cons_of_pos e1, List.filter_cons_of_pos e2]; rfl
        by_cases hd : l.1 * m.2.1 = l.2.1 * m.1
        · have n1 : l.1 ≠ 0 := fun z => by
            rw [z, Int.zero_mul] at hd
            have hz2 : l.2.1 ≠ 0 := fun y => by unfold nz at e1; rw [z, y] at e1; simp at e1
            have hx2 : m.1 ≠ 0 := hx'.resolve_left (fun y => y z)
            exact Int.mul_ne_zero hz2 hx2 hd.symm
          have n2 : l.2.1 ≠ 0 := fun z => by
            rw [z, Int.zero_mul] at hd
            have hz2 : m.2.1 ≠ 0 := hz'.resolve_left (fun y => y z)
            exact Int.mul_ne_zero n1 hz2 hd
          refine .inr ⟨l, [m], ef, by simp, (fun l2 e => by cases e; exact hd), by simp, n1, n2, fun l' h => ?_⟩
          simp at h
          rcases h with h | h <;> rw [h]
          · rw [Int.mul_comm]
          · exact hd
        · exact .inl ⟨l, m, ef, by simp, by simp, hd⟩
/-- points of the first line stand alike on each parallel one -/
theorem par_on {a b c u w u' w' : Int} {l : Ln} (ha : a ≠ 0) (h : a * u + b * w = c) (h' : a * u' + b * w' = c) (hp : a * l.2.1 = b * l.1) (k : onL l u' w') : onL l u w := by
  unfold onL at *
  rw [← k]
  refine Int.eq_of_mul_eq_mul_left ha ?_
  rw [← h'] at h
  calc a * (l.1 * u + l.2.1 * w) = l.1 * (a * u) + (a * l.2.1) * w := by grind
    _ = l.1 * (a * u + b * w) := by rw [hp]; grind
    _ = l.1 * (a * u' + b * w') := by rw [h]
    _ = l.1 * (a * u') + (b * l.1) * w' := by grind
    _ = _ := by rw [← hp]; grind
section
variable {K : PySem.W.Frag} {H : Hp} {Q : VK} {E : XK} {mg : Str → Option Value}
theorem rd_crossing {p1 p2 : Addr} {l1 l2 : Ln} (h1 : H p1 = some (.tup (lnV l1))) (h2 : H p2 = some (.tup (lnV l2))) (hd : l1.1 * l2.2.1 ≠ l1.2.1 * l2.1)
    (b1 : l1.1.natAbs < 1000) (b2 : l1.2.1.natAbs < 1000) (b3 : l2.1.natAbs < 1000) (b4 : l2.2.1.natAbs < 1000)
    (q1 : ∀ H', Same H H' → (∀ u w, ¬ (onL l1 u w ∧ onL l2 u w)) → Q .non H')
    (q2 : ∀ p u w H', Same H H' → IsAt H' p [u, w] → (∀ u' w', onL l1 u' w' → onL l2 u' w' → u' = u ∧ w' = w) → Q (.ref p) H') :
    sp_crossing K [.ref p1, .ref p2] H Q E := by
  obtain ⟨a1, d1, c1⟩ := l1
  obtain ⟨a2, d2, c2⟩ := l2
  unfold lnV at h1 h2
  simp only at h1 h2 hd b1 b2 b3 b4
  have m1 : ∀ i, CMul a1 i := fun i => .inl (by omega)
  have m2 : ∀ i, CMul d1 i := fun i => .inl (by omega)
  have m3 : ∀ i, CMul i a2 := fun i => .inr (by omega)
  have m4 : ∀ i, CMul i d2 := fun i => .inr (by omega)
  have m5 : ∀ i, CMul a2 i := fun i => .inl (by omega)
  have m6 : ∀ i, CMul i d1 := fun i => .inr (by omega)
  have hD0 : a1 * d2 - d1 * a2 ≠ 0 := by omega
  have bnd : (a1 * d2 - d1 * a2).natAbs < 1073741824 := by
    have k1 : (a1 * d2).natAbs ≤ 1000 * 1000 := by rw [Int.natAbs_mul]; exact Nat.mul_le_mul (by omega) (by omega)
    have k2 : (d1 * a2).natAbs ≤ 1000 * 1000 := by rw [Int.natAbs_mul]; exact Nat.mul_le_mul (by omega) (by omega)
    omega
  clear b1 b2 b3 b4
  refine ⟨rfl, ?_⟩
  unfold t_crossing
  walk_at "go"
  refine v_ixT h1 (atN (i := 0) rfl rfl) ?_
  walk_at "go"
  refine v_ixT h2 (atN (i := 1) rfl rfl) ?_
  refine v_mulI (m1 _) ?_
  walk_at "go"
  refine v_ixT h1 (atN (i := 1) rfl rfl) ?_
  walk_at "go"
  refine v_ixT h2 (atN (i := 0) rfl rfl) ?_
  refine v_mulI (m2 _) ?_
  walk_at "go"
  refine v_ixT h1 (atN (i := 2) rfl rfl) ?_
  walk_at "go"
  refine v_ixT h2 (atN (i := 1) rfl rfl) ?_
  refine v_mulI (m4 _) ?_
  walk_at "go"
  refine v_ixT h2 (atN (i := 2) rfl rfl) ?_
  walk_at "go"
  refine v_ixT h1 (atN (i := 1) rfl rfl) ?_
  refine v_mulI (m6 _) ?_
  walk_at "go"
  refine v_ixT h1 (atN (i := 0) rfl rfl) ?_
  walk_at "go"
  refine v_ixT h2 (atN (i := 2) rfl rfl) ?_
  refine v_mulI (m1 _) ?_
  walk_at "go"
  refine v_ixT h2 (atN (i := 0) rfl rfl) ?_
  walk_at "go"
  refine v_ixT h1 (atN (i := 2) rfl rfl) ?_
  refine v_mulI (m5 _) ?_
  walk_at "go"
  refine v_modN hD0 ?_
  walk_at "go"
  by_cases hx : (c1 * d2 - c2 * d1).fmod (a1 * d2 - d1 * a2) = 0
  case neg =>
    rw [decide_eq_false hx]
    walk_at "go"
    refine q1 _ (fun _ _ h => h) fun u w k => hx ?_
    rw [← (cramer k.1 k.2).1]
    exact Int.mul_fmod_right _ _
  rw [decide_eq_true hx]
  walk_at "go"
  refine v_modN hD0 ?_
  walk_at "go"
  by_cases hz : (a1 * c2 - a2 * c1).fmod (a1 * d2 - d1 * a2) = 0
  case neg =>
    rw [decide_eq_false hz]
    walk_at "go"
    refine q1 _ (fun _ _ h => h) fun u w k => hz ?_
    rw [← (cramer k.1 k.2).2]
    exact Int.mul_fmod_right _ _
  rw [decide_eq_true hz]
  walk_at "go"
  refine v_divN ⟨hD0, bnd⟩ ?_
  walk_at "go"
  refine v_divN ⟨hD0, bnd⟩ ?_
  walk_at "go"
  intro p hp
  refine q2 p _ _ _ (same_new hp) upd_same fun u w k1 k2 => ?_
  have c := cramer k1 k2
  exact ⟨Int.eq_fdiv_of_mul_eq_right hD0 c.1, Int.eq_fdiv_of_mul_eq_right hD0 c.2⟩
end
end Lw

namespace Lw
open PySem PySem.Spec PyProof.Rows L2 G
/-- forms with small numbers -/
def SmF (ts : List Tm) : Prop := ts.length ≤ 100 ∧ (∀ n, (fac ts n).natAbs < 1000) ∧ (alone ts).natAbs < 1000
def sol2 (x z : Str) (fs : List (List Tm)) (made : List Int) (lo hi : Nat → Int) (u w : Int) : Prop := inB [(lo 0, hi 0), (lo 1, hi 1)] [u, w] = true ∧ solv [x, z] fs made [u, w] = true
def lnsOf (x z : Str) (fs : List (List Tm)) (made : List Int) : List Ln := (fs.zip made).map (lnOf x z)
theorem solv_iff {x z : Str} {fs : List (List Tm)} {made : List Int} {u w : Int} : solv [x, z] fs made [u, w] = true ↔ ∀ l ∈ lnsOf x z fs made, onL l u w := by
  unfold solv lnsOf
  rw [List.all_eq_true]
  constructor
  · intro h l hl
    obtain ⟨p, hp, rfl⟩ := List.mem_map.mp hl
    have h := h _ (List.mem_map.mpr ⟨p, hp, rfl⟩)
    have h := of_decide_eq_true h
    unfold onL lnOf
    unfold val zs at h
    simp at h ⊢
    omega
  · intro h b hb
    obtain ⟨p, hp, rfl⟩ := List.mem_map.mp hb
    have h := h _ (List.mem_map.mpr ⟨p, hp, rfl⟩)
    refine decide_eq_true ?_
    unfold onL lnOf at h
    unfold val zs
    simp at h ⊢
    omega
theorem inB2 {lo hi : Nat → Int} {u w : Int} : inB [(lo 0, hi 0), (lo 1, hi 1)] [u, w] = true ↔ (lo 0 ≤ u ∧ u ≤ hi 0) ∧ lo 1 ≤ w ∧ w ≤ hi 1 := by
  unfold inB
  simp
section
variable {K : PySem.W.Frag} {H : Hp} {Q : VK} {E : XK} {mg : Str → Option Value}
theorem rd_two_sources (T : Tx K mg) {f g B m A : Addr} {fs : List (List Tm)} {x z : Str} {made : List Int} {lo hi : Nat → Int} {t0 t1 : Int}
    (hf : FsAt K H f fs) (hg : NsAt H g [x, z]) (hB : BsAt H B [(lo 0, hi 0), (lo 1, hi 1)]) (hm : IsAt H m made) (hA : IsAt H A [t0, t1])
    (hfs : ∀ ts ∈ fs, SmF ts) (hmd : ∀ c ∈ made, c.natAbs < 1000000) (hfl : fs.length = made.length) (hl2 : fs.length ≤ 2)
    (hx : ∃ ts ∈ fs, fac ts x ≠ 0) (hz : ∃ ts ∈ fs, fac ts z ≠ 0) (hlo : ∀ i, i < 2 → (lo i).natAbs < 1000 ∧ (hi i).natAbs < 1000)
    (q1 : ∀ H', Same H H' → (∀ u w, ¬ sol2 x z fs made lo hi u w) → Q .non H')
    (q2 : ∀ p u w H', Same H H' → IsAt H' p [u, w] → sol2 x z fs made lo hi u w → (∀ u' w', sol2 x z fs made lo hi u' w' → ¬ lt1 t0 u' u ∧ (u' = u → w' = w)) → Q (.ref p) H') :
    sp_two_sources K [.ref f, .ref g, .ref B, .ref m, .ref A] H Q E := by
  refine ⟨rfl, ?_⟩
  unfold t_two_sources
  walk_at "go"
  intro Ls hLs
  walk_at "go"
  refine g_zip ?_
  walk_at "go"
  obtain ⟨vs, hv, hvl, hvr⟩ := hf
  have s0 : Same H (upd H Ls (.lst [])) := same_new hLs
  refine v_zip (SqL.of (s0 _ _ hv)) (SqL.of (s0 _ _ hm)) ?_
  refine l_zip (xs := vs) (ys := made.map V.int) (by rw [List.length_map, hvl]; exact hfl) (fun i σ H' => ∃ v6 v7 : Option V, σ = [some (.ref f), some (.ref g), some (.ref B), some (.ref m), some (.ref A), some (.ref Ls), v6, v7, none, none, none] ∧ Same H H' ∧ AtL (TpAt lnV) H' Ls ((lnsOf x z fs made).take i))
    ⟨none, none, rfl, s0, atl_nil⟩ (fun i σ H' p => ?_) ?_ ?_
  · obtain ⟨_, _, _, s, _⟩ := p
    exact ⟨SqL.of (s _ _ hv), SqL.of (s _ _ hm)⟩
  · rintro i x' y' R σ H' hx' hy' ⟨v6, v7, rfl, s, hL⟩ hR
    have h1 := lt_of_get hx'
    have h2 := lt_of_get hy'
    rw [List.length_map] at h2
    rw [List.getElem?_map, List.getElem?_eq_getElem h2] at hy'
    cases hy'
    have hb' : fs[i]? = some fs[i] := List.getElem?_eq_getElem (by omega)
    obtain ⟨o, rfl, ho⟩ := hvr i x' _ hx' hb'
    have hz' : (lnsOf x z fs made)[i]? = some (lnOf x z (fs[i], made[i])) := by
      unfold lnsOf
      rw [List.getElem?_map, List.getElem?_eq_getElem (by rw [List.length_zip]; omega), List.getElem_zip]
      rfl
    have hsf := hfs _ (List.getElem_mem (l := fs) (n := i) (by omega))
    refine g_gtup upd_same rfl ?_
    walk_at "go"
    have s1 : Same H (upd H' R (.tup [.ref o, .int made[i]])) := s.trans (same_new hR)
    have ho1 := ho.same s1
    obtain ⟨dx, tl, hoo, _⟩ := id ho1
    have hL1 : AtL (TpAt lnV) (upd H' R (.tup [.ref o, .int made[i]])) Ls ((lnsOf x z fs made).take i) := AtL.same hL (same_new hR) fun v t => TpAt.same (same_new hR) v t
    obtain ⟨ws, hw, hwl, _⟩ := id hL1
    refine g_tyL hw ?_
    walk_at "go"
    refine v_meth hoo rfl ?_
    walk_at "go"
    refine v_ixL (s1 _ _ hg) (atN (i := 0) rfl rfl) ?_
    walk_at "go"
    refine rd_factor_of T ho1 hsf.1 fun H2 s2 => ?_
    walk_at "go"
    refine v_meth (s2 _ _ hoo) rfl ?_
    walk_at "go"
    refine v_ixL ((s1.trans s2) _ _ hg) (atN (i := 1) rfl rfl) ?_
    walk_at "go"
    refine rd_factor_of T (ho1.same s2) hsf.1 fun H3 s3 => ?_
    walk_at "go"
    refine v_meth (s3 _ _ (s2 _ _ hoo)) rfl ?_
    walk_at "go"
    refine rd_alone T ((ho1.same s2).same s3) hsf.1 fun H4 s4 => ?_
    walk_at "go"
    intro p hp
    walk_at "go"
    have s5 := (s2.trans s3).trans (s4.trans (same_new (o := .tup [.int (fac fs[i] x), .int (fac fs[i] z), .int (made[i] - alone fs[i])]) hp))
    refine v_append (s5 _ _ hw) (by rw [hwl]; refine small (Nat.le_trans (List.length_take_le' _ _) ?_); unfold lnsOf; rw [List.length_map, List.length_zip]; omega) ?_
    refine ⟨_, _, rfl, upN hLs (s1.trans s5), ?_⟩
    rw [take1 hz']
    exact push_tp (AtL.same hL1 s5 fun v t => TpAt.same s5 v t) (s5 _ _ hw) ⟨p, rfl, upd_same⟩
  · rintro σ H1 ⟨v6, v7, rfl, s1, hL⟩
    have hll : (lnsOf x z fs made).length = fs.length := by unfold lnsOf; rw [List.length_map, List.length_zip]; omega
    rw [takeAll (by rw [hll, hvl]; omega)] at hL
    generalize hln : lnsOf x z fs made = ls at *
    walk_at "go"
    refine g_lc (gi_list ?_)
    walk_at "go"
    obtain ⟨ws, hw, hwl, hwr⟩ := id hL
    refine v_ovL (SqL.of hw) ?_
    intro D hD
    refine c_list (fun i H' => Same H1 H' ∧ AtL (TpAt lnV) H' D ((ls.take i).filter nz)) ⟨same_new hD, atl_nil⟩ (fun i H' _ p => SqL.of (p.1 _ _ hw)) ?_ ?_
    · rintro i y H' hy ⟨s, hd⟩
      have hi := lt_of_get hy
      have ht : ls[i]? = some ls[i] := List.getElem?_eq_getElem (by omega)
      obtain ⟨r, rfl, hr⟩ := hwr i y _ hy ht
      obtain ⟨ds, hds, hdl, _⟩ := id hd
      walk_at "go"
      refine ⟨rfl, ?_⟩
      walk_at "go"
      refine v_ixT (s _ _ hr) (atN (i := 0) rfl rfl) ?_
      walk_at "go"
      have fin : nz ls[i] = true → PutC D (.ref r) H' (fun H' => Same H1 H' ∧ AtL (TpAt lnV) H' D ((ls.take (i + 1)).filter nz)) := fun hn => by
        refine v_put hds (by rw [hdl]; refine small (Nat.le_trans (List.length_filter_le _ _) (Nat.le_trans (List.length_take_le' _ _) ?_)); omega) ⟨upN hD s, ?_⟩
        rw [take1 ht, List.filter_append, List.filter_cons_of_pos hn]
        exact push_tp hd hds ⟨r, rfl, s _ _ hr⟩
      by_cases h1 : ls[i].1 = 0
      · rw [decide_eq_true h1]
        walk_at "go"
        refine v_ixT (s _ _ hr) (atN (i := 1) rfl rfl) ?_
        walk_at "go"
        by_cases h2 : ls[i].2.1 = 0
        · rw [decide_eq_true h2]
          walk_at "go"
          refine ⟨s, ?_⟩
          rw [take1 ht, List.filter_append, List.filter_cons_of_neg (by unfold nz; rw [decide_eq_false (fun k => k h1), decide_eq_false (fun k => k h2)]; decide), List.filter_nil, List.append_nil]
          exact hd
        · rw [decide_eq_false h2]
          walk_at "go"
          exact fin (by unfold nz; rw [decide_eq_true (p := ls[i].2.1 ≠ 0) h2, Bool.or_true])
      · rw [decide_eq_false h1]
        walk_at "go"
        exact fin (by unfold nz; rw [decide_eq_true (p := ls[i].1 ≠ 0) h1, Bool.true_or])
    rintro H2 ⟨s2, hD2⟩
    rw [takeAll (by omega)] at hD2
    walk_at "go"
    have bnd : ∀ l ∈ ls, l.1.natAbs < 1000 ∧ l.2.1.natAbs < 1000 ∧ l.2.2.natAbs < 1000000000 := by
      intro l hl
      rw [← hln] at hl
      unfold lnsOf at hl
      obtain ⟨⟨ts, c⟩, hp, rfl⟩ := List.mem_map.mp hl
      have h1 := hfs ts (List.of_mem_zip hp).1
      have h2 := hmd c (List.of_mem_zip hp).2
      refine ⟨h1.2.1 x, h1.2.1 z, ?_⟩
      have h3 := h1.2.2
      show (c - alone ts).natAbs < _
      omega
    have ex : ∀ n : Str, (∃ ts ∈ fs, fac ts n ≠ 0) → ∃ p ∈ fs.zip made, fac p.1 n ≠ 0 := by
      rintro n ⟨ts, ht, h⟩
      obtain ⟨i, hi, e⟩ := List.getElem_of_mem ht
      refine ⟨(fs[i], made[i]), ?_, by rw [e]; exact h⟩
      rw [← List.getElem_zip (h := by rw [List.length_zip]; omega)]
      exact List.getElem_mem _
    have hx' : ∃ l ∈ ls, l.1 ≠ 0 := by
      obtain ⟨p, hp, h⟩ := ex x hx
      exact ⟨_, by rw [← hln]; exact List.mem_map.mpr ⟨p, hp, rfl⟩, h⟩
    have hz' : ∃ l ∈ ls, l.2.1 ≠ 0 := by
      obtain ⟨p, hp, h⟩ := ex z hz
      exact ⟨_, by rw [← hln]; exact List.mem_map.mpr ⟨p, hp, rfl⟩, h⟩
    have siff : ∀ u w, solv [x, z] fs made [u, w] = true ↔ ∀ l ∈ ls, onL l u w := fun u w => by rw [solv_iff, hln]
    have sA := s1.trans s2
    refine g_cut (fun σ' H' => ∃ rv : V, σ' = [some (.ref f), some (.ref g), some (.ref B), some (.ref m), some (.ref A), some (.ref Ls), v6, v7, some (.ref D), none, some rv] ∧ Same H H' ∧
      ((rv = .non ∧ ∀ u w, ¬ sol2 x z fs made lo hi u w) ∨ ∃ p u w, rv = .ref p ∧ IsAt H' p [u, w] ∧ ∀ u' w', sol2 x z fs made lo hi u' w' → sol2 x z fs made lo hi u w ∧ ¬ lt1 t0 u' u ∧ (u' = u → w' = w))) ?_ ?_
    · walk_at "go"
      rcases lines0 (by omega) hx' hz' with ⟨l1, l2, ef, m1, m2, hd⟩ | ⟨l, r, ef, ml, hr2, hrl, ha, hb, hpar⟩
      · rw [ef] at hD2
        obtain ⟨ds, r1, hds, hd1, ⟨p1, rfl, hp1⟩⟩ := AtL.get hD2 (i := 0) rfl
        obtain ⟨ds', r2, hds', hd2, ⟨p2, rfl, hp2⟩⟩ := AtL.get hD2 (i := 1) rfl
        rw [hds] at hds'
        cases hds'
        obtain ⟨ds', hds', hdl, _⟩ := id hD2
        rw [hds] at hds'
        cases hds'
        refine v_lenL hds ?_
        walk_at "go"
        rw [decide_eq_true (by rw [hdl]; rfl)]
        walk_at "go"
        refine v_ixL hds (atN (i := 0) rfl hd1) ?_
        walk_at "go"
        refine v_ixT hp1 (atN (i := 0) rfl rfl) ?_
        walk_at "go"
        refine v_ixL hds (atN (i := 1) rfl hd2) ?_
        walk_at "go"
        refine v_ixT hp2 (atN (i := 1) rfl rfl) ?_
        have b1 := bnd l1 m1
        have b2 := bnd l2 m2
        walk_at "go"
        refine v_ixL hds (atN (i := 0) rfl hd1) ?_
        walk_at "go"
        refine v_ixT hp1 (atN (i := 1) rfl rfl) ?_
        walk_at "go"
        refine v_ixL hds (atN (i := 1) rfl hd2) ?_
        walk_at "go"
        refine v_ixT hp2 (atN (i := 0) rfl rfl) ?_
        walk_at "go"
        rw [decide_eq_false hd]
        walk_at "go"
        refine v_ixL hds (atN (i := 0) rfl hd1) ?_
        walk_at "go"
        refine v_ixL hds (atN (i := 1) rfl hd2) ?_
        walk_at "go"
        refine rd_crossing hp1 hp2 hd b1.1 b1.2.1 b2.1 b2.2.1 (fun H3 s3 hno => ?_) (fun p u w H3 s3 hp hun => ?_)
        · walk_at "go"
          refine ⟨_, rfl, sA.trans s3, .inl ⟨rfl, fun u w h => hno u w ?_⟩⟩
          have h := (siff u w).mp h.2
          exact ⟨h _ m1, h _ m2⟩
        · walk_at "go"
          refine ⟨_, rfl, sA.trans s3, .inr ⟨p, u, w, rfl, hp, fun u' w' h => ?_⟩⟩
          have h2 := (siff u' w').mp h.2
          obtain ⟨rfl, rfl⟩ := hun u' w' (h2 _ m1) (h2 _ m2)
          exact ⟨h, lt1_irr, fun _ => rfl⟩
      · rw [ef] at hD2
        obtain ⟨ds, r1, hds, hd1, ⟨p1, rfl, hp1⟩⟩ := AtL.get hD2 (i := 0) rfl
        obtain ⟨ds', hds', hdl, _⟩ := id hD2
        rw [hds] at hds'
        cases hds'
        have bl := bnd l ml
        have main : tAsg (tCallSD (sp_on_a_line K) [] Ez (tCons (tTup (tCons (tOp (rIx K) (tOp (rIx K) (tVar 8) (tC (.int 0))) (tC (.int 0))) (tCons (tOp (rIx K) (tOp (rIx K) (tVar 8) (tC (.int 0))) (tC (.int 1))) tNil))) (tCons (tOp (rIx K) (tOp (rIx K) (tVar 8) (tC (.int 0))) (tC (.int 2))) (tCons (tVar 2) (tCons (tVar 4) tNil))))) (gName 10)
            ⟨fun σ' H' => ∃ rv : V, σ' = [some (.ref f), some (.ref g), some (.ref B), some (.ref m), some (.ref A), some (.ref Ls), v6, v7, some (.ref D), none, some rv] ∧ Same H H' ∧
      ((rv = .non ∧ ∀ u w, ¬ sol2 x z fs made lo hi u w) ∨ ∃ p u w, rv = .ref p ∧ IsAt H' p [u, w] ∧ ∀ u' w', sol2 x z fs made lo hi u' w' → sol2 x z fs made lo hi u w ∧ ¬ lt1 t0 u' u ∧ (u' = u → w' = w)), Q, fun _ _ => False, fun _ _ => False⟩
            [some (.ref f), some (.ref g), some (.ref B), some (.ref m), some (.ref A), some (.ref Ls), v6, v7, some (.ref D), none, some .non] H2 := by
          walk_at "go"
          refine v_ixL hds (atN (i := 0) rfl hd1) ?_
          walk_at "go"
          refine v_ixT hp1 (atN (i := 0) rfl rfl) ?_
          walk_at "go"
          refine v_ixL hds (atN (i := 0) rfl hd1) ?_
          walk_at "go"
          refine v_ixT hp1 (atN (i := 1) rfl rfl) ?_
          walk_at "go"
          intro F hF
          walk_at "go"
          refine v_ixL (up_new hds hF) (atN (i := 0) rfl hd1) ?_
          walk_at "go"
          refine v_ixT (up_new hp1 hF) (atN (i := 2) rfl rfl) ?_
          walk_at "go"
          have sB : Same H (upd H2 F (.tup [.int l.1, .int l.2.1])) := sA.trans (same_new hF)
          have toB : ∀ u w, sol2 x z fs made lo hi u w → OnB l.1 l.2.1 l.2.2 lo hi u w := fun u w h => ⟨(siff u w).mp h.2 _ ml, inB2.mp h.1⟩
          refine rd_on_a_line ha hb (by omega) (by omega) bl.2.2 upd_same (hB.same sB) (sB _ _ hA) (fun H3 s3 hno => ?_) (fun p u w H3 s3 hp hon hnear => ?_)
          · walk_at "go"
            exact ⟨_, rfl, sB.trans s3, .inl ⟨rfl, fun u w h => hno u w (toB u w h)⟩⟩
          · walk_at "go"
            refine ⟨_, rfl, sB.trans s3, .inr ⟨p, u, w, rfl, hp, fun u' w' h => ⟨⟨inB2.mpr hon.2, (siff u w).mpr fun l' hl' => ?_⟩, hnear u' w' (toB u' w' h), fun e => ?_⟩⟩⟩
            · exact par_on ha hon.1 (toB u' w' h).1 (hpar l' hl') ((siff u' w').mp h.2 l' hl')
            · have k := (toB u' w' h).1
              rw [e, ← hon.1] at k
              exact Int.eq_of_mul_eq_mul_left hb (Int.add_left_cancel k)
        refine v_lenL hds ?_
        walk_at "go"
        cases r with
        | nil =>
          rw [decide_eq_false (by rw [hdl]; show ¬ ((1 : Nat) : Int) = 2; decide)]
          refine iteF ?_
          refine iteF ?_
          exact main
        | cons l2 r' =>
          cases r' with
          | cons _ _ => simp at hrl
          | nil =>
            obtain ⟨ds', r2, hds', hd2, ⟨p2, rfl, hp2⟩⟩ := AtL.get hD2 (i := 1) rfl
            rw [hds] at hds'
            cases hds'
            rw [decide_eq_true (by rw [hdl]; rfl)]
            walk_at "go"
            refine v_ixL hds (atN (i := 0) rfl hd1) ?_
            walk_at "go"
            refine v_ixT hp1 (atN (i := 0) rfl rfl) ?_
            walk_at "go"
            refine v_ixL hds (atN (i := 1) rfl hd2) ?_
            walk_at "go"
            refine v_ixT hp2 (atN (i := 1) rfl rfl) ?_
            walk_at "go"
            refine v_ixL hds (atN (i := 0) rfl hd1) ?_
            walk_at "go"
            refine v_ixT hp1 (atN (i := 1) rfl rfl) ?_
            walk_at "go"
            refine v_ixL hds (atN (i := 1) rfl hd2) ?_
            walk_at "go"
            refine v_ixT hp2 (atN (i := 0) rfl rfl) ?_
            walk_at "go"
            rw [decide_eq_true (hr2 l2 rfl)]
            refine iteNT ?_
            exact main
    rintro σ' H' ⟨rv, rfl, sC, hrv⟩
    walk_at "go"
    rcases hrv with ⟨rfl, hno⟩ | ⟨p, u, w, rfl, hp, hsol⟩
    · rw [decide_eq_true rfl]
      walk_at "go"
      exact q1 _ sC hno
    · rw [decide_eq_false (by intro k; cases k)]
      walk_at "go"
      refine rd_within (hB.same sC) hp rfl (by show 2 ≤ 100; omega) fun H4 s4 => ?_
      walk_at "go"
      cases hin : inB [(lo 0, hi 0), (lo 1, hi 1)] [u, w] with
      | false =>
        walk_at "go"
        refine q1 _ (sC.trans s4) fun u' w' h => ?_
        have := (hsol u' w' h).1.1
        rw [hin] at this
        cases this
      | true =>
        walk_at "go"
        have hbox := inB2.mp hin
        have l0 := hlo 0 (by decide)
        have l1 := hlo 1 (by decide)
        have sD := sC.trans s4
        refine rd_solves T (FsAt.same (K := K) ⟨vs, hv, hvl, hvr⟩ sD) (fun ts h => (hfs ts h).1) (sD _ _ hg) (sD _ _ hm) (s4 _ _ hp) rfl (fun k hk => ?_) hfl (by omega) fun H5 s5 => ?_
        · simp at hk
          unfold Sm
          rcases hk with rfl | rfl <;> omega
        walk_at "go"
        cases hso : solv [x, z] fs made [u, w] with
        | false =>
          walk_at "go"
          refine q1 _ (sD.trans s5) fun u' w' h => ?_
          have := (hsol u' w' h).1.2
          rw [hso] at this
          cases this
        | true =>
          walk_at "go"
          exact q2 _ u w _ (sD.trans s5) (s5 _ _ (s4 _ _ hp)) ⟨hin, hso⟩ fun u' w' h => (hsol u' w' h).2
end
end Lw

namespace Lw
open PySem PySem.Spec PyProof.Rows L2 G
def sol1 (x : Str) (fs : List (List Tm)) (made : List Int) (lo hi u : Int) : Prop := inB [(lo, hi)] [u] = true ∧ solv [x] fs made [u] = true
theorem inB1 {lo hi u : Int} : inB [(lo, hi)] [u] = true ↔ (lo ≤ u ∧ u ≤ hi) := by
  unfold inB
  simp
theorem solv1_iff {x : Str} {fs : List (List Tm)} {made : List Int} {u : Int} : solv [x] fs made [u] = true ↔ ∀ p ∈ fs.zip made, fac p.1 x * u = p.2 - alone p.1 := by
  unfold solv
  rw [List.all_eq_true]
  constructor
  · intro h p hp
    have h := of_decide_eq_true (h _ (List.mem_map.mpr ⟨p, hp, rfl⟩))
    unfold val zs at h
    simp at h
    omega
  · intro h b hb
    obtain ⟨p, hp, rfl⟩ := List.mem_map.mp hb
    have h := h _ hp
    refine decide_eq_true ?_
    unfold val zs
    simp
    omega
section
variable {K : PySem.W.Frag} {H : Hp} {Q : VK} {E : XK} {mg : Str → Option Value}
theorem rd_one_source (T : Tx K mg) {f g B m A : Addr} {fs : List (List Tm)} {x : Str} {made : List Int} {lo hi : Int} {t0 : Int}
    (hf : FsAt K H f fs) (hg : NsAt H g [x]) (hB : BsAt H B [(lo, hi)]) (hm : IsAt H m made) (hA : IsAt H A [t0])
    (hfs : ∀ ts ∈ fs, SmF ts) (hfl : fs.length = made.length) (hl2 : fs.length ≤ 2) (hlo : lo.natAbs < 1000 ∧ hi.natAbs < 1000) (hle : lo ≤ hi)
    (q1 : ∀ H', Same H H' → (∀ u, ¬ sol1 x fs made lo hi u) → Q .non H')
    (q2 : ∀ p u H', Same H H' → IsAt H' p [u] → sol1 x fs made lo hi u → (∀ u', sol1 x fs made lo hi u' → ¬ lt1 t0 u' u) → Q (.ref p) H') :
    sp_one_source K [.ref f, .ref g, .ref B, .ref m, .ref A] H Q E := by
  refine ⟨rfl, ?_⟩
  unfold t_one_source
  walk_at "go"
  obtain ⟨bs, bv, hb, hbi, ⟨br, rfl, hbr⟩⟩ := AtL.get hB (i := 0) rfl
  refine v_ixL hb (atN (i := 0) rfl hbi) ?_
  refine g_gtup hbr rfl ?_
  walk_at "go"
  refine v_ixL hA (atN (i := 0) rfl rfl) ?_
  walk_at "go"
  refine rd_clamp ?_
  walk_at "go"
  intro p0 hp0
  walk_at "go"
  refine g_zip ?_
  walk_at "go"
  obtain ⟨vs, hv, hvl, hvr⟩ := hf
  have s0 : Same H (upd H p0 (.lst [.int (clampI lo hi t0)])) := same_new hp0
  refine v_zip (SqL.of (s0 _ _ hv)) (SqL.of (s0 _ _ hm)) ?_
  have rest : ∀ (σ : L2.St) (H1 : Hp) (p : Addr) (u : Int) (v8 v9 v10 : Option V), σ = [some (.ref f), some (.ref g), some (.ref B), some (.ref m), some (.ref A), some (.int lo), some (.int hi), some (.ref p), v8, v9, v10] → Same H H1 → IsAt H1 p [u] →
      (∀ u', sol1 x fs made lo hi u' → sol1 x fs made lo hi u ∧ ¬ lt1 t0 u' u) → tSeq (tIfS (tAnd (tTru K (tCallSD (sp_within K) [] Ez (tCons (tVar 2) (tCons (tVar 7) tNil)))) (tTru K (tCallSD (sp_solves K) [] Ez (tCons (tVar 0) (tCons (tVar 1) (tCons (tVar 3) (tCons (tVar 7) tNil))))))) (tRet (tVar 7)) tNext) (tRet (tC .non))
        ⟨fun _ H' => Q .non H', Q, fun _ _ => False, fun _ _ => False⟩ σ H1 := by
    rintro σ H1 p u v8 v9 v10 rfl sC hp hsol
    walk_at "go"
    refine rd_within (hB.same sC) hp rfl (by show 1 ≤ 100; omega) fun H4 s4 => ?_
    walk_at "go"
    cases hin : inB [(lo, hi)] [u] with
    | false =>
      walk_at "go"
      refine q1 _ (sC.trans s4) fun u' h => ?_
      have := (hsol u' h).1.1
      rw [hin] at this
      cases this
    | true =>
      walk_at "go"
      have hbox := inB1.mp hin
      have sD := sC.trans s4
      refine rd_solves T (FsAt.same (K := K) ⟨vs, hv, hvl, hvr⟩ sD) (fun ts h => (hfs ts h).1) (sD _ _ hg) (sD _ _ hm) (s4 _ _ hp) rfl (fun k hk => ?_) hfl (by omega) fun H5 s5 => ?_
      · simp at hk
        unfold Sm
        rcases hk with rfl
        omega
      walk_at "go"
      cases hso : solv [x] fs made [u] with
      | false =>
        walk_at "go"
        refine q1 _ (sD.trans s5) fun u' h => ?_
        have := (hsol u' h).1.2
        rw [hso] at this
        cases this
      | true =>
        walk_at "go"
        exact q2 _ u _ (sD.trans s5) (s5 _ _ (s4 _ _ hp)) ⟨hin, hso⟩ fun u' h => (hsol u' h).2
  refine l_zip (xs := vs) (ys := made.map V.int) (by rw [List.length_map, hvl]; exact hfl) (fun i σ H' => ∃ v8 v9 v10 : Option V, σ = [some (.ref f), some (.ref g), some (.ref B), some (.ref m), some (.ref A), some (.int lo), some (.int hi), some (.ref p0), v8, v9, v10] ∧ Same (upd H p0 (.lst [.int (clampI lo hi t0)])) H' ∧ ∀ p ∈ (fs.zip made).take i, fac p.1 x = 0)
    ⟨none, none, none, rfl, fun _ _ h => h, fun p h => by cases h⟩ (fun i σ H' p => ?_) ?_ ?_
  · obtain ⟨_, _, _, _, s, _⟩ := p
    exact ⟨SqL.of (s _ _ (s0 _ _ hv)), SqL.of (s _ _ (s0 _ _ hm))⟩
  · rintro i x' y' R σ H' hx' hy' ⟨v8, v9, v10, rfl, s, hz0⟩ hR
    have h1 := lt_of_get hx'
    have h2 := lt_of_get hy'
    rw [List.length_map] at h2
    rw [List.getElem?_map, List.getElem?_eq_getElem h2] at hy'
    cases hy'
    have hb' : fs[i]? = some fs[i] := List.getElem?_eq_getElem (by omega)
    obtain ⟨o, rfl, ho⟩ := hvr i x' _ hx' hb'
    have hzi : (fs.zip made)[i]? = some (fs[i], made[i]) := by
      rw [List.getElem?_eq_getElem (by rw [List.length_zip]; omega), List.getElem_zip]
    have hsf := hfs _ (List.getElem_mem (l := fs) (n := i) (by omega))
    refine g_gtup upd_same rfl ?_
    walk_at "go"
    have s1 : Same H (upd H' R (.tup [.ref o, .int made[i]])) := (s0.trans s).trans (same_new hR)
    have ho1 := ho.same s1
    obtain ⟨dx, tl, hoo, _⟩ := id ho1
    refine v_meth hoo rfl ?_
    walk_at "go"
    refine v_ixL (s1 _ _ hg) (atN (i := 0) rfl rfl) ?_
    walk_at "go"
    refine rd_factor_of T ho1 hsf.1 fun H2 s2 => ?_
    walk_at "go"
    by_cases hc : fac fs[i] x = 0
    · rw [decide_eq_true hc]
      walk_at "go"
      refine ⟨_, _, _, rfl, (s.trans (same_new hR)).trans s2, fun p hp => ?_⟩
      rw [take1 hzi] at hp
      rcases List.mem_append.mp hp with h | h
      · exact hz0 p h
      · rw [List.mem_singleton.mp h]; exact hc
    · rw [decide_eq_false hc]
      walk_at "go"
      refine v_meth (s2 _ _ hoo) rfl ?_
      walk_at "go"
      refine rd_alone T (ho1.same s2) hsf.1 fun H3 s3 => ?_
      walk_at "go"
      have hfb := hsf.2.1 x
      refine v_divN ⟨hc, by omega⟩ ?_
      walk_at "go"
      intro p hp
      refine g_brk ?_
      refine rest _ _ p _ _ _ _ rfl (((s1.trans s2).trans s3).trans (same_new hp)) upd_same fun u' h => ?_
      have e : u' = (made[i] - alone fs[i]).fdiv (fac fs[i] x) := Int.eq_fdiv_of_mul_eq_right hc (solv1_iff.mp h.2 _ (List.mem_of_getElem? hzi))
      rw [← e]
      exact ⟨h, lt1_irr⟩
  · rintro σ H' ⟨v8, v9, v10, rfl, s, hz0⟩
    refine rest _ _ p0 (clampI lo hi t0) _ _ _ rfl (s0.trans s) (s _ _ upd_same) fun u' h => ?_
    have hc := clamp_eq (x := t0) hle
    have hb := inB1.mp h.1
    rw [takeAll (by rw [List.length_zip]; omega)] at hz0
    refine ⟨⟨inB1.mpr ⟨hc.1, hc.2.1⟩, solv1_iff.mpr fun p hp => ?_⟩, lt1_clamp hb.1 hb.2⟩
    have := solv1_iff.mp h.2 p hp
    rw [hz0 p hp, Int.zero_mul] at this
    rw [hz0 p hp, Int.zero_mul]
    exact this
end
end Lw

namespace Lw
open PySem PySem.Spec PyProof.Rows L2 G
def oV : Option Int → V
  | none => .non
  | some i => .int i
def OlAt (H : Hp) (v : V) : Option (List (Option Int)) → Prop
  | none => v = .non
  | some os => ∃ l, v = .ref l ∧ H l = some (.lst (os.map oV))
theorem OlAt.same {H H' : Hp} {v : V} {old : Option (List (Option Int))} (h : OlAt H v old) (s : Same H H') : OlAt H' v old := by
  cases old with
  | none => exact h
  | some os => obtain ⟨l, e, h⟩ := h; exact ⟨l, e, s _ _ h⟩
def tgt (bs : List (Int × Int)) : Option (List (Option Int)) → List Int
  | none => bs.map (·.1)
  | some os => if os.any (fun o => decide (oV o = .non)) then bs.map (·.1) else os.map (·.getD 0)
theorem tgt_T {bs : List (Int × Int)} {os : List (Option Int)} (h : os.any (fun o => decide (oV o = .non)) = true) : tgt bs (some os) = bs.map (·.1) := if_pos h
theorem tgt_F {bs : List (Int × Int)} {os : List (Option Int)} (h : os.any (fun o => decide (oV o = .non)) = false) : tgt bs (some os) = os.map (·.getD 0) := if_neg (by rw [h]; decide)
theorem oV_get {os : List (Option Int)} (h : os.any (fun o => decide (oV o = .non)) = false) : os.map oV = (os.map (·.getD 0)).map V.int := by
  rw [List.map_map]
  refine List.map_congr_left fun o ho => ?_
  have := List.any_eq_false.mp h o ho
  cases o with
  | none => exact absurd rfl (fun z => this (decide_eq_true z))
  | some i => rfl
section
variable {K : PySem.W.Frag} {H : Hp} {Q : VK} {E : XK} {mg : Str → Option Value}
theorem rd_ns {f g B m : Addr} {ov : V} {bs : List (Int × Int)} {nm : List Str} {old : Option (List (Option Int))} (hg : NsAt H g nm) (hB : BsAt H B bs) (hO : OlAt H ov old) (hbl : bs.length ≤ 100) (hol : ∀ os, old = some os → os.length ≤ 100)
    (q : ∀ A H', Same H H' → IsAt H' A (tgt bs old) → if nm.length = 1 then sp_one_source K [.ref f, .ref g, .ref B, .ref m, .ref A] H' Q (fun _ _ _ => False) else sp_two_sources K [.ref f, .ref g, .ref B, .ref m, .ref A] H' Q (fun _ _ _ => False)) :
    sp_nearest_source K [.ref f, .ref g, .ref B, .ref m, ov] H Q E := by
  refine ⟨rfl, ?_⟩
  unfold t_nearest_source
  walk_at "go"
  refine g_cut (fun σ' H' => ∃ A, σ' = [some (.ref f), some (.ref g), some (.ref B), some (.ref m), some ov, some (.ref A), none, none, none] ∧ Same H H' ∧ IsAt H' A (tgt bs old)) ?_ ?_
  · obtain ⟨vs, hv, hvl, hvr⟩ := hB
    have lows : ∀ H1, Same H H1 → tgt bs old = bs.map (·.1) → tAsg (tLc (iAny K (tVar 2)) (gTup K 2 (gCons (gName 7) (gCons (gName 8) gNil))) tYes (tVar 7) [7, 8]) (gName 5) ⟨fun σ' H' => ∃ A, σ' = [some (.ref f), some (.ref g), some (.ref B), some (.ref m), some ov, some (.ref A), none, none, none] ∧ Same H H' ∧ IsAt H' A (tgt bs old), Q, fun _ _ => False, fun _ _ => False⟩
        [some (.ref f), some (.ref g), some (.ref B), some (.ref m), some ov, some ov, none, none, none] H1 := by
      intro H1 s1 et
      walk_at "go"
      refine g_lc (gi_list ?_)
      walk_at "go"
      refine v_ovL (SqL.of (s1 _ _ hv)) ?_
      intro D hD
      refine c_list (fun i H' => Same H1 H' ∧ H' D = some (.lst (((bs.map (·.1)).take i).map V.int))) ⟨same_new hD, upd_same⟩ (fun i H' _ p => SqL.of (p.1 _ _ (s1 _ _ hv))) ?_ ?_
      · rintro i x H' hx ⟨s, hd⟩
        have hi := lt_of_get hx
        have ht : bs[i]? = some bs[i] := List.getElem?_eq_getElem (by omega)
        obtain ⟨r, rfl, hr⟩ := hvr i x _ hx ht
        walk_at "go"
        refine g_gtup (s _ _ (s1 _ _ hr)) rfl ?_
        walk_at "go"
        refine ⟨rfl, ?_⟩
        walk_at "go"
        refine v_put hd (by rw [List.length_map]; refine small (Nat.le_trans (List.length_take_le' _ _) ?_); rw [List.length_map]; omega) ⟨upN hD s, ?_⟩
        rw [upd_same, take1 (x := bs[i].1) (by rw [List.getElem?_map, ht]; rfl), List.map_append]
        rfl
      · rintro H' ⟨s, hd⟩
        refine ⟨D, rfl, s1.trans s, ?_⟩
        rw [takeAll (by rw [List.length_map]; omega)] at hd
        rw [et]
        exact hd
    walk_at "go"
    cases old with
    | none =>
      rw [show ov = .non from hO] at lows ⊢
      rw [decide_eq_true rfl]
      refine iteT ?_
      refine iteT ?_
      exact lows _ (fun _ _ h => h) rfl
    | some os =>
      obtain ⟨l, rfl, hl⟩ := hO
      rw [decide_eq_false (by intro z; cases z)]
      walk_at "go"
      refine g_lc (gi_list ?_)
      walk_at "go"
      refine v_ovL (SqL.of hl) ?_
      intro D hD
      refine c_list (fun i H' => Same H H' ∧ H' D = some (.lst (((os.map fun o => decide (oV o = .non)).take i).map V.bl))) ⟨same_new hD, upd_same⟩ (fun i H' _ p => SqL.of (p.1 _ _ hl)) ?_ ?_
      · rintro i x H' hx ⟨s, hd⟩
        have hi := lt_of_get hx
        rw [List.length_map] at hi
        rw [List.getElem?_map, List.getElem?_eq_getElem hi] at hx
        cases hx
        walk_at "go"
        refine ⟨rfl, ?_⟩
        walk_at "go"
        have := hol os rfl
        refine v_put hd (by rw [List.length_map]; refine small (Nat.le_trans (List.length_take_le' _ _) ?_); rw [List.length_map]; omega) ⟨upN hD s, ?_⟩
        rw [upd_same, take1 (x := decide (oV os[i] = .non)) (by rw [List.getElem?_map, List.getElem?_eq_getElem hi]; rfl), List.map_append]
        rfl
      · rintro H' ⟨s, hd⟩
        rw [takeAll (by rw [List.length_map, List.length_map]; omega)] at hd
        walk_at "go"
        refine v_any hd ?_
        walk_at "go"
        rw [List.any_map]
        cases ha : os.any (fun o => decide (oV o = .non)) with
        | true =>
          rw [show os.any (id ∘ fun o => decide (oV o = .non)) = true from ha]
          refine iteT ?_
          exact lows _ s (tgt_T ha)
        | false =>
          rw [show os.any (id ∘ fun o => decide (oV o = .non)) = false from ha]
          walk_at "go"
          refine ⟨l, rfl, s, ?_⟩
          unfold IsAt
          rw [tgt_F ha, ← oV_get ha]
          exact s _ _ hl
  rintro σ' H' ⟨A, rfl, s, hA⟩
  have q := q A H' s hA
  walk_at "go"
  refine v_lenL (s _ _ hg) ?_
  walk_at "go"
  rw [List.length_map]
  by_cases h1 : nm.length = 1
  · rw [if_pos h1] at q
    rw [decide_eq_true (by omega)]
    walk_at "go"
    exact q
  · rw [if_neg h1] at q
    rw [decide_eq_false (by omega)]
    walk_at "go"
    exact q
end
end Lw

namespace Lw
open PySem PySem.Spec PyProof.Rows L2 G
def okT (nm : List Str) (t : Tm) : Prop := -4 ≤ t.1 ∧ t.1 ≤ 4 ∧ (t.2 = none ∨ ∃ s ∈ nm, t.2 = some s)
def tv (nm : List Str) (row : List Int) (t : Tm) : Int := match t.2 with
  | none => t.1
  | some s => t.1 * row.getD (nm.findIdx fun n => decide (n = s)) 0
def lval (nm : List Str) (row : List Int) (ts : List Tm) : Int := (ts.map (tv nm row)).sum
theorem fac_cons (t : Tm) (ts : List Tm) (n : Str) : fac (t :: ts) n = (if t.2 = some n then t.1 else 0) + fac ts n := by
  unfold fac
  by_cases h : t.2 = some n
  · rw [List.filter_cons_of_pos (by exact decide_eq_true h), if_pos h]; rfl
  · rw [List.filter_cons_of_neg (by rw [decide_eq_false h]; decide), if_neg h, Int.zero_add]
theorem alone_cons (t : Tm) (ts : List Tm) : alone (t :: ts) = (if t.2 = none then t.1 else 0) + alone ts := by
  unfold alone
  by_cases h : t.2 = none
  · rw [List.filter_cons_of_pos (by exact decide_eq_true h), if_pos h]; rfl
  · rw [List.filter_cons_of_neg (by rw [decide_eq_false h]; decide), if_neg h, Int.zero_add]
theorem fac_snoc (ts : List Tm) (t : Tm) (n : Str) : fac (ts ++ [t]) n = fac ts n + (if t.2 = some n then t.1 else 0) := by
  induction ts with
  | nil => rw [List.nil_append, fac_cons]; show _ + 0 = 0 + _; omega
  | cons a r ih => rw [List.cons_append, fac_cons, fac_cons, ih]; omega
theorem smF {nm : List Str} {ts : List Tm} (h : ∀ t ∈ ts, okT nm t) (hl : ts.length ≤ 100) : SmF ts := by
  have key : ∀ ts : List Tm, (∀ t ∈ ts, okT nm t) → (∀ n, (fac ts n).natAbs ≤ 4 * ts.length) ∧ (alone ts).natAbs ≤ 4 * ts.length := by
    intro ts
    induction ts with
    | nil => intro _; exact ⟨fun n => by show (0 : Int).natAbs ≤ _; simp, by show (0 : Int).natAbs ≤ _; simp⟩
    | cons t r ih =>
      intro h
      have k := h t (List.mem_cons_self)
      have i := ih fun t ht => h t (List.mem_cons_of_mem _ ht)
      refine ⟨fun n => ?_, ?_⟩
      · rw [fac_cons, List.length_cons]
        have := i.1 n
        unfold okT at k
        split <;> omega
      · rw [alone_cons, List.length_cons]
        have := i.2
        unfold okT at k
        split <;> omega
  have k := key ts h
  exact ⟨hl, fun n => by have := k.1 n; omega, by have := k.2; omega⟩
theorem lval1 {x : Str} {u : Int} : ∀ {ts : List Tm}, (∀ t ∈ ts, okT [x] t) → lval [x] [u] ts = val [x] [u] ts
  | [], _ => by unfold lval val zs alone fac; simp
  | t :: ts, h => by
    have ih := lval1 (x := x) (u := u) (ts := ts) fun t ht => h t (List.mem_cons_of_mem _ ht)
    have k := h t List.mem_cons_self
    unfold lval val zs at *
    rw [List.map_cons, List.sum_cons, ih]
    simp only [List.zip_cons_cons, List.zip_nil_left, List.map_cons, List.map_nil, List.sum_cons, List.sum_nil]
    rw [alone_cons, fac_cons]
    obtain ⟨f, o⟩ := t
    rcases k.2.2 with e | ⟨s, hs, e⟩
    · cases e
      simp [tv]; omega
    · cases e
      have := List.mem_singleton.mp hs
      subst this
      simp [tv, Int.add_mul]; omega
theorem lval2 {x z : Str} {u w : Int} (hxz : x ≠ z) : ∀ {ts : List Tm}, (∀ t ∈ ts, okT [x, z] t) → lval [x, z] [u, w] ts = val [x, z] [u, w] ts
  | [], _ => by unfold lval val zs alone fac; simp
  | t :: ts, h => by
    have ih := lval2 (x := x) (u := u) (w := w) hxz (ts := ts) fun t ht => h t (List.mem_cons_of_mem _ ht)
    have k := h t List.mem_cons_self
    unfold lval val zs at *
    rw [List.map_cons, List.sum_cons, ih]
    simp only [List.zip_cons_cons, List.zip_nil_left, List.map_cons, List.map_nil, List.sum_cons, List.sum_nil]
    rw [alone_cons, fac_cons, fac_cons]
    obtain ⟨f, o⟩ := t
    rcases k.2.2 with e | ⟨s, hs, e⟩
    · cases e
      simp [tv]; omega
    · cases e
      simp at hs
      rcases hs with rfl | rfl
      · simp [tv, Int.add_mul, hxz, List.findIdx_cons]; omega
      · simp [tv, Int.add_mul, hxz, List.findIdx_cons, Ne.symm hxz]; omega
/-! the order of rows -/
def cmpO (t : Option (List Int)) (k : Nat) (u v : Int) : Prop := match t with
  | none => u < v
  | some ts => lt1 (ts.getD k 0) u v
def LtR (t : Option (List Int)) (r b : List Int) : Prop := ∃ k, k < r.length ∧ (∀ j, j < k → r.getD j 0 = b.getD j 0) ∧ cmpO t k (r.getD k 0) (b.getD k 0)
theorem cmp_irr {t : Option (List Int)} {k : Nat} {u : Int} : ¬ cmpO t k u u := by
  unfold cmpO lt1
  split <;> omega
theorem cmp_tr {t : Option (List Int)} {k : Nat} {u v w : Int} (h : cmpO t k u v) (h2 : cmpO t k v w) : cmpO t k u w := by
  cases t with
  | none => exact Int.lt_trans h h2
  | some ts =>
    have h : lt1 (ts.getD k 0) u v := h
    have h2 : lt1 (ts.getD k 0) v w := h2
    show lt1 (ts.getD k 0) u w
    unfold lt1 at *
    omega
theorem ltr_at {t : Option (List Int)} {r b : List Int} {k : Nat} (hk : k < r.length) (he : ∀ j, j < k → r.getD j 0 = b.getD j 0) (hn : r.getD k 0 ≠ b.getD k 0) : LtR t r b ↔ cmpO t k (r.getD k 0) (b.getD k 0) := by
  constructor
  · rintro ⟨k', h1, h2, h3⟩
    rcases Nat.lt_trichotomy k k' with h | h | h
    · exact absurd (h2 k h) hn
    · subst h; exact h3
    · rw [he k' h] at h3
      exact absurd h3 cmp_irr
  · exact fun h => ⟨k, hk, he, h⟩
theorem ltr_eq {t : Option (List Int)} {r b : List Int} (he : ∀ j, j < r.length → r.getD j 0 = b.getD j 0) : ¬ LtR t r b := by
  rintro ⟨k', h1, h2, h3⟩
  rw [he k' h1] at h3
  exact absurd h3 cmp_irr
theorem ltr_tr {t : Option (List Int)} {x y z : List Int} (hl : x.length = y.length) (h1 : LtR t x y) (h2 : LtR t y z) : LtR t x z := by
  obtain ⟨k1, a1, b1, c1⟩ := h1
  obtain ⟨k2, a2, b2, c2⟩ := h2
  rcases Nat.lt_trichotomy k1 k2 with h | h | h
  · exact ⟨k1, a1, fun j hj => (b1 j hj).trans (b2 j (by omega)), by rw [← b2 k1 h]; exact c1⟩
  · subst h
    exact ⟨k1, a1, fun j hj => (b1 j hj).trans (b2 j hj), cmp_tr c1 c2⟩
  · exact ⟨k2, by omega, fun j hj => (b1 j (by omega)).trans (b2 j hj), by rw [b1 k2 h]; exact c2⟩
def tOf : Option (List (Option Int)) → Option (List Int)
  | none => none
  | some os => if os.any (fun o => decide (oV o = .non)) then none else some (os.map (·.getD 0))
section
variable {K : PySem.W.Frag} {H : Hp} {Q : VK} {E : XK} {mg : Str → Option Value}
theorem rd_pick {d p : Addr} {xs : List V} (hd : Dr d H) (hp : H p = some (.lst xs)) (hn : 0 < xs.length) (hn2 : xs.length < 1000000) (hpd : p ≠ d) (q : ∀ (i : Nat) (v : V) (H' : Hp), xs[i]? = some v → Dr d H' → Sb d H H' → Q v H') : sp__law_pick K [.ref d, .ref p] H Q E := by
  refine ⟨rfl, ?_⟩
  unfold t__law_pick
  walk_at "go"
  refine v_lenL hp ?_
  walk_at "go"
  refine rd_draw hd ⟨by omega, by omega⟩ fun v H' h0 h1 hd' hs => ?_
  obtain ⟨i, rfl⟩ := Int.eq_ofNat_of_zero_le h0
  have hi : i < xs.length := by omega
  exact v_ixL (hs _ _ hpd hp) (atN (i := i) rfl (List.getElem?_eq_getElem hi)) (q i _ _ (List.getElem?_eq_getElem hi) hd' hs)
theorem rd_value {l g r : Addr} {ts : List Tm} {nm : List Str} {row : List Int} (h : TsAt H l ts) (hg : NsAt H g nm) (hr : IsAt H r row) (ok : ∀ t ∈ ts, okT nm t) (he : nm.length = row.length) (q : Q (.int (lval nm row ts)) H) : sp__law_value K [.ref l, .ref g, .ref r] H Q E := by
  refine ⟨rfl, ?_⟩
  unfold t__law_value
  walk_at "go"
  obtain ⟨vs, hv, hvl, hvr⟩ := h
  refine gi_list ?_
  walk_at "go"
  refine v_ovL (SqL.of hv) ?_
  refine l_list (fun i σ H' => ∃ v4 : Option V, σ = [some (.ref l), some (.ref g), some (.ref r), some (.int (((ts.map (tv nm row)).take i).sum)), v4] ∧ H' = H) ⟨none, rfl, rfl⟩ (fun i σ H' _ ⟨_, _, e⟩ => by rw [e]; exact SqL.of hv) ?_ ?_
  · rintro i x σ H' hx ⟨v4, rfl, rfl⟩
    have hi := lt_of_get hx
    have ht : ts[i]? = some ts[i] := List.getElem?_eq_getElem (by omega)
    obtain ⟨a, rfl, ha⟩ := hvr i x _ hx ht
    have hok := ok _ (List.getElem_mem (l := ts) (n := i) (by omega))
    have hz : (ts.map (tv nm row))[i]? = some (tv nm row ts[i]) := by rw [List.getElem?_map, ht]; rfl
    walk_at "go"
    refine v_ixT ha (atN (i := 1) rfl rfl) ?_
    walk_at "go"
    rcases hok.2.2 with e | ⟨s, hs, e⟩
    · rw [e, show nV none = V.non from rfl, decide_eq_true rfl]
      walk_at "go"
      refine v_ixT ha (atN (i := 0) rfl rfl) ?_
      walk_at "go"
      refine ⟨some (.ref a), ?_, rfl⟩
      rw [take1 hz, List.sum_append, List.sum_singleton, show tv nm row ts[i] = ts[i].1 by unfold tv; rw [e]]
      rfl
    · rw [e, show nV (some s) = V.str s from rfl, decide_eq_false (by intro z; cases z)]
      walk_at "go"
      refine v_ixT ha (atN (i := 0) rfl rfl) ?_
      walk_at "go"
      refine g_tyL hg ?_
      walk_at "go"
      refine v_ixT ha (atN (i := 1) rfl rfl) ?_
      walk_at "go"
      rw [e, show nV (some s) = V.str s from rfl]
      have hp : nm.findIdx (fun n => decide (n = s)) < nm.length := List.findIdx_lt_length_of_exists ⟨s, hs, decide_eq_true rfl⟩
      have hfl : (nm.map V.str).all flatV = true := by rw [List.all_map]; exact List.all_eq_true.mpr fun _ _ => rfl
      refine ⟨g, nm.map V.str, .str s, nm.findIdx (fun n => decide (n = s)), .str s, rfl, rfl, SqL.of hg, rfl, hfl, ?_, ?_, fun m z' hm hz' => ?_, ?_⟩
      · rw [List.getElem?_map, List.getElem?_eq_getElem hp]
        have := List.findIdx_getElem (w := hp)
        rw [of_decide_eq_true this]
        rfl
      · exact decide_eq_true rfl
      · rw [List.getElem?_map, List.getElem?_eq_getElem (by omega)] at hz'
        cases hz'
        have := List.not_of_lt_findIdx hm
        exact decide_eq_false (by intro z; rw [decide_eq_true z] at this; cases this)
      have hr' : (row.map V.int)[nm.findIdx (fun n => decide (n = s))]? = some (.int (row.getD (nm.findIdx fun n => decide (n = s)) 0)) := by
        rw [List.getElem?_map, List.getElem?_eq_getElem (by omega), List.getD_eq_getElem?_getD, List.getElem?_eq_getElem (by omega)]
        rfl
      refine v_ixL hr (atN (i := nm.findIdx (fun n => decide (n = s))) rfl hr') ?_
      have b1 := hok.1
      have b2 := hok.2.1
      refine v_mulI (.inl (by omega)) ?_
      walk_at "go"
      refine ⟨some (.ref a), ?_, rfl⟩
      rw [take1 hz, List.sum_append, List.sum_singleton, show tv nm row ts[i] = ts[i].1 * row.getD (nm.findIdx fun n => decide (n = s)) 0 by unfold tv; rw [e]]
      rfl
  · rintro σ H' ⟨v4, rfl, rfl⟩
    walk_at "go"
    rw [takeAll (by rw [List.length_map]; omega)]
    exact q
end
end Lw

namespace Lw
open PySem PySem.Spec PyProof.Rows L2 G
theorem inV_non {os : List (Option Int)} : inV .non (os.map oV) = os.any fun o => decide (oV o = .non) := by
  unfold inV
  rw [List.any_map]
  congr 1
  funext o
  cases o with
  | none => rfl
  | some i => rfl
theorem oV_flat {os : List (Option Int)} : (os.map oV).all flatV = true := by
  rw [List.all_map]
  exact List.all_eq_true.mpr fun o _ => by cases o <;> rfl
theorem tOf_T {os : List (Option Int)} (h : os.any (fun o => decide (oV o = .non)) = true) : tOf (some os) = none := if_pos h
theorem tOf_F {os : List (Option Int)} (h : os.any (fun o => decide (oV o = .non)) = false) : tOf (some os) = some (os.map (·.getD 0)) := if_neg (by rw [h]; decide)
theorem getD_at {xs : List Int} {k : Nat} (h : k < xs.length) : (xs.map V.int)[k]? = some (.int (xs.getD k 0)) := by
  rw [List.getElem?_map, List.getD_eq_getElem?_getD, List.getElem?_eq_getElem h]
  rfl
section
variable {K : PySem.W.Frag} {H : Hp} {Q : VK} {E : XK} {mg : Str → Option Value}
theorem rd_betterN {r : Addr} {ov : V} (q : Q (.bl true) H) : sp__law_better K [.ref r, .non, ov] H Q E := by
  refine ⟨rfl, ?_⟩
  unfold t__law_better
  walk_at "go"
  rw [decide_eq_true rfl]
  walk_at "go"
  exact q
theorem rd_better {r b : Addr} {ov : V} {row best : List Int} {old : Option (List (Option Int))} (hr : IsAt H r row) (hb : IsAt H b best) (hO : OlAt H ov old) (he : row.length = best.length) (hl : row.length ≤ 1000) (ho : ∀ os, old = some os → os.length = row.length)
    (q : ∀ c, (c = true ↔ LtR (tOf old) row best) → Q (.bl c) H) : sp__law_better K [.ref r, .ref b, ov] H Q E := by
  refine ⟨rfl, ?_⟩
  unfold t__law_better
  walk_at "go"
  rw [decide_eq_false (by intro z; cases z)]
  walk_at "go"
  refine v_lenL hr ?_
  walk_at "go"
  rw [List.length_map]
  refine g_rngN (n := row.length) (by omega) ?_
  refine l_range (fun i σ H' => ∃ v3 : Option V, σ = [some (.ref r), some (.ref b), some ov, v3] ∧ H' = H ∧ ∀ j, j < i → row.getD j 0 = best.getD j 0) ⟨none, rfl, rfl, fun j h => absurd h (Nat.not_lt_zero _)⟩ ?_ ?_
  · rintro i σ H' hi ⟨v3, rfl, rfl, hj⟩
    have h1 := getD_at hi
    have h2 := getD_at (show i < best.length by omega)
    have at1 : atI (row.map V.int) (0 + (i : Int)) = some (.int (row.getD i 0)) := atN (i := i) (by omega) h1
    have at2 : atI (best.map V.int) (0 + (i : Int)) = some (.int (best.getD i 0)) := atN (i := i) (by omega) h2
    have nxt : row.getD i 0 = best.getD i 0 → ∀ j, j < i + 1 → row.getD j 0 = best.getD j 0 := fun e j h => by
      by_cases c : j = i
      · rw [c]; exact e
      · exact hj j (by omega)
    have lo : tOf old = none → (tIfS (tTest (tOp (rNeX K) (tOp (rIx K) (tVar 0) (tVar 3)) (tOp (rIx K) (tVar 1) (tVar 3)))) (tRet (tOp (rLtX K) (tOp (rIx K) (tVar 0) (tVar 3)) (tOp (rIx K) (tVar 1) (tVar 3)))) tNext)
        ⟨fun σ H'_1 => ∃ v3 : Option V, σ = [some (.ref r), some (.ref b), some ov, v3] ∧ H'_1 = H' ∧ ∀ j, j < i + 1 → row.getD j 0 = best.getD j 0, Q, fun σ' H'' => tRet (tC (.bl false)) ⟨fun _ H' => Q .non H', Q, fun _ _ => False, fun _ _ => False⟩ σ' H'', fun σ H'_1 => ∃ v3 : Option V, σ = [some (.ref r), some (.ref b), some ov, v3] ∧ H'_1 = H' ∧ ∀ j, j < i + 1 → row.getD j 0 = best.getD j 0⟩
        [some (.ref r), some (.ref b), some ov, some (.int (0 + i))] H' := by
      intro et
      walk_at "go"
      refine v_ixL hr at1 ?_
      walk_at "go"
      refine v_ixL hb at2 ?_
      walk_at "go"
      by_cases hc : row.getD i 0 = best.getD i 0
      · rw [decide_eq_true hc]
        walk_at "go"
        exact ⟨_, rfl, rfl, nxt hc⟩
      · rw [decide_eq_false hc]
        walk_at "go"
        refine v_ixL hr at1 ?_
        walk_at "go"
        refine v_ixL hb at2 ?_
        walk_at "go"
        refine q _ ?_
        rw [ltr_at hi hj hc, decide_eq_true_iff, et]
        exact Iff.rfl
    walk_at "go"
    cases old with
    | none =>
      rw [show ov = .non from hO] at lo ⊢
      rw [decide_eq_true rfl]
      refine iteT ?_
      refine iteT ?_
      exact lo rfl
    | some os =>
      obtain ⟨l, rfl, hol⟩ := hO
      rw [decide_eq_false (by intro z; cases z)]
      walk_at "go"
      refine v_inL (SqL.of hol) rfl oV_flat ?_
      rw [inV_non]
      cases ha : os.any (fun o => decide (oV o = .non)) with
      | true =>
        refine g_k ?_
        refine iteT ?_
        exact lo (tOf_T ha)
      | false =>
        have hol' : IsAt H' l (os.map (·.getD 0)) := by unfold IsAt; rw [← oV_get ha]; exact hol
        have hln := ho os rfl
        have at3 : atI ((os.map (·.getD 0)).map V.int) (0 + (i : Int)) = some (.int ((os.map (·.getD 0)).getD i 0)) := atN (i := i) (by omega) (getD_at (by rw [List.length_map]; omega))
        have et := tOf_F ha
        rw [et] at q
        generalize os.map (·.getD 0) = tt at *
        walk_at "go"
        refine v_ixL hr at1 ?_
        walk_at "go"
        refine v_ixL hol' at3 ?_
        walk_at "go"
        refine v_abs ?_
        walk_at "go"
        refine v_ixL hb at2 ?_
        walk_at "go"
        refine v_ixL hol' at3 ?_
        walk_at "go"
        refine v_abs ?_
        walk_at "go"
        have a1 := absI_eq (row.getD i 0 - tt.getD i 0)
        have a2 := absI_eq (best.getD i 0 - tt.getD i 0)
        unfold absI at a1 a2
        rw [a1, a2]
        by_cases hc : ((row.getD i 0 - tt.getD i 0).natAbs : Int) = ((best.getD i 0 - tt.getD i 0).natAbs : Int)
        · rw [decide_eq_true hc]
          walk_at "go"
          refine v_ixL hr at1 ?_
          walk_at "go"
          refine v_ixL hb at2 ?_
          walk_at "go"
          by_cases hd : row.getD i 0 = best.getD i 0
          · rw [decide_eq_true hd]
            walk_at "go"
            exact ⟨_, rfl, rfl, nxt hd⟩
          · rw [decide_eq_false hd]
            walk_at "go"
            refine v_ixL hr at1 ?_
            walk_at "go"
            refine v_ixL hb at2 ?_
            walk_at "go"
            refine q _ ?_
            rw [ltr_at hi hj hd, decide_eq_true_iff]
            show _ ↔ lt1 (tt.getD i 0) _ _
            unfold lt1
            omega
        · rw [decide_eq_false hc]
          walk_at "go"
          refine v_ixL hr at1 ?_
          walk_at "go"
          refine v_ixL hol' at3 ?_
          walk_at "go"
          refine v_abs ?_
          walk_at "go"
          refine v_ixL hb at2 ?_
          walk_at "go"
          refine v_ixL hol' at3 ?_
          walk_at "go"
          refine v_abs ?_
          walk_at "go"
          rw [a1, a2]
          refine q _ ?_
          have hd : row.getD i 0 ≠ best.getD i 0 := fun e => hc (by rw [e])
          rw [ltr_at hi hj hd, decide_eq_true_iff]
          show _ ↔ lt1 (tt.getD i 0) _ _
          unfold lt1
          omega
  · rintro σ H' ⟨v3, rfl, rfl, hj⟩
    walk_at "go"
    exact q false ⟨fun z => (by cases z), fun z => absurd z (ltr_eq hj)⟩
end
end Lw

namespace Lw
open PySem PySem.Spec PyProof.Rows L2 G
theorem Dr.ne {d a : Addr} {H : Hp} (h : Dr d H) (n : H a = none) : a ≠ d := by
  obtain ⟨xs, _, _, h⟩ := h
  exact fun e => by rw [e, h] at n; cases n
theorem Dr.wm {d : Addr} {H H' : Hp} (h : Dr d H) (s : Same H H') : Same (Wm d H) (Wm d H') := (Same.sb s).wm
theorem Dr.same' {d : Addr} {H H' : Hp} (h : Dr d H) (s : Same H H') : Dr d H' := by
  obtain ⟨xs, a, b, c⟩ := h
  exact ⟨xs, a, b, s _ _ c⟩
/-- a change at a list that is not the draws' -/
theorem wm_upd {d a : Addr} {o : HO} (n : a ≠ d) : Wm d (upd H a o) = upd (Wm d H) a o := by
  funext b
  unfold Wm
  by_cases h : b = a
  · subst h
    rw [if_neg n, upd_same, upd_same]
  · rw [upd_ne h]
    by_cases e : b = d
    · rw [if_pos e, upd_ne h, if_pos e]
    · rw [if_neg e, upd_ne h, if_neg e]
theorem Dr.upd_ne {d a : Addr} {H : Hp} {o : HO} (h : Dr d H) (n : a ≠ d) : Dr d (upd H a o) := by
  obtain ⟨xs, x, y, z⟩ := h
  exact ⟨xs, x, y, by rw [L2.upd_ne (Ne.symm n)]; exact z⟩
section
variable {K : PySem.W.Frag} {H : Hp} {Q : VK} {E : XK} {mg : Str → Option Value}
theorem rd_terms {d g : Addr} {nm : List Str} (hd : Dr d H) (hg : NsAt (Wm d H) g nm) (h0 : 0 < nm.length) (h2 : nm.length ≤ 2)
    (q : ∀ p ts H', H p = none → TsAt (Wm d H') p ts → ts.length ≤ 3 → (∀ t ∈ ts, okT nm t) → Dr d H' → Sb d H H' → Q (.ref p) H') : sp__law_terms K [.ref d, .ref g] H Q E := by
  refine ⟨rfl, ?_⟩
  unfold t__law_terms
  walk_at "go"
  intro p hp
  walk_at "go"
  have hpd := hd.ne hp
  have hd1 : Dr d (upd H p (.lst [])) := hd.upd_ne hpd
  refine rd_draw hd1 ⟨by decide, by decide⟩ fun v H1 v0 v1 hd2 s1 => ?_
  walk_at "go"
  obtain ⟨n, rfl⟩ := Int.eq_ofNat_of_zero_le v0
  have S1 : Same (Wm d H) (Wm d H1) := (Sb.wm (Same.sb (same_new hp))).trans s1.wm
  rw [show (1 : Int) + (n : Int) = ((n + 1 : Nat) : Int) by omega]
  refine g_rngN (n := n + 1) (by omega) ?_
  refine l_range (fun i σ H' => ∃ (ts : List Tm) (v3 : Option V), σ = [some (.ref d), some (.ref g), some (.ref p), v3] ∧ ts.length = i ∧ (∀ t ∈ ts, okT nm t) ∧ Dr d H' ∧ Same (Wm d H) (Wm d H') ∧ AtL (TpAt fun t : Tm => [.int t.1, nV t.2]) (Wm d H') p ts)
    ⟨[], none, rfl, rfl, fun t h => (by cases h), hd2, S1, ⟨[], s1.wm _ _ (Wm.of upd_same hpd), rfl, fun i v x h => (by cases h)⟩⟩ ?_ ?_
  · rintro i σ H' hi ⟨ts, v3, rfl, hl, hok, hd', S, hT⟩
    obtain ⟨vs, hv, hvl, _⟩ := id hT
    walk_at "go"
    refine g_tyL (Wm.same _ _ hv) ?_
    walk_at "go"
    refine rd_draw hd' ⟨by decide, by decide⟩ fun f H2 f0 f1 hd2 s2 => ?_
    walk_at "go"
    intro p1 hp1
    walk_at "go"
    have hg2 := Wm.same _ _ (s2.wm _ _ (S _ _ hg))
    refine v_cat (xs := [V.non]) (zs := nm.map V.str) upd_same (up_new hg2 hp1) (Nat.le_of_lt (small (by simp; omega))) fun p2 hp2 => ?_
    walk_at "go"
    refine v_cat (xs := [V.non] ++ nm.map V.str) (zs := nm.map V.str) upd_same (up_new (up_new hg2 hp1) hp2) (Nat.le_of_lt (small (by simp; omega))) fun p3 hp3 => ?_
    have hd3 : Dr d (upd (upd (upd H2 p1 (.lst [.non])) p2 (.lst ([.non] ++ nm.map V.str))) p3 (.lst ([.non] ++ nm.map V.str ++ nm.map V.str))) := hd2.same' (((same_new hp1).trans (same_new hp2)).trans (same_new hp3))
    walk_at "go"
    have s3 : Same H2 (upd (upd (upd H2 p1 (.lst [.non])) p2 (.lst ([.non] ++ nm.map V.str))) p3 (.lst ([.non] ++ nm.map V.str ++ nm.map V.str))) := ((same_new hp1).trans (same_new hp2)).trans (same_new hp3)
    refine rd_pick hd3 upd_same (by simp) (by simp; omega) ((hd2.same' ((same_new hp1).trans (same_new hp2))).ne hp3) fun k v H3 hk hd4 s4 => ?_
    generalize upd (upd (upd H2 p1 (.lst [.non])) p2 (.lst ([.non] ++ nm.map V.str))) p3 (.lst ([.non] ++ nm.map V.str ++ nm.map V.str)) = H2' at *
    walk_at "go"
    intro p4 hp4
    walk_at "go"
    have SS : Same (Wm d H') (Wm d (upd H3 p4 (.tup [.int (f - 4), v]))) := ((s2.wm.trans (Sb.wm (Same.sb s3))).trans s4.wm).trans (Sb.wm (Same.sb (same_new hp4)))
    refine v_append (Wm.same _ _ (SS _ _ hv)) (by rw [hvl]; exact small (by omega)) ?_
    have ho : ∃ o : Option Str, v = nV o ∧ (o = none ∨ ∃ s ∈ nm, o = some s) := by
      have hm := List.mem_of_getElem? hk
      simp only [List.mem_append, List.mem_singleton, List.mem_map] at hm
      rcases hm with (h | ⟨s, hs, h⟩) | ⟨s, hs, h⟩
      · exact ⟨none, h, .inl rfl⟩
      · exact ⟨some s, h.symm, .inr ⟨s, hs, rfl⟩⟩
      · exact ⟨some s, h.symm, .inr ⟨s, hs, rfl⟩⟩
    obtain ⟨o, rfl, ho⟩ := ho
    have hd5 : Dr d (upd H3 p4 (.tup [.int (f - 4), nV o])) := hd4.same' (same_new hp4)
    have hg3 : p ≠ g := fun e => by
      have := S1 _ _ hg
      rw [← e] at this
      have h2 := s1.wm _ _ (Wm.of (H := upd H p (.lst [])) (d := d) upd_same hpd)
      rw [h2] at this
      cases nm with
      | nil => simp at h0
      | cons a r => cases this
    refine ⟨ts ++ [(f - 4, o)], _, rfl, by rw [List.length_append, hl]; rfl, fun t ht => ?_, hd5.upd_ne hpd, ?_, ?_⟩
    · rcases List.mem_append.mp ht with h | h
      · exact hok t h
      · rw [List.mem_singleton.mp h]
        exact ⟨by show -4 ≤ f - 4; omega, by show f - 4 ≤ 4; omega, ho⟩
    · rw [wm_upd hpd]
      exact upN (Wm.none hp) (S.trans SS)
    · rw [wm_upd hpd]
      exact push_tp (AtL.same hT SS fun v t => TpAt.same SS v t) (SS _ _ hv) ⟨p4, rfl, Wm.of upd_same (hd4.ne hp4)⟩
  · rintro σ H' ⟨ts, v3, rfl, hl, hok, hd', S, hT⟩
    walk_at "go"
    exact q p ts H' hp hT (by omega) hok hd' (Sb.of_wm S)
theorem rd_factor {l : Addr} {ts : List Tm} {n : Str} (h : TsAt H l ts) (hl : ts.length ≤ 100) (q : ∀ H', Same H H' → Q (.int (fac ts n)) H') : sp__law_factor K [.ref l, .str n] H Q E := by
  refine ⟨rfl, ?_⟩
  unfold t__law_factor
  walk_at "go"
  refine g_lc (gi_list ?_)
  walk_at "go"
  obtain ⟨vs, hv, hvl, hvr⟩ := h
  refine v_ovL (SqL.of hv) ?_
  intro D hD
  refine c_list (fun i H' => H' D = some (.lst ((((ts.take i).filter fun t => decide (t.2 = some n)).map (·.1)).map V.int)) ∧ Same H H') ⟨upd_same, same_new hD⟩ (fun i H' _ p => SqL.of (p.2 _ _ hv)) ?_ ?_
  · rintro i x H' hx ⟨hd, hs⟩
    have hi := lt_of_get hx
    have ht : ts[i]? = some ts[i] := List.getElem?_eq_getElem (by omega)
    obtain ⟨r, rfl, hr⟩ := hvr i x _ hx ht
    walk_at "go"
    refine ⟨rfl, ?_⟩
    walk_at "go"
    refine v_ixT (hs _ _ hr) (atN (i := 1) rfl rfl) ?_
    walk_at "go"
    refine v_eqV scN ?_
    walk_at "go"
    rw [dN, take1 ht, List.filter_append, List.map_append, List.map_append]
    refine ite2 (fun hc => ?_) (fun hc => ?_)
    · walk_at "go"
      refine v_ixT (hs _ _ hr) (atN (i := 0) rfl rfl) ?_
      refine v_put hd (by rw [List.length_map]; exact small (flen hl)) ?_
      refine ⟨?_, upN hD hs⟩
      rw [upd_same, List.filter_cons_of_pos (by exact hc)]
      rfl
    · refine ⟨?_, hs⟩
      rw [hd, List.filter_cons_of_neg (p := fun t : Tm => decide (t.2 = some n)) (a := ts[i]) hc]
      simp
  · rintro H' ⟨hd, hs⟩
    walk_at "go"
    rw [takeAll (by omega)] at hd
    exact v_sum hd (q _ hs)
end
end Lw

namespace Lw
open PySem PySem.Spec PyProof.Rows L2 G
def RowAt (H : Hp) (v : V) (r : List Int) : Prop := ∃ l, v = .ref l ∧ IsAt H l r
theorem RowAt.same {H H' : Hp} (s : Same H H') (v : V) (r : List Int) (h : RowAt H v r) : RowAt H' v r := by
  obtain ⟨l, e, h⟩ := h
  exact ⟨l, e, s _ _ h⟩
def RwAt (H : Hp) (R : Addr) (rows : List (List Int)) : Prop := AtL RowAt H R rows
theorem RwAt.same {H H' : Hp} {R : Addr} {rows : List (List Int)} (h : RwAt H R rows) (s : Same H H') : RwAt H' R rows := AtL.same h s fun v r => RowAt.same s v r
theorem push_row {H : Hp} {L p : Addr} {xs : List (List Int)} {r : List Int} {vs : List V} (h : RwAt H L xs) (hn : ∀ x ∈ xs, x ≠ []) (hl : H L = some (.lst vs)) (hp : IsAt H p r) (hpl : p ≠ L) : RwAt (upd H L (.lst (vs ++ [.ref p]))) L (xs ++ [r]) := by
  obtain ⟨vs', e, el, hr⟩ := h
  rw [hl] at e
  cases e
  refine ⟨_, upd_same, by simp [el], fun i w y hw hy => ?_⟩
  by_cases hi : i < vs.length
  · rw [List.getElem?_append_left hi] at hw
    rw [List.getElem?_append_left (by omega)] at hy
    obtain ⟨l, rfl, hl'⟩ := hr i w y hw hy
    refine ⟨l, rfl, ?_⟩
    have ne : l ≠ L := fun z => by
      unfold IsAt at hl'
      rw [z, hl] at hl'
      have e2 : vs = y.map V.int := HO.lst.inj (Option.some.inj hl')
      rw [e2, List.getElem?_map] at hw
      cases h : y[i]? with
      | none => rw [h] at hw; cases hw
      | some k => rw [h] at hw; cases hw
    show upd H L _ l = _
    rw [upd_ne ne]
    exact hl'
  · rw [List.getElem?_append_right (by omega)] at hw hy
    rw [el] at hw
    generalize i - xs.length = k at hw hy
    match k with
    | 0 =>
      cases hw; cases hy
      refine ⟨p, rfl, ?_⟩
      show upd H L _ p = _
      rw [upd_ne hpl]
      exact hp
    | k + 1 => cases hw
theorem inB_snoc {bs : List (Int × Int)} {b : Int × Int} {r : List Int} {v : Int} (h : bs.length = r.length) : inB (bs ++ [b]) (r ++ [v]) = (inB bs r && (decide (b.1 ≤ v) && decide (v ≤ b.2))) := by
  unfold inB
  rw [List.zip_append h, List.map_append, List.all_append]
  simp
section
variable {K : PySem.W.Frag} {H : Hp} {Q : VK} {E : XK} {mg : Str → Option Value}
theorem rd_rows {d B : Addr} {bs : List (Int × Int)} (hd : Dr d H) (h : BsAt (Wm d H) B bs) (hb : ∀ b ∈ bs, -100 ≤ b.1 ∧ b.1 ≤ b.2 ∧ b.2 ≤ b.1 + 9 ∧ b.1 ≤ 100) (hl : bs.length ≤ 2)
    (q : ∀ R rows H', RwAt (Wm d H') R rows → rows.length ≤ 100 → (∀ r, r ∈ rows ↔ (r.length = bs.length ∧ inB bs r = true)) → Dr d H' → Same H H' → Q (.ref R) H') : sp__law_rows K [.ref B] H Q E := by
  refine ⟨rfl, ?_⟩
  unfold t__law_rows
  walk_at "go"
  intro e he
  walk_at "go"
  intro R0 hR0
  walk_at "go"
  obtain ⟨vs, hv, hvl, hvr⟩ := id h
  refine gi_list ?_
  walk_at "go"
  have s0 : Same H (upd (upd H e (.lst [])) R0 (.lst [.ref e])) := (same_new he).trans (same_new hR0)
  have hed := hd.ne he
  have hRd := (hd.same' (same_new he)).ne hR0
  refine v_ovL (SqL.of (s0 _ _ (Wm.same _ _ hv))) ?_
  refine l_list (fun i σ H' => ∃ (R : Addr) (rows : List (List Int)) (v2 v3 v4 v5 : Option V), σ = [some (.ref B), some (.ref R), v2, v3, v4, v5] ∧ Same H H' ∧ RwAt (Wm d H') R rows ∧ rows.length ≤ 10 ^ i ∧ ∀ r, r ∈ rows ↔ (r.length = i ∧ inB (bs.take i) r = true))
    ⟨R0, [[]], none, none, none, none, rfl, s0, ⟨[.ref e], Wm.of upd_same hRd, rfl, fun i v x hv hx => ?_⟩, by simp, fun r => ?_⟩ (fun i σ H' _ ⟨_, _, _, _, _, _, _, s, _⟩ => SqL.of (s _ _ (Wm.same _ _ hv))) ?_ ?_
  · match i, hv, hx with
    | 0, hv, hx =>
      cases hv; cases hx
      exact ⟨e, rfl, Wm.of (up_new upd_same hR0) hed⟩
  · rw [List.mem_singleton, List.take_zero]
    constructor
    · rintro rfl; exact ⟨rfl, rfl⟩
    · rintro ⟨h, _⟩; exact List.length_eq_zero_iff.mp h
  · rintro i x σ H' hx ⟨R, rows, v2, v3, v4, v5, rfl, s, hR, hrl, hmem⟩
    have hi := lt_of_get hx
    have ht : bs[i]? = some bs[i] := List.getElem?_eq_getElem (by omega)
    obtain ⟨br, rfl, hbr⟩ := hvr i x _ hx ht
    have hbi := hb _ (List.getElem_mem (l := bs) (n := i) (by omega))
    have hti : bs.take (i + 1) = bs.take i ++ [bs[i]] := take1 ht
    generalize bs[i] = b at *
    have hlen : (bs.take i).length = i := by rw [List.length_take]; omega
    have hrl' : rows.length ≤ 10 := Nat.le_trans hrl (by have : i ≤ 1 := (by omega); match i, this with | 0, _ => decide | 1, _ => decide)
    have hgood : ∀ r' v, r' ∈ rows → b.1 ≤ v → v ≤ b.2 → (r' ++ [v]).length = i + 1 ∧ inB (bs.take (i + 1)) (r' ++ [v]) = true := by
      intro r' v hr h1 h2
      have k := (hmem r').mp hr
      rw [hti, inB_snoc (by rw [hlen, k.1]), k.2, decide_eq_true h1, decide_eq_true h2]
      exact ⟨by rw [List.length_append, k.1]; rfl, rfl⟩
    walk_at "go"
    intro L hL
    have hLd := (hd.same' s).ne hL
    walk_at "go"
    obtain ⟨ws, hw, hwl, hwr⟩ := id hR
    have sL : Same (Wm d H') (Wm d (upd H' L (.lst []))) := Sb.wm (Same.sb (same_new hL))
    have hdL : Dr d (upd H' L (.lst [])) := hd.same' (s.trans (same_new hL))
    refine gi_list ?_
    walk_at "go"
    refine v_ovL (SqL.of (Wm.same _ _ (sL _ _ hw))) ?_
    refine l_list (fun j σ H2 => ∃ (Lr : List (List Int)) (w4 w5 : Option V), σ = [some (.ref B), some (.ref R), some (.ref br), some (.ref L), w4, w5] ∧ Same H' H2 ∧ Dr d H2 ∧ RwAt (Wm d H2) L Lr ∧ Lr.length ≤ 10 * j ∧ (∀ r ∈ Lr, r.length = i + 1 ∧ inB (bs.take (i + 1)) r = true) ∧
        ∀ j' r', j' < j → rows[j']? = some r' → ∀ v, b.1 ≤ v → v ≤ b.2 → r' ++ [v] ∈ Lr)
      ⟨[], _, _, rfl, same_new hL, hdL, ⟨[], Wm.of upd_same hLd, rfl, fun i v x h => (by cases h)⟩, Nat.zero_le _, fun r h => (by cases h), fun j' r' h => absurd h (Nat.not_lt_zero _)⟩ (fun i σ H2 _ ⟨_, _, _, _, s2, _⟩ => SqL.of (s2 _ _ (Wm.same _ _ hw))) ?_ ?_
    · rintro j y σ H2 hy ⟨Lr, w4, w5, rfl, s2, hd2, hLr, hll, hg, hc⟩
      have hj := lt_of_get hy
      have hrj : rows[j]? = some rows[j] := List.getElem?_eq_getElem (by omega)
      obtain ⟨a, rfl, ha⟩ := hwr j y _ hy hrj
      have hrm : rows[j] ∈ rows := List.getElem_mem _
      generalize rows[j] = rj at *
      have hbr2 := s2 _ _ (s _ _ (Wm.same _ _ hbr))
      walk_at "go"
      refine v_ixT hbr2 (atN (i := 0) rfl rfl) ?_
      walk_at "go"
      refine v_ixT hbr2 (atN (i := 1) rfl rfl) ?_
      walk_at "go"
      obtain ⟨W, hW⟩ : ∃ W : Nat, (b.2 + 1 - b.1).toNat = W := ⟨_, rfl⟩
      have hW10 : W ≤ 10 := by omega
      refine g_rngT ⟨by omega, by omega, by omega, by omega⟩ ?_
      rw [hW]
      refine l_range (fun k σ H3 => ∃ (Lr : List (List Int)) (w5 : Option V), σ = [some (.ref B), some (.ref R), some (.ref br), some (.ref L), some (.ref a), w5] ∧ Same H' H3 ∧ Dr d H3 ∧ RwAt (Wm d H3) L Lr ∧ Lr.length ≤ 10 * j + k ∧ (∀ r ∈ Lr, r.length = i + 1 ∧ inB (bs.take (i + 1)) r = true) ∧
          (∀ j' r', j' < j → rows[j']? = some r' → ∀ v, b.1 ≤ v → v ≤ b.2 → r' ++ [v] ∈ Lr) ∧ ∀ k' : Nat, k' < k → rj ++ [b.1 + k'] ∈ Lr)
        ⟨Lr, _, rfl, s2, hd2, hLr, by omega, hg, hc, fun k' h => absurd h (Nat.not_lt_zero _)⟩ ?_ ?_
      · rintro k σ H3 hk ⟨Lr, w5, rfl, s3, hd3, hLr, hll, hg, hc, hk'⟩
        obtain ⟨ls, hls, hlsl, _⟩ := id hLr
        walk_at "go"
        refine g_tyL (Wm.same _ _ hls) ?_
        walk_at "go"
        intro p1 hp1
        have ha3 : H3 a = some (.lst (rj.map V.int)) := s3 _ _ (Wm.same _ _ ha)
        have hrl2 : rj.length = i := ((hmem rj).mp hrm).1
        refine v_cat (xs := rj.map V.int) (zs := [V.int (b.1 + k)]) (up_new ha3 hp1) upd_same (Nat.le_of_lt (small (by rw [List.length_map]; show rj.length + 1 ≤ 1000; omega))) fun p2 hp2 => ?_
        walk_at "go"
        have s4 : Same H3 (upd (upd H3 p1 (.lst [.int (b.1 + k)])) p2 (.lst (rj.map V.int ++ [.int (b.1 + k)]))) := (same_new hp1).trans (same_new hp2)
        have hls4 := s4 _ _ (Wm.same _ _ hls)
        refine v_append hls4 (by rw [hlsl]; exact small (by omega)) ?_
        have hd4 := hd3.same' s4
        have sw := Dr.wm hd3 s4
        have hp2d : p2 ≠ d := (hd3.same' (same_new hp1)).ne hp2
        have hpL : p2 ≠ L := Ne.symm (ne_of_none (up_new (Wm.same _ _ hls) hp1) hp2)
        refine ⟨Lr ++ [rj ++ [b.1 + k]], _, rfl, upN hL (s3.trans s4), hd4.upd_ne hLd, ?_, by rw [List.length_append]; show _ + 1 ≤ _; omega, fun r hr => ?_, fun j' r' h1 h2 v h3 h4 => List.mem_append_left _ (hc j' r' h1 h2 v h3 h4), fun k2 h2 => ?_⟩
        · rw [wm_upd hLd]
          refine push_row (hLr.same sw) (fun x hx e => ?_) (sw _ _ hls) (Wm.of ?_ hp2d) hpL
          · have := (hg x hx).1
            rw [e] at this
            cases this
          · rw [upd_same, List.map_append]
            rfl
        · rcases List.mem_append.mp hr with h | h
          · exact hg r h
          · rw [List.mem_singleton.mp h]
            exact hgood rj _ hrm (by omega) (by omega)
        · by_cases c : k2 = k
          · rw [c]; exact List.mem_append_right _ (List.mem_singleton.mpr rfl)
          · exact List.mem_append_left _ (hk' k2 (by omega))
      · rintro σ H3 ⟨Lr, w5, rfl, s3, hd3, hLr, hll, hg, hc, hk'⟩
        refine ⟨Lr, _, _, rfl, s3, hd3, hLr, by omega, hg, fun j' r' h1 h2 v h3 h4 => ?_⟩
        by_cases c : j' = j
        · subst c
          rw [hrj] at h2
          cases h2
          have := hk' (v - b.1).toNat (by omega)
          rw [show b.1 + ((v - b.1).toNat : Int) = v by omega] at this
          exact this
        · exact hc j' r' (by omega) h2 v h3 h4
    · rintro σ H2 ⟨Lr, w4, w5, rfl, s2, hd2, hLr, hll, hg, hc⟩
      walk_at "go"
      refine ⟨L, Lr, _, _, _, _, rfl, s.trans s2, hLr, ?_, fun r => ⟨fun hr => hg r hr, fun hr => ?_⟩⟩
      · rw [Nat.pow_succ]
        omega
      · have hne : r ≠ [] := fun e => by rw [e] at hr; cases hr.1
        have e := List.dropLast_concat_getLast hne
        rw [← e] at hr ⊢
        have h1 : r.dropLast.length = i := by
          have := hr.1
          rw [List.length_append] at this
          exact Nat.succ.inj this
        have h2 := hr.2
        rw [hti, inB_snoc (by rw [hlen, h1]), Bool.and_eq_true, Bool.and_eq_true] at h2
        have hm := (hmem r.dropLast).mpr ⟨h1, h2.1⟩
        obtain ⟨j, hj, ej⟩ := List.getElem_of_mem hm
        exact hc j _ (by omega) (by rw [List.getElem?_eq_getElem hj, ej]) _ (of_decide_eq_true h2.2.1) (of_decide_eq_true h2.2.2)
  · rintro σ H' ⟨R, rows, v2, v3, v4, v5, rfl, s, hR, hrl, hmem⟩
    walk_at "go"
    rw [hvl] at hmem hrl
    rw [takeAll (Nat.le_refl _)] at hmem
    refine q R rows H' hR (Nat.le_trans hrl ?_) hmem (hd.same' s) s
    match bs.length, hl with
    | 0, _ => decide
    | 1, _ => decide
    | 2, _ => decide
end
end Lw

namespace Lw
open PySem PySem.Spec PyProof.Rows L2 G
def FlAt (H : Hp) (F : Addr) (fl : List (Addr × List Tm)) : Prop := H F = some (.lst (fl.map fun p => .ref p.1)) ∧ ∀ p ∈ fl, TsAt H p.1 p.2
theorem FlAt.same {H H' : Hp} {F : Addr} {fl : List (Addr × List Tm)} (h : FlAt H F fl) (s : Same H H') : FlAt H' F fl := ⟨s _ _ h.1, fun p hp => (h.2 p hp).same s⟩
theorem none_back {d p : Addr} {H H' : Hp} (s : Same (Wm d H) (Wm d H')) (h : H' p = none) (n : p ≠ d) : H p = none := by
  cases e : H p with
  | none => rfl
  | some o =>
    have := Wm.same _ _ (s _ _ (Wm.of e n))
    rw [h] at this
    cases this
theorem atl_sb {α : Type} {f : α → List V} {H H' : Hp} {l a : Addr} {xs : List α} {vs : List V} (s : Sb l H H') (hl : H l = some (.lst vs)) (n : a ≠ l) (h : AtL (TpAt f) H a xs) : AtL (TpAt f) H' a xs := by
  obtain ⟨ws, h1, h2, h3⟩ := h
  exact ⟨ws, s _ _ n h1, h2, fun i v x e1 e2 => TpAt.sb s hl (h3 i v x e1 e2)⟩
/-- what is known of the forms while they grow -/
structure Fms (d : Addr) (H0 H : Hp) (F : Addr) (nm : List Str) (n : Nat) (fl : List (Addr × List Tm)) : Prop where
  dr : Dr d H
  s : Same (Wm d H0) (Wm d H)
  f0 : H0 F = none
  fa : FlAt (Wm d H) F fl
  new : ∀ p ∈ fl, H0 p.1 = none ∧ p.1 ≠ F
  len : ∀ p ∈ fl, p.2.length ≤ n
  ok : ∀ p ∈ fl, ∀ t ∈ p.2, okT nm t
  nd : (fl.map (·.1)).Nodup
theorem Fms.grow {d : Addr} {H0 H H' : Hp} {F : Addr} {nm : List Str} {n : Nat} {fl : List (Addr × List Tm)} (h : Fms d H0 H F nm n fl) (hd : Dr d H') (s : Same (Wm d H) (Wm d H')) : Fms d H0 H' F nm n fl :=
  ⟨hd, h.s.trans s, h.f0, h.fa.same s, h.new, h.len, h.ok, h.nd⟩
section
variable {K : PySem.W.Frag} {H : Hp} {Q : VK} {E : XK} {mg : Str → Option Value}
theorem rd_forms {d g : Addr} {nm : List Str} {s0 s3 s4 s5 s7 : Option V} (hd : Dr d H) (hg : NsAt (Wm d H) g nm) (h0 : 0 < nm.length) (h2 : nm.length ≤ 2)
    (q : ∀ F H' fl, Fms d H H' F nm 3 fl → 0 < fl.length → fl.length ≤ 2 → Q (.ref F) H') :
    tLc (iRng1 (tCons (tOp (rAddX K) (tC (.int 1)) (tCallSD (sp__law_draw K) [] Ez (tCons (tVar 1) (tCons (tC (.int 2)) tNil)))) tNil)) (gName 7) tYes (tCallSD (sp__law_terms K) [] Ez (tCons (tVar 1) (tCons (tVar 2) tNil))) [7]
      [s0, some (.ref d), some (.ref g), s3, s4, s5, none, s7, none, none, none, none, none, none, none, none, none] H Q := by
  refine g_lc ?_
  walk_at "go"
  refine rd_draw hd ⟨by decide, by decide⟩ fun v H1 v0 v1 hd1 s1 => ?_
  walk_at "go"
  obtain ⟨n, rfl⟩ := Int.eq_ofNat_of_zero_le v0
  rw [show (1 : Int) + (n : Int) = ((n + 1 : Nat) : Int) by omega]
  refine g_rngN (n := n + 1) (by omega) ?_
  intro D hD
  have hDd := hd1.ne hD
  refine c_range (fun i H' => ∃ fl, Fms d H H' D nm 3 fl ∧ fl.length = i) ⟨[], ⟨hd1.upd_ne hDd, s1.wm.trans (by rw [wm_upd hDd]; exact upN (Wm.none hD) fun _ _ h => h), none_back s1.wm hD hDd, ⟨Wm.of upd_same hDd, fun p h => (by cases h)⟩, fun p h => (by cases h), fun p h => (by cases h), fun p h => (by cases h), List.nodup_nil⟩, rfl⟩ ?_ ?_
  · rintro i H' hi ⟨fl, hf, hl⟩
    walk_at "go"
    refine ⟨rfl, ?_⟩
    walk_at "go"
    refine rd_terms hf.dr (hf.s _ _ hg) h0 h2 fun p ts H2 hp hts hlen hok hd2 s2 => ?_
    have hf2 := hf.grow hd2 s2.wm
    have hpd := hf.dr.ne hp
    refine v_put (acc := fl.map fun p => .ref p.1) (Wm.same _ _ hf2.fa.1) (by rw [List.length_map]; exact small (by omega)) ?_
    have nF : p ≠ D := Ne.symm (ne_of_none (Wm.same _ _ hf.fa.1) hp)
    have hup : ∀ a o, a ≠ D → Wm d H2 a = some o → Wm d (upd H2 D (.lst (fl.map (fun p => V.ref p.1) ++ [.ref p]))) a = some o := fun a o n h => by
      rw [wm_upd hDd, upd_ne n]; exact h
    have tsup : ∀ a ts, a ≠ D → TsAt (Wm d H2) a ts → TsAt (Wm d (upd H2 D (.lst (fl.map (fun p => V.ref p.1) ++ [.ref p])))) a ts := fun a ts n h =>
      atl_sb (f := fun t : Tm => [.int t.1, nV t.2]) (l := D) (fun b o nb hb => hup b o nb hb) hf2.fa.1 n h
    refine ⟨fl ++ [(p, ts)], ⟨hd2.upd_ne hDd, ?_, hf.f0, ⟨?_, fun p' h => ?_⟩, fun p' h => ?_, fun p' h => ?_, fun p' h => ?_, ?_⟩, by rw [List.length_append, hl]; rfl⟩
    · rw [wm_upd hDd]
      exact upN (Wm.none hf.f0) hf2.s
    · rw [wm_upd hDd, upd_same, List.map_append]
      rfl
    · rcases List.mem_append.mp h with h | h
      · exact tsup _ _ (hf.new p' h).2 (hf2.fa.2 p' h)
      · rw [List.mem_singleton.mp h]
        exact tsup _ _ nF hts
    · rcases List.mem_append.mp h with h | h
      · exact hf.new p' h
      · rw [List.mem_singleton.mp h]
        exact ⟨none_back hf.s hp hpd, nF⟩
    · rcases List.mem_append.mp h with h | h
      · exact hf.len p' h
      · rw [List.mem_singleton.mp h]
        exact hlen
    · rcases List.mem_append.mp h with h | h
      · exact hf.ok p' h
      · rw [List.mem_singleton.mp h]
        exact hok
    · rw [List.map_append, List.nodup_append]
      refine ⟨hf.nd, by simp, fun a ha b hb => ?_⟩
      obtain ⟨p', hp', rfl⟩ := List.mem_map.mp ha
      simp at hb
      subst hb
      obtain ⟨ws, hw, _⟩ := hf.fa.2 p' hp'
      exact ne_of_none (Wm.same _ _ hw) hp
  · rintro H' ⟨fl, hf, hl⟩
    exact q D H' fl hf (by omega) (by omega)
theorem rd_names {d g B F : Addr} {H0 : Hp} {nm : List Str} {fl : List (Addr × List Tm)} {s0 s4 s5 s7 s8 : Option V} {nx : L2.St → Hp → Prop} {rt : VK} {bk ct : L2.St → Hp → Prop} (hf : Fms d H0 H F nm 3 fl) (h0 : 0 < fl.length) (h2 : fl.length ≤ 2) (hg : NsAt (Wm d H0) g nm) (hnl : nm.length ≤ 2) (hnd : nm.Nodup)
    (q : ∀ H' fl' v4 v8, Fms d H0 H' F nm 5 fl' → fl'.length = fl.length → (∀ n ∈ nm, ∃ p ∈ fl', fac p.2 n ≠ 0) → nx [s0, some (.ref d), some (.ref g), some (.ref B), v4, s5, some (.ref F), s7, v8, none, none, none, none, none, none, none, none] H') :
    tFor (iAny K (tVar 2)) (gName 4) (tIfS (tTru K (tCB (rAll K) (tCons (tLc (iAny K (tVar 6)) (gName 8) tYes (tOp (rEqX K) (tCallSD (sp__law_factor K) [] Ez (tCons (tVar 8) (tCons (tVar 4) tNil))) (tC (.int 0))) [8]) tNil))) (tDrop (tBM K "list" rAppend (tOp (rIx K) (tVar 6) (tC (.int 0))) (tCons (tTup (tCons (tOp (rAddX K) (tC (.int 1)) (tCallSD (sp__law_draw K) [] Ez (tCons (tVar 1) (tCons (tC (.int 4)) tNil)))) (tCons (tVar 4) tNil))) tNil))) tNext)
      ⟨nx, rt, bk, ct⟩ [s0, some (.ref d), some (.ref g), some (.ref B), s4, s5, some (.ref F), s7, s8, none, none, none, none, none, none, none, none] H := by
  walk_at "go"
  refine gi_list ?_
  walk_at "go"
  refine v_ovL (SqL.of (Wm.same _ _ (hf.s _ _ hg))) ?_
  refine l_list (fun i σ H' => ∃ fl' v4 v8, σ = [s0, some (.ref d), some (.ref g), some (.ref B), v4, s5, some (.ref F), s7, v8, none, none, none, none, none, none, none, none] ∧ Fms d H0 H' F nm (3 + i) fl' ∧ fl'.length = fl.length ∧ ∀ j, j < i → ∀ n, nm[j]? = some n → ∃ p ∈ fl', fac p.2 n ≠ 0)
    ⟨fl, s4, s8, rfl, hf, rfl, fun j h => absurd h (Nat.not_lt_zero _)⟩ (fun i σ H' _ ⟨_, _, _, _, hf', _⟩ => SqL.of (Wm.same _ _ (hf'.s _ _ hg))) ?_ ?_
  · rintro i x σ H' hx ⟨fl', v4, v8, rfl, hf', hfl, hj⟩
    have hi := lt_of_get hx
    rw [List.length_map] at hi
    rw [List.getElem?_map, List.getElem?_eq_getElem hi] at hx
    cases hx
    have hni : nm[i]? = some nm[i] := List.getElem?_eq_getElem hi
    have hmem : nm[i] ∈ nm := List.getElem_mem hi
    generalize hn : nm[i] = n at *
    walk_at "go"
    refine g_lc (gi_list ?_)
    walk_at "go"
    refine v_ovL (SqL.of (Wm.same _ _ hf'.fa.1)) ?_
    intro D hD
    refine c_list (fun k H2 => Same H' H2 ∧ H2 D = some (.lst (((fl'.map fun p => decide (fac p.2 n = 0)).take k).map V.bl))) ⟨same_new hD, upd_same⟩ (fun k H2 _ p => SqL.of (p.1 _ _ (Wm.same _ _ hf'.fa.1))) ?_ ?_
    · rintro k y H2 hy ⟨s, hdd⟩
      have hk := lt_of_get hy
      rw [List.length_map] at hk
      rw [List.getElem?_map, List.getElem?_eq_getElem hk] at hy
      cases hy
      have hkm := List.getElem_mem hk
      walk_at "go"
      refine ⟨rfl, ?_⟩
      walk_at "go"
      refine rd_factor (((hf'.fa.2 _ hkm).same Wm.same).same s) (by have := hf'.len _ hkm; omega) fun H3 s3 => ?_
      walk_at "go"
      refine v_put (s3 _ _ hdd) (by rw [List.length_map]; refine small (Nat.le_trans (List.length_take_le' _ _) ?_); rw [List.length_map]; omega) ⟨upN hD (s.trans s3), ?_⟩
      rw [upd_same, take1 (x := decide (fac fl'[k].2 n = 0)) (by rw [List.getElem?_map, List.getElem?_eq_getElem hk]; rfl), List.map_append]
      rfl
    · rintro H2 ⟨s, hdd⟩
      rw [takeAll (by rw [List.length_map, List.length_map]; omega)] at hdd
      have hd2 := hf'.dr.same' s
      have hf2 := hf'.grow hd2 (hf'.dr.wm s)
      walk_at "go"
      refine v_all hdd ?_
      walk_at "go"
      cases hall : (fl'.map fun p => decide (fac p.2 n = 0)).all id with
      | false =>
        walk_at "go"
        refine ⟨fl', _, _, rfl, ⟨hf2.dr, hf2.s, hf2.f0, hf2.fa, hf2.new, fun p hp => by have := hf2.len p hp; omega, hf2.ok, hf2.nd⟩, hfl, fun j hj2 m hm => ?_⟩
        by_cases c : j = i
        · subst c
          rw [hni] at hm
          cases hm
          rw [List.all_map] at hall
          obtain ⟨p, hp, hz⟩ := List.all_eq_false.mp hall
          exact ⟨p, hp, fun z => hz (decide_eq_true z)⟩
        · exact hj j (by omega) m hm
      | true =>
        walk_at "go"
        cases fl' with
        | nil => rw [← hfl] at h0; cases h0
        | cons p0 r =>
          refine v_ixL (Wm.same _ _ hf2.fa.1) (atN (i := 0) rfl rfl) ?_
          walk_at "go"
          have hp0 := hf2.fa.2 p0 List.mem_cons_self
          obtain ⟨ws, hw, hwl, hwr⟩ := id hp0
          have h0len := hf2.len p0 List.mem_cons_self
          refine g_tyL (Wm.same _ _ hw) ?_
          walk_at "go"
          refine rd_draw hd2 ⟨by decide, by decide⟩ fun c H3 c0 c1 hd3 s3 => ?_
          walk_at "go"
          intro a ha
          walk_at "go"
          have hd4 : Dr d (upd H3 a (.tup [.int (1 + c), .str n])) := hd3.same' (same_new ha)
          have S4 : Same (Wm d H2) (Wm d (upd H3 a (.tup [.int (1 + c), .str n]))) := s3.wm.trans (hd3.wm (same_new ha))
          have hf4 := hf2.grow hd4 S4
          have had := hd3.ne ha
          have hw4 := S4 _ _ hw
          have h0d := Wm.ne hw
          refine v_append (Wm.same _ _ hw4) (by rw [hwl]; exact small (by omega)) ?_
          have nw0 := hf4.new p0 List.mem_cons_self
          have hz0 : fac p0.2 n = 0 := by
            rw [List.map_cons, List.all_cons, Bool.and_eq_true] at hall
            exact of_decide_eq_true hall.1
          have hnd' := hf4.nd
          rw [List.map_cons, List.nodup_cons] at hnd'
          have sbx : Sb p0.1 (Wm d (upd H3 a (.tup [.int (1 + c), .str n]))) (Wm d (upd (upd H3 a (.tup [.int (1 + c), .str n])) p0.1 (.lst (ws ++ [.ref a])))) := fun b o nb hb => by
            rw [wm_upd h0d, upd_ne nb]; exact hb
          refine ⟨(p0.1, p0.2 ++ [(1 + c, some n)]) :: r, _, _, rfl, ⟨hd4.upd_ne h0d, ?_, hf4.f0, ⟨?_, fun p hp => ?_⟩, fun p hp => ?_, fun p hp => ?_, fun p hp t ht => ?_, by rw [List.map_cons, List.nodup_cons]; exact hnd'⟩, hfl, fun j hj2 m hm => ?_⟩
          · rw [wm_upd h0d]
            exact upN (Wm.none nw0.1) hf4.s
          · rw [wm_upd h0d, upd_ne (Ne.symm nw0.2)]
            exact hf4.fa.1
          · rcases List.mem_cons.mp hp with h | h
            · rw [h, wm_upd h0d]
              exact push_tp (f := fun t : Tm => [.int t.1, nV t.2]) (hf4.fa.2 p0 List.mem_cons_self) hw4 ⟨a, rfl, Wm.of upd_same had⟩
            · exact atl_sb (f := fun t : Tm => [.int t.1, nV t.2]) sbx hw4 (fun e => hnd'.1 (by rw [← e]; exact List.mem_map.mpr ⟨p, h, rfl⟩)) (hf4.fa.2 p (List.mem_cons_of_mem _ h))
          · rcases List.mem_cons.mp hp with h | h
            · rw [h]; exact nw0
            · exact hf4.new p (List.mem_cons_of_mem _ h)
          · rcases List.mem_cons.mp hp with h | h
            · rw [h]; show (p0.2 ++ _).length ≤ _; rw [List.length_append]; show _ + 1 ≤ _; omega
            · have := hf4.len p (List.mem_cons_of_mem _ h)
              omega
          · rcases List.mem_cons.mp hp with h | h
            · rw [h] at ht
              rcases List.mem_append.mp ht with k | k
              · exact hf4.ok p0 List.mem_cons_self t k
              · rw [List.mem_singleton.mp k]
                exact ⟨by show -4 ≤ 1 + c; omega, by show 1 + c ≤ 4; omega, .inr ⟨n, hmem, rfl⟩⟩
            · exact hf4.ok p (List.mem_cons_of_mem _ h) t ht
          · by_cases cc : j = i
            · subst cc
              rw [hni] at hm
              cases hm
              refine ⟨_, List.mem_cons_self, ?_⟩
              rw [fac_snoc, hz0, if_pos rfl]
              show 0 + (1 + c) ≠ 0
              omega
            · obtain ⟨p, hp, hz⟩ := hj j (by omega) m hm
              rcases List.mem_cons.mp hp with h | h
              · refine ⟨_, List.mem_cons_self, ?_⟩
                rw [h] at hz
                rw [fac_snoc, if_neg, Int.add_zero]
                · exact hz
                · intro e
                  have e2 : n = m := Option.some.inj e
                  rw [← e2] at hm
                  have inj : ∀ a b, nm[a]? = some n → nm[b]? = some n → a < b → False := fun a b ha hb hab => by
                    obtain ⟨ha', ea⟩ := List.getElem?_eq_some_iff.mp ha
                    obtain ⟨hb', eb⟩ := List.getElem?_eq_some_iff.mp hb
                    exact List.pairwise_iff_getElem.mp hnd a b ha' hb' hab (ea.trans eb.symm)
                  rcases Nat.lt_trichotomy j i with l | l | l
                  · exact inj j i hm hni l
                  · exact cc l
                  · exact inj i j hni hm l
              · exact ⟨p, List.mem_cons_of_mem _ h, hz⟩
  · rintro σ H' ⟨fl', v4, v8, rfl, hf', hfl, hj⟩
    rw [List.length_map] at hf' hj
    refine q H' fl' v4 v8 ⟨hf'.dr, hf'.s, hf'.f0, hf'.fa, hf'.new, fun p hp => by have := hf'.len p hp; omega, hf'.ok, hf'.nd⟩ hfl fun n hn => ?_
    obtain ⟨j, hj2, e⟩ := List.getElem_of_mem hn
    exact hj j hj2 n (by rw [List.getElem?_eq_getElem hj2, e])
end
end Lw

namespace Lw
open PySem PySem.Spec PyProof.Rows L2 G
def vals (nm : List Str) (fs : List (List Tm)) (row : List Int) : List Int := fs.map fun ts => lval nm row ts
theorem fo_sb {K : PySem.W.Frag} {H : Hp} {D o dx l : Addr} {vs : List V} {ts : List Tm} {u : HO} (hl : H D = some (.lst vs)) (ho : H o = some (.ins (He.ga K "Form") dx [("terms", .ref l)])) (ht : TsAt H l ts) (n : l ≠ D) : FoAt K (upd H D u) o ts := by
  refine ⟨dx, l, ?_, atl_sb (f := fun t : Tm => [.int t.1, nV t.2]) Sb.upd hl n ht⟩
  rw [upd_ne]
  · exact ho
  · intro e
    rw [e, hl] at ho
    cases ho
theorem push_fm {K : PySem.W.Frag} {H : Hp} {D x dx p : Addr} {xs : List (List Tm)} {ts : List Tm} {vs : List V} (h : FsAt K H D xs) (hl : H D = some (.lst vs)) (hx : H x = some (.ins (He.ga K "Form") dx [("terms", .ref p)])) (ht : TsAt H p ts) (hp : p ≠ D) : FsAt K (upd H D (.lst (vs ++ [.ref x]))) D (xs ++ [ts]) := by
  obtain ⟨vs', e, el, hr⟩ := h
  rw [hl] at e
  cases e
  refine ⟨_, upd_same, by simp [el], fun i w y hw hy => ?_⟩
  by_cases hi : i < vs.length
  · rw [List.getElem?_append_left hi] at hw
    rw [List.getElem?_append_left (by omega)] at hy
    obtain ⟨o, rfl, dx', l, ho, htl⟩ := hr i w y hw hy
    refine ⟨o, rfl, fo_sb hl ho htl fun z => ?_⟩
    obtain ⟨us, h1, h2, h3⟩ := htl
    rw [z, hl] at h1
    cases h1
    have hy2 : y[i]? = some y[i] := List.getElem?_eq_getElem (by omega)
    obtain ⟨r, er, hrr⟩ := h3 i _ _ hw hy2
    cases er
    rw [ho] at hrr
    cases hrr
  · rw [List.getElem?_append_right (by omega)] at hw hy
    rw [el] at hw
    generalize i - xs.length = k at hw hy
    match k with
    | 0 =>
      cases hw; cases hy
      exact ⟨x, rfl, fo_sb hl hx ht hp⟩
    | k + 1 => cases hw
section
variable {K : PySem.W.Frag} {H : Hp} {Q : VK} {E : XK} {mg : Str → Option Value}
theorem rd_vals {g F r : Addr} {nm : List Str} {fl : List (Addr × List Tm)} {row : List Int} {s0 s1 s3 s4 s5 s7 s8 s9 s11 s12 s13 s14 s15 s16 : Option V}
    (hF : FlAt H F fl) (hg : NsAt H g nm) (hr : IsAt H r row) (ok : ∀ p ∈ fl, ∀ t ∈ p.2, okT nm t) (he : nm.length = row.length) (hl : fl.length ≤ 100)
    (q : ∀ M H', H M = none → Same H H' → IsAt H' M (vals nm (fl.map (·.2)) row) → Q (.ref M) H') :
    tLc (iAny K (tVar 6)) (gName 8) tYes (tCallSD (sp__law_value K) [] Ez (tCons (tVar 8) (tCons (tVar 2) (tCons (tVar 10) tNil)))) [8]
      [s0, s1, some (.ref g), s3, s4, s5, some (.ref F), s7, s8, s9, some (.ref r), s11, s12, s13, s14, s15, s16] H Q := by
  refine g_lc (gi_list ?_)
  walk_at "go"
  refine v_ovL (SqL.of hF.1) ?_
  intro D hD
  refine c_list (fun k H2 => Same H H2 ∧ H2 D = some (.lst (((fl.map fun p => lval nm row p.2).take k).map V.int))) ⟨same_new hD, upd_same⟩ (fun k H2 _ p => SqL.of (p.1 _ _ hF.1)) ?_ ?_
  · rintro k y H2 hy ⟨s, hdd⟩
    have hk := lt_of_get hy
    rw [List.length_map] at hk
    rw [List.getElem?_map, List.getElem?_eq_getElem hk] at hy
    cases hy
    have hkm := List.getElem_mem hk
    walk_at "go"
    refine ⟨rfl, ?_⟩
    walk_at "go"
    refine rd_value ((hF.2 _ hkm).same s) (s _ _ hg) (s _ _ hr) (ok _ hkm) he ?_
    refine v_put hdd (by rw [List.length_map]; refine small (Nat.le_trans (List.length_take_le' _ _) ?_); rw [List.length_map]; omega) ⟨upN hD s, ?_⟩
    rw [upd_same, take1 (x := lval nm row fl[k].2) (by rw [List.getElem?_map, List.getElem?_eq_getElem hk]; rfl), List.map_append]
    rfl
  · rintro H2 ⟨s, hdd⟩
    rw [takeAll (by rw [List.length_map, List.length_map]; omega)] at hdd
    refine q D H2 hD s ?_
    unfold IsAt vals
    rw [show (fl.map (·.2)).map (fun ts => lval nm row ts) = fl.map fun p => lval nm row p.2 from by rw [List.map_map]; rfl]
    exact hdd
theorem rd_best {g F R M : Addr} {nm : List Str} {fl : List (Addr × List Tm)} {rows : List (List Int)} {made : List Int} {ov : V} {old : Option (List (Option Int))} {s0 s1 s3 s4 s5 s7 s8 s10 s13 s15 s16 : Option V} {nx bk ct : L2.St → Hp → Prop} {rt : VK}
    (hF : FlAt H F fl) (hg : NsAt H g nm) (hR : RwAt H R rows) (hM : IsAt H M made) (hO : OlAt H ov old) (ok : ∀ p ∈ fl, ∀ t ∈ p.2, okT nm t) (he : ∀ r ∈ rows, r.length = nm.length) (hn : nm.length ≤ 100) (ho : ∀ os, old = some os → os.length = nm.length) (hl : fl.length ≤ 100)
    (q : ∀ bv H' v8 v10, Same H H' → ((bv = .non ∧ ∀ r ∈ rows, vals nm (fl.map (·.2)) r ≠ made) ∨ ∃ ba b, bv = .ref ba ∧ IsAt H' ba b ∧ b ∈ rows ∧ vals nm (fl.map (·.2)) b = made ∧ ∀ r ∈ rows, vals nm (fl.map (·.2)) r = made → ¬ LtR (tOf old) r b) →
      nx [s0, s1, some (.ref g), s3, s4, s5, some (.ref F), s7, v8, some (.ref R), v10, some (.ref M), some ov, s13, some bv, s15, s16] H') :
    tFor (iAny K (tVar 9)) (gName 10) (tIfS (tAnd (tTest (tOp (rEqX K) (tLc (iAny K (tVar 6)) (gName 8) tYes (tCallSD (sp__law_value K) [] Ez (tCons (tVar 8) (tCons (tVar 2) (tCons (tVar 10) tNil)))) [8]) (tVar 11))) (tTru K (tCallSD (sp__law_better K) [] Ez (tCons (tVar 10) (tCons (tVar 14) (tCons (tVar 12) tNil)))))) (tAsg (tVar 10) (gName 14)) tNext)
      ⟨nx, rt, bk, ct⟩ [s0, s1, some (.ref g), s3, s4, s5, some (.ref F), s7, s8, some (.ref R), s10, some (.ref M), some ov, s13, some .non, s15, s16] H := by
  walk_at "go"
  refine gi_list ?_
  walk_at "go"
  obtain ⟨ws, hw, hwl, hwr⟩ := id hR
  refine v_ovL (SqL.of hw) ?_
  refine l_list (fun i σ H' => ∃ (bv : V) (v8 v10 : Option V), σ = [s0, s1, some (.ref g), s3, s4, s5, some (.ref F), s7, v8, some (.ref R), v10, some (.ref M), some ov, s13, some bv, s15, s16] ∧ Same H H' ∧
      ((bv = .non ∧ ∀ j r, j < i → rows[j]? = some r → vals nm (fl.map (·.2)) r ≠ made) ∨ ∃ ba b, bv = .ref ba ∧ IsAt H' ba b ∧ b ∈ rows ∧ vals nm (fl.map (·.2)) b = made ∧ ∀ j r, j < i → rows[j]? = some r → vals nm (fl.map (·.2)) r = made → ¬ LtR (tOf old) r b))
    ⟨.non, s8, s10, rfl, fun _ _ h => h, .inl ⟨rfl, fun j r h => absurd h (Nat.not_lt_zero _)⟩⟩ (fun i σ H' _ ⟨_, _, _, _, s, _⟩ => SqL.of (s _ _ hw)) ?_ ?_
  · rintro i x σ H' hx ⟨bv, v8, v10, rfl, s, hb⟩
    have hi := lt_of_get hx
    have hri : rows[i]? = some rows[i] := List.getElem?_eq_getElem (by omega)
    obtain ⟨a, rfl, ha⟩ := hwr i x _ hx hri
    have hmem : rows[i] ∈ rows := List.getElem_mem _
    generalize rows[i] = row at *
    have hel := he row hmem
    walk_at "go"
    refine rd_vals (hF.same s) (s _ _ hg) (s _ _ ha) ok hel.symm hl fun N H2 _ s2 hN => ?_
    walk_at "go"
    refine v_eqLI hN (s2 _ _ (s _ _ hM)) ?_
    have sA := s.trans s2
    by_cases hv : vals nm (fl.map (·.2)) row = made
    case neg =>
      rw [decide_eq_false hv]
      walk_at "go"
      refine ⟨_, _, _, rfl, sA, ?_⟩
      rcases hb with ⟨e, hno⟩ | ⟨ba, b, e, hba, hbm, hbv, hmin⟩
      · refine .inl ⟨e, fun j r h1 h2 => ?_⟩
        by_cases c : j = i
        · subst c
          rw [hri] at h2
          cases h2
          exact hv
        · exact hno j r (by omega) h2
      · refine .inr ⟨ba, b, e, s2 _ _ hba, hbm, hbv, fun j r h1 h2 h3 => ?_⟩
        by_cases c : j = i
        · subst c
          rw [hri] at h2
          cases h2
          exact absurd h3 hv
        · exact hmin j r (by omega) h2 h3
    rw [decide_eq_true hv]
    walk_at "go"
    rcases hb with ⟨rfl, hno⟩ | ⟨ba, b, rfl, hba, hbm, hbv, hmin⟩
    · refine rd_betterN ?_
      walk_at "go"
      refine ⟨_, _, _, rfl, sA, .inr ⟨a, row, rfl, sA _ _ ha, hmem, hv, fun j r h1 h2 h3 => ?_⟩⟩
      by_cases c : j = i
      · subst c
        rw [hri] at h2
        cases h2
        exact ltr_eq fun _ _ => rfl
      · exact absurd h3 (hno j r (by omega) h2)
    · have hbl := he b hbm
      refine rd_better (sA _ _ ha) (s2 _ _ hba) (hO.same sA) (by omega) (by omega) (fun os e => by rw [ho os e, hel]) fun c hc => ?_
      walk_at "go"
      cases c with
      | true =>
        have hlt := hc.mp rfl
        walk_at "go"
        refine ⟨_, _, _, rfl, sA, .inr ⟨a, row, rfl, sA _ _ ha, hmem, hv, fun j r h1 h2 h3 => ?_⟩⟩
        by_cases c : j = i
        · subst c
          rw [hri] at h2
          cases h2
          exact ltr_eq fun _ _ => rfl
        · exact fun z => hmin j r (by omega) h2 h3 (ltr_tr (by rw [he r (List.mem_of_getElem? h2), hel]) z hlt)
      | false =>
        have hlt : ¬ LtR (tOf old) row b := fun z => by
          have := hc.mpr z
          cases this
        walk_at "go"
        refine ⟨_, _, _, rfl, sA, .inr ⟨ba, b, rfl, s2 _ _ hba, hbm, hbv, fun j r h1 h2 h3 => ?_⟩⟩
        by_cases c : j = i
        · subst c
          rw [hri] at h2
          cases h2
          exact hlt
        · exact hmin j r (by omega) h2 h3
  · rintro σ H' ⟨bv, v8, v10, rfl, s, hb⟩
    refine q bv H' v8 v10 s ?_
    have ix : ∀ r ∈ rows, ∃ j, j < ws.length ∧ rows[j]? = some r := fun r hr => by
      obtain ⟨j, hj, e⟩ := List.getElem_of_mem hr
      exact ⟨j, by omega, by rw [List.getElem?_eq_getElem hj, e]⟩
    rcases hb with ⟨e, hno⟩ | ⟨ba, b, e, hba, hbm, hbv, hmin⟩
    · exact .inl ⟨e, fun r hr => by obtain ⟨j, h1, h2⟩ := ix r hr; exact hno j r h1 h2⟩
    · exact .inr ⟨ba, b, e, hba, hbm, hbv, fun r hr h3 => by obtain ⟨j, h1, h2⟩ := ix r hr; exact hmin j r h1 h2 h3⟩
theorem rd_objs (T : Tx K mg) {F : Addr} {fl : List (Addr × List Tm)} {s0 s1 s2 s3 s4 s5 s7 s8 s9 s10 s11 s12 s13 s14 s15 s16 : Option V} (hF : FlAt H F fl) (hl : fl.length ≤ 100)
    (q : ∀ M H', Same H H' → FsAt K H' M (fl.map (·.2)) → Q (.ref M) H') :
    tLc (iAny K (tVar 6)) (gName 8) tYes (tMake (He.ga K ("Form" : Str)) (sp_Form_init K) [] E0 (tCons (tVar 8) tNil)) [8]
      [s0, s1, s2, s3, s4, s5, some (.ref F), s7, s8, s9, s10, s11, s12, s13, s14, s15, s16] H Q := by
  refine g_lc (gi_list ?_)
  walk_at "go"
  refine v_ovL (SqL.of hF.1) ?_
  intro D hD
  refine c_list (fun k H2 => Same H H2 ∧ FsAt K H2 D ((fl.map (·.2)).take k)) ⟨same_new hD, atl_nil⟩ (fun k H2 _ p => SqL.of (p.1 _ _ hF.1)) ?_ ?_
  · rintro k y H2 hy ⟨s, hdd⟩
    have hk := lt_of_get hy
    rw [List.length_map] at hk
    rw [List.getElem?_map, List.getElem?_eq_getElem hk] at hy
    cases hy
    have hkm := List.getElem_mem hk
    have hts := (hF.2 _ hkm).same s
    walk_at "go"
    refine ⟨rfl, ?_⟩
    walk_at "go"
    intro x dx hx hdx hne
    refine ⟨rfl, ?_⟩
    unfold t_Form_init
    walk_at "go"
    have sx : Same H2 (upd (upd H2 dx (.own x)) x (.ins (He.ga K "Form") dx [])) := (same_new hdx).trans (same_new (by rw [upd_ne (Ne.symm hne)]; exact hx))
    obtain ⟨ws, hw, hwl, hwr⟩ := id hts
    refine v_listL (SqL.of (sx _ _ hw)) fun p hp => ?_
    walk_at "go"
    refine v_sfld (C := He.ga K "Form") (dx := dx) (fs := []) (up_new upd_same hp) T.cl_Form T.no_Form_terms (by decide) ?_
    refine ⟨rfl, ?_⟩
    have hxp : x ≠ p := ne_of_none upd_same hp
    have sF : Same H2 (upd (upd (upd (upd H2 dx (.own x)) x (.ins (He.ga K "Form") dx [])) p (.lst ws)) x (.ins (He.ga K "Form") dx (putF "terms" (.ref p) []))) := upN hx (sx.trans (same_new hp))
    obtain ⟨ds, hds, hdl, hdr⟩ := id hdd
    refine v_put (sF _ _ hds) (by rw [hdl]; refine small (Nat.le_trans (List.length_take_le' _ _) ?_); rw [List.length_map]; omega) ⟨upN hD (s.trans sF), ?_⟩
    have hxD : x ≠ D := Ne.symm (ne_of_none hds hx)
    have hpD : p ≠ D := Ne.symm (ne_of_none (sx _ _ hds) hp)
    have sbD : Sb D (upd (upd (upd (upd H2 dx (.own x)) x (.ins (He.ga K "Form") dx [])) p (.lst ws)) x (.ins (He.ga K "Form") dx (putF "terms" (.ref p) []))) (upd (upd (upd (upd (upd H2 dx (.own x)) x (.ins (He.ga K "Form") dx [])) p (.lst ws)) x (.ins (He.ga K "Form") dx (putF "terms" (.ref p) []))) D (.lst (ds ++ [.ref x]))) := Sb.upd
    generalize hH3 : upd (upd (upd (upd H2 dx (.own x)) x (.ins (He.ga K "Form") dx [])) p (.lst ws)) x (.ins (He.ga K "Form") dx (putF "terms" (.ref p) [])) = H3 at *
    have hx3 : H3 x = some (.ins (He.ga K "Form") dx [("terms", .ref p)]) := by rw [← hH3]; exact upd_same
    have hp3 : H3 p = some (.lst ws) := by rw [← hH3, upd_ne (Ne.symm hxp)]; exact upd_same
    have tz : (fl.map (·.2))[k]? = some fl[k].2 := by rw [List.getElem?_map, List.getElem?_eq_getElem hk]; rfl
    have dD := sF _ _ hds
    have hdd3 : FsAt K H3 D ((fl.map (·.2)).take k) := hdd.same sF
    have hwts : TsAt H3 p fl[k].2 := ⟨ws, hp3, hwl, fun i v x e1 e2 => TmAt.same sF v x (hwr i v x e1 e2)⟩
    rw [take1 tz]
    exact push_fm hdd3 dD hx3 hwts hpD
  · rintro H2 ⟨s, hdd⟩
    rw [takeAll (by rw [List.length_map, List.length_map]; omega)] at hdd
    exact q D H2 s hdd
end
end Lw

namespace Lw
open PySem PySem.Spec PyProof.Rows L2 G
theorem solv_map {nm : List Str} {row : List Int} : ∀ {fs : List (List Tm)} {made : List Int}, fs.length = made.length → (solv nm fs made row = true ↔ (fs.map fun ts => val nm row ts) = made)
  | [], [], _ => ⟨fun _ => rfl, fun _ => rfl⟩
  | [], _ :: _, h => by cases h
  | _ :: _, [], h => by cases h
  | f :: fs, m :: made, h => by
    have ih := solv_map (nm := nm) (row := row) (fs := fs) (made := made) (Nat.succ.inj h)
    unfold solv at *
    rw [List.zip_cons_cons, List.map_cons, List.all_cons, Bool.and_eq_true, ih, List.map_cons, List.cons.injEq]
    exact and_congr_left fun _ => decide_eq_true_iff
/-- what is found -/
def Fd (H : Hp) (v : V) (nm : List Str) (fs : List (List Tm)) (made : List Int) (rows : List (List Int)) (t : Option (List Int)) : Prop :=
  (v = .non ∧ ∀ r ∈ rows, vals nm fs r ≠ made) ∨ ∃ p r, v = .ref p ∧ IsAt H p r ∧ r ∈ rows ∧ vals nm fs r = made ∧ ∀ r' ∈ rows, vals nm fs r' = made → r' = r ∨ LtR t r r'
theorem cmp_tgt {b : Int × Int} {bs : List (Int × Int)} {old : Option (List (Option Int))} {u v : Int} (hu : b.1 ≤ u) (hv : b.1 ≤ v) : cmpO (tOf old) 0 u v ↔ lt1 ((tgt (b :: bs) old).getD 0 0) u v := by
  have low : u < v ↔ lt1 b.1 u v := by unfold lt1; omega
  cases old with
  | none => exact low
  | some os =>
    cases ha : os.any (fun o => decide (oV o = .non)) with
    | true => rw [tOf_T ha, tgt_T ha]; exact low
    | false => rw [tOf_F ha, tgt_F ha]; exact Iff.rfl
theorem len2 {α : Type} {l : List α} (h : l.length = 2) : ∃ a b, l = [a, b] := by
  match l, h with
  | [a, b], _ => exact ⟨a, b, rfl⟩
theorem tgt_len {bs : List (Int × Int)} {old : Option (List (Option Int))} {n : Nat} (h : bs.length = n) (ho : ∀ os, old = some os → os.length = n) : (tgt bs old).length = n := by
  cases old with
  | none => show (bs.map _).length = n; rw [List.length_map, h]
  | some os =>
    cases ha : os.any (fun o => decide (oV o = .non)) with
    | true => rw [tgt_T ha, List.length_map, h]
    | false => rw [tgt_F ha, List.length_map, ho os rfl]
section
variable {K : PySem.W.Frag} {H : Hp} {Q : VK} {E : XK} {mg : Str → Option Value}
theorem rd_nearest (T : Tx K mg) {f g B m : Addr} {ov : V} {nm : List Str} {fs : List (List Tm)} {made : List Int} {bs : List (Int × Int)} {old : Option (List (Option Int))} {rows : List (List Int)}
    (hnm : nm = ([("x" : Str)] : List Str) ∨ nm = ([("x" : Str), ("z" : Str)] : List Str)) (hbl : bs.length = nm.length) (hf : FsAt K H f fs) (hg : NsAt H g nm) (hB : BsAt H B bs) (hm : IsAt H m made) (hO : OlAt H ov old) (ho : ∀ os, old = some os → os.length = nm.length)
    (hfs : ∀ ts ∈ fs, SmF ts) (okk : ∀ ts ∈ fs, ∀ t ∈ ts, okT nm t) (hmd : ∀ c ∈ made, c.natAbs < 1000000) (hfl : fs.length = made.length) (hl2 : fs.length ≤ 2) (hx : nm.length = 2 → ∀ n ∈ nm, ∃ ts ∈ fs, fac ts n ≠ 0)
    (hbs : ∀ b ∈ bs, b.1.natAbs < 1000 ∧ b.2.natAbs < 1000 ∧ b.1 ≤ b.2) (hrows : ∀ r, r ∈ rows ↔ (r.length = bs.length ∧ inB bs r = true))
    (q : ∀ v H', Same H H' → Fd H' v nm fs made rows (tOf old) → Q v H') : sp_nearest_source K [.ref f, .ref g, .ref B, .ref m, ov] H Q E := by
  have htl := tgt_len hbl ho
  rcases hnm with rfl | rfl
  · match bs, hbl with
    | [(lo, hi)], _ =>
      have hb := hbs _ List.mem_cons_self
      refine rd_ns hg hB hO (by show 1 ≤ 100; omega) (fun os e => by rw [ho os e]; show 1 ≤ 100; omega) fun A H1 s1 hA => ?_
      rw [if_pos (show ([("x" : Str)] : List Str).length = 1 from rfl)]
      obtain ⟨t0, et⟩ : ∃ t0, tgt [(lo, hi)] old = [t0] := List.length_eq_one_iff.mp htl
      have e0 : (tgt [(lo, hi)] old).getD 0 0 = t0 := by rw [et]; rfl
      rw [et] at hA
      have sv : ∀ u, [u] ∈ rows ∧ vals ["x"] fs [u] = made ↔ sol1 "x" fs made lo hi u := fun u => by
        unfold sol1
        rw [hrows, solv_map hfl]
        have : vals ["x"] fs [u] = fs.map fun ts => val ["x"] [u] ts := List.map_congr_left fun ts h => lval1 (okk ts h)
        rw [this]
        exact and_congr_left fun _ => ⟨fun z => z.2, fun z => ⟨rfl, z⟩⟩
      have one : ∀ r ∈ rows, ∃ u, r = [u] := fun r h => List.length_eq_one_iff.mp ((hrows r).mp h).1
      refine rd_one_source T (hf.same s1) (s1 _ _ hg) (hB.same s1) (s1 _ _ hm) hA hfs hfl hl2 ⟨hb.1, hb.2.1⟩ hb.2.2 (fun H2 s2 hno => ?_) (fun p u H2 s2 hp hs hmin => ?_)
      · refine q _ _ (s1.trans s2) (.inl ⟨rfl, fun r hr hv => ?_⟩)
        obtain ⟨u, rfl⟩ := one r hr
        exact hno u ((sv u).mp ⟨hr, hv⟩)
      · have k := (sv u).mpr hs
        refine q _ _ (s1.trans s2) (.inr ⟨p, [u], rfl, hp, k.1, k.2, fun r hr hv => ?_⟩)
        obtain ⟨u', rfl⟩ := one r hr
        have h' := (sv u').mp ⟨hr, hv⟩
        by_cases c : u' = u
        · exact .inl (by rw [c])
        · refine .inr ⟨0, by show 0 < 1; omega, fun j h => absurd h (Nat.not_lt_zero _), ?_⟩
          refine (cmp_tgt (b := (lo, hi)) (bs := []) (inB1.mp hs.1).1 (inB1.mp h'.1).1).mpr ?_
          rw [e0]
          have := hmin u' h'
          show lt1 t0 u u'
          unfold lt1 at *
          omega
  · match bs, hbl with
    | [(lo0, hi0), (lo1, hi1)], _ =>
      have hb0 := hbs _ List.mem_cons_self
      have hb1 := hbs _ (List.mem_cons_of_mem _ List.mem_cons_self)
      obtain ⟨lo, hlo⟩ : ∃ lo : Nat → Int, lo 0 = lo0 ∧ lo 1 = lo1 := ⟨fun i => if i = 0 then lo0 else lo1, rfl, rfl⟩
      obtain ⟨hi, hhi⟩ : ∃ hi : Nat → Int, hi 0 = hi0 ∧ hi 1 = hi1 := ⟨fun i => if i = 0 then hi0 else hi1, rfl, rfl⟩
      obtain ⟨rfl, rfl⟩ := hlo
      obtain ⟨rfl, rfl⟩ := hhi
      clear hbs
      refine rd_ns hg hB hO (by show 2 ≤ 100; omega) (fun os e => by rw [ho os e]; show 2 ≤ 100; omega) fun A H1 s1 hA => ?_
      rw [if_neg (show ¬ ([("x" : Str), ("z" : Str)] : List Str).length = 1 by show ¬ 2 = 1; omega)]
      obtain ⟨t0, t1, et⟩ : ∃ t0 t1, tgt [(lo 0, hi 0), (lo 1, hi 1)] old = [t0, t1] := len2 htl
      have e0 : (tgt [(lo 0, hi 0), (lo 1, hi 1)] old).getD 0 0 = t0 := by rw [et]; rfl
      rw [et] at hA
      have sv : ∀ u w, [u, w] ∈ rows ∧ vals ["x", "z"] fs [u, w] = made ↔ sol2 "x" "z" fs made lo hi u w := fun u w => by
        unfold sol2
        rw [hrows, solv_map hfl]
        have : vals ["x", "z"] fs [u, w] = fs.map fun ts => val ["x", "z"] [u, w] ts := List.map_congr_left fun ts h => lval2 (by decide +kernel) (okk ts h)
        rw [this]
        exact and_congr_left fun _ => ⟨fun z => z.2, fun z => ⟨rfl, z⟩⟩
      have two : ∀ r ∈ rows, ∃ u w, r = [u, w] := fun r h => len2 ((hrows r).mp h).1
      refine rd_two_sources T (hf.same s1) (s1 _ _ hg) (hB.same s1) (s1 _ _ hm) hA hfs hmd hfl hl2 (hx rfl _ List.mem_cons_self) (hx rfl _ (List.mem_cons_of_mem _ List.mem_cons_self)) (fun i h => ?_) (fun H2 s2 hno => ?_) (fun p u w H2 s2 hp hs hmin => ?_)
      · match i, h with
        | 0, _ => exact ⟨hb0.1, hb0.2.1⟩
        | 1, _ => exact ⟨hb1.1, hb1.2.1⟩
      · refine q _ _ (s1.trans s2) (.inl ⟨rfl, fun r hr hv => ?_⟩)
        obtain ⟨u, w, rfl⟩ := two r hr
        exact hno u w ((sv u w).mp ⟨hr, hv⟩)
      · have k := (sv u w).mpr hs
        refine q _ _ (s1.trans s2) (.inr ⟨p, [u, w], rfl, hp, k.1, k.2, fun r hr hv => ?_⟩)
        obtain ⟨u', w', rfl⟩ := two r hr
        have h' := (sv u' w').mp ⟨hr, hv⟩
        have hm' := hmin u' w' h'
        by_cases c : u' = u
        · exact .inl (by rw [c, hm'.2 c])
        · refine .inr ⟨0, by show 0 < 2; omega, fun j h => absurd h (Nat.not_lt_zero _), ?_⟩
          refine (cmp_tgt (b := (lo 0, hi 0)) (bs := [(lo 1, hi 1)]) (inB2.mp hs.1).1.1 (inB2.mp h'.1).1.1).mpr ?_
          rw [e0]
          have := hm'.1
          show lt1 t0 u u'
          unfold lt1 at *
          omega
end
end Lw

namespace Lw
open PySem PySem.Spec PyProof.Rows L2 G
theorem lval_bnd {nm : List Str} {row : List Int} (hr : ∀ i, (row.getD i 0).natAbs ≤ 100) : ∀ {ts : List Tm}, (∀ t ∈ ts, okT nm t) → (lval nm row ts).natAbs ≤ 400 * ts.length
  | [], _ => by show (0 : Int).natAbs ≤ _; simp
  | t :: ts, h => by
    have ih := lval_bnd (nm := nm) hr (ts := ts) fun t ht => h t (List.mem_cons_of_mem _ ht)
    have k := h t List.mem_cons_self
    have e : lval nm row (t :: ts) = tv nm row t + lval nm row ts := by unfold lval; rw [List.map_cons, List.sum_cons]
    have b : (tv nm row t).natAbs ≤ 400 := by
      unfold tv
      unfold okT at k
      split
      · omega
      · rename_i s _
        rw [Int.natAbs_mul]
        have := Nat.mul_le_mul (show t.1.natAbs ≤ 4 by omega) (hr (nm.findIdx fun n => decide (n = s)))
        omega
    rw [e, List.length_cons]
    omega
theorem inB_bnd {bs : List (Int × Int)} {r : List Int} (h : inB bs r = true) (he : r.length = bs.length) (hb : ∀ b ∈ bs, -100 ≤ b.1 ∧ b.2 ≤ 100) : ∀ i, (r.getD i 0).natAbs ≤ 100 := by
  intro i
  rw [List.getD_eq_getElem?_getD]
  by_cases hi : i < r.length
  · rw [List.getElem?_eq_getElem hi]
    show (r[i]).natAbs ≤ 100
    unfold inB at h
    have hz : (bs.zip r)[i]? = some (bs[i], r[i]) := by rw [List.getElem?_eq_getElem (by rw [List.length_zip]; omega), List.getElem_zip]
    have k := List.all_eq_true.mp h _ (List.mem_map.mpr ⟨_, List.mem_of_getElem? hz, rfl⟩)
    have k : (decide (bs[i].1 ≤ r[i]) && decide (r[i] ≤ bs[i].2)) = true := k
    rw [Bool.and_eq_true] at k
    have k1 := of_decide_eq_true k.1
    have k2 := of_decide_eq_true k.2
    have := hb _ (List.getElem_mem (l := bs) (n := i) (by omega))
    omega
  · rw [List.getElem?_eq_none (by omega)]
    show (0 : Int).natAbs ≤ 100
    simp
section
variable {K : PySem.W.Frag} {H : Hp} {Q : VK} {E : XK} {mg : Str → Option Value}
theorem law16 (T : Tx K mg) (H : Hp) (a : Addr) (ns : List Int) (hl : ns.length ≤ 63) (hO : Only H) (hS : SqL K H a (ns.map V.int)) : sp_law K [.ref a] H (fun v _ => v = .bl true) fun _ _ _ => False := by
  refine ⟨rfl, ?_⟩
  unfold t_law
  walk_at "go"
  refine rd_cells (n := 8) hS (by decide) fun d xs H1 hd0 hd1 hlx hs1 => ?_
  have D1 : Dr d H1 := ⟨xs, by intro z; rw [z] at hlx; simp at hlx, by omega, hd1⟩
  clear hd0 hd1 hlx hs1
  walk_at "go"
  intro a1 ha1
  walk_at "go"
  intro a2 ha2
  walk_at "go"
  intro a3 ha3
  walk_at "go"
  intro a4 ha4
  walk_at "go"
  have sA : Same H1 (upd (upd (upd H1 a1 (.lst [.str "x"])) a2 (.lst [.str "x", .str "z"])) a3 (.lst [.str "x", .str "z"])) := ((same_new ha1).trans (same_new ha2)).trans (same_new ha3)
  have D3 := D1.same' sA
  have D4 := D3.same' (same_new (o := .lst [.ref a1, .ref a2, .ref a3]) ha4)
  refine rd_pick D4 upd_same (by show 0 < 3; omega) (by show 3 < 1000000; omega) (D3.ne ha4) fun i v H2 hi D2 s2 => ?_
  obtain ⟨nm, g, rfl, hg, hnm⟩ : ∃ nm g, v = .ref g ∧ NsAt (Wm d H2) g nm ∧ (nm = ([("x" : Str)] : List Str) ∨ nm = ([("x" : Str), ("z" : Str)] : List Str)) := by
    have n1 := D1.ne ha1
    have n2 := (D1.same' (same_new (o := .lst [.str "x"]) ha1)).ne ha2
    have n3 := (D1.same' ((same_new (o := .lst [.str "x"]) ha1).trans (same_new (o := .lst [.str "x", .str "z"]) ha2))).ne ha3
    have f1 : (upd (upd (upd H1 a1 (.lst [.str "x"])) a2 (.lst [.str "x", .str "z"])) a3 (.lst [.str "x", .str "z"])) a1 = some (.lst [.str "x"]) := up_new (up_new upd_same ha2) ha3
    have f2 : (upd (upd (upd H1 a1 (.lst [.str "x"])) a2 (.lst [.str "x", .str "z"])) a3 (.lst [.str "x", .str "z"])) a2 = some (.lst [.str "x", .str "z"]) := up_new upd_same ha3
    match i, hi with
    | 0, hi => cases hi; exact ⟨[("x" : Str)], a1, rfl, s2.wm _ _ (Wm.of (up_new f1 ha4) n1), .inl rfl⟩
    | 1, hi => cases hi; exact ⟨[("x" : Str), ("z" : Str)], a2, rfl, s2.wm _ _ (Wm.of (up_new f2 ha4) n2), .inr rfl⟩
    | 2, hi => cases hi; exact ⟨[("x" : Str), ("z" : Str)], a3, rfl, s2.wm _ _ (Wm.of (up_new upd_same ha4) n3), .inr rfl⟩
    | k + 3, hi => cases hi
  clear s2 D4 D3 sA ha4 ha3 ha2 ha1 D1
  have nl0 : 0 < nm.length := by rcases hnm with rfl | rfl <;> decide
  have nl2 : nm.length ≤ 2 := by rcases hnm with rfl | rfl <;> decide
  have nnd : nm.Nodup := by rcases hnm with rfl | rfl <;> decide +kernel
  walk_at "go"
  intro B hB
  walk_at "go"
  refine gi_list ?_
  walk_at "go"
  have hBd := D2.ne hB
  have sB : Same (Wm d H2) (Wm d (upd H2 B (.lst []))) := D2.wm (same_new hB)
  refine v_ovL (SqL.of (Wm.same _ _ (sB _ _ hg))) ?_
  refine l_list (fun i σ H' => ∃ (bs : List (Int × Int)) (v4 v5 : Option V), σ = [some (.ref a), some (.ref d), some (.ref g), some (.ref B), v4, v5, none, none, none, none, none, none, none, none, none, none, none] ∧ Dr d H' ∧ Same (Wm d H2) (Wm d H') ∧
      AtL (TpAt fun b : Int × Int => [.int b.1, .int b.2]) (Wm d H') B bs ∧ bs.length = i ∧ ∀ b ∈ bs, -5 ≤ b.1 ∧ b.1 ≤ 3 ∧ b.1 ≤ b.2 ∧ b.2 ≤ b.1 + 9)
    ⟨[], none, none, rfl, D2.upd_ne hBd, sB, ⟨[], Wm.of upd_same hBd, rfl, fun i v x h => (by cases h)⟩, rfl, fun b h => (by cases h)⟩ (fun i σ H' _ ⟨_, _, _, _, _, s, _⟩ => SqL.of (Wm.same _ _ (s _ _ hg))) ?_ ?_
  · rintro i x σ H' hx ⟨bs, v4, v5, rfl, hd, s, hb, hbl, hbo⟩
    have hi := lt_of_get hx
    rw [List.length_map] at hi
    obtain ⟨ws, hw, hwl, _⟩ := id hb
    walk_at "go"
    refine rd_draw hd ⟨by decide, by decide⟩ fun c H3 c0 c1 hd3 s3 => ?_
    walk_at "go"
    refine g_tyL (Wm.same _ _ (s3.wm _ _ hw)) ?_
    walk_at "go"
    refine rd_draw hd3 ⟨by decide, by decide⟩ fun e H4 e0 e1 hd4 s4 => ?_
    walk_at "go"
    intro p hp
    walk_at "go"
    have S5 : Same (Wm d H') (Wm d (upd H4 p (.tup [.int (c - 5), .int (c - 5 + e)]))) := (s3.wm.trans s4.wm).trans (hd4.wm (same_new hp))
    refine v_append (Wm.same _ _ (S5 _ _ hw)) (by rw [hwl]; exact small (by omega)) ?_
    refine ⟨bs ++ [(c - 5, c - 5 + e)], _, _, rfl, (hd4.same' (same_new hp)).upd_ne hBd, ?_, ?_, by rw [List.length_append, hbl]; rfl, fun b h => ?_⟩
    · rw [wm_upd hBd]
      exact upN (Wm.none hB) (s.trans S5)
    · rw [wm_upd hBd]
      exact push_tp (AtL.same hb S5 fun v t => TpAt.same S5 v t) (S5 _ _ hw) ⟨p, rfl, Wm.of upd_same (hd4.ne hp)⟩
    · rcases List.mem_append.mp h with h | h
      · exact hbo b h
      · rw [List.mem_singleton.mp h]
        exact ⟨by show -5 ≤ c - 5; omega, by show c - 5 ≤ 3; omega, by show c - 5 ≤ c - 5 + e; omega, by show c - 5 + e ≤ c - 5 + 9; omega⟩
  rintro σ H3 ⟨bs, v4, v5, rfl, D3, S3, hbs, hbl, hbo⟩
  rw [List.length_map] at hbl
  have hg3 : NsAt (Wm d H3) g nm := S3 _ _ hg
  have hB3 : BsAt (Wm d H3) B bs := hbs
  clear hbs S3 hg sB D2
  walk_at "go"
  refine rd_forms D3 hg3 nl0 nl2 fun F H4 fl hf4 f0 f2 => ?_
  walk_at "go"
  refine g_cut (fun σ' H' => ∃ fl v4 v8, σ' = [some (.ref a), some (.ref d), some (.ref g), some (.ref B), v4, v5, some (.ref F), none, v8, none, none, none, none, none, none, none, none] ∧ Fms d H3 H' F nm 5 fl ∧ 0 < fl.length ∧ fl.length ≤ 2 ∧ (nm.length = 2 → ∀ n ∈ nm, ∃ p ∈ fl, fac p.2 n ≠ 0)) ?_ ?_
  · walk_at "go"
    refine v_lenL (Wm.same _ _ (hf4.s _ _ hg3)) ?_
    walk_at "go"
    rw [List.length_map]
    by_cases h2 : nm.length = 2
    · rw [decide_eq_true (by omega)]
      refine iteT ?_
      exact rd_names hf4 f0 f2 hg3 nl2 nnd fun H' fl' v4 v8 hf' hfl hne => ⟨fl', v4, v8, rfl, hf', by omega, by omega, fun _ => hne⟩
    · rw [decide_eq_false (by omega)]
      walk_at "go"
      exact ⟨fl, _, _, rfl, ⟨hf4.dr, hf4.s, hf4.f0, hf4.fa, hf4.new, fun p hp => by have := hf4.len p hp; omega, hf4.ok, hf4.nd⟩, f0, f2, fun z => absurd z h2⟩
  clear hf4 f0 f2
  rintro σ' H5 ⟨fl, v4, v8, rfl, hf, f0, f2, hne⟩
  have hfa := hf.fa
  have hg5 := hf.s _ _ hg3
  have hB5 := hB3.same hf.s
  have flen := hf.len
  have fok := hf.ok
  have D5 := hf.dr
  clear hf hg3 hB3 D3
  walk_at "go"
  refine rd_rows D5 hB5 (fun b h => by have := hbo b h; omega) (by omega) fun R rows H6 hR hrl hrm D6 s6 => ?_
  walk_at "go"
  have S6 := D5.wm s6
  have hfa6 := hfa.same S6
  have hg6 := S6 _ _ hg5
  have hB6 := hB5.same S6
  clear hfa hg5 hB5 S6 s6 D5
  obtain ⟨ws, hw, hwl, hwr⟩ := id hR
  have hr0 : 0 < rows.length := by
    have hin : bs.map (·.1) ∈ rows := by
      rw [hrm, List.length_map]
      refine ⟨rfl, ?_⟩
      unfold inB
      rw [List.all_map, List.all_eq_true]
      intro p hp
      have hz : ∀ (bs : List (Int × Int)) p, p ∈ bs.zip (bs.map (·.1)) → p.1 ∈ bs ∧ p.2 = p.1.1 := by
        intro bs
        induction bs with
        | nil => intro p hp; cases hp
        | cons b r ih =>
          intro p hp
          rw [List.map_cons, List.zip_cons_cons] at hp
          rcases List.mem_cons.mp hp with h | h
          · rw [h]; exact ⟨List.mem_cons_self, rfl⟩
          · exact ⟨List.mem_cons_of_mem _ (ih p h).1, (ih p h).2⟩
      obtain ⟨h1, h2⟩ := hz bs p hp
      have := hbo _ h1
      show (decide (p.1.1 ≤ p.2) && decide (p.2 ≤ p.1.2)) = true
      rw [h2, decide_eq_true (Int.le_refl _), decide_eq_true this.2.2.1]
      rfl
    exact List.length_pos_of_mem hin
  refine rd_pick D6 (Wm.same _ _ hw) (by omega) (by omega) (Wm.ne hw) fun i v H7 hi D7 s7 => ?_
  have hi' := lt_of_get hi
  have hri : rows[i]? = some rows[i] := List.getElem?_eq_getElem (by omega)
  obtain ⟨ra, rfl, hra⟩ := hwr i v _ hi hri
  have hrow : rows[i] ∈ rows := List.getElem_mem _
  generalize rows[i] = row at hra hrow hri
  have hfa7 := hfa6.same s7.wm
  have hg7 : NsAt (Wm d H7) g nm := s7.wm _ _ hg6
  have hB7 := hB6.same s7.wm
  have hR7 := hR.same s7.wm
  have hra7 : IsAt (Wm d H7) ra row := s7.wm _ _ hra
  clear hfa6 hg6 hB6 hR hra hri hi hi' hwr hwl hw D6 s7
  walk_at "go"
  have hrowl := (hrm row).mp hrow
  refine rd_vals (hfa7.same Wm.same) (Wm.same _ _ hg7) (Wm.same _ _ hra7) fok (by rw [hrowl.1, hbl]) (by omega) fun M H8 hM s8 hMi => ?_
  have D8 := D7.same' s8
  have S8 := D7.wm s8
  have hMd := D7.ne hM
  have hvb : ∀ c ∈ vals nm (fl.map (·.2)) row, c.natAbs ≤ 400 * 5 := fun c hc => by
    unfold vals at hc
    obtain ⟨ts, ht, rfl⟩ := List.mem_map.mp hc
    obtain ⟨p, hp, rfl⟩ := List.mem_map.mp ht
    have := lval_bnd (nm := nm) (row := row) (inB_bnd hrowl.2 hrowl.1 fun b h => by have := hbo b h; omega) (fok p hp)
    have h5 := flen p hp
    omega
  have hvl : (vals nm (fl.map (·.2)) row).length = fl.length := by unfold vals; rw [List.length_map, List.length_map]
  generalize vals nm (fl.map (·.2)) row = made0 at *
  walk_at "go"
  refine g_cut (fun σ' H' => ∃ made : List Int, σ' = [some (.ref a), some (.ref d), some (.ref g), some (.ref B), v4, v5, some (.ref F), none, v8, some (.ref R), some (.ref ra), some (.ref M), none, none, none, none, none] ∧ Dr d H' ∧ Same (Wm d H7) (Wm d H') ∧ IsAt H' M made ∧ made.length = fl.length ∧ ∀ c ∈ made, c.natAbs < 1000000) ?_ ?_
  · walk_at "go"
    refine rd_draw D8 ⟨by decide, by decide⟩ fun c H9 c0 c1 D9 s9 => ?_
    walk_at "go"
    by_cases hc : c = 0
    · rw [decide_eq_true hc]
      walk_at "go"
      cases made0 with
      | nil => rw [← hvl] at f0; cases f0
      | cons m0 mr =>
        have hM9 := s9 _ _ hMd hMi
        refine v_ixL hM9 (atN (i := 0) rfl rfl) ?_
        walk_at "go"
        refine rd_draw D9 ⟨by decide, by decide⟩ fun e H10 e0 e1 D10 s10 => ?_
        walk_at "go"
        have hM10 := s10 _ _ hMd hM9
        refine v_setL (j := 0) hM10 (by simp [ixN]) ?_
        refine ⟨(m0 + e - 2) :: mr, rfl, D10.upd_ne hMd, ?_, upd_same, hvl, fun c' h => ?_⟩
        · rw [wm_upd hMd]
          exact upN (Wm.none hM) ((S8.trans s9.wm).trans s10.wm)
        · rcases List.mem_cons.mp h with h | h
          · have := hvb m0 List.mem_cons_self
            rw [h]
            omega
          · have := hvb c' (List.mem_cons_of_mem _ h)
            omega
    · rw [decide_eq_false hc]
      walk_at "go"
      exact ⟨made0, rfl, D9, S8.trans s9.wm, s9 _ _ hMd hMi, hvl, fun c' h => by have := hvb c' h; omega⟩
  clear hvb hvl hMi S8 D8 s8 D7
  rintro σ' H9 ⟨made, rfl, D9, S9, hM9, hml, hmb⟩
  have hfa9 := hfa7.same S9
  have hg9 : NsAt (Wm d H9) g nm := S9 _ _ hg7
  have hB9 := hB7.same S9
  have hR9 := hR7.same S9
  have hM9' : IsAt (Wm d H9) M made := Wm.of hM9 hMd
  clear hfa7 hg7 hB7 hR7 hra7 S9 hM9
  walk_at "go"
  refine g_cut (fun σ' H' => ∃ (ov : V) (old : Option (List (Option Int))) (v13 : Option V), σ' = [some (.ref a), some (.ref d), some (.ref g), some (.ref B), v4, v5, some (.ref F), none, v8, some (.ref R), some (.ref ra), some (.ref M), some ov, v13, none, none, none] ∧ Same (Wm d H9) (Wm d H') ∧ OlAt H' ov old ∧ ∀ os, old = some os → os.length = nm.length) ?_ ?_
  · walk_at "go"
    refine rd_draw D9 ⟨by decide, by decide⟩ fun c H10 c0 c1 D10 s10 => ?_
    walk_at "go"
    by_cases hc : 0 < c
    case neg =>
      rw [decide_eq_false hc]
      walk_at "go"
      exact ⟨.non, none, _, rfl, s10.wm, rfl, fun os e => by cases e⟩
    rw [decide_eq_true hc]
    walk_at "go"
    refine g_lc (gi_list ?_)
    walk_at "go"
    obtain ⟨us, hu, hul, hur⟩ := hB9
    refine v_ovL (SqL.of (Wm.same _ _ (s10.wm _ _ hu))) ?_
    intro O hO'
    have hOd := D10.ne hO'
    have SO : Same (Wm d H9) (Wm d (upd H10 O (.lst []))) := s10.wm.trans (D10.wm (same_new hO'))
    refine c_list (fun k H' => Dr d H' ∧ Same (Wm d H9) (Wm d H') ∧ ∃ is : List Int, is.length = k ∧ IsAt (Wm d H') O is) ⟨D10.upd_ne hOd, SO, [], rfl, Wm.of upd_same hOd⟩ (fun k H' _ p => SqL.of (Wm.same _ _ (p.2.1 _ _ hu))) ?_ ?_
    · rintro k y H' hy ⟨hd, s, is, hil, hi⟩
      have hk := lt_of_get hy
      have hbk : bs[k]? = some bs[k] := List.getElem?_eq_getElem (by omega)
      obtain ⟨br, rfl, hbr⟩ := hur k y _ hy hbk
      have hb := hbo _ (List.getElem_mem (l := bs) (n := k) (by omega))
      generalize bs[k] = b at *
      have hbr' := s _ _ hbr
      walk_at "go"
      refine ⟨rfl, ?_⟩
      walk_at "go"
      refine v_ixT (Wm.same _ _ hbr') (atN (i := 0) rfl rfl) ?_
      walk_at "go"
      refine v_ixT (Wm.same _ _ hbr') (atN (i := 1) rfl rfl) ?_
      walk_at "go"
      refine v_ixT (Wm.same _ _ hbr') (atN (i := 0) rfl rfl) ?_
      walk_at "go"
      refine rd_draw hd ⟨by omega, by omega⟩ fun e H11 e0 e1 hd2 s2 => ?_
      walk_at "go"
      have hi2 := s2.wm _ _ hi
      refine v_put (Wm.same _ _ hi2) (by rw [List.length_map]; exact small (by omega)) ⟨hd2.upd_ne hOd, ?_, is ++ [b.1 + e], by rw [List.length_append, hil]; rfl, ?_⟩
      · rw [wm_upd hOd]
        exact upN (none_back (s10.wm) hO' hOd |> Wm.none) (s.trans s2.wm)
      · unfold IsAt
        rw [wm_upd hOd, upd_same, List.map_append]
        rfl
    · rintro H' ⟨hd, s, is, hil, hi⟩
      walk_at "go"
      refine rd_draw hd ⟨by decide, by decide⟩ fun e H11 e0 e1 hd2 s2 => ?_
      walk_at "go"
      have hi2 := s2.wm _ _ hi
      have eo : is.map V.int = (is.map some).map oV := by rw [List.map_map]; rfl
      have hil2 : is.length = nm.length := by omega
      by_cases he : e = 0
      · rw [decide_eq_true he]
        walk_at "go"
        refine v_lenL (Wm.same _ _ hi2) ?_
        walk_at "go"
        rw [List.length_map]
        refine rd_draw hd2 ⟨by omega, by omega⟩ fun j H12 j0 j1 hd3 s3 => ?_
        have hi3 := s3.wm _ _ hi2
        obtain ⟨j', rfl⟩ := Int.eq_ofNat_of_zero_le j0
        refine v_setL (j := j') (Wm.same _ _ hi3) (by rw [List.length_map]; simp [ixN]; omega) ?_
        refine ⟨.ref O, some ((is.map some).set j' none), _, rfl, ?_, ⟨O, rfl, ?_⟩, fun os e => ?_⟩
        · rw [wm_upd hOd]
          exact upN (none_back (s10.wm) hO' hOd |> Wm.none) ((s.trans s2.wm).trans s3.wm)
        · rw [upd_same, eo, List.map_set]
          rfl
        · cases e
          rw [List.length_set, List.length_map, hil2]
      · rw [decide_eq_false he]
        walk_at "go"
        refine ⟨.ref O, some (is.map some), _, rfl, s.trans s2.wm, ⟨O, rfl, ?_⟩, fun os e => ?_⟩
        · rw [← eo]
          exact Wm.same _ _ hi2
        · cases e
          rw [List.length_map, hil2]
  rintro σ' H10 ⟨ov, old, v13, rfl, S10, hO10, hol⟩
  have sU : Same (Wm d H9) H10 := S10.trans Wm.same
  have hfa10 := hfa9.same sU
  have hg10 : NsAt H10 g nm := sU _ _ hg9
  have hB10 := hB9.same sU
  have hR10 := hR9.same sU
  have hM10 : IsAt H10 M made := sU _ _ hM9'
  clear hfa9 hg9 hB9 hR9 hM9' sU S10 D9
  have hrlen : ∀ r ∈ rows, r.length = nm.length := fun r h => by rw [((hrm r).mp h).1, hbl]
  walk_at "go1"
  walk_at "go1"
  refine rd_best hfa10 hg10 hR10 hM10 hO10 fok hrlen (by omega) hol (by omega) fun bv H11 w8 w10 s11 hbest => ?_
  walk_at "go"
  have hfa11 := hfa10.same s11
  have hg11 : NsAt H11 g nm := s11 _ _ hg10
  have hB11 := hB10.same s11
  have hM11 : IsAt H11 M made := s11 _ _ hM10
  have hO11 := hO10.same s11
  clear hfa10 hg10 hB10 hM10 hO10 hR10
  refine v_listL (SqL.of hM11) fun M2 hM2 => ?_
  walk_at "go"
  have s12 : Same H11 (upd H11 M2 (.lst (made.map V.int))) := same_new hM2
  refine rd_objs T (hfa11.same s12) (by omega) fun FF H13 s13 hFF => ?_
  walk_at "go"
  have sA := s12.trans s13
  refine v_listL (SqL.of (sA _ _ hg11)) fun g2 hg2 => ?_
  walk_at "go"
  have sB := sA.trans (same_new (o := .lst (nm.map V.str)) hg2)
  obtain ⟨us, hu, hul, hur⟩ := id hB11
  refine v_listL (SqL.of (sB _ _ hu)) fun B2 hB2 => ?_
  walk_at "go"
  have sC := sB.trans (same_new (o := .lst us) hB2)
  have fBC : Same H13 (upd (upd H13 g2 (.lst (nm.map V.str))) B2 (.lst us)) := (same_new hg2).trans (same_new hB2)
  have hBB : BsAt (upd (upd H13 g2 (.lst (nm.map V.str))) B2 (.lst us)) B2 bs := ⟨us, upd_same, hul, fun i v x e1 e2 => BdAt.same sC v x (hur i v x e1 e2)⟩
  have hgg : NsAt (upd (upd H13 g2 (.lst (nm.map V.str))) B2 (.lst us)) g2 nm := up_new upd_same hB2
  have hMM : IsAt (upd (upd H13 g2 (.lst (nm.map V.str))) B2 (.lst us)) M2 made := fBC _ _ (s13 _ _ upd_same)
  have okk : ∀ ts ∈ fl.map (·.2), ∀ t ∈ ts, okT nm t := fun ts h => by
    obtain ⟨p, hp, rfl⟩ := List.mem_map.mp h
    exact fok p hp
  refine rd_nearest T hnm hbl (hFF.same fBC) hgg hBB hMM (hO11.same sC) hol (fun ts h => ?_) okk hmb (by rw [List.length_map, hml]) (by rw [List.length_map]; omega) (fun h n hn => ?_) (fun b h => by have := hbo b h; omega) hrm fun v H14 s14 hv => ?_
  · obtain ⟨p, hp, rfl⟩ := List.mem_map.mp h
    exact smF (fok p hp) (by have := flen p hp; omega)
  · obtain ⟨p, hp, hz⟩ := hne h n hn
    exact ⟨p.2, List.mem_map.mpr ⟨p, hp, rfl⟩, hz⟩
  walk_at "go"
  refine v_neLI (s14 _ _ hMM) (s14 _ _ (sC _ _ hM11)) ?_
  rw [decide_eq_true rfl]
  walk_at "go"
  have sD := sC.trans s14
  rcases hbest with ⟨rfl, hno⟩ | ⟨ba, b, rfl, hba, hbm, hbv, hmin⟩
  · rw [decide_eq_true rfl]
    walk_at "go"
    rcases hv with ⟨rfl, _⟩ | ⟨p, r, rfl, hp, hr, hrv, _⟩
    · rw [decide_eq_true rfl]
    · exact absurd hrv (hno r hr)
  · rw [decide_eq_false (by intro z; cases z)]
    walk_at "go"
    rcases hv with ⟨rfl, hno⟩ | ⟨p, r, rfl, hp, hr, hrv, hlt⟩
    · exact absurd hbv (hno b hbm)
    · refine v_isiL hp ?_
      walk_at "go"
      refine v_eqLI hp (sD _ _ hba) ?_
      have e : b = r := (hlt b hbm hbv).resolve_right (hmin r hr hrv)
      rw [e, decide_eq_true rfl]
end
end Lw

open PySem PySem.W PySem.Calls PyProof.Rows
set_option maxHeartbeats 0 in
theorem PySem.Challenge.cw_oneheap_k16_nearest_integers_holds : PySem.Challenge.rw_oneheap_k16_nearest_integers.Holds := by
  w_on; o_law
  refine HandSHeadRun.head_any (r := OpenLaw.row PySem.Challenge.rw_oneheap_k16_nearest_integers) (q := view (OpenLaw.row PySem.Challenge.rw_oneheap_k16_nearest_integers).prog [24]) (H := Lw.hk) (ob := Lw.ob) (M := 4000) (loose := Lw.nm) (d := HandSHeadRun.topDef (OpenLaw.row PySem.Challenge.rw_oneheap_k16_nearest_integers).prog 24) (kwd := []) Lw.ob_eq
    (by kernel_rfl) (fun s => by kernel_rfl) Lw.run (by kernel_rfl) (by kernel_rfl) (by kernel_rfl) (by rfl) (by first | assumption | decide +kernel) (by decide +kernel) ⟨rfl, rfl, rfl, rfl, rfl, by decide +kernel⟩ ?hw ?hc
  case hw => w_witness2
  case hc =>
    refine G.walk_ofW (l := PySem.Challenge.rw_oneheap_k16_nearest_integers) (n := 63) (k := 6) (x := "_law_script") rfl (by decide) (by kernel_rfl) ⟨rfl, by decide, by decide⟩ ?F
    intro w mg fa h Y G hmg0
    obtain ⟨K, KX, c⟩ := Y
    have hmg : mg ("law" : PySem.Str) = some (.ref fa) := by
      have e : (HandSHeadRun.topDef (OpenLaw.row PySem.Challenge.rw_oneheap_k16_nearest_integers).prog 24).name = ("law" : PySem.Str) := by kernel_rfl
      rw [← e]
      exact hmg0
    have T := Lw.tx KX G c.t.d c.more
    have e : fa = He.ga K "law" := by
      have z := hmg.symm.trans T.g_law
      cases z
      rfl
    subst e
    obtain ⟨fd, hb, hF⟩ := T.law (P := (PySem.Challenge.rw_oneheap_k16_nearest_integers).prog) (w := w)
    exact ⟨K, fd, Lw.sp_law K, KX, hb, fun H a ns hl hO hS => Lw.law16 T H a ns hl hO hS, hF⟩
