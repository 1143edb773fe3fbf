import PyProof.Rows.All
import Wide.All
import OpenK.AllK
import Wide.FinOn
import KE.KStateDown
import Lean
import HandS.ForMost
import HandS.ForExc
import HandS.More
import HandS.Defaults
import HandS.CallSlots
import HandS.StrMore
import HandS.Text
import HandS.Steps
import HandS.Codes
import HandS.Iter
import HandS.IsInst
import HandS.FStr
import HandS.Wide
import HandS.Head0
import HandS.Head1
import HandS.Head2
import HandS.HeadEnd
import HandS.HeadHook1
import HandS.HeadHook2
import HandS.HeadHook3
import HandS.HeadHook4
import HandS.Conv
import HandS.Style
import KE.KExcSuper
import KE.KExcInit
import KE.KSuper
import HandS.Exc
import HandS.ExcInit
import HandS.ExcField
import HandS.Ends
import KE.KExcIs
import PySem.Challenge.RW_oneheap_k00_tokens_of_texts
set_option Elab.async false
set_option linter.all false
set_option maxRecDepth 100000
set_option maxHeartbeats 4000000
namespace G
open PySem PySem.Spec PyProof.Rows L2

/-! ### what a callee keeps, by its name -/
structure Cl (P : Program) (w : World) (K : PySem.W.Frag) (mg : Str → Option Value) (base : Heap) (k : Nat) (x : Str) (sp : Sp) (dvs : List V) : Prop where
  ex : ∃ (f : Addr) (fd : FuncData) (ps : List Str) (ds : List Value), FnOk P w K mg base (L2.CX P w) k f fd ps sp ∧ mg x = some (.ref f) ∧ PySem.W.keepIn K (.ref f) = true ∧ Binds K fd ps ds ∧ Vals dvs ds
structure Mt (P : Program) (w : World) (K : PySem.W.Frag) (mg : Str → Option Value) (base : Heap) (k : Nat) (C : Addr) (m : Str) (sp : Sp) (dvs : List V) : Prop where
  ex : ∃ (f : Addr) (fd : FuncData) (ps : List Str) (ds : List Value), Cls K C ∧ Meth K C m f ∧ FnOk P w K mg base (L2.CX P w) k f fd ps sp ∧ Binds K fd ps ds ∧ Vals dvs ds
structure Mq (P : Program) (w : World) (K : PySem.W.Frag) (mg : Str → Option Value) (base : Heap) (k : Nat) (x : Str) (C : Addr) (sp : Sp) (dvs : List V) : Prop where
  ex : ∃ (f : Addr) (fd : FuncData) (ps : List Str) (ds : List Value), Mk K C f ∧ FnOk P w K mg base (L2.CX P w) k f fd ps sp ∧ mg x = some (.ref C) ∧ Binds K fd ps ds ∧ Vals dvs ds
/-- a law's end, where its defs may raise -/
theorem walk_ofW {l : PySem.W.OpenLaw} {n k : Nat} {q : Program} {loose : List Str} {XP : (Str → Option Value) → Heap → Prop} {YP : World → Heap → Prop} {d : DefRec} {x : Str}
    (hn : l.most = some n) (hn2 : n ≤ sizeLine) (hdf : d.params.defaults = []) (hr : Room k callerA)
    (F : ∀ (w : World) (mg : Str → Option Value) (fa : Addr) (h : Heap), YP w h → h.Ns mainGlobals mg → mg d.name = some (.ref fa) →
      ∃ (K : PySem.W.Frag) (fd : FuncData) (sp : Sp), K.In h ∧ (∀ (s : Shared) (u : Value), BindsTo s fd ⟨[u], []⟩ [(x, u)]) ∧
        (∀ (H : Hp) (a : Addr) (ns : List Int), ns.length ≤ n → Only H → SqL K H a (ns.map V.int) → sp [.ref a] H (fun v _ => v = .bl true) fun _ _ _ => False) ∧
        ∀ base : Heap, FnOk l.prog w K mg base (L2.CX l.prog w) k fa fd [x] sp) :
    PySem.W.WalkO q loose XP YP l.row.toRowW d [] (fun f vs => PySem.call f vs) := by
  refine Att.attach_call hn hdf fun w s₀ s₁ mg mb fa o pm cd doc a vs ns G Y ho hd hcd hmg hobj hints hlen hg => ?_
  obtain ⟨K, fd, sp, KX, hb, hsp, hF⟩ := F w mg fa _ Y G.T.g hmg
  refine law_call (CX := L2.CX l.prog w) KX G.T.g G.T.b G.T.builtins G.T.nolimit hg hobj hints (Nat.le_trans hlen hn2) hr (fun base _ _ => hF base) hb (fun H hO hS => hsp H a ns hlen hO hS) fun H e s' c => ?_
  obtain ⟨_, _, _, _, _, _, _, _, _, _, _, _, z⟩ := c
  exact z.elim
/-- nothing is let out -/
def Ez : L2.St → XK := fun _ _ _ _ => False
section
variable {X : Cx} {k j : Nat} {C : Addr} {x m : Str} {sp : Sp} {dvs : List V} {p pos apos : Pos} {e o : Expr} {es : List Expr} {ta : TE} {t : TA} {E : L2.St → XK}
theorem pz {σ : L2.St} : PassesAt (L2.CX X.prog X.w) X σ (Ez σ) := fun _ _ _ _ _ _ h => by
  obtain ⟨_, _, _, _, _, _, _, _, _, _, _, _, z⟩ := h
  exact z.elim
theorem pe_cl (c : Cl X.prog X.w X.K X.mg X.base k x sp dvs) (hr : Room j X.A) (hk : k ≤ j) (hx : ∀ σ, PassesAt (L2.CX X.prog X.w) X σ (E σ)) (hg : Gl X x) (ha : PA X (e :: es) t)
    (hdb : (x == ("__debug__" : Str)) = false := by decide) (he : starEach (e :: es) X.env = (false, eval e X.env) :: starEach es X.env := by rfl) (hpl : (backTo pos (starEach es X.env)).any (·.1) = false := by rfl) :
    PE X (.Call (.Name x p) (e :: es) [] pos) (tCallSD sp dvs E t) := by
  obtain ⟨f, fd, ps, ds, F, hm, kp, b, d⟩ := c.ex
  exact pe_callSD F (hr.mono hk) hg hm kp b d hx ha hdb he hpl
theorem pe_mq (c : Mq X.prog X.w X.K X.mg X.base k x C sp dvs) (hr : Room j X.A) (hk : k + 1 ≤ j) (hg : Gl X x) (ha : PA X (e :: es) t)
    (hdb : (x == ("__debug__" : Str)) = false := by decide) (he : starEach (e :: es) X.env = (false, eval e X.env) :: starEach es X.env := by rfl) (hpl : (backTo pos (starEach es X.env)).any (·.1) = false := by rfl) :
    PE X (.Call (.Name x p) (e :: es) [] pos) (tMake C sp dvs E0 t) := by
  obtain ⟨f, fd, ps, ds, M, F, hm, b, d⟩ := c.ex
  exact pe_make M F (hr.mono hk) hg hm b d passL ha hdb he hpl
/-- a constant of the module -/
theorem pe_gc {v : V} (hg : Gl X x) (h : ∃ u, X.mg x = some u ∧ RelV v u) (hd : (x == ("__debug__" : Str)) = false := by decide) : PE X (.Name x pos) (tC v) := by
  obtain ⟨u, hm, r⟩ := h
  exact pe_glob hg hm r hd
end

section
variable {X : Cx} {k j : Nat} {C : Addr} {x m : Str} {sp : Sp} {dvs : List V} {p pos apos : Pos} {e o : Expr} {es : List Expr} {ta : TE} {t : TA} {E : L2.St → XK}
/-- an expression has two readings: either will do -/
def tEor (t u : TE) : TE := fun σ H Q => t σ H Q ∨ u σ H Q
theorem pe_or2 {t u : TE} (h : PE X e t) (h' : PE X e u) : PE X e (tEor t u) := ⟨fun pins s σ H Q I q => q.elim (h.run pins s σ H Q I) (h'.run pins s σ H Q I)⟩
/-- o.m(..), what is raised is wished for at the caller's slots -/
def tMethD (C : Addr) (m : Str) (sp : Sp) (dvs : List V) (E : L2.St → XK) (ta : TE) (t : TA) : TE := fun σ H Q => ta σ H fun x H1 => ∃ a dx fs, x = .ref a ∧ H1 a = some (.ins C dx fs) ∧ fs.lookup m = none ∧
  t σ H1 fun vs H2 => sp (x :: (vs ++ dvs)) H2 Q (E σ)
theorem pe_mt1 {pl : Sem Bool} (c : Mt X.prog X.w X.K X.mg X.base k C m sp dvs) (hr : Room j X.A) (hk : k ≤ j) (hx : ∀ σ, PassesAt (L2.CX X.prog X.w) X σ (E σ)) (he : PE X o ta) (ha : PA X (e :: es) t)
    (hst : starEach (e :: es) X.env = (false, eval e X.env) :: starEach es X.env := by rfl) (hpl : (backTo pos (starEach es X.env)).any (·.1) = false := by rfl)
    (ht : eval (.Call (.Attribute o m apos) (e :: es) [] pos) X.env = (do
      let ov ← eval o X.env
      standAt apos.atName
      let (f, first) ← holding [ov] (getMethod ov m pl)
      callWith pos f first (backTo pos (starEach (e :: es) X.env)) (backToKw pos (keywordEach [] X.env))) := by rfl) :
    PE X (.Call (.Attribute o m apos) (e :: es) [] pos) (tMethD C m sp dvs E ta t) := by
  obtain ⟨f, fd, ps, ds, cl, hm, F, b, d⟩ := c.ex
  refine ⟨fun pins s σ H Q I h => ?_⟩
  refine PySem.W.methodCall_KW (pl := pl) (thn (he.run pins s σ H _ I h) fun u s1 ⟨x, H1, I1, rx, a, dx, fs, ex, ea, l, q⟩ => ?_) ht
  subst ex
  obtain rfl : u = Value.ref a := rx
  refine getmeth_ok I1 ea cl hm l (PySem.W.callWith_K (first := [.ref a]) (h₀ := X.base) I.ok.mod.kin hm.kp (thn (ha.run pos pins s1 σ H1 _ I1 q) fun us s2 ⟨vs, H2, I2, r, q2⟩ => ⟨I2.kIn, ?_⟩) hst hpl)
  exact run_fnSD (us := .ref a :: us) (vs := .ref a :: vs) F (hr.mono hk) b d (hx σ) I2 (.cons rfl r) q2
theorem pe_mt0 {pl : Sem Bool} (c : Mt X.prog X.w X.K X.mg X.base k C m sp dvs) (hr : Room j X.A) (hk : k ≤ j) (hx : ∀ σ, PassesAt (L2.CX X.prog X.w) X σ (E σ)) (he : PE X o ta)
    (ht : eval (.Call (.Attribute o m apos) [] [] pos) X.env = (do
      let ov ← eval o X.env
      standAt apos.atName
      let (f, first) ← holding [ov] (getMethod ov m pl)
      callWith pos f first (backTo pos (starEach [] X.env)) (backToKw pos (keywordEach [] X.env))) := by rfl) :
    PE X (.Call (.Attribute o m apos) [] [] pos) (tMethD C m sp dvs E ta tNil) := by
  obtain ⟨f, fd, ps, ds, cl, hm, F, b, d⟩ := c.ex
  refine ⟨fun pins s σ H Q I h => ?_⟩
  refine PySem.W.methodCall_KW (pl := pl) (thn (he.run pins s σ H _ I h) fun u s1 ⟨x, H1, I1, rx, a, dx, fs, ex, ea, l, q⟩ => ?_) ht
  subst ex
  obtain rfl : u = Value.ref a := rx
  exact getmeth_ok I1 ea cl hm l (PySem.W.callWith_K0 (first := [.ref a]) I1.kIn hm.kp (run_fnSD (us := [.ref a]) (vs := [.ref a]) F (hr.mono hk) b d (hx σ) I1 (.cons rfl .nil) q))
def rAbs : List V → Hp → VK → Prop := fun xs H Q => ∃ i, xs = [.int i] ∧ Q (.int (if i < 0 then -i else i)) H
def rMax2 : List V → Hp → VK → Prop := fun xs H Q => ∃ i j, xs = [.int i, .int j] ∧ Q (.int (if j > i then j else i)) H
def rMin2 : List V → Hp → VK → Prop := fun xs H Q => ∃ i j, xs = [.int i, .int j] ∧ Q (.int (if j < i then j else i)) H
def rFind : V → List V → Hp → VK → Prop := fun x xs H Q => ∃ a b, x = .str a ∧ xs = [.str b] ∧ Q (.int (Txt.find a b)) H
def rListX (K : PySem.W.Frag) : List V → Hp → VK → Prop := fun xs H Q => (∃ p ys, xs = [.ref p] ∧ (SqL K H p ys ∨ SqT K H p ys) ∧ ∀ l, H l = none → Q (.ref l) (upd H l (.lst ys))) ∨ rListD xs H Q
/-- a fact of the head that is told as a Bool -/
def fIs (C D : Str) (b : Bool) (K : PySem.W.Frag) : Bool := decide (PySem.W.kitOne K (.ref (He.ga K C)) (.ref (He.ga K D)) = some b)
def fIsT (C : Str) (D : String) (b : Bool) (K : PySem.W.Frag) : Bool := decide (PySem.W.kitOne K (.ref (He.ga K C)) (.type D) = some b)
def fTIs (D : String) (C : Str) (b : Bool) (K : PySem.W.Frag) : Bool := decide (PySem.W.kitOne K (.type D) (.ref (He.ga K C)) = some b)
def fIn (C : Str) (K : PySem.W.Frag) : Bool := He.eqO (PySem.W.findIn K (.ref (He.ga K C)) "__class__") (some (some (.builtin "object.__class__"))) &&
  (He.eqO (PySem.W.specialIn K (.builtin "object.__class__") "__get__") (some (some (.builtin "getset_descriptor.__get__"))) && (decide (PySem.W.takesIn K (.builtin "object.__class__") = some true) && decide (PySem.W.mroIn K (He.ga K C) (.type "object") = some true)))
theorem fIs_ok {C D : Str} {b : Bool} {K : PySem.W.Frag} (h : fIs C D b K = true) : PySem.W.kitOne K (.ref (He.ga K C)) (.ref (He.ga K D)) = some b := of_decide_eq_true h
theorem fIsT_ok {C : Str} {D : String} {b : Bool} {K : PySem.W.Frag} (h : fIsT C D b K = true) : PySem.W.kitOne K (.ref (He.ga K C)) (.type D) = some b := of_decide_eq_true h
theorem fTIs_ok {C : Str} {D : String} {b : Bool} {K : PySem.W.Frag} (h : fTIs D C b K = true) : PySem.W.kitOne K (.type D) (.ref (He.ga K C)) = some b := of_decide_eq_true h
/-- what isinstance asks of an instance of the class -/
structure InsF (K : PySem.W.Frag) (C : Addr) : Prop where
  ha : PySem.W.findIn K (.ref C) "__class__" = some (some (.builtin "object.__class__"))
  hn : PySem.W.specialIn K (.builtin "object.__class__") "__get__" = some (some (.builtin "getset_descriptor.__get__"))
  htk : PySem.W.takesIn K (.builtin "object.__class__") = some true
  hm : PySem.W.mroIn K C (.type "object") = some true
theorem fIn_ok {C : Str} {K : PySem.W.Frag} (h : fIn C K = true) : InsF K (He.ga K C) := by
  obtain ⟨h1, h2⟩ := He.ba h
  obtain ⟨h2, h3⟩ := He.ba h2
  obtain ⟨h3, h4⟩ := He.ba h3
  exact ⟨He.eqO_ok h1, He.eqO_ok h2, of_decide_eq_true h3, of_decide_eq_true h4⟩
def allB (fs : List (PySem.W.Frag → Bool)) (K : PySem.W.Frag) : Bool := fs.all fun f => f K
theorem allB_at {fs : List (PySem.W.Frag → Bool)} {K : PySem.W.Frag} (h : allB fs K = true) (i : Nat) {f : PySem.W.Frag → Bool} (hf : fs[i]? = some f := by rfl) : f K = true := List.all_eq_true.mp h f (List.mem_of_getElem? hf)
end

/-! ### operators by the values' kinds -/
section
variable {X : Cx}
def MulS (z : Str) (n : Int) : Prop := z.length ≤ 1024 ∧ n ≤ 1024 ∧ -1024 ≤ n
def rMulS : R2 := fun x y H Q => ∃ z n, x = .str z ∧ y = .int n ∧ MulS z n ∧ Q (.str (Txt.mul z n)) H
theorem op_mulS : OpR X (binaryOp .Mult) rMulS := by
  intro pins s σ H x y v u Q I rx ry h
  obtain ⟨z, n, rfl, rfl, ⟨h1, h2, h3⟩, q⟩ := h
  obtain ⟨t, rfl⟩ := rx
  obtain ⟨t', rfl⟩ := ry
  exact SB.mul (mulOk_of 1024 1024 h1 h2 (by omega) (by decide) (by decide)) fun t' k => ⟨.str _, H, I.tok _, ⟨_, rfl⟩, q⟩
def rAddS : R2 := fun x y H Q => ∃ i j, x = .str i ∧ y = .str j ∧ i.length + j.length ≤ sizeLine ∧ Q (.str (i ++ j)) H
/-- a + b: ints, texts, lists, tuples -/
def rAddX (K : PySem.W.Frag) : R2 := fun x y H Q => rI0 (fun i j => .int (i + j)) x y H Q ∨ rAddS x y H Q ∨ rCat x y H Q ∨ rCatT K x y H Q
theorem op_addX : OpR X (binaryOp .Add) (rAddX X.K) := OpR.or op_add (OpR.or op_add_str (OpR.or op_cat op_catT))
def rSubX : R2 := rI0 fun i j => .int (i - j)
theorem op_subX : OpR X (binaryOp .Sub) rSubX := op_sub
def rMulX : R2 := fun x y H Q => rI CMul (fun i j => .int (i * j)) x y H Q ∨ rMulS x y H Q ∨ rRep x y H Q
theorem op_mulX : OpR X (binaryOp .Mult) rMulX := OpR.or op_mul (OpR.or op_mulS op_rep)
def rModX : R2 := fun x y H Q => rI (fun _ j => 0 < j) (fun i j => .int (i % j)) x y H Q ∨ rI (fun _ j => j ≠ 0) (fun i j => .int (i.fmod j)) x y H Q
theorem op_modX : OpR X (binaryOp .Mod) rModX := OpR.or op_mod op_modN
def rDivX : R2 := fun x y H Q => rI CDiv (fun i j => .int (i / j)) x y H Q ∨ rI CDivN (fun i j => .int (i.fdiv j)) x y H Q
theorem op_divX : OpR X (binaryOp .FloorDiv) rDivX := OpR.or op_fdiv op_fdivN
def rInStr : R2 := fun x y H Q => ∃ (c : Nat) (z : Str), x = .str ⟨#[c]⟩ ∧ y = .str z ∧ Q (.bl (decide (c ∈ z.cps.toList))) H
def rNotInStr : R2 := fun x y H Q => ∃ (c : Nat) (z : Str), x = .str ⟨#[c]⟩ ∧ y = .str z ∧ Q (.bl (!decide (c ∈ z.cps.toList))) H
def rInX (K : PySem.W.Frag) : R2 := fun x y H Q => rIn K false x y H Q ∨ rInStr x y H Q
theorem op_inX : OpR X (compareOp .In) (rInX X.K) := OpR.or op_in_seq op_in_sign
def rNotInX (K : PySem.W.Frag) : R2 := fun x y H Q => rIn K true x y H Q ∨ rNotInStr x y H Q
theorem op_notInX : OpR X (compareOp .NotIn) (rNotInX X.K) := OpR.or op_notIn_seq op_notIn_sign
def rLtS : R2 := fun x y H Q => ∃ i j, x = .str i ∧ y = .str j ∧ Q (.bl (decide (i.cps.toList < j.cps.toList))) H
def rLtX (K : PySem.W.Frag) : R2 := fun x y H Q => rI0 (fun i j => .bl (decide (i < j))) x y H Q ∨ rLtS x y H Q ∨ rLtT K x y H Q
def rLeS : R2 := fun x y H Q => ∃ i j, x = .str i ∧ y = .str j ∧ Q (.bl (!decide (j.cps.toList < i.cps.toList))) H
def rLeX : R2 := fun x y H Q => rI0 (fun i j => .bl (decide (i ≤ j))) x y H Q ∨ rLeS x y H Q
def rGtX : R2 := rI0 fun i j => .bl (decide (j < i))
def rGeX : R2 := rI0 fun i j => .bl (decide (j ≤ i))
theorem op_ltX (hu : X.A.units + 64 < cLine) : OpR X (compareOp .Lt) (rLtX X.K) := OpR.or op_lt (OpR.or op_lt_str (op_ltT (by omega)))
theorem op_leX : OpR X (compareOp .LtE) rLeX := OpR.or op_le op_le_str
theorem op_gtX : OpR X (compareOp .Gt) rGtX := op_gt
theorem op_geX : OpR X (compareOp .GtE) rGeX := op_ge
/-- x is None, True, False, an object -/
def isW : V → Bool
  | .non => true
  | .bl _ => true
  | _ => false
def rIsW : R2 := fun x y H Q => isW y = true ∧ Q (.bl (decide (x = y))) H
def rIsNotW : R2 := fun x y H Q => isW y = true ∧ Q (.bl (!decide (x = y))) H
theorem is_b_gen {prog : Program} {w : World} {A : Around} {E : Value → Shared → Prop} {s : Shared} {x : V} {v : Value} {b : Bool} {Q : Value → Shared → Prop} (r : RelV x v) (h : Q (.bool (decide (x = .bl b))) s) : wpAny (model prog w) A (compareOp .Is v (.bool b)) Q E s := by
  cases x with
  | bl c =>
    cases r
    have e : (Value.bool c == Value.bool b) = decide (V.bl c = V.bl b) := by
      cases c <;> cases b <;> decide
    exact wpAny_pure (by rw [← e] at h; exact h)
  | non => cases r; exact wpAny_pure h
  | int i => obtain ⟨t, rfl⟩ := r; exact wpAny_pure h
  | str i => obtain ⟨t, rfl⟩ := r; exact wpAny_pure h
  | byt i => obtain ⟨t, rfl⟩ := r; exact wpAny_pure h
  | flt i => obtain ⟨t, rfl⟩ := r; exact wpAny_pure h
  | ref i => cases r; exact wpAny_pure h
  | ty i => cases r; exact wpAny_pure h
theorem isnot_b_gen {prog : Program} {w : World} {A : Around} {E : Value → Shared → Prop} {s : Shared} {x : V} {v : Value} {b : Bool} {Q : Value → Shared → Prop} (r : RelV x v) (h : Q (.bool (!decide (x = .bl b))) s) : wpAny (model prog w) A (compareOp .IsNot v (.bool b)) Q E s := by
  cases x with
  | bl c =>
    cases r
    have e : (Value.bool c == Value.bool b) = decide (V.bl c = V.bl b) := by
      cases c <;> cases b <;> decide
    exact wpAny_pure (by rw [← e] at h; exact h)
  | non => cases r; exact wpAny_pure h
  | int i => obtain ⟨t, rfl⟩ := r; exact wpAny_pure h
  | str i => obtain ⟨t, rfl⟩ := r; exact wpAny_pure h
  | byt i => obtain ⟨t, rfl⟩ := r; exact wpAny_pure h
  | flt i => obtain ⟨t, rfl⟩ := r; exact wpAny_pure h
  | ref i => cases r; exact wpAny_pure h
  | ty i => cases r; exact wpAny_pure h
theorem op_isW : OpR X (compareOp .Is) rIsW := by
  intro pins s σ H x y v u Q I rx ry h
  obtain ⟨hy, q⟩ := h
  cases y with
  | non => exact op_isN pins s σ H x .non v u Q I rx ry ⟨rfl, q⟩
  | bl b => cases ry; exact is_b_gen rx ⟨.bl _, H, I, rfl, q⟩
  | _ => exact absurd (show false = true from hy) Bool.false_ne_true
theorem op_isNotW : OpR X (compareOp .IsNot) rIsNotW := by
  intro pins s σ H x y v u Q I rx ry h
  obtain ⟨hy, q⟩ := h
  cases y with
  | non => exact op_notN pins s σ H x .non v u Q I rx ry ⟨rfl, q⟩
  | bl b => cases ry; exact isnot_b_gen rx ⟨.bl _, H, I, rfl, q⟩
  | _ => exact absurd (show false = true from hy) Bool.false_ne_true
def rIsO : R2 := fun x y H Q => ∃ a b oa ob, x = .ref a ∧ y = .ref b ∧ H a = some oa ∧ isObj oa = true ∧ H b = some ob ∧ isObj ob = true ∧ Q (.bl (decide (a = b))) H
def rIsNotO : R2 := fun x y H Q => ∃ a b oa ob, x = .ref a ∧ y = .ref b ∧ H a = some oa ∧ isObj oa = true ∧ H b = some ob ∧ isObj ob = true ∧ Q (.bl (!decide (a = b))) H
def rIsX : R2 := fun x y H Q => rIsW x y H Q ∨ rIsO x y H Q
def rIsNotX : R2 := fun x y H Q => rIsNotW x y H Q ∨ rIsNotO x y H Q
theorem op_isX : OpR X (compareOp .Is) rIsX := OpR.or op_isW op_is_ref
theorem op_isNotX : OpR X (compareOp .IsNot) rIsNotX := OpR.or op_isNotW op_isnot_ref
/-- ==: of single values, of data at any depth -/
def rEqX (K : PySem.W.Frag) : R2 := fun x y H Q => rEq x y H Q ∨ rEqD K x y H Q
def rNeX (K : PySem.W.Frag) : R2 := fun x y H Q => rNe x y H Q ∨ rNeD K x y H Q
theorem op_eqX (hu : X.A.units + 64 < cLine) : OpR X (compareOp .Eq) (rEqX X.K) := OpR.or op_eq (op_eqD hu)
theorem op_neX (hu : X.A.units + 64 < cLine) : OpR X (compareOp .NotEq) (rNeX X.K) := OpR.or op_ne (op_neD hu)
/-- a[i:j] of texts and lists -/
def rSlX (K : PySem.W.Frag) : V → Option Int → Option Int → Hp → VK → Prop := fun x lo hi H Q => rSlS x lo hi H Q ∨ rSlL K x lo hi H Q
theorem sl_X : SlR X (rSlX X.K) := SlR.or sl_str sl_list
def rIntX : List V → Hp → VK → Prop := fun xs H Q => ((∃ i, xs = [.int i] ∧ Q (.int i) H) ∨ ∃ k, xs = [.bl k] ∧ Q (.int (b2i k)) H) ∨ ∃ a n, xs = [.str a] ∧ PySem.intText? a = some n ∧ a.length ≤ 640 ∧ Q (.int n) H
end

section
variable {X : Cx}
def rJoin (K : PySem.W.Frag) : V → List V → Hp → VK → Prop := fun x xs H Q => ∃ a p, ∃ ys : List Str, x = .str a ∧ xs = [.ref p] ∧ (SqL K H p (ys.map V.str) ∨ SqT K H p (ys.map V.str)) ∧
  (ys.map (·.length)).sum + ys.length * a.length ≤ 16777216 ∧ Q (.str (Txt.join a ys)) H
def rStarts3 : V → List V → Hp → VK → Prop := fun x xs H Q => ∃ (a b : Str) (i : Int), x = .str a ∧ xs = [.str b, .int i] ∧ Q (.bl (Txt.startswith3 a b i)) H
/-- what a for walks: a list, a tuple, a text -/
def iAny (K : PySem.W.Frag) (te : TE) : TI := fun σ H R => iList K te σ H R ∨ iTup K te σ H R ∨ iStr te σ H R
theorem pi_any {tg e : Expr} {te : TE} (he : PE X e te) : PI X tg e (iAny X.K te) := ⟨fun pins s σ H R I h => by
  rcases h with h | h | h
  · exact (pi_list he).run pins s σ H R I h
  · exact (pi_tup he).run pins s σ H R I h
  · exact (pi_str he).run pins s σ H R I h⟩
end

/-! ### the reading, step by step: each ⟨nx, rt, bk, ct⟩ stands open -/
section
variable {nx bk ct : L2.St → Hp → Prop} {rt : VK} {σ : L2.St} {H : Hp} {Q : VK} {te ta tb tc : TE} {t u : TS} {tt tt' : TT} {K : PySem.W.Frag} {v x y : V} {i : Nat} {r : R2} {TA1 : TA}
theorem g_seq (h : t ⟨u ⟨nx, rt, bk, ct⟩, rt, bk, ct⟩ σ H) : tSeq t u ⟨nx, rt, bk, ct⟩ σ H := h
theorem g_next (h : nx σ H) : tNext ⟨nx, rt, bk, ct⟩ σ H := h
theorem g_brk (h : bk σ H) : tBreak ⟨nx, rt, bk, ct⟩ σ H := h
theorem g_cont (h : ct σ H) : tCont ⟨nx, rt, bk, ct⟩ σ H := h
theorem g_asg (h : te σ H fun x H1 => nx (σ.set i (some x)) H1) : tAsg te (gName i) ⟨nx, rt, bk, ct⟩ σ H := h
theorem g_drop (h : te σ H fun _ H1 => nx σ H1) : tDrop te ⟨nx, rt, bk, ct⟩ σ H := h
theorem g_ret (h : te σ H rt) : tRet te ⟨nx, rt, bk, ct⟩ σ H := h
theorem g_retN (h : rt .non H) : tRetN ⟨nx, rt, bk, ct⟩ σ H := h
theorem g_if (h : tt σ H fun b H1 => if b = true then t ⟨nx, rt, bk, ct⟩ σ H1 else u ⟨nx, rt, bk, ct⟩ σ H1) : tIfS tt t u ⟨nx, rt, bk, ct⟩ σ H := h
theorem g_var (h : σ[i]? = some (some v)) (q : Q v H) : tVar i σ H Q := ⟨v, h, q⟩
theorem g_c (q : Q v H) : tC v σ H Q := q
theorem g_op (h : ta σ H fun x H1 => tb σ H1 fun y H2 => r x y H2 Q) : tOp r ta tb σ H Q := h
theorem g_un {r : V → Hp → VK → Prop} (h : ta σ H fun x H1 => r x H1 Q) : tUn r ta σ H Q := h
theorem g_nil {Q : List V → Hp → Prop} (h : Q [] H) : tNil σ H Q := h
theorem g_cons {Q : List V → Hp → Prop} (h : ta σ H fun x H1 => TA1 σ H1 fun xs H2 => Q (x :: xs) H2) : tCons ta TA1 σ H Q := h
def TestK (x : V) (H : Hp) (Q : Bool → Hp → Prop) : Prop := ∃ k, x = .bl k ∧ Q k H
theorem g_test {Q : Bool → Hp → Prop} (h : te σ H fun x H' => TestK x H' Q) : tTest te σ H Q := h
theorem g_b {Q : Bool → Hp → Prop} (h : te σ H fun x H' => TestK x H' Q) : tB te σ H Q := h
theorem g_k {Q : Bool → Hp → Prop} {b : Bool} (q : Q b H) : TestK (.bl b) H Q := ⟨b, rfl, q⟩
def TruK (K : PySem.W.Frag) (x : V) (H : Hp) (Q : Bool → Hp → Prop) : Prop := ∃ k, TruV K x H k ∧ Q k H
theorem g_tru {Q : Bool → Hp → Prop} (h : te σ H fun x H' => TruK K x H' Q) : tTru K te σ H Q := h
theorem v_truB {Q : Bool → Hp → Prop} {b : Bool} (q : Q b H) : TruK K (.bl b) H Q := ⟨b, rfl, q⟩
theorem v_truN {Q : Bool → Hp → Prop} (q : Q false H) : TruK K .non H Q := ⟨_, rfl, q⟩
theorem v_truI {Q : Bool → Hp → Prop} {i : Int} (q : Q (i != 0) H) : TruK K (.int i) H Q := ⟨_, rfl, q⟩
theorem g_and {Q : Bool → Hp → Prop} (h : tt σ H fun c H1 => if c = true then tt' σ H1 Q else Q false H1) : tAnd tt tt' σ H Q := h
theorem g_or {Q : Bool → Hp → Prop} (h : tt σ H fun c H1 => if c = true then Q true H1 else tt' σ H1 Q) : tOr tt tt' σ H Q := h
theorem g_not {Q : Bool → Hp → Prop} (h : tt σ H fun c H1 => Q (!c) H1) : tNot tt σ H Q := h
theorem g_andV (h : ta σ H fun x H1 => TestK x H1 fun c H1 => if c = true then tb σ H1 Q else Q (.bl false) H1) : tAndV ta tb σ H Q := h
theorem g_orV (h : ta σ H fun x H1 => TestK x H1 fun c H1 => if c = true then Q (.bl true) H1 else tb σ H1 Q) : tOrV ta tb σ H Q := h
theorem g_notV (h : ta σ H fun x H1 => TestK x H1 fun c H1 => Q (.bl (!c)) H1) : tNotV ta σ H Q := h
theorem g_ifE (h : tt σ H fun c H1 => if c = true then ta σ H1 Q else tb σ H1 Q) : tIf tt ta tb σ H Q := h
theorem g_callB {r : List V → Hp → VK → Prop} (h : TA1 σ H fun vs H1 => r vs H1 Q) : tCB r TA1 σ H Q := h
theorem g_call {sp : Sp} {E : L2.St → XK} (h : TA1 σ H fun vs H1 => sp vs H1 Q (E σ)) : tCallSD sp [] E TA1 σ H Q := by
  show TA1 σ H fun vs H1 => sp (vs ++ []) H1 Q (E σ)
  simp only [List.append_nil]
  exact h
theorem g_tup (h : TA1 σ H fun xs H1 => xs.length ≤ sizeLine ∧ ∀ p, H1 p = none → Q (.ref p) (upd H1 p (.tup xs))) : tTup TA1 σ H Q := h
theorem g_lst (h : TA1 σ H fun xs H1 => xs.length ≤ sizeLine ∧ ∀ p, H1 p = none → Q (.ref p) (upd H1 p (.lst xs))) : tLst TA1 σ H Q := h
theorem g_small {xs : List V} {A : Prop} (h : xs.length ≤ 1000) (q : A) : xs.length ≤ sizeLine ∧ A := ⟨Nat.le_of_lt (small1000 h), q⟩
/-! by values -/
theorem v_addI {i j : Int} (q : Q (.int (i + j)) H) : rAddX K (.int i) (.int j) H Q := .inl ⟨_, _, rfl, rfl, q⟩
theorem v_addS {a b : Str} (h : a.length + b.length ≤ sizeLine) (q : Q (.str (a ++ b)) H) : rAddX K (.str a) (.str b) H Q := .inr (.inl ⟨_, _, rfl, rfl, h, q⟩)
theorem v_sub {i j : Int} (q : Q (.int (i - j)) H) : rSubX (.int i) (.int j) H Q := ⟨_, _, rfl, rfl, q⟩
theorem v_mulI {i j : Int} (h : CMul i j) (q : Q (.int (i * j)) H) : rMulX (.int i) (.int j) H Q := .inl ⟨_, _, rfl, rfl, h, q⟩
theorem v_mulS {z : Str} {n : Int} (h : MulS z n) (q : Q (.str (Txt.mul z n)) H) : rMulX (.str z) (.int n) H Q := .inr (.inl ⟨_, _, rfl, rfl, h, q⟩)
theorem v_mod {i j : Int} (h : 0 < j) (q : Q (.int (i % j)) H) : rModX (.int i) (.int j) H Q := .inl ⟨_, _, rfl, rfl, h, q⟩
theorem v_div {i j : Int} (h : CDiv i j) (q : Q (.int (i / j)) H) : rDivX (.int i) (.int j) H Q := .inl ⟨_, _, rfl, rfl, h, q⟩
theorem v_lt {i j : Int} (q : Q (.bl (decide (i < j))) H) : rLtX K (.int i) (.int j) H Q := .inl ⟨_, _, rfl, rfl, q⟩
theorem v_le {i j : Int} (q : Q (.bl (decide (i ≤ j))) H) : rLeX (.int i) (.int j) H Q := .inl ⟨_, _, rfl, rfl, q⟩
theorem v_leS {a b : Str} (q : Q (.bl (!decide (b.cps.toList < a.cps.toList))) H) : rLeX (.str a) (.str b) H Q := .inr ⟨_, _, rfl, rfl, q⟩
theorem v_gt {i j : Int} (q : Q (.bl (decide (j < i))) H) : rGtX (.int i) (.int j) H Q := ⟨_, _, rfl, rfl, q⟩
theorem v_ge {i j : Int} (q : Q (.bl (decide (j ≤ i))) H) : rGeX (.int i) (.int j) H Q := ⟨_, _, rfl, rfl, q⟩
theorem dS {a b : Str} : decide (V.str a = V.str b) = decide (a = b) := by
  by_cases h : a = b
  · rw [h]; simp
  · rw [decide_eq_false h, decide_eq_false]; intro z; exact h (V.str.inj z)
theorem dI {a b : Int} : decide (V.int a = V.int b) = decide (a = b) := by
  by_cases h : a = b
  · rw [h]; simp
  · rw [decide_eq_false h, decide_eq_false]; intro z; exact h (V.int.inj z)
theorem dB {a b : Bool} : decide (V.bl a = V.bl b) = decide (a = b) := by
  by_cases h : a = b
  · rw [h]; simp
  · rw [decide_eq_false h, decide_eq_false]; intro z; exact h (V.bl.inj z)
theorem v_eqI {i j : Int} (q : Q (.bl (decide (i = j))) H) : rEqX K (.int i) (.int j) H Q := .inl ⟨rfl, by rw [dI]; exact q⟩
theorem v_eqS {i j : Str} (q : Q (.bl (decide (i = j))) H) : rEqX K (.str i) (.str j) H Q := .inl ⟨rfl, by rw [dS]; exact q⟩
theorem v_eqB {i j : Bool} (q : Q (.bl (decide (i = j))) H) : rEqX K (.bl i) (.bl j) H Q := .inl ⟨rfl, by rw [dB]; exact q⟩
theorem v_neI {i j : Int} (q : Q (.bl (!decide (i = j))) H) : rNeX K (.int i) (.int j) H Q := .inl ⟨rfl, by rw [dI]; exact q⟩
theorem v_neS {i j : Str} (q : Q (.bl (!decide (i = j))) H) : rNeX K (.str i) (.str j) H Q := .inl ⟨rfl, by rw [dS]; exact q⟩
theorem v_neB {i j : Bool} (q : Q (.bl (!decide (i = j))) H) : rNeX K (.bl i) (.bl j) H Q := .inl ⟨rfl, by rw [dB]; exact q⟩
theorem v_isN (q : Q (.bl (decide (x = .non))) H) : rIsX x .non H Q := .inl ⟨rfl, q⟩
theorem v_isNotN (q : Q (.bl (!decide (x = .non))) H) : rIsNotX x .non H Q := .inl ⟨rfl, q⟩
theorem v_isB {b : Bool} (q : Q (.bl (decide (x = .bl b))) H) : rIsX x (.bl b) H Q := .inl ⟨rfl, q⟩
theorem v_isNotB {b : Bool} (q : Q (.bl (!decide (x = .bl b))) H) : rIsNotX x (.bl b) H Q := .inl ⟨rfl, q⟩
theorem v_eqV (h : scal x y = true) (q : Q (.bl (decide (x = y))) H) : rEqX K x y H Q := .inl ⟨h, q⟩
theorem v_neV (h : scal x y = true) (q : Q (.bl (!decide (x = y))) H) : rNeX K x y H Q := .inl ⟨h, q⟩
theorem v_eqD {d e : PyData} (h1 : Dp K H x d) (h2 : Dp K H y e) (s1 : SeqAt.shaped d = true) (s2 : SeqAt.shaped e = true) (q : Q (.bl (PyData.eqv d e)) H) : rEqX K x y H Q := .inr ⟨_, _, h1, h2, s1, s2, q⟩
theorem v_neD {d e : PyData} (h1 : Dp K H x d) (h2 : Dp K H y e) (s1 : SeqAt.shaped d = true) (s2 : SeqAt.shaped e = true) (q : Q (.bl (!PyData.eqv d e)) H) : rNeX K x y H Q := .inr ⟨_, _, h1, h2, s1, s2, q⟩
theorem v_inL {p : Addr} {xs : List V} (h : SqL K H p xs) (f1 : flatV x = true) (f2 : xs.all flatV = true) (q : Q (.bl (inV x xs)) H) : rInX K x (.ref p) H Q := .inl ⟨p, xs, rfl, .inl h, f1, f2, q⟩
theorem v_notInL {p : Addr} {xs : List V} (h : SqL K H p xs) (f1 : flatV x = true) (f2 : xs.all flatV = true) (q : Q (.bl (!inV x xs)) H) : rNotInX K x (.ref p) H Q := .inl ⟨p, xs, rfl, .inl h, f1, f2, q⟩
theorem v_cat {l b : Addr} {xs zs : List V} (h : H l = some (.lst xs)) (h2 : H b = some (.lst zs)) (hz : xs.length + zs.length ≤ sizeLine) (q : ∀ p, H p = none → Q (.ref p) (upd H p (.lst (xs ++ zs)))) : rAddX K (.ref l) (.ref b) H Q := .inr (.inr (.inl ⟨_, _, _, _, rfl, rfl, h, h2, hz, q⟩))
theorem v_inS {c : Nat} {z : Str} (q : Q (.bl (decide (c ∈ z.cps.toList))) H) : rInX K (.str ⟨#[c]⟩) (.str z) H Q := .inr ⟨_, _, rfl, rfl, q⟩
theorem v_notInS {c : Nat} {z : Str} (q : Q (.bl (!decide (c ∈ z.cps.toList))) H) : rNotInX K (.str ⟨#[c]⟩) (.str z) H Q := .inr ⟨_, _, rfl, rfl, q⟩
theorem v_inT {p : Addr} {xs : List V} (h : H p = some (.tup xs)) (f1 : flatV x = true) (f2 : xs.all flatV = true) (q : Q (.bl (inV x xs)) H) : rInX K x (.ref p) H Q := .inl ⟨p, xs, rfl, .inr (SqT.of h), f1, f2, q⟩
theorem v_notInT {p : Addr} {xs : List V} (h : H p = some (.tup xs)) (f1 : flatV x = true) (f2 : xs.all flatV = true) (q : Q (.bl (!inV x xs)) H) : rNotInX K x (.ref p) H Q := .inl ⟨p, xs, rfl, .inr (SqT.of h), f1, f2, q⟩
theorem v_lenS {z : Str} (h : z.length ≤ sizeLine) (q : Q (.int (z.length : Int)) H) : rLen K [.str z] H Q := ⟨_, _, rfl, ⟨h, rfl⟩, q⟩
theorem v_lenL {p : Addr} {xs : List V} (h : H p = some (.lst xs)) (q : Q (.int (xs.length : Int)) H) : rLen K [.ref p] H Q := ⟨_, _, rfl, .inl ⟨_, SqL.of h, rfl⟩, q⟩
theorem v_lenT {p : Addr} {xs : List V} (h : H p = some (.tup xs)) (q : Q (.int (xs.length : Int)) H) : rLen K [.ref p] H Q := ⟨_, _, rfl, .inr ⟨_, SqT.of h, rfl⟩, q⟩
theorem v_ixL {p : Addr} {xs : List V} {n : Int} (h : H p = some (.lst xs)) (e : atI xs n = some v) (q : Q v H) : rIx K (.ref p) (.int n) H Q := .inl ⟨_, _, _, _, rfl, rfl, SqL.of h, e, q⟩
theorem v_ixT {p : Addr} {xs : List V} {n : Int} (h : H p = some (.tup xs)) (e : atI xs n = some v) (q : Q v H) : rIx K (.ref p) (.int n) H Q := .inr (.inl ⟨_, _, _, _, rfl, rfl, SqT.of h, e, q⟩)
theorem v_ixS {z : Str} {n : Int} {c : Nat} (h : z.length ≤ sizeLine) (e : atI z.cps.toList n = some c) (q : Q (.str ⟨#[c]⟩) H) : rIx K (.str z) (.int n) H Q := .inr (.inr ⟨_, _, _, rfl, rfl, h, e, q⟩)
theorem v_intI {n : Int} (q : Q (.int n) H) : rIntX [.int n] H Q := .inl (.inl ⟨_, rfl, q⟩)
theorem v_intS {a : Str} {n : Int} (h : PySem.intText? a = some n) (hl : a.length ≤ 640) (q : Q (.int n) H) : rIntX [.str a] H Q := .inr ⟨_, _, rfl, h, hl, q⟩
/-! loops -/
def LoopG (J : It) (g : TG) (tb : TS) : TS := fun D σ H => ∃ W : Nat → Nat → L2.St → Hp → Prop, (∃ m, W 0 m σ H) ∧ ∀ i m σ H, W i m σ H →
  (J.stop i H ∧ D.nx σ H) ∨ (J.go i H ∧ ∃ N : L2.St → Hp → Prop, (∀ σ' H', N σ' H' → ∃ m', m' < m ∧ W (i + 1) m' σ' H') ∧ ∀ x H', J.yld i H x H' → g x σ H' fun σ2 H2 => tb { D with nx := N, ct := N, bk := D.nx } σ2 H2)
variable {wi : TI} {g : TG} {tb : TS}
theorem g_for (h : wi σ H fun J H1 => LoopG J g tb ⟨nx, rt, bk, ct⟩ σ H1) : tFor wi g tb ⟨nx, rt, bk, ct⟩ σ H := h
theorem g_name {S : L2.St → Hp → Prop} (h : S (σ.set i (some v)) H) : gName i v σ H S := h
def Rng1 (R : It → Hp → Prop) (vs : List V) (H : Hp) : Prop := ∃ j : Int, vs = [.int j] ∧ -(2 ^ 62) ≤ j ∧ j < 2 ^ 62 ∧ R (Itr 0 j.toNat) H
def Rng2 (R : It → Hp → Prop) (vs : List V) (H : Hp) : Prop := ∃ i j : Int, vs = [.int i, .int j] ∧ (-(2 ^ 62) ≤ i ∧ i < 2 ^ 62 ∧ -(2 ^ 62) ≤ j ∧ j < 2 ^ 62) ∧ R (Itr i (j - i).toNat) H
theorem g_rng1 {R : It → Hp → Prop} (h : TA1 σ H (Rng1 R)) : iRng1 TA1 σ H R := h
theorem g_rng2 {R : It → Hp → Prop} (h : TA1 σ H (Rng2 R)) : iRng2 TA1 σ H R := h
theorem g_rngN {R : It → Hp → Prop} {n : Nat} (hn : n < 2 ^ 62) (h : R (Itr 0 n) H) : Rng1 R [V.int (n : Int)] H := ⟨_, rfl, by omega, by omega, by rw [Int.toNat_natCast]; exact h⟩
theorem g_rngI {R : It → Hp → Prop} {n : Int} (h1 : -(2 ^ 62) ≤ n) (h2 : n < 2 ^ 62) (h : R (Itr 0 n.toNat) H) : Rng1 R [V.int n] H := ⟨_, rfl, h1, h2, h⟩
theorem g_rngT {R : It → Hp → Prop} {m n : Int} (h1 : -(2 ^ 62) ≤ m ∧ m < 2 ^ 62 ∧ -(2 ^ 62) ≤ n ∧ n < 2 ^ 62) (h : R (Itr m (n - m).toNat) H) : Rng2 R [V.int m, V.int n] H := ⟨_, _, rfl, h1, h⟩
def OvL (K : PySem.W.Frag) (R : It → Hp → Prop) (x : V) (H : Hp) : Prop := ∃ a, x = .ref a ∧ (∃ xs, SqL K H a xs) ∧ R (Itl K a) H
def OvT (K : PySem.W.Frag) (R : It → Hp → Prop) (x : V) (H : Hp) : Prop := ∃ a, x = .ref a ∧ (∃ xs, SqT K H a xs) ∧ R (Itt K a) H
def OvS (R : It → Hp → Prop) (x : V) (H : Hp) : Prop := ∃ z, x = .str z ∧ R (Its z) H
theorem gi_list {R : It → Hp → Prop} (h : te σ H (OvL K R)) : iAny K te σ H R := .inl h
theorem gi_tup {R : It → Hp → Prop} (h : te σ H (OvT K R)) : iAny K te σ H R := .inr (.inl h)
theorem gi_str {R : It → Hp → Prop} (h : te σ H (OvS R)) : iAny K te σ H R := .inr (.inr h)
theorem v_ovL {R : It → Hp → Prop} {p : Addr} {xs : List V} (h : SqL K H p xs) (q : R (Itl K p) H) : OvL K R (.ref p) H := ⟨p, rfl, ⟨xs, h⟩, q⟩
theorem v_ovT {R : It → Hp → Prop} {p : Addr} {xs : List V} (h : SqT K H p xs) (q : R (Itt K p) H) : OvT K R (.ref p) H := ⟨p, rfl, ⟨xs, h⟩, q⟩
theorem v_ovS {R : It → Hp → Prop} {z : Str} (q : R (Its z) H) : OvS R (.str z) H := ⟨z, rfl, q⟩
theorem l_range {lo : Int} {n : Nat} (Pv : Nat → L2.St → Hp → Prop) (h0 : Pv 0 σ H) (hs : ∀ i σ H, i < n → Pv i σ H → g (.int (lo + i)) σ H fun σ2 H2 => tb ⟨Pv (i + 1), rt, nx, Pv (i + 1)⟩ σ2 H2)
    (hd : ∀ σ H, Pv n σ H → nx σ H) : LoopG (Itr lo n) g tb ⟨nx, rt, bk, ct⟩ σ H := for_range (D := ⟨nx, rt, bk, ct⟩) Pv h0 hs hd
theorem l_list {a : Addr} {xs : List V} (Pv : Nat → L2.St → Hp → Prop) (h0 : Pv 0 σ H) (hl : ∀ i σ H, i ≤ xs.length → Pv i σ H → SqL K H a xs)
    (hs : ∀ i x σ H, xs[i]? = some x → Pv i σ H → g x σ H fun σ2 H2 => tb ⟨Pv (i + 1), rt, nx, Pv (i + 1)⟩ σ2 H2) (hd : ∀ σ H, Pv xs.length σ H → nx σ H) : LoopG (Itl K a) g tb ⟨nx, rt, bk, ct⟩ σ H := for_list (D := ⟨nx, rt, bk, ct⟩) Pv h0 hl hs hd
theorem l_tup {a : Addr} {xs : List V} (Pv : Nat → L2.St → Hp → Prop) (h0 : Pv 0 σ H) (hl : ∀ i σ H, i ≤ xs.length → Pv i σ H → SqT K H a xs)
    (hs : ∀ i x σ H, xs[i]? = some x → Pv i σ H → g x σ H fun σ2 H2 => tb ⟨Pv (i + 1), rt, nx, Pv (i + 1)⟩ σ2 H2) (hd : ∀ σ H, Pv xs.length σ H → nx σ H) : LoopG (Itt K a) g tb ⟨nx, rt, bk, ct⟩ σ H := for_tup (D := ⟨nx, rt, bk, ct⟩) Pv h0 hl hs hd
theorem l_str {zs : List Nat} (Pv : Nat → L2.St → Hp → Prop) (h0 : Pv 0 σ H) (hs : ∀ i c σ H, zs[i]? = some c → Pv i σ H → g (.str ⟨#[c]⟩) σ H fun σ2 H2 => tb ⟨Pv (i + 1), rt, nx, Pv (i + 1)⟩ σ2 H2)
    (hd : ∀ σ H, Pv zs.length σ H → nx σ H) : LoopG (Its ⟨zs.toArray⟩) g tb ⟨nx, rt, bk, ct⟩ σ H := by
  refine ⟨fun i m σ H => m = zs.length - i ∧ i ≤ zs.length ∧ Pv i σ H, ⟨zs.length, by simp, Nat.zero_le _, h0⟩, ?_⟩
  rintro i m σ H ⟨rfl, hi, p⟩
  by_cases hlt : i < zs.length
  · refine .inr ⟨(by show i < zs.toArray.size; simpa using hlt), Pv (i + 1), fun σ' H' p' => ⟨zs.length - (i + 1), by omega, rfl, hlt, p'⟩, fun x H' y => ?_⟩
    obtain ⟨e, c, hc, ex⟩ := y
    subst e ex
    exact hs i c σ _ (by simpa using hc) p
  · have e : i = zs.length := by omega
    subst e
    exact .inl ⟨(by show zs.toArray.size ≤ zs.length; simp), hd σ H p⟩
theorem g_while (h : ∃ W : Nat → L2.St → Hp → Prop, (∃ m, W m σ H) ∧ ∀ m σ H, W m σ H →
    tt σ H fun b H1 => if b = true then ∃ N : L2.St → Hp → Prop, (∀ σ' H', N σ' H' → ∃ m', m' < m ∧ W m' σ' H') ∧ tb ⟨N, rt, nx, N⟩ σ H1 else nx σ H1) : tWhile tt tb ⟨nx, rt, bk, ct⟩ σ H := h
theorem g_turn {W : Nat → L2.St → Hp → Prop} {m : Nat} (h : tb ⟨fun σ' H' => ∃ m', m' < m ∧ W m' σ' H', rt, nx, fun σ' H' => ∃ m', m' < m ∧ W m' σ' H'⟩ σ H) :
    ∃ N : L2.St → Hp → Prop, (∀ σ' H', N σ' H' → ∃ m', m' < m ∧ W m' σ' H') ∧ tb ⟨N, rt, nx, N⟩ σ H := ⟨_, fun _ _ z => z, h⟩
/-! methods of lists, texts, stores -/
theorem g_bm {T : String} {r : V → List V → Hp → VK → Prop} (h : ta σ H fun x H1 => tyV K T x H1 ∧ TA1 σ H1 fun xs H2 => r x xs H2 Q) : tBM K T r ta TA1 σ H Q := h
theorem g_bm0 {T : String} {r : V → List V → Hp → VK → Prop} (h : ta σ H fun x H1 => tyV K T x H1 ∧ r x [] H1 Q) : tBM0 K T r ta σ H Q := h
theorem g_tyL {p : Addr} {xs : List V} {A : Prop} (h : H p = some (.lst xs)) (q : A) : tyV K "list" (.ref p) H ∧ A := ⟨.inl ⟨rfl, _, SqL.of h⟩, q⟩
theorem g_tyS {z : Str} {A : Prop} (q : A) : tyV K "str" (.str z) H ∧ A := ⟨rfl, q⟩
theorem v_append {l : Addr} {xs : List V} (h : H l = some (.lst xs)) (hl : xs.length < sizeLine) (q : Q .non (upd H l (.lst (xs ++ [y])))) : rAppend (.ref l) [y] H Q := ⟨_, _, _, rfl, rfl, h, hl, q⟩
theorem g_m1 {r : V → List V → Hp → VK → Prop} (h : ta σ H fun x H1 => (∃ a, x = .str a) ∧ tc σ H1 fun y H2 => r x [y] H2 Q) : tM1 r ta tc σ H Q := h
theorem g_isS {z : Str} {A : Prop} (q : A) : (∃ a, V.str z = .str a) ∧ A := ⟨⟨_, rfl⟩, q⟩
theorem v_join {p : Addr} {a : Str} {ys : List Str} (h : H p = some (.lst (ys.map V.str))) (hz : (ys.map (·.length)).sum + ys.length * a.length ≤ 16777216) (q : Q (.str (Txt.join a ys)) H) : rJoin K (.str a) [.ref p] H Q := ⟨_, _, _, rfl, rfl, .inl (SqL.of h), hz, q⟩
theorem v_starts3 {a b : Str} {n : Int} (q : Q (.bl (Txt.startswith3 a b n)) H) : rStarts3 (.str a) [.str b, .int n] H Q := ⟨_, _, _, rfl, rfl, q⟩
theorem g_sl {r : V → Option Int → Option Int → Hp → VK → Prop} {tl th : TO} (h : te σ H fun x H1 => tl σ H1 fun l H2 => th σ H2 fun u H3 => r x l u H3 Q) : tSl r te tl th σ H Q := h
theorem g_no {Q : Option Int → Hp → Prop} (h : Q none H) : tNoPart σ H Q := h
def PartK (x : V) (H : Hp) (Q : Option Int → Hp → Prop) : Prop := ∃ i, x = .int i ∧ Q (some i) H
theorem g_part {Q : Option Int → Hp → Prop} (h : te σ H fun x H1 => PartK x H1 Q) : tPart te σ H Q := h
theorem g_isI {n : Int} {Q : Option Int → Hp → Prop} (h : Q (some n) H) : PartK (.int n) H Q := ⟨_, rfl, h⟩
theorem v_slS {z : Str} {lo hi : Option Int} (h : z.length ≤ sizeLine) (q : Q (.str (cutS z lo hi)) H) : rSlX K (.str z) lo hi H Q := .inl ⟨_, rfl, h, q⟩
theorem v_slL {p : Addr} {xs : List V} {lo hi : Option Int} (h : H p = some (.lst xs)) (q : ∀ p, H p = none → Q (.ref p) (upd H p (.lst (cutV xs lo hi)))) : rSlX K (.ref p) lo hi H Q := .inr ⟨_, _, rfl, SqL.of h, q⟩
theorem g_make {C : Addr} {sp : Sp} {E : XK} (h : TA1 σ H fun vs H1 => ∀ x dx, H1 x = none → H1 dx = none → dx ≠ x → sp (.ref x :: vs) (upd (upd H1 dx (.own x)) x (.ins C dx [])) (fun v H2 => v = .non ∧ Q (.ref x) H2) E) : tMake C sp [] E TA1 σ H Q := by
  show TA1 σ H fun vs H1 => ∀ x dx, H1 x = none → H1 dx = none → dx ≠ x → sp (.ref x :: (vs ++ [])) (upd (upd H1 dx (.own x)) x (.ins C dx [])) (fun v H2 => v = .non ∧ Q (.ref x) H2) E
  simp only [List.append_nil]
  exact h
def FldK (K : PySem.W.Frag) (f : Str) (x : V) (H : Hp) (Q : VK) : Prop := ∃ a C dx fs v, x = .ref a ∧ H a = some (.ins C dx fs) ∧ Cls K C ∧ NoAttr K C f ∧ fs.lookup f = some v ∧ Q v H
theorem g_fld {f : Str} (h : ta σ H fun x H1 => FldK K f x H1 Q) : tFld K ta f σ H Q := h
theorem v_fld {a C dx : Addr} {fs : List (Str × V)} {f : Str} (h : H a = some (.ins C dx fs)) (c : Cls K C) (n : NoAttr K C f) (l : fs.lookup f = some v) (q : Q v H) : FldK K f (.ref a) H Q := ⟨_, _, _, _, _, rfl, h, c, n, l, q⟩
def SfldK (K : PySem.W.Frag) (f : Str) (x y : V) (H : Hp) (S : Hp → Prop) : Prop := ∃ a C dx fs, x = .ref a ∧ H a = some (.ins C dx fs) ∧ Cls K C ∧ NoAttr K C f ∧ fs.length < 1000 ∧ S (upd H a (.ins C dx (putF f y fs)))
theorem g_sfld {tv : TE} {f : Str} (h : tv σ H fun y H1 => ta σ H1 fun x H2 => SfldK K f x y H2 (nx σ)) : sFld K ta tv f ⟨nx, rt, bk, ct⟩ σ H := h
theorem v_sfld {a C dx : Addr} {fs : List (Str × V)} {f : Str} {S : Hp → Prop} (h : H a = some (.ins C dx fs)) (c : Cls K C) (n : NoAttr K C f) (l : fs.length < 1000) (q : S (upd H a (.ins C dx (putF f y fs)))) :
    SfldK K f (.ref a) y H S := ⟨_, _, _, _, rfl, h, c, n, l, q⟩
theorem g_asgG (h : te σ H fun x H1 => g x σ H1 nx) : tAsg te g ⟨nx, rt, bk, ct⟩ σ H := h
theorem g_sub {S : L2.St → Hp → Prop} {to ti : TE} {ts : TSet} (h : to σ H fun o H1 => ti σ H1 fun i H2 => ts o i v H2 fun H3 => S σ H3) : gSub to ti ts v σ H S := h
theorem v_setL {p : Addr} {xs : List V} {n : Int} {j : Nat} {S : Hp → Prop} (h : H p = some (.lst xs)) (e : ixN xs.length n = some j) (q : S (upd H p (.lst (xs.set j v)))) : rSetL (.ref p) (.int n) v H S := ⟨_, _, _, _, rfl, rfl, h, e, q⟩
theorem g_gtup {S : L2.St → Hp → Prop} {n : Nat} {t : TGs} {a : Addr} {xs : List V} (h : H a = some (.tup xs)) (l : xs.length = n) (q : t xs σ H S) : gTup K n t (.ref a) σ H S := ⟨a, xs, rfl, SqT.of h, l, q⟩
theorem g_gcons {S : L2.St → Hp → Prop} {t : TG} {u : TGs} {r : List V} (h : t v σ H fun σ' H' => u r σ' H' S) : gCons t u (v :: r) σ H S := ⟨v, r, rfl, h⟩
theorem g_gnil {S : L2.St → Hp → Prop} (h : S σ H) : gNil [] σ H S := ⟨rfl, h⟩
theorem g_cut (Mid : L2.St → Hp → Prop) (h1 : t ⟨Mid, rt, bk, ct⟩ σ H) (h2 : ∀ σ' H', Mid σ' H' → u ⟨nx, rt, bk, ct⟩ σ' H') : C8.tCut t u ⟨nx, rt, bk, ct⟩ σ H := ⟨Mid, h1, h2⟩
theorem g_thr (h : t ⟨u ⟨nx, rt, bk, ct⟩, rt, bk, ct⟩ σ H) : C8.tCut t u ⟨nx, rt, bk, ct⟩ σ H := ⟨_, h, fun _ _ z => z⟩
theorem v_lenSq {p : Addr} {xs : List V} (h : SqL K H p xs) (q : Q (.int (xs.length : Int)) H) : rLen K [.ref p] H Q := ⟨_, _, rfl, .inl ⟨_, h, rfl⟩, q⟩
theorem v_ixSq {p : Addr} {xs : List V} {n : Int} (h : SqL K H p xs) (e : atI xs n = some v) (q : Q v H) : rIx K (.ref p) (.int n) H Q := .inl ⟨_, _, _, _, rfl, rfl, h, e, q⟩
theorem up_new {p a : Addr} {o u : HO} (h : H a = some u) (n : H p = none) : upd H p o a = some u := by rw [upd_ne (ne_of_none h n)]; exact h
theorem same_new {p : Addr} {o : HO} (n : H p = none) : Same H (upd H p o) := fun _ _ h => up_new h n
/-- all stays but what stands at d -/
def Sb (d : Addr) (H H' : Hp) : Prop := ∀ b o, b ≠ d → H b = some o → H' b = some o
theorem Sb.refl {d : Addr} : Sb d H H := fun _ _ _ h => h
theorem Sb.trans {d : Addr} {H1 H2 : Hp} (a : Sb d H H1) (b : Sb d H1 H2) : Sb d H H2 := fun c o n h => b c o n (a c o n h)
theorem Sb.upd {d : Addr} {o : HO} : Sb d H (L2.upd H d o) := fun b _ n h => by rw [upd_ne n]; exact h
theorem Same.sb {d : Addr} {H1 : Hp} (a : Same H H1) : Sb d H H1 := fun c o _ h => a c o h
theorem atN {α : Type} {xs : List α} {i : Nat} {x : α} {n : Int} (e : n = (i : Int)) (h : xs[i]? = some x) : atI xs n = some x := by rw [e]; exact atI_nat h
theorem iteNT {A B : Prop} (h : B) : if (!true) = true then A else B := by
  rw [if_neg (by decide)]
  exact h
theorem iteNF {A B : Prop} (h : A) : if (!false) = true then A else B := by
  rw [if_pos (by decide)]
  exact h
theorem g_meth {C : Addr} {m : Str} {sp : Sp} {E : L2.St → XK} (h : ta σ H fun x H1 => ∃ a dx fs, x = .ref a ∧ H1 a = some (.ins C dx fs) ∧ fs.lookup m = none ∧ TA1 σ H1 fun vs H2 => sp (x :: vs) H2 Q (E σ)) : tMethD C m sp [] E ta TA1 σ H Q := by
  show ta σ H fun x H1 => ∃ a dx fs, x = .ref a ∧ H1 a = some (.ins C dx fs) ∧ fs.lookup m = none ∧ TA1 σ H1 fun vs H2 => sp (x :: (vs ++ [])) H2 Q (E σ)
  simp only [List.append_nil]
  exact h
theorem v_find {a b : Str} (q : Q (.int (Txt.find a b)) H) : rFind (.str a) [.str b] H Q := ⟨_, _, rfl, rfl, q⟩
theorem v_listL {p : Addr} {ys : List V} (h : SqL K H p ys) (q : ∀ l, H l = none → Q (.ref l) (upd H l (.lst ys))) : rListX K [.ref p] H Q := .inl ⟨_, _, rfl, .inl h, q⟩
theorem v_listT {p : Addr} {ys : List V} (h : SqT K H p ys) (q : ∀ l, H l = none → Q (.ref l) (upd H l (.lst ys))) : rListX K [.ref p] H Q := .inl ⟨_, _, rfl, .inr h, q⟩
/-! comprehensions -/
def LcG (J : It) (g : TG) (tt : TT) (te : TE) (σ0 : L2.St) (vs : List Nat) (D : Addr) (H1 : Hp) (Qd : Hp → Prop) : Prop := ∃ W : Nat → Nat → Hp → Prop, (∃ m, W 0 m (upd H1 D (.lst []))) ∧ ∀ i m H, W i m H →
      (J.stop i H ∧ Qd H) ∨ (J.go i H ∧ ∃ Nx : Hp → Prop, (∀ H', Nx H' → ∃ m', m' < m ∧ W (i + 1) m' H') ∧ ∀ x H', J.yld i H x H' → g x (wipe σ0 vs) H' fun σ2 H2 => wipe σ2 vs = wipe σ0 vs ∧ tt σ2 H2 fun b H3 =>
        if b = true then te σ2 H3 fun y H4 => ∃ acc, H4 D = some (.lst acc) ∧ acc.length < sizeLine ∧ Nx (upd H4 D (.lst (acc ++ [y]))) else Nx H3)
theorem g_lc {vs : List Nat} {g : TG} (h : wi σ H fun J H1 => ∀ D, H1 D = none → LcG J g tt te σ vs D H1 (Q (.ref D))) : tLc wi g tt te vs σ H Q := h
/-- a comprehension's new item -/
def PutC (D : Addr) (y : V) (H4 : Hp) (S : Hp → Prop) : Prop := ∃ acc, H4 D = some (.lst acc) ∧ acc.length < sizeLine ∧ S (upd H4 D (.lst (acc ++ [y])))
theorem v_put {D : Addr} {acc : List V} {S : Hp → Prop} (h : H D = some (.lst acc)) (hl : acc.length < sizeLine) (q : S (upd H D (.lst (acc ++ [y])))) : PutC D y H S := ⟨acc, h, hl, q⟩
theorem c_range {lo : Int} {n : Nat} {g : TG} {vs : List Nat} {D : Addr} {Qd : Hp → Prop} (Pv : Nat → Hp → Prop) (h0 : Pv 0 (upd H D (.lst [])))
    (hs : ∀ i H, i < n → Pv i H → g (.int (lo + i)) (wipe σ vs) H fun σ2 H2 => wipe σ2 vs = wipe σ vs ∧ tt σ2 H2 fun b H3 => if b = true then te σ2 H3 fun y H4 => PutC D y H4 (Pv (i + 1)) else Pv (i + 1) H3) (hd : ∀ H, Pv n H → Qd H) : LcG (Itr lo n) g tt te σ vs D H Qd := lc_range Pv h0 hs hd
theorem c_list {a : Addr} {xs : List V} {g : TG} {vs : List Nat} {D : Addr} {Qd : Hp → Prop} (Pv : Nat → Hp → Prop) (h0 : Pv 0 (upd H D (.lst []))) (hl : ∀ i H, i ≤ xs.length → Pv i H → SqL K H a xs)
    (hs : ∀ i x H, xs[i]? = some x → Pv i H → g x (wipe σ vs) H fun σ2 H2 => wipe σ2 vs = wipe σ vs ∧ tt σ2 H2 fun b H3 => if b = true then te σ2 H3 fun y H4 => PutC D y H4 (Pv (i + 1)) else Pv (i + 1) H3) (hd : ∀ H, Pv xs.length H → Qd H) : LcG (Itl K a) g tt te σ vs D H Qd := lc_list Pv h0 hl hs hd
theorem c_tup {a : Addr} {xs : List V} {g : TG} {vs : List Nat} {D : Addr} {Qd : Hp → Prop} (Pv : Nat → Hp → Prop) (h0 : Pv 0 (upd H D (.lst []))) (hl : ∀ i H, i ≤ xs.length → Pv i H → SqT K H a xs)
    (hs : ∀ i x H, xs[i]? = some x → Pv i H → g x (wipe σ vs) H fun σ2 H2 => wipe σ2 vs = wipe σ vs ∧ tt σ2 H2 fun b H3 => if b = true then te σ2 H3 fun y H4 => PutC D y H4 (Pv (i + 1)) else Pv (i + 1) H3) (hd : ∀ H, Pv xs.length H → Qd H) : LcG (Itt K a) g tt te σ vs D H Qd := lc_tup Pv h0 hl hs hd
theorem g_yes {Q : Bool → Hp → Prop} (h : Q true H) : tYes σ H Q := h
theorem g_chain {tb' : TE} {r' : R2} (h : ta σ H fun x H1 => tb' σ H1 fun y H2 => r x y H2 fun z H3 => TestK z H3 fun k H3 => if k = true then tc σ H3 fun w' H4 => r' y w' H4 Q else Q (.bl false) H3) : tChain r r' ta tb' tc σ H Q := h
/-! isinstance of single values -/
def isI : V → Bool
  | .int _ => true
  | .bl _ => true
  | _ => false
def isS : V → Bool
  | .str _ => true
  | _ => false
def isB : V → Bool
  | .bl _ => true
  | _ => false
theorem isi_flat {c : String} {b : Bool} (h : match x with | .non => kitB "NoneType" c = some b | .bl _ => kitB "bool" c = some b | .int _ => kitB "int" c = some b | .str _ => kitB "str" c = some b | _ => False) (q : Q (.bl b) H) : rIsi K [x, .ty c] H Q := by
  cases x with
  | non => exact ⟨_, _, _, _, b, rfl, .ty c, .base .non, kit_ty h, q⟩
  | bl z => exact ⟨_, _, _, _, b, rfl, .ty c, .base (.bl z), kit_ty h, q⟩
  | int z => exact ⟨_, _, _, _, b, rfl, .ty c, .base (.int z), kit_ty h, q⟩
  | str z => exact ⟨_, _, _, _, b, rfl, .ty c, .base (.str z), kit_ty h, q⟩
  | _ => exact h.elim
theorem v_isiI (f : flatV x = true) (q : Q (.bl (isI x)) H) : rIsi K [x, .ty "int"] H Q := by
  refine isi_flat ?_ q
  cases x with
  | non => exact (by decide +kernel : kitB "NoneType" "int" = some false)
  | bl z => exact (by decide +kernel : kitB "bool" "int" = some true)
  | int z => exact (by decide +kernel : kitB "int" "int" = some true)
  | str z => exact (by decide +kernel : kitB "str" "int" = some false)
  | _ => exact absurd (show false = true from f) Bool.false_ne_true
theorem v_isiS (f : flatV x = true) (q : Q (.bl (isS x)) H) : rIsi K [x, .ty "str"] H Q := by
  refine isi_flat ?_ q
  cases x with
  | non => exact (by decide +kernel : kitB "NoneType" "str" = some false)
  | bl z => exact (by decide +kernel : kitB "bool" "str" = some false)
  | int z => exact (by decide +kernel : kitB "int" "str" = some false)
  | str z => exact (by decide +kernel : kitB "str" "str" = some true)
  | _ => exact absurd (show false = true from f) Bool.false_ne_true
theorem v_isiB (f : flatV x = true) (q : Q (.bl (isB x)) H) : rIsi K [x, .ty "bool"] H Q := by
  refine isi_flat ?_ q
  cases x with
  | non => exact (by decide +kernel : kitB "NoneType" "bool" = some false)
  | bl z => exact (by decide +kernel : kitB "bool" "bool" = some true)
  | int z => exact (by decide +kernel : kitB "int" "bool" = some false)
  | str z => exact (by decide +kernel : kitB "str" "bool" = some false)
  | _ => exact absurd (show false = true from f) Bool.false_ne_true
theorem v_isiL {p : Addr} {xs : List V} (h : H p = some (.lst xs)) (q : Q (.bl true) H) : rIsi K [.ref p, .ty "list"] H Q := ⟨_, _, _, _, true, rfl, .ty _, .base (.lst h), kit_ty (by decide +kernel), q⟩
theorem v_isiO {p C C' dx : Addr} {fs : List (Str × V)} {b : Bool} (h : H p = some (.ins C dx fs)) (cl : Cls K C) (f : InsF K C) (k : PySem.W.kitOne K (.ref C) (.ref C') = some b) (q : Q (.bl b) H) : rIsi K [.ref p, .ref C'] H Q :=
  ⟨_, _, _, _, b, rfl, .own C', .base (.ins h cl f.ha f.hn f.htk f.hm), k, q⟩
theorem v_isiOT {p C dx : Addr} {fs : List (Str × V)} {b : Bool} {c : String} (h : H p = some (.ins C dx fs)) (cl : Cls K C) (f : InsF K C) (k : PySem.W.kitOne K (.ref C) (.type c) = some b) (q : Q (.bl b) H) : rIsi K [.ref p, .ty c] H Q :=
  ⟨_, _, _, _, b, rfl, .ty c, .base (.ins h cl f.ha f.hn f.htk f.hm), k, q⟩
def MethK (C : Addr) (m : Str) (x : V) (H1 : Hp) (S : Hp → Prop) : Prop := ∃ a dx fs, x = .ref a ∧ H1 a = some (.ins C dx fs) ∧ fs.lookup m = none ∧ S H1
theorem g_meth1 {C : Addr} {m : Str} {sp : Sp} {E : L2.St → XK} (h : ta σ H fun x H1 => MethK C m x H1 fun H1 => TA1 σ H1 fun vs H2 => sp (x :: vs) H2 Q (E σ)) : tMethD C m sp [] E ta TA1 σ H Q := g_meth h
theorem v_meth {C a dx : Addr} {m : Str} {fs : List (Str × V)} {S : Hp → Prop} (h : H a = some (.ins C dx fs)) (l : fs.lookup m = none) (q : S H) : MethK C m (.ref a) H S := ⟨_, _, _, rfl, h, l, q⟩
theorem g_orL {te' : TE} (h : te σ H Q) : tEor te te' σ H Q := .inl h
theorem g_orR {te' : TE} (h : te' σ H Q) : tEor te te' σ H Q := .inr h
theorem g_lstRg {a b : TE} (h : a σ H fun x H1 => b σ H1 fun y H2 => ∃ i j, x = .int i ∧ y = .int j ∧ RgOk i j ∧ ∀ q, H2 q = none → Q (.ref q) (upd H2 q (.lst (rgV i j)))) : tLstRg (tRg2 a b) σ H Q := h
theorem ite_same {c A : Prop} [Decidable c] (h : A) : if c then A else A := by
  split <;> exact h
end
end G

/-! an own exception over own classes over ValueError, whose __init__ says super().__init__(f'{..}: {..}') and keeps its two values -/
namespace PySem
namespace FaX
open PySem.W PySem.Calls PyProof.Rows PySem.HandSPX
def fA : Arguments := { posonlyargs := [], args := [{ arg := "self", annotation := none, pos := ⟨6, 17, 6, 21⟩ }, { arg := "place", annotation := none, pos := ⟨6, 23, 6, 28⟩ }, { arg := "reason", annotation := none, pos := ⟨6, 30, 6, 36⟩ }], vararg := none, kwonlyargs := [], kw_defaults := [], kwarg := none, defaults := [] }
def fB : List Stmt := [
  .Expr (.Call (.Attribute (.Call (.Name "super" ⟨7, 8, 7, 13⟩) [] [] ⟨7, 8, 7, 15⟩) "__init__" ⟨7, 8, 7, 24⟩) [.JoinedStr [.FormattedValue (.Name "place" ⟨7, 28, 7, 33⟩) (-1) none ⟨7, 27, 7, 34⟩, .Constant (.str ": ") 0 ⟨7, 34, 7, 36⟩, .FormattedValue (.Name "reason" ⟨7, 37, 7, 43⟩) (-1) none ⟨7, 36, 7, 44⟩] ⟨7, 25, 7, 45⟩] [] ⟨7, 8, 7, 46⟩) ⟨7, 8, 7, 46⟩,
  .Assign [.Attribute (.Name "self" ⟨8, 8, 8, 12⟩) "place" ⟨8, 8, 8, 18⟩] (.Name "place" ⟨8, 21, 8, 26⟩) ⟨8, 8, 8, 26⟩,
  .Assign [.Attribute (.Name "self" ⟨9, 8, 9, 12⟩) "reason" ⟨9, 8, 9, 19⟩] (.Name "reason" ⟨9, 22, 9, 28⟩) ⟨9, 8, 9, 28⟩]
def fS : Scope := { kind := .function, names := [(PySem.Str.ofString "self", .local), (PySem.Str.ofString "place", .local), (PySem.Str.ofString "reason", .local), (PySem.Str.ofString "__class__", .free), (PySem.Str.ofString "super", .globalImplicit)], isGenerator := false, isCoroutine := false, more := [] }
/-- what the written part says of Fault, at C, and of its __init__, at fI -/
structure FaTxt (P : Program) (K : Frag) (mg : Str → Option Value) (C fI : Addr) : Prop where
  gC : mg "Fault" = some (.ref C)
  gS : mg "super" = none
  ini : excInitIn K C He.veBase "ValueError.__new__" = true
  cd : ∃ cd, clsIn K C = some cd ∧ refsVE cd.mro = true ∧ cd.hasDict = true
  sa : findIn K (.ref C) "__setattr__" = some (some (.builtin "object.__setattr__"))
  ga : findIn K (.ref C) "__getattribute__" = some (some (.builtin "BaseException.__getattribute__"))
  gg : findIn K (.ref C) "__getattr__" = some none
  noP : findIn K (.ref C) "place" = some none
  noR : findIn K (.ref C) "reason" = some none
  iC : findIn K (.ref C) "__init__" = some (some (.ref fI))
  tC : typeIn K (.ref fI) = some (.type "function")
  kC : keepIn K (.ref C) = true
  exC : subIn K (.ref C) (.type "BaseException") = some true
  vB : subIn K (.ref C) (.type "ValueError") = some true
  tyC : typeIn K (.ref C) = some (.type "type")
  hdC : hasDictIn K C = true
  te : exmOne K (.ref C) (.ref C) = some true
  sup : ks_superIn K C C "__init__" = some (some (.builtin "ValueError.__init__"))
  self : mroIn K C (.ref C) = some true
  opq : nsIn K cStatics "thirdparty.any" = some none
  top : (P.main.scope.names.lookup ("super" : Str)).isSome = false
  fn : ∃ (oc : Value) (od : Option Addr) (doc pm : Value) (an : Option Addr) (cda : Addr) (ct : Value) (osl : Array (Option Value)) (cc : Addr) (cdo : Obj) (vs : Array Value) (tf : Tok) (co : Obj),
    K.lookup fI = some ⟨oc, od, .func (ksFn "__init__" "Fault.__init__" fA fB fS .none .none doc pm an (.ref cda) ct cc), osl⟩ ∧ codeIn K (.ref cda) "Fault.__init__" = true ∧
    K.lookup cda = some cdo ∧ cdo.data = .fields vs ∧ vs[2]? = some (.str P.main.file tf) ∧ K.lookup cc = some co ∧ co.data = .cell (some (.ref C))
/-- what __init__ leaves of a fresh exception at x -/
structure InitEnd (h h' : Heap) (x C dx t1 : Addr) (v u : Value) : Prop where
  keep : ∀ b o, b ≠ x → h.get? b = some o → h'.get? b = some o
  obj : h'.get? x = some { cls := .ref C, dict := some dx, data := .fields #[.ref t1, .none, .none, .none, .bool false, .none] }
  dbig : h.objs.size ≤ dx
  dne : dx ≠ x
  ns : h'.Ns1 dx (fun y => if y = "reason" then some u else if y = "place" then some v else none)
section
variable {prog : Program} {w : World} {A : Around} {E : Value → Shared → Prop} {R : Result → Shared → Prop} {s : Shared} {K : Frag} {mg mb : Str → Option Value} {C fI : Addr}
theorem ldK {M : Model} {s : Shared} {name : Str} {scope : Scope} {L a cc : Addr} {cd : Value} {m : Str → Option Value} {x : Str} {pos : Pos} {v : Value} {Q : Value → Shared → Prop} {A : Around} {E : Value → Shared → Prop} (hn : s.heap.Ns L m) (hv : m x = some v) (h : Q v s)
    (hk : scope.kind = .function := by rfl) (hl : (ksEnv name scope L a cd cc).kindOf x = some .local := by rfl) (hd : (x == ("__debug__" : Str)) = false := by decide) :
    wpAny M A (eval (.Name x pos) (ksEnv name scope L a cd cc)) Q E s := wpAny_Name (wpAny_loadName_local hk hl hn hv h) hd
theorem fault_init (T : FaTxt prog K mg C fI) {x t0 : Addr} {i : Int} {r : Str} {ti tr : Tok} (X : K.In s.heap) (hlim : s.heap.NoLimit) (hG : s.heap.Ns mainGlobals mg) (hB : s.heap.Ns builtinsNs mb) (hmb : mb "super" = some (.type "super"))
    (hx : s.heap.get? x = some (excO C t0)) (hnx : K.lookup x = none) (hroom : A.depth < recursionLimit) (hi : i.natAbs.log2 < 1920) (hr : r.length ≤ 1000) (hj : (Str.empty ++ toString i ++ ": " ++ r : Str).length ≤ sizeLine)
    (hq : ∀ h' tk dx t1, InitEnd s.heap h' x C dx t1 (.int i ti) (.str r tr) → R (.ok (.ret .none)) { s with heap := h', toks := tk }) :
    codeAny (model prog w) A (.call (.ref fI) ⟨[.ref x, .int i ti, .str r tr], []⟩) R s := by
  obtain ⟨oc, od, doc, pm, an, cda, ct, osl, cc, cdo, vs, tf, co, ho, hcd, hcda, hcdd, hvs, hcc, hccd⟩ := T.fn
  obtain ⟨cd, hcl, hbm, hhd⟩ := T.cd
  have hxL : s.heap.objs.size ≠ x := Nat.ne_of_gt (Heap.lt_size hx)
  refine ks_codeAny_call_defAt (fd := ksFn "__init__" "Fault.__init__" fA fB fS .none .none doc pm an (.ref cda) ct cc) (body := fB) (binds := [("self", .ref x), ("place", .int i ti), ("reason", .str r tr)]) hroom (X _ _ ho) rfl hlim (codeRec_of X hcd) rfl
    (BindsTo.of_eq (by first | rfl | with_unfolding_all rfl)) (by show ∀ x ∈ fS.names, x.2 ≠ .cell; decide) (by show ∀ y ∈ ([("self", .ref x), ("place", .int i ti), ("reason", .str r tr)] : List (Str × Value)), fS.names.lookup y.1 = some .local; intro y hy; simp only [List.mem_cons, List.not_mem_nil, or_false] at hy; rcases hy with rfl | rfl | rfl <;> rfl) (fun h₁ hn k1 => ?_)
  have X1 : K.In h₁ := X.keeps k1
  show wpAt (model prog w) (A.deeper (ksEnv "Fault.__init__" fS s.heap.objs.size fI (.ref cda) cc)) (.func fB (ksEnv "Fault.__init__" fS s.heap.objs.size fI (.ref cda) cc)) (execs fB (ksEnv "Fault.__init__" fS s.heap.objs.size fI (.ref cda) cc)) _ _ _
  unfold fB
  refine ks_wpAt_execs_cons (ks_wpAt_Expr_any (ks_wpAt_MethodCall ?_))
  refine ks_wpAt_super_base (ar := { arg := "self", annotation := none, pos := ⟨6, 17, 6, 21⟩ }) rfl rfl (by decide) rfl (X1 _ _ ho) rfl rfl rfl (X1 _ _ hcda) hcdd hvs (by simp) T.top ?_
  obtain ⟨oD, hD1, hD2⟩ : ∃ oD, h₁.get? C = some oD ∧ oD.data = .cls cd := by
    have hD := hcl
    unfold clsIn at hD
    split at hD
    · rename_i c d cd' sl ho
      cases hD
      exact ⟨_, X1 _ _ ho, rfl⟩
    · cases hD
  refine ks_loadName_global rfl rfl (loadGlobal_builtin (hG.keeps k1) T.gS (hB.keeps k1) hmb ⟨rfl, ?_⟩)
  refine wpAny_loadName_free (c := cc) rfl rfl rfl ⟨_, X1 _ _ hcc, hccd⟩ ?_
  refine wpAny_loadName_local rfl rfl hn (v := .ref x) (by first | rfl | with_unfolding_all rfl | kernel_rfl) ?_
  refine ks_wpAny_isType_cls hD1 hD2 ⟨rfl, ?_⟩
  have hx1 : h₁.get? x = some (excO C t0) := k1 _ _ hx
  refine ks_wpAny_call_super hD1 hD2 hx1 rfl (fun c e => by cases e) (looks_mroIn X1 T.self) (fun h2 e2 k2 => ?_)
  have X2 : K.In h2 := X1.keeps k2
  have hx2 : h2.get? x = some (excO C t0) := k2 _ _ hx1
  have hC2 : Looks (model prog w) h2 (mroOf (.ref C)) cd.mro := fun A Q E s k q => wpAny_bind ((looks_clsIn X2 hcl) A _ E s k (wpAny_pure q))
  have hxC : x ≠ C := fun e => by
    rw [e, hD1] at hx1
    cases hx1
    cases hD2
  have I2 : InstAt h2 x (excO C t0) C none := ⟨hx2, rfl, rfl, trivial⟩
  have hsup : alongIn K "__init__" ((cd.mro.dropWhile (· != .ref C)).drop 1) = some (some (.builtin "ValueError.__init__")) := by
    have h := T.sup
    unfold ks_superIn at h
    rw [hcl] at h
    exact h
  refine kxs_getMethod kxs_ValueError e2 (looks_opaque X2 T.opq) hC2 rfl X2 hsup (I2.type.andThen (looks_subIn X2 T.vB)) hxC (by decide) ?_
  obtain ⟨u, hu⟩ : ∃ u, u = h2.objs.size := ⟨_, rfl⟩
  obtain ⟨h3, eh3⟩ : ∃ h3, h3 = h2.push (kxs_mw "ValueError.__init__" x) := ⟨_, rfl⟩
  have k3 : ∀ b o, h2.get? b = some o → h3.get? b = some o := fun b o e => by rw [eh3]; exact Heap.get?_push_of_some _ e
  have hu3 : h3.get? u = some (kxs_mw "ValueError.__init__" x) := by rw [eh3, hu]; exact Heap.get?_push_at rfl rfl
  rw [← hu, ← eh3]
  show wpAny _ _ (callWith _ (.ref u) [] (backTo _ (starEach [_] _)) []) _ _ _
  refine kxs_callWith (i := "ValueError.__init__") (x := x) rfl (evalArgs_plain ?_)
  have k03 : ∀ b o, s.heap.get? b = some o → h3.get? b = some o := fun b o e => k3 _ _ (k2 _ _ (k1 _ _ e))
  have m1 : (fun y => List.lookup y (List.reverse [(("self" : Str), Value.ref x), ("place", .int i ti), ("reason", .str r tr)])) "self" = some (.ref x) := by first | rfl | with_unfolding_all rfl | kernel_rfl
  have m2 : (fun y => List.lookup y (List.reverse [(("self" : Str), Value.ref x), ("place", .int i ti), ("reason", .str r tr)])) "place" = some (.int i ti) := by first | rfl | with_unfolding_all rfl | kernel_rfl
  have m3 : (fun y => List.lookup y (List.reverse [(("self" : Str), Value.ref x), ("place", .int i ti), ("reason", .str r tr)])) "reason" = some (.str r tr) := by first | rfl | with_unfolding_all rfl | kernel_rfl
  generalize (fun y => List.lookup y (List.reverse [(("self" : Str), Value.ref x), ("place", .int i ti), ("reason", .str r tr)])) = m at hn m1 m2 m3
  have n3 : h3.Ns s.heap.objs.size m := hn.keeps fun b o e => k3 _ _ (k2 _ _ e)
  have la : ∀ x y : Str, (x ++ y).length = x.length + y.length := fun x y => by
    show (x.cps ++ y.cps).size = _
    rw [Array.size_append]
    rfl
  have hj' := hj
  rw [la, la, la] at hj'
  have hx3 : h3.get? x = some (excO C t0) := k3 _ _ hx2
  have L3 : s.heap.objs.size < h3.objs.size := by
    obtain ⟨o, es, ep, e, _⟩ := n3
    exact Heap.lt_size e
  refine spliced_cons (wpAny_JoinedStr (pos := ⟨7, 25, 7, 45⟩) ?_)
  -- the call of the wrapper, whatever the text
  have rest : ∀ (z : Value) (t4 : Nat), wpAny (model prog w) (A.deeper (ksEnv "Fault.__init__" fS s.heap.objs.size fI (.ref cda) cc)) (call (.ref u) [z]) (fun _ s' => wpAt (model prog w) (A.deeper (ksEnv "Fault.__init__" fS s.heap.objs.size fI (.ref cda) cc)) (.func fB (ksEnv "Fault.__init__" fS s.heap.objs.size fI (.ref cda) cc))
      (execs [.Assign [.Attribute (.Name "self" ⟨8, 8, 8, 12⟩) "place" ⟨8, 8, 8, 18⟩] (.Name "place" ⟨8, 21, 8, 26⟩) ⟨8, 8, 8, 26⟩, .Assign [.Attribute (.Name "self" ⟨9, 8, 9, 12⟩) "reason" ⟨9, 8, 9, 19⟩] (.Name "reason" ⟨9, 22, 9, 28⟩) ⟨9, 8, 9, 28⟩] (ksEnv "Fault.__init__" fS s.heap.objs.size fI (.ref cda) cc))
      (fun f s' => R (.ok (.ret (match f with | .ret v => v | _ => .none))) s')
      (fun e s' => wpAny (model prog w) (A.deeper (ksEnv "Fault.__init__" fS s.heap.objs.size fI (.ref cda) cc)) (leaving (ksEnv "Fault.__init__" fS s.heap.objs.size fI (.ref cda) cc) e) (fun _ s'' => R (.error e) s'') (fun e' s'' => R (.error e') s'') s') s')
      (fun e s' => wpAny (model prog w) (A.deeper (ksEnv "Fault.__init__" fS s.heap.objs.size fI (.ref cda) cc)) (leaving (ksEnv "Fault.__init__" fS s.heap.objs.size fI (.ref cda) cc) e) (fun _ s'' => R (.error e) s'') (fun e' s'' => R (.error e') s'') s') { s with heap := h3, toks := t4 } := by
    intro z t4
    obtain ⟨nm, N', qn, bs, bm, hdct, sn, sub, ab, col, dd, c0, c1, c2, c3, c5, hC, hT⟩ := excInit_of (X2.keeps k3) T.ini
    obtain ⟨hp0, g, dr, tk0, os⟩ := s
    refine wpAny_call (codeAny_of_tree ?_)
    show wpAny _ _ (callAny (.ref u) ⟨[z], []⟩) _ _ _
    simp only [callAny]
    refine wpAny_bind (wpAny_load hu3 ?_)
    simp only [kxs_mw, show (Value.type "method-wrapper" == Value.type "method" || Value.type "method-wrapper" == Value.type "builtin_function_or_method" || Value.type "method-wrapper" == Value.type "method-wrapper") = true by decide, if_true]
    refine KFB.if_so (by decide) ?_
    refine wpAny_bind (check_bound_init F.excBase_ValueError.toExcCallFacts hC hx3 rfl ?_)
    refine wpAny_bind (wpAny_pure (wpAny_pure ?_))
    refine ⟨plainId_quiet F.excBase_ValueError.init.plain _, codeAny_builtin F.excBase_ValueError.initEntry ?_⟩
    refine exc_init_tree (cls := .ref C) (t0 := t0) (dv := none) (c2 := .none) (c3 := .none) (b4 := .bool false) hx3 (by rw [sizeLine_eq]; show 1 ≤ 16777216; decide) fun h4 k4 hx4 ht4 => ?_
    have n4 : h4.Ns hp0.objs.size m := by
      obtain ⟨oL, es, ep, hL, r⟩ := n3
      exact ⟨oL, es, ep, k4 _ _ hxL hL, r⟩
    have L4 : hp0.objs.size < h4.objs.size := by
      obtain ⟨o, es, ep, e, _⟩ := n4
      exact Heap.lt_size e
    have kb : ∀ {h h' : Heap}, K.In h → (∀ b o, b ≠ x → h.get? b = some o → h'.get? b = some o) → K.In h' := fun X k a o e => k a o (fun z => by rw [z, hnx] at e; cases e) (X a o e)
    have X4 : K.In h4 := kb (X2.keeps k3) k4
    refine wpAt_of_wpAny (wpAny_execs_cons (plainObj_wpAny_Assign_Attribute ?_))
    refine ldK n4 m2 (ldK n4 m1 ?_)
    refine set_plain X4 (ox := { cls := .ref C, dict := none, data := .fields #[.ref h3.objs.size, .none, .none, .none, .bool false, .none] }) (od := none) ⟨hx4, rfl, rfl, trivial⟩ T.sa ?_
    refine exc_osa X4 hx4 hcl hbm hhd T.noP (fun h5 tk5 dx k5 dn dne hx5 hn5 => ?_)
    have X5 : K.In h5 := kb X4 k5
    have dn' : h4.objs.size ≤ dx := dn
    have n5 : h5.Ns hp0.objs.size m := by
      obtain ⟨oL, es, ep, hL, r⟩ := n4
      exact ⟨oL, es, ep, k5 _ _ hxL hL, r⟩
    refine wpAny_execs_cons (plainObj_wpAny_Assign_Attribute ?_)
    refine ldK n5 m3 (ldK n5 m1 ?_)
    have hw5 : Within (fun y : Str => if y = "place" then some (Value.int i ti) else none) ["place"] := fun y hy => by
      by_cases e : y = "place"
      · rw [e]; exact List.mem_cons_self
      · exact absurd (if_neg e) hy
    obtain ⟨oD5, es5, ep5, hoD5, hdD5, _⟩ := hn5.count hw5
    refine set_plain X5 (ox := { cls := .ref C, dict := some dx, data := .fields #[.ref h3.objs.size, .none, .none, .none, .bool false, .none] }) (od := some oD5) ⟨hx5, rfl, rfl, hoD5⟩ T.sa ?_
    refine OEX.osa_old X5 hx5 hn5 hw5 (by decide) hcl hbm hhd T.noR (fun h6 tk6 k6 hn6 => ?_)
    refine wpAny_execs_nil ?_
    refine hq h6 tk6 dx h3.objs.size ⟨fun b o hb e => ?_, k6 _ _ (Ne.symm dne) hx5, by show hp0.objs.size ≤ dx; omega, dne, hn6⟩
    have lt : b < hp0.objs.size := Heap.lt_size e
    exact k6 _ _ (Nat.ne_of_lt (Nat.lt_of_lt_of_le (Nat.lt_trans lt L4) dn')) (k5 _ _ hb (k4 _ _ hb (k03 _ _ e)))
  refine wpAny_FormattedValue_plain (ldK n3 m2 (wpAny_formatField_int hi ?_))
  refine ⟨toString i, _, rfl, by rw [la]; omega, ?_⟩
  refine Constant_str ?_
  refine ⟨": ", _, rfl, by rw [la, la]; omega, ?_⟩
  refine wpAny_FormattedValue_plain (ldK n3 m3 (wpAny_formatField_str ?_ ?_ (by rw [sizeLine_eq]; omega)))
  · refine ⟨r, _, rfl, hj, ?_⟩
    refine ⟨hj, ?_⟩
    refine spliced_nil ⟨hu3, ?_⟩
    exact rest _ _
  · refine ⟨r, _, rfl, hj, ?_⟩
    refine ⟨hj, ?_⟩
    refine spliced_nil ⟨hu3, ?_⟩
    exact rest _ _
end
end FaX
end PySem

namespace PySem
namespace FaX
open PySem.W PySem.Calls PyProof.Rows PySem.HandSPX
/-- a made Fault -/
structure Made (h h' : Heap) (e C d : Addr) (v u : Value) : Prop where
  keep : ∀ b o, h.get? b = some o → h'.get? b = some o
  new : h.objs.size ≤ e
  obj : ∃ oe vs, h'.get? e = some oe ∧ oe.cls = .ref C ∧ oe.dict = some d ∧ oe.data = .fields vs ∧ vs[1]? = some .none
  dbig : h.objs.size ≤ d
  dne : d ≠ e
  ns : h'.Ns1 d (fun y => if y = "reason" then some u else if y = "place" then some v else none)
section
variable {prog : Program} {w : World} {A : Around} {E : Value → Shared → Prop} {R : Result → Shared → Prop} {s : Shared} {K : Frag} {mg mb : Str → Option Value} {C fI : Addr}
theorem fault_made (T : FaTxt prog K mg C fI) {i : Int} {r : Str} {ti tr : Tok} (X : K.In s.heap) (hlim : s.heap.NoLimit) (hG : s.heap.Ns mainGlobals mg) (hB : s.heap.Ns builtinsNs mb) (hmb : mb "super" = some (.type "super"))
    (hroom : A.depth + 1 < recursionLimit) (hi : i.natAbs.log2 < 1920) (hr : r.length ≤ 1000) (hj : (Str.empty ++ toString i ++ ": " ++ r : Str).length ≤ sizeLine)
    (hq : ∀ h' tk e d, Made s.heap h' e C d (.int i ti) (.str r tr) → R (.ok (.ret (.ref e))) { s with heap := h', toks := tk }) :
    codeAny (model prog w) A (.call (.ref C) ⟨[.int i ti, .str r tr], []⟩) R s := by
  obtain ⟨nm, N', qn, bs, bm, hdct, sn, sub, ab, col, dd, c0, c1, c2, c3, c5, hC, hT⟩ := excInit_of X T.ini
  obtain ⟨hp, g, dr, tk, os⟩ := s
  have k : ∀ b o, hp.get? b = some o → ((hp.push (kdv_tup [.int i ti, .str r tr])).push (excO C hp.objs.size)).get? b = some o := fun b o e => Heap.get?_push_of_some _ (Heap.get?_push_of_some _ e)
  have hget : ((hp.push (kdv_tup [.int i ti, .str r tr])).push (excO C hp.objs.size)).get? (hp.objs.size + 1) = some (excO C hp.objs.size) := by heap_get
  have hnx : K.lookup (hp.objs.size + 1) = none := by
    cases e : K.lookup (hp.objs.size + 1) with
    | none => rfl
    | some o =>
      have z : hp.get? (hp.objs.size + 1) = some o := X _ _ e
      exact absurd (Nat.lt_of_succ_lt (Heap.lt_size z)) (Nat.lt_irrefl _)
  refine call_own F.excBase_ValueError hT hC (looks_findIn X T.iC) (fun self => bind_fn X self T.tC) (by rw [sizeLine_eq]; show 2 ≤ 16777216; decide) ?_
  refine fault_init (s := ⟨(hp.push (kdv_tup [.int i ti, .str r tr])).push (excO C hp.objs.size), g, dr, tk, os⟩) T (X.keeps k) (hlim.keeps k) (hG.keeps k) (hB.keeps k) hmb hget hnx ?_ hi hr hj fun h' tk' dx t1 ⟨k', hx, dn, dne, hns⟩ => ?_
  · show A.depth + 1 < recursionLimit
    exact hroom
  · have old : ∀ b o, hp.get? b = some o → h'.get? b = some o := fun b o e => k' b o (Nat.ne_of_lt (Nat.lt_succ_of_lt (Heap.lt_size e))) (k b o e)
    have z : hp.objs.size + 1 + 1 ≤ dx := by
      first
        | (simpa only [Heap.size_push] using dn)
        | exact dn
        | (have q := dn; rw [Heap.size_push, Heap.size_push] at q; exact q)
    exact ⟨rfl, hq h' tk' (hp.objs.size + 1) dx ⟨old, Nat.le_succ _, ⟨_, _, hx, rfl, rfl, rfl, rfl⟩, Nat.le_trans (Nat.le_trans (Nat.le_succ _) (Nat.le_succ _)) z, dne, hns⟩⟩
end
end FaX
end PySem
namespace L2
open PySem PySem.Spec PyProof.Rows
def faD (i : Int) (r : Str) : List (Str × V) := [("reason", .str r), ("place", .int i)]
theorem relO_fault {v u : V} {v' u' : Value} (r : RelV v v') (r2 : RelV u u') (f : Str) : RelO (List.lookup f [(("reason" : Str), u), ("place", v)]) (if f = "reason" then some u' else if f = "place" then some v' else none) := by
  rw [lookup_put, lookup_put]
  by_cases h : f = "reason"
  · rw [if_pos h, if_pos h]
    exact r2
  · rw [if_neg h, if_neg h]
    by_cases h2 : f = "place"
    · rw [if_pos h2, if_pos h2]
      exact r
    · rw [if_neg h2, if_neg h2]
      exact True.intro
section
variable {X : Cx} {C fI : Addr}
/-- Fault(a, b) -/
def tMkF (C : Addr) (ta : TA) : St → Hp → XK → Prop := fun σ H Q => ta σ H fun vs H1 => ∃ (i : Int) (r : Str), vs = [.int i, .str r] ∧ i.natAbs < 1000000000 ∧ r.length ≤ 1000 ∧ ∀ d, H1 d = none → Q (.ref C) (some d) (upd H1 d (.xd (faD i r)))
theorem pmk_fault {a b : Expr} {ta : TA} {p pos : Pos} {k : Nat} (T : PySem.FaX.FaTxt X.prog X.K X.mg C fI) (hr : Room k X.A) (hk : 1 ≤ k) (ha : PA X [a, b] ta) (hg : Gl X "Fault" := by rfl)
    (he : starEach (a :: [b]) X.env = (false, eval a X.env) :: starEach [b] X.env := by rfl) (hpl : (backTo pos (starEach [b] X.env)).any (·.1) = false := by rfl) :
    PMk X (.Call (.Name "Fault" p) [a, b] [] pos) (tMkF C ta) := by
  intro pins s σ H Q I h
  refine wpAny_Call_Name_kw (ld_glob I hg T.gC ?_)
  refine PySem.W.callWith_K (h₀ := X.base) I.ok.mod.kin T.kC (thn (ha.run pos pins s σ H _ I h) fun us s1 hh => ?_) he hpl
  obtain ⟨vs, H1, I1, r1, i, r, ev, hi, hrl, q1⟩ := hh
  subst ev
  refine ⟨I1.kIn, ?_⟩
  cases r1 with
  | cons rv rn =>
    rename_i v' us'
    cases rn with
    | cons ru rn =>
      rename_i u' us'
      cases rn
      obtain ⟨ti, rfl⟩ := id rv
      obtain ⟨tr, rfl⟩ := id ru
      show wpAny _ _ (call (.ref C) [.int i ti, .str r tr]) _ _ _
      have hlim := I1.nolimit
      have hlog : i.natAbs.log2 < 1920 := by
        have e : i.natAbs.log2 < 30 := by
          by_cases z : i.natAbs = 0
          · rw [z]; decide
          · exact (Nat.log2_lt z).mpr (Nat.lt_trans hi (by decide))
        omega
      have la : ∀ x y : Str, (x ++ y).length = x.length + y.length := fun x y => by
        show (x.cps ++ y.cps).size = _
        rw [Array.size_append]
        rfl
      have hj : (Str.empty ++ toString i ++ ": " ++ r : Str).length ≤ sizeLine := by
        have e := int_text_length_le (k := 1920) (by decide) hlog
        rw [la, la, la, PySem.ofString_length (toString i), sizeLine_eq]
        show 0 + _ + 2 + _ ≤ 16777216
        omega
      obtain ⟨mb, hmb1, hmb2⟩ := I1.ok.mod.blt
      obtain ⟨hp, g, dr, tk, os⟩ := s1
      refine wpAny_call (PySem.FaX.fault_made T I1.kIn hlim (I1.ok.mod.glob.keeps I1.bk) (hmb1.keeps I1.bk) ((hmb2 "super" (by decide)).trans (by first | rfl | decide +kernel | kernel_rfl)) (by have := hr.dp; omega) hlog hrl hj fun h' tk' e d M => ?_)
      show MkP X pins σ Q (.ref e) ⟨h', g, dr, tk', os⟩
      obtain ⟨oe, fv, hoe, hc, hd, hdat, h1⟩ := M.obj
      have hns := M.ns
      obtain ⟨G', g1, g2⟩ := restrict h' fun b => decide (b ≠ e)
      have gk : ∀ b, b ≠ e → G'.get? b = h'.get? b := fun b hb => g1 b (decide_eq_true hb)
      have ge : G'.get? e = none := g2 e (by simp)
      have old : ∀ b o, hp.get? b = some o → G'.get? b = some o := fun b o q => (gk b (Nat.ne_of_lt (Nat.lt_of_lt_of_le (Heap.lt_size q) M.new))).trans (M.keep b o q)
      have ob : ObjOk X.prog X.w (upd H1 d (.xd (faD i r))) G' d (.xd (faD i r)) :=
        ⟨_, hns.at (fun o q => (gk d M.dne).trans q), fun f => relO_fault (v := .int i) (u := .str r) rv ru f⟩
      have J : Inv X pins σ (upd H1 d (.xd (faD i r))) ⟨G', g, dr, tk', os⟩ := I1.laid (t' := tk') old M.dbig ob
      refine ⟨e, oe, fv, ⟨G', g, dr, tk', os⟩, _, .ref C, some d, rfl, J, fun b o q => ?_, ge, hoe, ⟨hc, hd⟩, hdat, h1, ?_, rfl, I1.bare, raises_own T.exC T.tyC, q1 d (I1.hok.fresh M.dbig)⟩
      · by_cases hb : b = e
        · have q' : G'.get? b = some o := q
          rw [hb, ge] at q'; cases q'
        · exact (gk b hb).symm.trans q
      · rw [upd_ne (Ne.symm M.dne)]
        exact I1.hok.fresh M.new
end
end L2
namespace G
open PySem PySem.W PyProof.Rows
/-! ### the head's facts of a class Fault -/
abbrev FnC := Option (Str × Str × Arguments × FuncBody × Scope × Addr × List Str × Addr)
def fnC (K : Frag) (p : Str × Option Str) : FnC := match K.lookup (He.fAd K p) with
  | some ⟨_, _, .func fd, _⟩ => some (fd.name, fd.qualname, fd.params, fd.body, fd.scope, fd.globals, fd.closure.map (·.1), fd.builtins)
  | _ => none
def fnF : FnC := some ("__init__", "Fault.__init__", FaX.fA, .stmts FaX.fB, FaX.fS, mainGlobals, ["__class__"], builtinsNs)
def isNo : Value → Bool
  | .none => true
  | _ => false
theorem isNo_ok {v : Value} (h : isNo v = true) : v = .none := by cases v <;> first | rfl | cases h
def cellB (K : Frag) (cc C : Addr) : Bool := match K.lookup cc with
  | some co => (match co.data with
    | .cell (some (.ref a)) => decide (a = C)
    | _ => false)
  | none => false
theorem cellB_ok {K : Frag} {cc C : Addr} (h : cellB K cc C = true) : ∃ co, K.lookup cc = some co ∧ co.data = .cell (some (.ref C)) := by
  unfold cellB at h
  split at h
  · rename_i co e
    split at h
    · rename_i a e2
      exact ⟨co, e, by rw [e2, of_decide_eq_true h]⟩
    · cases h
  · cases h
def fileB (K : Frag) (cda : Addr) (file : Str) : Bool := match K.lookup cda with
  | some co => (match co.data with
    | .fields vs => (match (vs[2]? : Option Value) with
      | some (Value.str f _) => decide (f = file)
      | _ => false)
    | _ => false)
  | none => false
theorem fileB_ok {K : Frag} {cda : Addr} {file : Str} (h : fileB K cda file = true) : ∃ co vs tf, K.lookup cda = some co ∧ co.data = .fields vs ∧ vs[2]? = some (.str file tf) := by
  unfold fileB at h
  split at h
  · rename_i co e
    split at h
    · rename_i vs e2
      split at h
      · rename_i f tf e3
        exact ⟨co, vs, tf, e, e2, by rw [e3, of_decide_eq_true h]⟩
      · cases h
    · cases h
  · cases h
def codB (K : Frag) (v : Value) (file : Str) : Bool := match v with
  | .ref cda => codeIn K (.ref cda) "Fault.__init__" && fileB K cda file
  | _ => false
def cloB (K : Frag) (l : List (Str × Addr)) (C : Addr) : Bool := match l with
  | [(_, cc)] => cellB K cc C
  | _ => false
def clB (K : Frag) (C : Addr) : Bool := match clsIn K C with
  | some cd => HandSPX.refsVE cd.mro && cd.hasDict
  | none => false
def fuB (K : Frag) (file : Str) : Bool := match K.lookup (He.fAd K ("Fault", some "__init__")) with
  | some ⟨_, _, .func fd, _⟩ => isNo fd.defaults && (isNo fd.kwdefaults && (codB K fd.code file && cloB K fd.closure (He.ga K "Fault")))
  | _ => false
def faBs (file : Str) (K : Frag) : List Bool := [
  He.eqO (nsIn K mainGlobals "Fault") (some (some (.ref (He.ga K "Fault")))),
  He.eqO (nsIn K mainGlobals "super") (some none),
  excInitIn K (He.ga K "Fault") He.veBase "ValueError.__new__",
  clB K (He.ga K "Fault"),
  He.eqO (findIn K (.ref (He.ga K "Fault")) "__setattr__") (some (some (.builtin "object.__setattr__"))),
  He.eqO (findIn K (.ref (He.ga K "Fault")) "__getattribute__") (some (some (.builtin "BaseException.__getattribute__"))),
  He.eqO (findIn K (.ref (He.ga K "Fault")) "__getattr__") (some none),
  He.eqO (findIn K (.ref (He.ga K "Fault")) "place") (some none),
  He.eqO (findIn K (.ref (He.ga K "Fault")) "reason") (some none),
  He.eqO (findIn K (.ref (He.ga K "Fault")) "__init__") (some (some (.ref (He.fAd K ("Fault", some "__init__"))))),
  decide (typeIn K (.ref (He.fAd K ("Fault", some "__init__"))) = some (.type "function")),
  keepIn K (.ref (He.ga K "Fault")),
  decide (subIn K (.ref (He.ga K "Fault")) (.type "BaseException") = some true),
  decide (subIn K (.ref (He.ga K "Fault")) (.type "ValueError") = some true),
  decide (typeIn K (.ref (He.ga K "Fault")) = some (.type "type")),
  hasDictIn K (He.ga K "Fault"),
  decide (exmOne K (.ref (He.ga K "Fault")) (.ref (He.ga K "Fault")) = some true),
  He.eqO (ks_superIn K (He.ga K "Fault") (He.ga K "Fault") "__init__") (some (some (.builtin "ValueError.__init__"))),
  decide (mroIn K (He.ga K "Fault") (.ref (He.ga K "Fault")) = some true),
  He.eqO (nsIn K cStatics "thirdparty.any") (some none),
  fuB K file]
theorem faTxt_of {P : Program} {K : Frag} {h : Heap} {mg : Str → Option Value} (X : K.In h) (Gm : h.Ns mainGlobals mg) (e : fnC K ("Fault", some "__init__") = fnF) (c : (faBs P.main.file K).all id = true) (ht : (P.main.scope.names.lookup ("super" : Str)).isSome = false) :
    FaX.FaTxt P K mg (He.ga K "Fault") (He.fAd K ("Fault", some "__init__")) := by
  have at_ : ∀ (i : Nat) (b : Bool), (faBs P.main.file K)[i]? = some b → b = true := fun i b hb => List.all_eq_true.mp c b (List.mem_of_getElem? hb)
  have hcl : clB K (He.ga K "Fault") = true := at_ 3 _ rfl
  have hfu : fuB K P.main.file = true := at_ 20 _ rfl
  refine {
    gC := mg_of X Gm (He.eqO_ok (at_ 0 _ rfl))
    gS := mg_none_of X Gm (He.eqO_ok (at_ 1 _ rfl))
    ini := at_ 2 _ rfl
    cd := ?_
    sa := He.eqO_ok (at_ 4 _ rfl)
    ga := He.eqO_ok (at_ 5 _ rfl)
    gg := He.eqO_ok (at_ 6 _ rfl)
    noP := He.eqO_ok (at_ 7 _ rfl)
    noR := He.eqO_ok (at_ 8 _ rfl)
    iC := He.eqO_ok (at_ 9 _ rfl)
    tC := of_decide_eq_true (at_ 10 _ rfl)
    kC := at_ 11 _ rfl
    exC := of_decide_eq_true (at_ 12 _ rfl)
    vB := of_decide_eq_true (at_ 13 _ rfl)
    tyC := of_decide_eq_true (at_ 14 _ rfl)
    hdC := at_ 15 _ rfl
    te := of_decide_eq_true (at_ 16 _ rfl)
    sup := He.eqO_ok (at_ 17 _ rfl)
    self := of_decide_eq_true (at_ 18 _ rfl)
    opq := He.eqO_ok (at_ 19 _ rfl)
    top := ht
    fn := ?_ }
  · unfold clB at hcl
    split at hcl
    · rename_i cd e
      obtain ⟨h1, h2⟩ := He.ba hcl
      exact ⟨cd, e, h1, h2⟩
    · cases hcl
  · unfold fuB at hfu
    unfold fnC at e
    split at hfu
    · rename_i oc od fd osl lk
      rw [lk] at e
      obtain ⟨n1, n2, n3, n4, n5, n6, n7, n8, n9, n10, n11, n12, n13, n14, n15⟩ := fd
      obtain ⟨b1, b2⟩ := He.ba hfu
      obtain ⟨b3, b4⟩ := He.ba b2
      obtain ⟨b5, b6⟩ := He.ba b4
      clear hfu b2 b4
      have c1 : n8 = .none := isNo_ok b1
      have c3 : n9 = .none := isNo_ok b3
      have c5 : codB K n13 P.main.file = true := b5
      have c6 : cloB K n7 (He.ga K "Fault") = true := b6
      clear b1 b3 b5 b6
      have e2 : (some (n1, n2, n3, n4, n5, n6, n7.map (·.1), n15) : FnC) = fnF := e
      unfold fnF at e2
      simp only [Option.some.injEq, Prod.mk.injEq] at e2
      obtain ⟨rfl, rfl, rfl, rfl, rfl, rfl, e7, rfl⟩ := e2
      subst c1 c3
      unfold codB at c5
      split at c5
      · rename_i cda
        obtain ⟨k1, k2⟩ := He.ba c5
        obtain ⟨cdo, vs, tf, f1, f2, f3⟩ := fileB_ok k2
        unfold cloB at c6
        split at c6
        · rename_i nm cc
          have e7' : nm = "__class__" := by
            have := e7
            simp at this
            exact this
          subst e7'
          obtain ⟨co, g1, g2⟩ := cellB_ok c6
          exact ⟨oc, od, _, _, _, cda, _, osl, cc, cdo, vs, tf, co, lk, k1, f1, f2, f3, g1, g2⟩
        · cases c6
      · cases c5
    · cases hfu
/-! ### the hook -/
def asY (g : Addr → Option Obj) (n : Nat) : List Addr := cStatics :: He.asD g n
abbrev AlY : Type := He.AlD × FnC × Bool
def obsY (n : Nat) (fa : List He.Fa) (fn : List He.DefD) (ex : Frag → Bool) (file : Str) (g : Addr → Option Obj) : AlY :=
  (He.obsD fa fn (He.frT g (asY g n)), fnC (He.frT g (asY g n)) ("Fault", some "__init__"), ex (He.frT g (asY g n)) && (faBs file (He.frT g (asY g n))).all id)
def valY (fn : List He.DefD) : AlY := (He.valD fn, fnF, true)
structure SaysY (fa : List He.Fa) (fn : List He.DefD) (ex : Frag → Bool) (file : Str) (K : Frag) : Prop where
  d : He.SaysD fa fn K
  f : fnC K ("Fault", some "__init__") = fnF
  more : ex K = true
  b : (faBs file K).all id = true
def hookY (n : Nat) (fa : List He.Fa) (fn : List He.DefD) (ex : Frag → Bool) (file : Str) : Hook where
  α := AlY
  obs := fun s => obsY n fa fn ex file s.heap.get?
  val := fun _ => valY fn
  says := fun _ h => ∃ K : Frag, K.In h ∧ SaysY fa fn ex file K
  of := fun _ _ e => ⟨_, He.frT_in, congrArg (fun z : AlY => z.1) e, congrArg (fun z : AlY => z.2.1) e, (He.ba (congrArg (fun z : AlY => z.2.2) e)).1, (He.ba (congrArg (fun z : AlY => z.2.2) e)).2⟩
  keeps := fun _ _ _ ⟨K, hK, c⟩ k => ⟨K, Frag.In.keeps hK k, c⟩
theorem obsY_eq {n : Nat} {fa : List He.Fa} {fn : List He.DefD} {ex : Frag → Bool} {file : Str} {g : Addr → Option Obj} {s : Shared} (h : ∀ a, g a = s.heap.get? a) : obsY n fa fn ex file g = (hookY n fa fn ex file).obs s := by
  have e : g = s.heap.get? := funext h
  rw [e] <;> rfl
end G
namespace G
open PySem PySem.Spec PyProof.Rows L2
/-- the program's file and its top names -/
class PI (P : Program) : Prop where
  file : P.main.file = "/claim/cut.py"
  top : (P.main.scope.names.lookup ("super" : Str)).isSome = false
/-- Fault's facts, for each such program -/
def FaT (K : PySem.W.Frag) (mg : Str → Option Value) : Prop := ∀ P : Program, PI P → FaX.FaTxt P K mg (He.ga K "Fault") (He.fAd K ("Fault", some "__init__"))
theorem FaT.txt {K : PySem.W.Frag} {mg : Str → Option Value} (T : FaT K mg) (P : Program) [h : PI P] : FaX.FaTxt P K mg (He.ga K "Fault") (He.fAd K ("Fault", some "__init__")) := T P h
theorem SaysY.fau {fa : List He.Fa} {fn : List He.DefD} {ex : PySem.W.Frag → Bool} {K : PySem.W.Frag} {h : Heap} {mg : Str → Option Value} (c : SaysY fa fn ex "/claim/cut.py" K) (X : K.In h) (Gm : h.Ns mainGlobals mg) : FaT K mg := fun P i => by
  refine faTxt_of X Gm c.f ?_ i.top
  rw [i.file]
  exact c.b
/-- raise Fault(a, b) -/
def tRaiseF (C : Addr) (W : WX) (ta : TA) : TS := fun _ σ H => tMkF C ta σ H fun cls d H' => W cls d σ H'
def tTryAs (K : PySem.W.Frag) (c : Value) (i : Nat) (tb : WX → TS) (ts : Addr → Value → Option Addr → TS) (Wout : WX) : TS := fun D σ H => tb (wAs K c i ts Wout D) D σ H
def rIsF (K : PySem.W.Frag) (D a : Addr) (cls : Value) (d : Option Addr) : List V → Hp → VK → Prop := fun xs H Q => ∃ (c : V) (cv : Value) (b : Bool) (dd : Addr) (fs : List (Str × V)), xs = [.ref a, c] ∧ ClsV c cv ∧ cls = .ref D ∧ d = some dd ∧ H dd = some (.xd fs) ∧ PySem.W.kitOne K (.ref D) cv = some b ∧ Q (.bl b) H
section
variable {X : Cx} {C fI : Addr}
theorem ps_raiseF {a b : Expr} {ta : TA} {p pos pos2 : Pos} {k : Nat} {W : WX} (hc : X.calm = true) (tk : Takes X W) (T : FaX.FaTxt X.prog X.K X.mg C fI) (hr : Room k X.A) (hk : 1 ≤ k) (ha : PA X [a, b] ta) (hg : Gl X "Fault" := by rfl)
    (he : starEach (a :: [b]) X.env = (false, eval a X.env) :: starEach [b] X.env := by rfl) (hpl : (backTo pos (starEach [b] X.env)).any (·.1) = false := by rfl) :
    PS X (.Raise (some (.Call (.Name "Fault" p) [a, b] [] pos)) none pos2) (tRaiseF C W ta) := ps_raise hc tk (pmk_fault T hr hk ha hg he hpl)
theorem xfc_of {P : Program} {K : PySem.W.Frag} {mg : Str → Option Value} (T : FaX.FaTxt P K mg C fI) : XfC K C := ⟨T.ga, T.gg, T.exC, T.hdC⟩
theorem call_isF {P : Program} {a : Addr} {oe : Obj} {cls : Value} {d : Option Addr} {pn : List (Addr × Obj)} (T : FaX.FaTxt P X.K X.mg C fI) (F : InsF X.K C) (hz : Zc cls d oe) (hf : ∃ vs, oe.data = .fields vs) : CallR (X.suite a ((a, oe) :: pn)) (.builtin "isinstance") (rIsF X.K C a cls d) := by
  intro pins s σ H xs us Q I r h
  obtain ⟨c, cv, b, dd, fs, rfl, hcv, rfl, rfl, hdd, e, q⟩ := h
  cases r with
  | cons rx rr =>
    cases rr with
    | cons rt rr =>
      cases rr
      cases rx
      have ec := hcv.eq rt
      subst ec
      obtain ⟨hget, _⟩ := I.pin (a, oe) (List.mem_append.mpr (.inl List.mem_cons_self))
      obtain ⟨vs, hv⟩ := hf
      have hx : ObjOk X.prog X.w H s.heap dd (.xd fs) := I.hok dd _ hdd
      obtain ⟨mA, hns, _⟩ := hx
      obtain ⟨od, ho, _⟩ := lookIn_ns hns
      have J : PySem.W.InstAt s.heap a oe C (some od) := ⟨hget, hz.1, by unfold PySem.W.notCls; rw [hv] <;> rfl, by rw [hz.2]; exact ho⟩
      obtain ⟨cd, hcd, _⟩ := T.cd
      exact PySem.W.kia_one (PySem.W.kitx_exc (by rw [hcd]; rfl) T.ga T.gg T.exC F.ha F.hn F.htk F.hm) I.kIn J e (fun z => nomatch z) fun tk => ⟨.bl b, H, I.kept (t' := tk) fun _ _ z => z, rfl, q⟩
end
end G
namespace G
open PySem PySem.Spec PyProof.Rows L2
section
variable {nx bk ct : L2.St → Hp → Prop} {rt : VK} {σ : L2.St} {H : Hp} {Q : VK}
/-- what a raise wants of its values -/
def FauK (C : Addr) (S : Value → Option Addr → Hp → Prop) (vs : List V) (H1 : Hp) : Prop := ∃ (i : Int) (r : Str), vs = [.int i, .str r] ∧ i.natAbs < 1000000000 ∧ r.length ≤ 1000 ∧ ∀ d, H1 d = none → S (.ref C) (some d) (upd H1 d (.xd (faD i r)))
theorem g_raise {C : Addr} {W : WX} {ta : TA} (h : ta σ H (FauK C fun cls d H' => W cls d σ H')) : tRaiseF C W ta ⟨nx, rt, bk, ct⟩ σ H := h
theorem v_fau {C : Addr} {S : Value → Option Addr → Hp → Prop} {i : Int} {r : Str} (h1 : i.natAbs < 1000000000) (h2 : r.length ≤ 1000) (q : ∀ d, H d = none → S (.ref C) (some d) (upd H d (.xd (faD i r)))) : FauK C S [.int i, .str r] H := ⟨i, r, rfl, h1, h2, q⟩
end
end G

namespace Lw
open PySem PySem.Spec PyProof.Rows L2 G
def top (i : Nat) : Stmt := PySem.Challenge.pw_oneheap_k00_tokens_of_texts.main.body.getD i (.Pass ⟨0, 0, 0, 0⟩)
abbrev s__law_cells : Stmt := top 17
abbrev s__law_draw : Stmt := top 18
abbrev s__law_pick : Stmt := top 19
abbrev s__law_text : Stmt := top 20
abbrev s__law_quoted : Stmt := top 24
abbrev s__law_is_letter : Stmt := top 21
abbrev s__law_is_digit : Stmt := top 22
abbrev s__law_run : Stmt := top 23
abbrev s__law_one : Stmt := top 25
abbrev s__law_due : Stmt := top 26
abbrev s_word_end : Stmt := top 9
abbrev s_Token_init : Stmt := inClass (top 8) 0
abbrev s_read_word : Stmt := top 11
abbrev s_digits_end : Stmt := top 10
abbrev s_read_number : Stmt := top 12
abbrev s_read_quoted : Stmt := top 13
abbrev s_read_sign : Stmt := top 14
abbrev s_tokens : Stmt := top 15
abbrev s_law : Stmt := top 27
def k_DIGITS : V := (.str ("0123456789" : Str))
def k_LETTERS : V := (.str ("abcdefghijklmnopqrstuvwxyzABCDEFGHIJKLMNOPQRSTUVWXYZ" : Str))
def k_NUMBER_LENGTH : V := (.int 18)
def k_WORD_LENGTH : V := (.int 12)
/-! ### readings -/
/-- _law_cells: 0 _law_script, 1 _law_count, 2 _law_cells_here, 3 _law_k, 4 _law_cell -/
def t__law_cells (K : PySem.W.Frag) : TS :=
  (tSeq (tAsg (tLst tNil) (gName 2)) (tSeq (tFor (iRng1 (tCons (tVar 1) tNil)) (gName 3) (tSeq (tAsg (tOp (rAddX K) (tOp rMulX (tC (.int 7)) (tVar 3)) (tC (.int 3))) (gName 4)) (C8.tCut (tIfS (tTest (tOp (rLtX K) (tVar 3) (tCB (rLen K) (tCons (tVar 0) tNil)))) (tSeq (tAsg (tCB rIntX (tCons (tOp (rIx K) (tVar 0) (tVar 3)) tNil)) (gName 4)) (tIfS (tTest (tOp (rLtX K) (tVar 4) (tC (.int 0)))) (tAsg (tOp rSubX (tC (.int 1)) (tOp rMulX (tC (.int 2)) (tVar 4))) (gName 4)) tNext)) tNext) (C8.tCut (tIfS (tTest (tOp (rLtX K) (tVar 4) (tC (.int 1000000000)))) (tSeq (tAsg (tOp rModX (tOp (rAddX K) (tOp (rAddX K) (tOp rMulX (tCB rIntX (tCons (tVar 4) tNil)) (tC (.int 1103515245))) (tC (.int 12345))) (tOp rMulX (tC (.int 131)) (tVar 3))) (tC (.int 2147483647))) (gName 4)) (tAsg (tOp rModX (tOp (rAddX K) (tOp rMulX (tCB rIntX (tCons (tVar 4) tNil)) (tC (.int 6364136223846793005))) (tC (.int 1442695040888963407))) (tC (.int 18446744073709551557))) (gName 4))) tNext) (tDrop (tBM K "list" rAppend (tVar 2) (tCons (tVar 4) tNil))))))) (tRet (tVar 2))))
def sp__law_cells (K : PySem.W.Frag) : Sp := fun vs H Q E => vs.length = 2 ∧ t__law_cells K ⟨fun _ H' => Q .non H', Q, fun _ _ => False, fun _ _ => False⟩ (start ["_law_script", "_law_count", "_law_cells_here", "_law_k", "_law_cell"] vs) H
/-- _law_draw: 0 _law_draws, 1 _law_bound, 2 _law_value -/
def t__law_draw (K : PySem.W.Frag) : TS :=
  (C8.tCut (tIfS (tAnd (tTest (tOp (rEqX K) (tOp (rIx K) (tVar 0) (tC (.int 0))) (tC (.int 0)))) (tTest (tOp rGtX (tCB (rLen K) (tCons (tVar 0) tNil)) (tC (.int 1))))) (tDrop (tBM K "list" (fun x vs H Q => rPop x vs H Q ∨ rPopAt x vs H Q) (tVar 0) (tCons (tC (.int 0)) tNil))) tNext) (tSeq (tAsg (tOp rModX (tCB rIntX (tCons (tOp (rIx K) (tVar 0) (tC (.int 0))) tNil)) (tVar 1)) (gName 2)) (tSeq (tAsg (tOp rDivX (tOp (rIx K) (tVar 0) (tC (.int 0))) (tVar 1)) (gSub (tVar 0) (tC (.int 0)) rSetL)) (tRet (tVar 2)))))
def sp__law_draw (K : PySem.W.Frag) : Sp := fun vs H Q E => vs.length = 2 ∧ t__law_draw K ⟨fun _ H' => Q .non H', Q, fun _ _ => False, fun _ _ => False⟩ (start ["_law_draws", "_law_bound", "_law_value"] vs) H
/-- _law_pick: 0 _law_draws, 1 _law_row -/
def t__law_pick (K : PySem.W.Frag) : TS :=
  (tRet (tOp (rIx K) (tVar 1) (tCallSD (sp__law_draw K) [] Ez (tCons (tVar 0) (tCons (tCB (rLen K) (tCons (tVar 1) tNil)) tNil)))))
def sp__law_pick (K : PySem.W.Frag) : Sp := fun vs H Q E => vs.length = 2 ∧ t__law_pick K ⟨fun _ H' => Q .non H', Q, fun _ _ => False, fun _ _ => False⟩ (start ["_law_draws", "_law_row"] vs) H
/-- _law_text: 0 _law_draws, 1 _law_text_here, 2 _law_turn -/
def t__law_text (K : PySem.W.Frag) : TS :=
  (tSeq (tAsg (tC (.str ("" : Str))) (gName 1)) (tSeq (tFor (iRng1 (tCons (tCallSD (sp__law_draw K) [] Ez (tCons (tVar 0) (tCons (tC (.int 21)) tNil))) tNil)) (gName 2) (tSeq (tAsg (tOp (rAddX K) (tVar 1) (tOp (rIx K) (tC (.str ("ab_0Z7 \"\\.->{# a" : Str))) (tCallSD (sp__law_draw K) [] Ez (tCons (tVar 0) (tCons (tC (.int 16)) tNil))))) (gName 1)) (tIfS (tTest (tOp (rEqX K) (tCallSD (sp__law_draw K) [] Ez (tCons (tVar 0) (tCons (tC (.int 9)) tNil))) (tC (.int 0)))) (tAsg (tOp (rAddX K) (tVar 1) (tCallSD (sp__law_pick K) [] Ez (tCons (tVar 0) (tCons (tLst (tCons (tC (.str ("abcdefghijkl" : Str))) (tCons (tC (.str ("1234567890123456" : Str))) (tCons (tC (.str ("\"a b\"" : Str))) (tCons (tC (.str ("\"\\\"\"" : Str))) (tCons (tC (.str ("->" : Str))) (tCons (tC (.str (" .. " : Str))) tNil))))))) tNil)))) (gName 1)) tNext))) (tRet (tSl (rSlX K) (tVar 1) tNoPart (tPart (tOp rSubX (tC (.int 26)) (tCallSD (sp__law_draw K) [] Ez (tCons (tVar 0) (tCons (tC (.int 2)) tNil)))))))))
def sp__law_text (K : PySem.W.Frag) : Sp := fun vs H Q E => vs.length = 1 ∧ t__law_text K ⟨fun _ H' => Q .non H', Q, fun _ _ => False, fun _ _ => False⟩ (start ["_law_draws", "_law_text_here", "_law_turn"] vs) H
/-- _law_quoted: 0 _law_text_here, 1 _law_at, 2 _law_known, 3 _law_place, 4 _law_turn -/
def t__law_quoted (K : PySem.W.Frag) : TS :=
  (tSeq (tAsg (tC (.str ("" : Str))) (gName 2)) (tSeq (tAsg (tOp (rAddX K) (tVar 1) (tC (.int 1))) (gName 3)) (tSeq (tFor (iRng1 (tCons (tCB (rLen K) (tCons (tVar 0) tNil)) tNil)) (gName 4) (tSeq (tIfS (tTest (tOp rGeX (tVar 3) (tCB (rLen K) (tCons (tVar 0) tNil)))) tBreak tNext) (tSeq (tIfS (tTest (tOp (rEqX K) (tOp (rIx K) (tVar 0) (tVar 3)) (tC (.str ("\"" : Str))))) (tRet (tTup (tCons (tC (.str ("text" : Str))) (tCons (tVar 2) (tCons (tOp (rAddX K) (tVar 3) (tC (.int 1))) tNil))))) tNext) (C8.tCut (tIfS (tTest (tOp (rEqX K) (tOp (rIx K) (tVar 0) (tVar 3)) (tC (.str ("\\" : Str))))) (tSeq (tAsg (tOp (rAddX K) (tVar 3) (tC (.int 1))) (gName 3)) (tSeq (tIfS (tTest (tOp rGeX (tVar 3) (tCB (rLen K) (tCons (tVar 0) tNil)))) tBreak tNext) (tIfS (tAnd (tTest (tOp (rNeX K) (tOp (rIx K) (tVar 0) (tVar 3)) (tC (.str ("\"" : Str))))) (tTest (tOp (rNeX K) (tOp (rIx K) (tVar 0) (tVar 3)) (tC (.str ("\\" : Str)))))) (tRet (tTup (tCons (tC (.str ("fault" : Str))) (tCons (tC (.str ("unexpected sign" : Str))) (tCons (tVar 3) tNil))))) tNext))) tNext) (tSeq (tAsg (tOp (rAddX K) (tVar 2) (tOp (rIx K) (tVar 0) (tVar 3))) (gName 2)) (tAsg (tOp (rAddX K) (tVar 3) (tC (.int 1))) (gName 3))))))) (tRet (tTup (tCons (tC (.str ("fault" : Str))) (tCons (tC (.str ("text is not closed" : Str))) (tCons (tVar 1) tNil))))))))
def sp__law_quoted (K : PySem.W.Frag) : Sp := fun vs H Q E => vs.length = 2 ∧ t__law_quoted K ⟨fun _ H' => Q .non H', Q, fun _ _ => False, fun _ _ => False⟩ (start ["_law_text_here", "_law_at", "_law_known", "_law_place", "_law_turn"] vs) H
/-- _law_is_letter: 0 _law_sign -/
def t__law_is_letter (K : PySem.W.Frag) : TS :=
  (tRet (tOrV (tChain rLeX rLeX (tC (.str ("a" : Str))) (tVar 0) (tC (.str ("z" : Str)))) (tChain rLeX rLeX (tC (.str ("A" : Str))) (tVar 0) (tC (.str ("Z" : Str))))))
def sp__law_is_letter (K : PySem.W.Frag) : Sp := fun vs H Q E => vs.length = 1 ∧ t__law_is_letter K ⟨fun _ H' => Q .non H', Q, fun _ _ => False, fun _ _ => False⟩ (start ["_law_sign"] vs) H
/-- _law_is_digit: 0 _law_sign -/
def t__law_is_digit (K : PySem.W.Frag) : TS :=
  (tRet (tChain rLeX rLeX (tC (.str ("0" : Str))) (tVar 0) (tC (.str ("9" : Str)))))
def sp__law_is_digit (K : PySem.W.Frag) : Sp := fun vs H Q E => vs.length = 1 ∧ t__law_is_digit K ⟨fun _ H' => Q .non H', Q, fun _ _ => False, fun _ _ => False⟩ (start ["_law_sign"] vs) H
/-- _law_run: 0 _law_text_here, 1 _law_at, 2 _law_letters, 3 _law_size -/
def t__law_run (K : PySem.W.Frag) : TS :=
  (tSeq (tAsg (tC (.int 0)) (gName 3)) (tSeq (tWhile (tAnd (tTest (tOp (rLtX K) (tOp (rAddX K) (tVar 1) (tVar 3)) (tCB (rLen K) (tCons (tVar 0) tNil)))) (tOr (tTru K (tCallSD (sp__law_is_digit K) [] Ez (tCons (tOp (rIx K) (tVar 0) (tOp (rAddX K) (tVar 1) (tVar 3))) tNil))) (tAnd (tTru K (tVar 2)) (tOr (tTru K (tCallSD (sp__law_is_letter K) [] Ez (tCons (tOp (rIx K) (tVar 0) (tOp (rAddX K) (tVar 1) (tVar 3))) tNil))) (tTest (tOp (rEqX K) (tOp (rIx K) (tVar 0) (tOp (rAddX K) (tVar 1) (tVar 3))) (tC (.str ("_" : Str))))))))) (tAsg (tOp (rAddX K) (tVar 3) (tC (.int 1))) (gName 3))) (tRet (tVar 3))))
def sp__law_run (K : PySem.W.Frag) : Sp := fun vs H Q E => vs.length = 3 ∧ t__law_run K ⟨fun _ H' => Q .non H', Q, fun _ _ => False, fun _ _ => False⟩ (start ["_law_text_here", "_law_at", "_law_letters", "_law_size"] vs) H
/-- _law_one: 0 _law_text_here, 1 _law_at, 2 _law_sign, 3 _law_size -/
def t__law_one (K : PySem.W.Frag) : TS :=
  (tSeq (tAsg (tOp (rIx K) (tVar 0) (tVar 1)) (gName 2)) (tSeq (tIfS (tTest (tOp (rEqX K) (tVar 2) (tC (.str ("\"" : Str))))) (tRet (tCallSD (sp__law_quoted K) [] Ez (tCons (tVar 0) (tCons (tVar 1) tNil)))) tNext) (tSeq (tIfS (tTru K (tCallSD (sp__law_is_letter K) [] Ez (tCons (tVar 2) tNil))) (tSeq (tAsg (tCallSD (sp__law_run K) [] Ez (tCons (tVar 0) (tCons (tVar 1) (tCons (tC (.bl true)) tNil)))) (gName 3)) (tSeq (tIfS (tTest (tOp rGtX (tVar 3) (tC (.int 12)))) (tRet (tTup (tCons (tC (.str ("fault" : Str))) (tCons (tC (.str ("word too long" : Str))) (tCons (tVar 1) tNil))))) tNext) (tRet (tTup (tCons (tC (.str ("word" : Str))) (tCons (tSl (rSlX K) (tVar 0) (tPart (tVar 1)) (tPart (tOp (rAddX K) (tVar 1) (tVar 3)))) (tCons (tOp (rAddX K) (tVar 1) (tVar 3)) tNil))))))) tNext) (tSeq (tIfS (tTru K (tCallSD (sp__law_is_digit K) [] Ez (tCons (tVar 2) tNil))) (tSeq (tAsg (tCallSD (sp__law_run K) [] Ez (tCons (tVar 0) (tCons (tVar 1) (tCons (tC (.bl false)) tNil)))) (gName 3)) (tSeq (tIfS (tAnd (tTest (tOp rGtX (tVar 3) (tC (.int 1)))) (tTest (tOp (rEqX K) (tVar 2) (tC (.str ("0" : Str)))))) (tRet (tTup (tCons (tC (.str ("fault" : Str))) (tCons (tC (.str ("needless zero" : Str))) (tCons (tVar 1) tNil))))) tNext) (tSeq (tIfS (tTest (tOp rGtX (tVar 3) (tC (.int 18)))) (tRet (tTup (tCons (tC (.str ("fault" : Str))) (tCons (tC (.str ("number too long" : Str))) (tCons (tVar 1) tNil))))) tNext) (tSeq (tIfS (tTest (tOp rGtX (tCallSD (sp__law_run K) [] Ez (tCons (tVar 0) (tCons (tOp (rAddX K) (tVar 1) (tVar 3)) (tCons (tC (.bl true)) tNil)))) (tC (.int 0)))) (tRet (tTup (tCons (tC (.str ("fault" : Str))) (tCons (tC (.str ("unexpected sign" : Str))) (tCons (tOp (rAddX K) (tVar 1) (tVar 3)) tNil))))) tNext) (tRet (tTup (tCons (tC (.str ("number" : Str))) (tCons (tSl (rSlX K) (tVar 0) (tPart (tVar 1)) (tPart (tOp (rAddX K) (tVar 1) (tVar 3)))) (tCons (tOp (rAddX K) (tVar 1) (tVar 3)) tNil))))))))) tNext) (tSeq (tIfS (tOr (tTest (tOp (rEqX K) (tSl (rSlX K) (tVar 0) (tPart (tVar 1)) (tPart (tOp (rAddX K) (tVar 1) (tC (.int 2))))) (tC (.str (".." : Str))))) (tTest (tOp (rEqX K) (tSl (rSlX K) (tVar 0) (tPart (tVar 1)) (tPart (tOp (rAddX K) (tVar 1) (tC (.int 2))))) (tC (.str ("->" : Str)))))) (tRet (tTup (tCons (tC (.str ("sign" : Str))) (tCons (tSl (rSlX K) (tVar 0) (tPart (tVar 1)) (tPart (tOp (rAddX K) (tVar 1) (tC (.int 2))))) (tCons (tOp (rAddX K) (tVar 1) (tC (.int 2))) tNil))))) tNext) (tSeq (tIfS (tOr (tTest (tOp (rEqX K) (tVar 2) (tC (.str ("." : Str))))) (tOr (tTest (tOp (rEqX K) (tVar 2) (tC (.str ("-" : Str))))) (tTest (tOp (rEqX K) (tVar 2) (tC (.str ("{" : Str))))))) (tRet (tTup (tCons (tC (.str ("sign" : Str))) (tCons (tVar 2) (tCons (tOp (rAddX K) (tVar 1) (tC (.int 1))) tNil))))) tNext) (tRet (tTup (tCons (tC (.str ("fault" : Str))) (tCons (tC (.str ("unexpected sign" : Str))) (tCons (tVar 1) tNil)))))))))))
def sp__law_one (K : PySem.W.Frag) : Sp := fun vs H Q E => vs.length = 2 ∧ t__law_one K ⟨fun _ H' => Q .non H', Q, fun _ _ => False, fun _ _ => False⟩ (start ["_law_text_here", "_law_at", "_law_sign", "_law_size"] vs) H
/-- _law_due: 0 _law_text_here, 1 _law_longest, 2 _law_row, 3 _law_at, 4 _law_role, 5 _law_known, 6 _law_stop -/
def t__law_due (K : PySem.W.Frag) : TS :=
  (tSeq (tIfS (tTest (tOp rGtX (tCB (rLen K) (tCons (tVar 0) tNil)) (tVar 1))) (tRet (tTup (tCons (tLst tNil) (tCons (tTup (tCons (tC (.int 0)) (tCons (tC (.str ("text too long" : Str))) tNil))) tNil)))) tNext) (tSeq (tAsg (tLst tNil) (gName 2)) (tSeq (tAsg (tC (.int 0)) (gName 3)) (tSeq (tWhile (tTest (tOp (rLtX K) (tVar 3) (tCB (rLen K) (tCons (tVar 0) tNil)))) (tIfS (tTest (tOp (rEqX K) (tOp (rIx K) (tVar 0) (tVar 3)) (tC (.str (" " : Str))))) (tAsg (tOp (rAddX K) (tVar 3) (tC (.int 1))) (gName 3)) (tSeq (tAsg (tCallSD (sp__law_one K) [] Ez (tCons (tVar 0) (tCons (tVar 3) tNil))) (gTup K 3 (gCons (gName 4) (gCons (gName 5) (gCons (gName 6) gNil))))) (tSeq (tIfS (tTest (tOp (rEqX K) (tVar 4) (tC (.str ("fault" : Str))))) (tRet (tTup (tCons (tLst tNil) (tCons (tTup (tCons (tVar 6) (tCons (tVar 5) tNil))) tNil)))) tNext) (tSeq (tDrop (tBM K "list" rAppend (tVar 2) (tCons (tTup (tCons (tVar 4) (tCons (tVar 5) (tCons (tVar 3) tNil)))) tNil))) (tAsg (tVar 6) (gName 3))))))) (tSeq (tDrop (tBM K "list" rAppend (tVar 2) (tCons (tTup (tCons (tC (.str ("end" : Str))) (tCons (tC (.str ("" : Str))) (tCons (tCB (rLen K) (tCons (tVar 0) tNil)) tNil)))) tNil))) (tRet (tTup (tCons (tVar 2) (tCons (tC .non) tNil)))))))))
def sp__law_due (K : PySem.W.Frag) : Sp := fun vs H Q E => vs.length = 2 ∧ t__law_due K ⟨fun _ H' => Q .non H', Q, fun _ _ => False, fun _ _ => False⟩ (start ["_law_text_here", "_law_longest", "_law_row", "_law_at", "_law_role", "_law_known", "_law_stop"] vs) H
/-- word_end: 0 text, 1 place -/
def t_word_end (K : PySem.W.Frag) : TS :=
  (tSeq (tWhile (tAnd (tTest (tOp (rLtX K) (tVar 1) (tCB (rLen K) (tCons (tVar 0) tNil)))) (tOr (tTest (tOp (rInX K) (tOp (rIx K) (tVar 0) (tVar 1)) (tC k_LETTERS))) (tOr (tTest (tOp (rInX K) (tOp (rIx K) (tVar 0) (tVar 1)) (tC k_DIGITS))) (tTest (tOp (rEqX K) (tOp (rIx K) (tVar 0) (tVar 1)) (tC (.str ("_" : Str)))))))) (tAsg (tOp (rAddX K) (tVar 1) (tC (.int 1))) (gName 1))) (tRet (tVar 1)))
def sp_word_end (K : PySem.W.Frag) : Sp := fun vs H Q E => vs.length = 2 ∧ t_word_end K ⟨fun _ H' => Q .non H', Q, fun _ _ => False, fun _ _ => False⟩ (start ["text", "place"] vs) H
/-- Token.__init__: 0 self, 1 role, 2 text, 3 place -/
def t_Token_init (K : PySem.W.Frag) : TS :=
  (tSeq (sFld K (tVar 0) (tVar 1) ("role" : Str)) (tSeq (sFld K (tVar 0) (tVar 2) ("text" : Str)) (sFld K (tVar 0) (tVar 3) ("place" : Str))))
def sp_Token_init (K : PySem.W.Frag) : Sp := fun vs H Q E => vs.length = 4 ∧ t_Token_init K ⟨fun _ H' => Q .non H', Q, fun _ _ => False, fun _ _ => False⟩ (start ["self", "role", "text", "place"] vs) H
/-- read_word: 0 text, 1 place, 2 stop -/
def t_read_word (K : PySem.W.Frag) (W : WX) : TS :=
  (tSeq (tAsg (tCallSD (sp_word_end K) [] Ez (tCons (tVar 0) (tCons (tVar 1) tNil))) (gName 2)) (tSeq (tIfS (tTest (tOp rGtX (tOp rSubX (tVar 2) (tVar 1)) (tC k_WORD_LENGTH))) (tRaiseF (He.ga K "Fault") W (tCons (tVar 1) (tCons (tC (.str ("word too long" : Str))) tNil))) tNext) (tRet (tMake (He.ga K ("Token" : Str)) (sp_Token_init K) [] E0 (tCons (tC (.str ("word" : Str))) (tCons (tSl (rSlX K) (tVar 0) (tPart (tVar 1)) (tPart (tVar 2))) (tCons (tVar 1) tNil)))))))
def sp_read_word (K : PySem.W.Frag) : Sp := fun vs H Q E => vs.length = 2 ∧ t_read_word K (fun cls d _ H => E cls d H) ⟨fun _ H' => Q .non H', Q, fun _ _ => False, fun _ _ => False⟩ (start ["text", "place", "stop"] vs) H
/-- digits_end: 0 text, 1 place -/
def t_digits_end (K : PySem.W.Frag) : TS :=
  (tSeq (tWhile (tAnd (tTest (tOp (rLtX K) (tVar 1) (tCB (rLen K) (tCons (tVar 0) tNil)))) (tTest (tOp (rInX K) (tOp (rIx K) (tVar 0) (tVar 1)) (tC k_DIGITS)))) (tAsg (tOp (rAddX K) (tVar 1) (tC (.int 1))) (gName 1))) (tRet (tVar 1)))
def sp_digits_end (K : PySem.W.Frag) : Sp := fun vs H Q E => vs.length = 2 ∧ t_digits_end K ⟨fun _ H' => Q .non H', Q, fun _ _ => False, fun _ _ => False⟩ (start ["text", "place"] vs) H
/-- read_number: 0 text, 1 place, 2 stop -/
def t_read_number (K : PySem.W.Frag) (W : WX) : TS :=
  (tSeq (tAsg (tCallSD (sp_digits_end K) [] Ez (tCons (tVar 0) (tCons (tVar 1) tNil))) (gName 2)) (tSeq (tIfS (tAnd (tTest (tOp rGtX (tOp rSubX (tVar 2) (tVar 1)) (tC (.int 1)))) (tTest (tOp (rEqX K) (tOp (rIx K) (tVar 0) (tVar 1)) (tC (.str ("0" : Str)))))) (tRaiseF (He.ga K "Fault") W (tCons (tVar 1) (tCons (tC (.str ("needless zero" : Str))) tNil))) tNext) (tSeq (tIfS (tTest (tOp rGtX (tOp rSubX (tVar 2) (tVar 1)) (tC k_NUMBER_LENGTH))) (tRaiseF (He.ga K "Fault") W (tCons (tVar 1) (tCons (tC (.str ("number too long" : Str))) tNil))) tNext) (tSeq (tIfS (tTest (tOp rGtX (tCallSD (sp_word_end K) [] Ez (tCons (tVar 0) (tCons (tVar 2) tNil))) (tVar 2))) (tRaiseF (He.ga K "Fault") W (tCons (tVar 2) (tCons (tC (.str ("unexpected sign" : Str))) tNil))) tNext) (tRet (tMake (He.ga K ("Token" : Str)) (sp_Token_init K) [] E0 (tCons (tC (.str ("number" : Str))) (tCons (tSl (rSlX K) (tVar 0) (tPart (tVar 1)) (tPart (tVar 2))) (tCons (tVar 1) tNil)))))))))
def sp_read_number (K : PySem.W.Frag) : Sp := fun vs H Q E => vs.length = 2 ∧ t_read_number K (fun cls d _ H => E cls d H) ⟨fun _ H' => Q .non H', Q, fun _ _ => False, fun _ _ => False⟩ (start ["text", "place", "stop"] vs) H
/-- read_quoted: 0 text, 1 place, 2 signs, 3 at, 4 sign -/
def t_read_quoted (K : PySem.W.Frag) (W : WX) : TS :=
  (tSeq (tAsg (tLst tNil) (gName 2)) (tSeq (tAsg (tOp (rAddX K) (tVar 1) (tC (.int 1))) (gName 3)) (tSeq (tWhile (tTest (tOp (rLtX K) (tVar 3) (tCB (rLen K) (tCons (tVar 0) tNil)))) (tSeq (tAsg (tOp (rIx K) (tVar 0) (tVar 3)) (gName 4)) (tSeq (tIfS (tTest (tOp (rEqX K) (tVar 4) (tC (.str ("\"" : Str))))) (tRet (tTup (tCons (tMake (He.ga K ("Token" : Str)) (sp_Token_init K) [] E0 (tCons (tC (.str ("text" : Str))) (tCons (tM1 (rJoin K) (tC (.str ("" : Str))) (tVar 2)) (tCons (tVar 1) tNil)))) (tCons (tOp (rAddX K) (tVar 3) (tC (.int 1))) tNil)))) tNext) (C8.tCut (tIfS (tTest (tOp (rEqX K) (tVar 4) (tC (.str ("\\" : Str))))) (tSeq (tAsg (tOp (rAddX K) (tVar 3) (tC (.int 1))) (gName 3)) (tSeq (tIfS (tTest (tOp (rEqX K) (tVar 3) (tCB (rLen K) (tCons (tVar 0) tNil)))) tBreak tNext) (tSeq (tAsg (tOp (rIx K) (tVar 0) (tVar 3)) (gName 4)) (tIfS (tTest (tOp (rNotInX K) (tVar 4) (tTup (tCons (tC (.str ("\"" : Str))) (tCons (tC (.str ("\\" : Str))) tNil))))) (tRaiseF (He.ga K "Fault") W (tCons (tVar 3) (tCons (tC (.str ("unexpected sign" : Str))) tNil))) tNext)))) tNext) (tSeq (tDrop (tBM K "list" rAppend (tVar 2) (tCons (tVar 4) tNil))) (tAsg (tOp (rAddX K) (tVar 3) (tC (.int 1))) (gName 3))))))) (tRaiseF (He.ga K "Fault") W (tCons (tVar 1) (tCons (tC (.str ("text is not closed" : Str))) tNil))))))
def sp_read_quoted (K : PySem.W.Frag) : Sp := fun vs H Q E => vs.length = 2 ∧ t_read_quoted K (fun cls d _ H => E cls d H) ⟨fun _ H' => Q .non H', Q, fun _ _ => False, fun _ _ => False⟩ (start ["text", "place", "signs", "at", "sign"] vs) H
/-- read_sign: 0 text, 1 place, 2 signs, 3 found, 4 sign -/
def t_read_sign (K : PySem.W.Frag) (W : WX) : TS :=
  (tSeq (tAsg (tC (.str ("" : Str))) (gName 3)) (tSeq (tFor (iAny K (tVar 2)) (gName 4) (tIfS (tAnd (tTru K (tBM K "str" rStarts3 (tVar 0) (tCons (tVar 4) (tCons (tVar 1) tNil)))) (tTest (tOp rGtX (tCB (rLen K) (tCons (tVar 4) tNil)) (tCB (rLen K) (tCons (tVar 3) tNil))))) (tAsg (tVar 4) (gName 3)) tNext)) (tSeq (tIfS (tTest (tOp (rEqX K) (tVar 3) (tC (.str ("" : Str))))) (tRaiseF (He.ga K "Fault") W (tCons (tVar 1) (tCons (tC (.str ("unexpected sign" : Str))) tNil))) tNext) (tRet (tMake (He.ga K ("Token" : Str)) (sp_Token_init K) [] E0 (tCons (tC (.str ("sign" : Str))) (tCons (tVar 3) (tCons (tVar 1) tNil))))))))
def sp_read_sign (K : PySem.W.Frag) : Sp := fun vs H Q E => vs.length = 3 ∧ t_read_sign K (fun cls d _ H => E cls d H) ⟨fun _ H' => Q .non H', Q, fun _ _ => False, fun _ _ => False⟩ (start ["text", "place", "signs", "found", "sign"] vs) H
/-- tokens: 0 text, 1 signs, 2 longest, 3 row, 4 place, 5 sign, 6 token -/
def t_tokens (K : PySem.W.Frag) (W : WX) : TS :=
  (tSeq (tIfS (tTest (tOp rGtX (tCB (rLen K) (tCons (tVar 0) tNil)) (tVar 2))) (tRaiseF (He.ga K "Fault") W (tCons (tC (.int 0)) (tCons (tC (.str ("text too long" : Str))) tNil))) tNext) (tSeq (tAsg (tLst tNil) (gName 3)) (tSeq (tAsg (tC (.int 0)) (gName 4)) (tSeq (tWhile (tTest (tOp (rLtX K) (tVar 4) (tCB (rLen K) (tCons (tVar 0) tNil)))) (tSeq (tAsg (tOp (rIx K) (tVar 0) (tVar 4)) (gName 5)) (tIfS (tTest (tOp (rEqX K) (tVar 5) (tC (.str (" " : Str))))) (tAsg (tOp (rAddX K) (tVar 4) (tC (.int 1))) (gName 4)) (tIfS (tTest (tOp (rInX K) (tVar 5) (tC k_LETTERS))) (tSeq (tAsg (tCallSD (sp_read_word K) [] (WE W) (tCons (tVar 0) (tCons (tVar 4) tNil))) (gName 6)) (tSeq (tDrop (tBM K "list" rAppend (tVar 3) (tCons (tVar 6) tNil))) (tAsg (tOp (rAddX K) (tVar 4) (tCB (rLen K) (tCons (tFld K (tVar 6) ("text" : Str)) tNil))) (gName 4)))) (tIfS (tTest (tOp (rInX K) (tVar 5) (tC k_DIGITS))) (tSeq (tAsg (tCallSD (sp_read_number K) [] (WE W) (tCons (tVar 0) (tCons (tVar 4) tNil))) (gName 6)) (tSeq (tDrop (tBM K "list" rAppend (tVar 3) (tCons (tVar 6) tNil))) (tAsg (tOp (rAddX K) (tVar 4) (tCB (rLen K) (tCons (tFld K (tVar 6) ("text" : Str)) tNil))) (gName 4)))) (tIfS (tTest (tOp (rEqX K) (tVar 5) (tC (.str ("\"" : Str))))) (tSeq (tAsg (tCallSD (sp_read_quoted K) [] (WE W) (tCons (tVar 0) (tCons (tVar 4) tNil))) (gTup K 2 (gCons (gName 6) (gCons (gName 4) gNil)))) (tDrop (tBM K "list" rAppend (tVar 3) (tCons (tVar 6) tNil)))) (tSeq (tAsg (tCallSD (sp_read_sign K) [] (WE W) (tCons (tVar 0) (tCons (tVar 4) (tCons (tVar 1) tNil)))) (gName 6)) (tSeq (tDrop (tBM K "list" rAppend (tVar 3) (tCons (tVar 6) tNil))) (tAsg (tOp (rAddX K) (tVar 4) (tCB (rLen K) (tCons (tFld K (tVar 6) ("text" : Str)) tNil))) (gName 4)))))))))) (tSeq (tDrop (tBM K "list" rAppend (tVar 3) (tCons (tMake (He.ga K ("Token" : Str)) (sp_Token_init K) [] E0 (tCons (tC (.str ("end" : Str))) (tCons (tC (.str ("" : Str))) (tCons (tCB (rLen K) (tCons (tVar 0) tNil)) tNil)))) tNil))) (tRet (tVar 3)))))))
def sp_tokens (K : PySem.W.Frag) : Sp := fun vs H Q E => vs.length = 3 ∧ t_tokens K (fun cls d _ H => E cls d H) ⟨fun _ H' => Q .non H', Q, fun _ _ => False, fun _ _ => False⟩ (start ["text", "signs", "longest", "row", "place", "sign", "token"] vs) H
/-- law: 0 _law_script, 1 _law_draws, 2 _law_text_here, 3 _law_due_here, 4 _law_fault, 5 _law_found, 6 _law_raised, 7 e, 8 _law_k -/
def t_law (K : PySem.W.Frag) (W : WX) : TS :=
  (tSeq (tAsg (tCallSD (sp__law_cells K) [] Ez (tCons (tVar 0) (tCons (tC (.int 8)) tNil))) (gName 1)) (tSeq (tAsg (tCallSD (sp__law_text K) [] Ez (tCons (tVar 1) tNil)) (gName 2)) (tSeq (tAsg (tCallSD (sp__law_due K) [] Ez (tCons (tVar 2) (tCons (tC (.int 24)) tNil))) (gTup K 2 (gCons (gName 3) (gCons (gName 4) gNil)))) (tSeq (tAsg (tC .non) (gName 5)) (tSeq (tAsg (tC .non) (gName 6)) (C8.tCut (tTryAs K (.ref (He.ga K "Fault")) 7 (fun W => (tAsg (tCallSD (sp_tokens K) [] (WE W) (tCons (tVar 2) (tCons (tTup (tCons (tC (.str ("." : Str))) (tCons (tC (.str (".." : Str))) (tCons (tC (.str ("-" : Str))) (tCons (tC (.str ("->" : Str))) (tCons (tC (.str ("{" : Str))) tNil)))))) (tCons (tC (.int 24)) tNil)))) (gName 5))) (fun a cls d => (tSeq (tAsg (tTup (tCons (tXf a cls d (He.ga K "Fault") ("place" : Str) (tVar 7)) (tCons (tXf a cls d (He.ga K "Fault") ("reason" : Str) (tVar 7)) tNil))) (gName 6)) (tIfS (tOr (tNot (tTru K (tCB (rIsF K (He.ga K "Fault") a cls d) (tCons (tVar 7) (tCons (tC (.ref (He.ga K ("HeapError" : Str)))) tNil))))) (tNot (tTru K (tCB (rIsF K (He.ga K "Fault") a cls d) (tCons (tVar 7) (tCons (tC (.ty "ValueError")) tNil)))))) (tRet (tC (.bl false))) tNext))) W) (tSeq (tIfS (tTest (tOp rIsNotX (tVar 4) (tC .non))) (tRet (tAndV (tOp rIsNotX (tVar 6) (tC .non)) (tAndV (tOp (rEqX K) (tOp (rIx K) (tVar 6) (tC (.int 0))) (tOp (rIx K) (tVar 4) (tC (.int 0)))) (tOp (rEqX K) (tOp (rIx K) (tVar 6) (tC (.int 1))) (tOp (rIx K) (tVar 4) (tC (.int 1))))))) tNext) (tSeq (tIfS (tOr (tTest (tOp rIsNotX (tVar 6) (tC .non))) (tOr (tNot (tTru K (tCB (rIsi K) (tCons (tVar 5) (tCons (tC (.ty "list")) tNil))))) (tTest (tOp (rNeX K) (tCB (rLen K) (tCons (tVar 5) tNil)) (tCB (rLen K) (tCons (tVar 3) tNil)))))) (tRet (tC (.bl false))) tNext) (tSeq (tFor (iRng1 (tCons (tCB (rLen K) (tCons (tVar 3) tNil)) tNil)) (gName 8) (tIfS (tOr (tTest (tOp (rNeX K) (tFld K (tOp (rIx K) (tVar 5) (tVar 8)) ("role" : Str)) (tOp (rIx K) (tOp (rIx K) (tVar 3) (tVar 8)) (tC (.int 0))))) (tOr (tTest (tOp (rNeX K) (tFld K (tOp (rIx K) (tVar 5) (tVar 8)) ("text" : Str)) (tOp (rIx K) (tOp (rIx K) (tVar 3) (tVar 8)) (tC (.int 1))))) (tTest (tOp (rNeX K) (tFld K (tOp (rIx K) (tVar 5) (tVar 8)) ("place" : Str)) (tOp (rIx K) (tOp (rIx K) (tVar 3) (tVar 8)) (tC (.int 2))))))) (tRet (tC (.bl false))) tNext)) (tRet (tC (.bl true))))))))))))
def sp_law (K : PySem.W.Frag) : Sp := fun vs H Q E => vs.length = 1 ∧ t_law K (fun cls d _ H => E cls d H) ⟨fun _ H' => Q .non H', Q, fun _ _ => False, fun _ _ => False⟩ (start ["_law_script", "_law_draws", "_law_text_here", "_law_due_here", "_law_fault", "_law_found", "_law_raised", "e", "_law_k"] vs) H
/-! ### the scopes -/
theorem sc__law_cells : FnScope ["_law_script", "_law_count", "_law_cells_here", "_law_k", "_law_cell"] ["_law_script", "_law_count"] (defScope s__law_cells) := ⟨rfl, rfl, rfl, by decide +kernel, rfl, by decide +kernel, by decide +kernel⟩
theorem sc__law_draw : FnScope ["_law_draws", "_law_bound", "_law_value"] ["_law_draws", "_law_bound"] (defScope s__law_draw) := ⟨rfl, rfl, rfl, by decide +kernel, rfl, by decide +kernel, by decide +kernel⟩
theorem sc__law_pick : FnScope ["_law_draws", "_law_row"] ["_law_draws", "_law_row"] (defScope s__law_pick) := ⟨rfl, rfl, rfl, by decide +kernel, rfl, by decide +kernel, by decide +kernel⟩
theorem sc__law_text : FnScope ["_law_draws", "_law_text_here", "_law_turn"] ["_law_draws"] (defScope s__law_text) := ⟨rfl, rfl, rfl, by decide +kernel, rfl, by decide +kernel, by decide +kernel⟩
theorem sc__law_quoted : FnScope ["_law_text_here", "_law_at", "_law_known", "_law_place", "_law_turn"] ["_law_text_here", "_law_at"] (defScope s__law_quoted) := ⟨rfl, rfl, rfl, by decide +kernel, rfl, by decide +kernel, by decide +kernel⟩
theorem sc__law_is_letter : FnScope ["_law_sign"] ["_law_sign"] (defScope s__law_is_letter) := ⟨rfl, rfl, rfl, by decide +kernel, rfl, by decide +kernel, by decide +kernel⟩
theorem sc__law_is_digit : FnScope ["_law_sign"] ["_law_sign"] (defScope s__law_is_digit) := ⟨rfl, rfl, rfl, by decide +kernel, rfl, by decide +kernel, by decide +kernel⟩
theorem sc__law_run : FnScope ["_law_text_here", "_law_at", "_law_letters", "_law_size"] ["_law_text_here", "_law_at", "_law_letters"] (defScope s__law_run) := ⟨rfl, rfl, rfl, by decide +kernel, rfl, by decide +kernel, by decide +kernel⟩
theorem sc__law_one : FnScope ["_law_text_here", "_law_at", "_law_sign", "_law_size"] ["_law_text_here", "_law_at"] (defScope s__law_one) := ⟨rfl, rfl, rfl, by decide +kernel, rfl, by decide +kernel, by decide +kernel⟩
theorem sc__law_due : FnScope ["_law_text_here", "_law_longest", "_law_row", "_law_at", "_law_role", "_law_known", "_law_stop"] ["_law_text_here", "_law_longest"] (defScope s__law_due) := ⟨rfl, rfl, rfl, by decide +kernel, rfl, by decide +kernel, by decide +kernel⟩
theorem sc_word_end : FnScope ["text", "place"] ["text", "place"] (defScope s_word_end) := ⟨rfl, rfl, rfl, by decide +kernel, rfl, by decide +kernel, by decide +kernel⟩
theorem sc_Token_init : FnScope ["self", "role", "text", "place"] ["self", "role", "text", "place"] (defScope s_Token_init) := ⟨rfl, rfl, rfl, by decide +kernel, rfl, by decide +kernel, by decide +kernel⟩
theorem sc_read_word : FnScope ["text", "place", "stop"] ["text", "place"] (defScope s_read_word) := ⟨rfl, rfl, rfl, by decide +kernel, rfl, by decide +kernel, by decide +kernel⟩
theorem sc_digits_end : FnScope ["text", "place"] ["text", "place"] (defScope s_digits_end) := ⟨rfl, rfl, rfl, by decide +kernel, rfl, by decide +kernel, by decide +kernel⟩
theorem sc_read_number : FnScope ["text", "place", "stop"] ["text", "place"] (defScope s_read_number) := ⟨rfl, rfl, rfl, by decide +kernel, rfl, by decide +kernel, by decide +kernel⟩
theorem sc_read_quoted : FnScope ["text", "place", "signs", "at", "sign"] ["text", "place"] (defScope s_read_quoted) := ⟨rfl, rfl, rfl, by decide +kernel, rfl, by decide +kernel, by decide +kernel⟩
theorem sc_read_sign : FnScope ["text", "place", "signs", "found", "sign"] ["text", "place", "signs"] (defScope s_read_sign) := ⟨rfl, rfl, rfl, by decide +kernel, rfl, by decide +kernel, by decide +kernel⟩
theorem sc_tokens : FnScope ["text", "signs", "longest", "row", "place", "sign", "token"] ["text", "signs", "longest"] (defScope s_tokens) := ⟨rfl, rfl, rfl, by decide +kernel, rfl, by decide +kernel, by decide +kernel⟩
theorem sc_law : FnScope ["_law_script", "_law_draws", "_law_text_here", "_law_due_here", "_law_fault", "_law_found", "_law_raised", "e", "_law_k"] ["_law_script"] (defScope s_law) := ⟨rfl, rfl, rfl, by decide +kernel, rfl, by decide +kernel, by decide +kernel⟩
/-! ### what the top left -/
structure Tx (K : PySem.W.Frag) (mg : Str → Option Value) : Prop where
  d__law_cells : ∃ fd, FunD K "_law_cells" "_law_cells" (defArgs s__law_cells) (defBody s__law_cells) (defScope s__law_cells) [] [] (He.fAd K ("_law_cells", none)) fd
  d__law_draw : ∃ fd, FunD K "_law_draw" "_law_draw" (defArgs s__law_draw) (defBody s__law_draw) (defScope s__law_draw) [] [] (He.fAd K ("_law_draw", none)) fd
  d__law_pick : ∃ fd, FunD K "_law_pick" "_law_pick" (defArgs s__law_pick) (defBody s__law_pick) (defScope s__law_pick) [] [] (He.fAd K ("_law_pick", none)) fd
  d__law_text : ∃ fd, FunD K "_law_text" "_law_text" (defArgs s__law_text) (defBody s__law_text) (defScope s__law_text) [] [] (He.fAd K ("_law_text", none)) fd
  d__law_quoted : ∃ fd, FunD K "_law_quoted" "_law_quoted" (defArgs s__law_quoted) (defBody s__law_quoted) (defScope s__law_quoted) [] [] (He.fAd K ("_law_quoted", none)) fd
  d__law_is_letter : ∃ fd, FunD K "_law_is_letter" "_law_is_letter" (defArgs s__law_is_letter) (defBody s__law_is_letter) (defScope s__law_is_letter) [] [] (He.fAd K ("_law_is_letter", none)) fd
  d__law_is_digit : ∃ fd, FunD K "_law_is_digit" "_law_is_digit" (defArgs s__law_is_digit) (defBody s__law_is_digit) (defScope s__law_is_digit) [] [] (He.fAd K ("_law_is_digit", none)) fd
  d__law_run : ∃ fd, FunD K "_law_run" "_law_run" (defArgs s__law_run) (defBody s__law_run) (defScope s__law_run) [] [] (He.fAd K ("_law_run", none)) fd
  d__law_one : ∃ fd, FunD K "_law_one" "_law_one" (defArgs s__law_one) (defBody s__law_one) (defScope s__law_one) [] [] (He.fAd K ("_law_one", none)) fd
  d__law_due : ∃ fd, FunD K "_law_due" "_law_due" (defArgs s__law_due) (defBody s__law_due) (defScope s__law_due) [] [] (He.fAd K ("_law_due", none)) fd
  d_word_end : ∃ fd, FunD K "word_end" "word_end" (defArgs s_word_end) (defBody s_word_end) (defScope s_word_end) [] [] (He.fAd K ("word_end", none)) fd
  d_Token_init : ∃ fd, FunD K "__init__" "Token.__init__" (defArgs s_Token_init) (defBody s_Token_init) (defScope s_Token_init) [] [] (He.fAd K ("Token", some "__init__")) fd
  d_read_word : ∃ fd, FunD K "read_word" "read_word" (defArgs s_read_word) (defBody s_read_word) (defScope s_read_word) [] [] (He.fAd K ("read_word", none)) fd
  d_digits_end : ∃ fd, FunD K "digits_end" "digits_end" (defArgs s_digits_end) (defBody s_digits_end) (defScope s_digits_end) [] [] (He.fAd K ("digits_end", none)) fd
  d_read_number : ∃ fd, FunD K "read_number" "read_number" (defArgs s_read_number) (defBody s_read_number) (defScope s_read_number) [] [] (He.fAd K ("read_number", none)) fd
  d_read_quoted : ∃ fd, FunD K "read_quoted" "read_quoted" (defArgs s_read_quoted) (defBody s_read_quoted) (defScope s_read_quoted) [] [] (He.fAd K ("read_quoted", none)) fd
  d_read_sign : ∃ fd, FunD K "read_sign" "read_sign" (defArgs s_read_sign) (defBody s_read_sign) (defScope s_read_sign) [] [] (He.fAd K ("read_sign", none)) fd
  d_tokens : ∃ fd, FunD K "tokens" "tokens" (defArgs s_tokens) (defBody s_tokens) (defScope s_tokens) [] [] (He.fAd K ("tokens", none)) fd
  d_law : ∃ fd, FunD K "law" "law" (defArgs s_law) (defBody s_law) (defScope s_law) [] [] (He.fAd K ("law", none)) fd
  g__law_cells : mg "_law_cells" = some (.ref (He.ga K "_law_cells"))
  g__law_draw : mg "_law_draw" = some (.ref (He.ga K "_law_draw"))
  g__law_pick : mg "_law_pick" = some (.ref (He.ga K "_law_pick"))
  g__law_text : mg "_law_text" = some (.ref (He.ga K "_law_text"))
  g__law_quoted : mg "_law_quoted" = some (.ref (He.ga K "_law_quoted"))
  g__law_is_letter : mg "_law_is_letter" = some (.ref (He.ga K "_law_is_letter"))
  g__law_is_digit : mg "_law_is_digit" = some (.ref (He.ga K "_law_is_digit"))
  g__law_run : mg "_law_run" = some (.ref (He.ga K "_law_run"))
  g__law_one : mg "_law_one" = some (.ref (He.ga K "_law_one"))
  g__law_due : mg "_law_due" = some (.ref (He.ga K "_law_due"))
  g_word_end : mg "word_end" = some (.ref (He.ga K "word_end"))
  g_read_word : mg "read_word" = some (.ref (He.ga K "read_word"))
  g_digits_end : mg "digits_end" = some (.ref (He.ga K "digits_end"))
  g_read_number : mg "read_number" = some (.ref (He.ga K "read_number"))
  g_read_quoted : mg "read_quoted" = some (.ref (He.ga K "read_quoted"))
  g_read_sign : mg "read_sign" = some (.ref (He.ga K "read_sign"))
  g_tokens : mg "tokens" = some (.ref (He.ga K "tokens"))
  g_law : mg "law" = some (.ref (He.ga K "law"))
  b_ValueError : mg "ValueError" = none
  b_int : mg "int" = none
  b_isinstance : mg "isinstance" = none
  b_len : mg "len" = none
  b_list : mg "list" = none
  b_range : mg "range" = none
  k_DIGITS : ∃ u, mg "DIGITS" = some u ∧ RelV k_DIGITS u
  k_LETTERS : ∃ u, mg "LETTERS" = some u ∧ RelV k_LETTERS u
  k_NUMBER_LENGTH : ∃ u, mg "NUMBER_LENGTH" = some u ∧ RelV k_NUMBER_LENGTH u
  k_WORD_LENGTH : ∃ u, mg "WORD_LENGTH" = some u ∧ RelV k_WORD_LENGTH u
  gc_Token : mg "Token" = some (.ref (He.ga K "Token"))
  cl_Token : Cls K (He.ga K "Token")
  mk_Token : Mk K (He.ga K "Token") (He.fAd K ("Token", some "__init__"))
  no_Token_place : NoAttr K (He.ga K "Token") "place"
  no_Token_role : NoAttr K (He.ga K "Token") "role"
  no_Token_text : NoAttr K (He.ga K "Token") "text"
  gc_HeapError : mg "HeapError" = some (.ref (He.ga K "HeapError"))
  if_Token : InsF K (He.ga K "Token")
  it_Token_ValueError : PySem.W.kitOne K (.ref (He.ga K "Token")) (.type "ValueError") = some false
  it_Token_list : PySem.W.kitOne K (.ref (He.ga K "Token")) (.type "list") = some false
  is_Token_HeapError : PySem.W.kitOne K (.ref (He.ga K "Token")) (.ref (He.ga K "HeapError")) = some false
  ti_NoneType_HeapError : PySem.W.kitOne K (.type "NoneType") (.ref (He.ga K "HeapError")) = some false
  ti_bool_HeapError : PySem.W.kitOne K (.type "bool") (.ref (He.ga K "HeapError")) = some false
  ti_int_HeapError : PySem.W.kitOne K (.type "int") (.ref (He.ga K "HeapError")) = some false
  ti_str_HeapError : PySem.W.kitOne K (.type "str") (.ref (He.ga K "HeapError")) = some false
  ti_list_HeapError : PySem.W.kitOne K (.type "list") (.ref (He.ga K "HeapError")) = some false
  ti_tuple_HeapError : PySem.W.kitOne K (.type "tuple") (.ref (He.ga K "HeapError")) = some false
  ti_dict_HeapError : PySem.W.kitOne K (.type "dict") (.ref (He.ga K "HeapError")) = some false
  fau : FaT K mg
  if_Fault : InsF K (He.ga K "Fault")
  is_Fault_HeapError : PySem.W.kitOne K (.ref (He.ga K "Fault")) (.ref (He.ga K "HeapError")) = some true
  it_Fault_ValueError : PySem.W.kitOne K (.ref (He.ga K "Fault")) (.type "ValueError") = some true
/-! ### each def keeps its reading -/
section
variable {P : Program} [PI P] {w : World} {K : PySem.W.Frag} {mg : Str → Option Value} {base : Heap}
theorem fn__law_cells (T : Tx K mg) {fd : FuncData} (F : FunD K "_law_cells" "_law_cells" (defArgs s__law_cells) (defBody s__law_cells) (defScope s__law_cells) [] [] (He.fAd K ("_law_cells", none)) fd) : FnOk P w K mg base (L2.CX P w) 1 (He.fAd K ("_law_cells", none)) fd ["_law_script", "_law_count"] (sp__law_cells K) := by
  refine F.ok sc__law_cells (fun vs H Q E h => h.1) (fun cdv A outer s H vs Q E hr h => ⟨_, ?_, h.2⟩)
  refine PSs.nox ?_
  exact (pss_cons (ps_set (i := 2) sc__law_cells.nd rfl (by first | exact Or.inl rfl | exact Or.inr rfl) (pe_lst pa_nil))
        (pss_cons (ps_for PassesOwn.never rfl (pi_range1 rfl T.b_range (pa_cons (pv 1) pa_nil)) (pg_name (i := 3) sc__law_cells.nd rfl (by first | exact Or.inl rfl | exact Or.inr rfl))
        (pss_cons (ps_set (i := 4) sc__law_cells.nd rfl (by first | exact Or.inl rfl | exact Or.inr rfl) (pe_op op_addX (pe_op op_mulX pe_int (pv 3)) pe_int))
        (C8.pss_cut (ps_if (pt_cmpR (op_ltX hr.units) (pv 3) (pe_callB call_len (by rfl) T.b_len boot_len (pa_cons (pv 0) pa_nil)) (nomark _))
        (pss_cons (ps_set (i := 4) sc__law_cells.nd rfl (by first | exact Or.inl rfl | exact Or.inr rfl) (pe_callTy (CallR.or call_int1 call_int_str) (by rfl) T.b_int (by decide +kernel) (pa_cons (pe_ix ix_seq (pv 0) (pv 3) fun _ _ => rfl) pa_nil)))
        (pss_one (ps_if (pt_cmpR (op_ltX hr.units) (pv 4) pe_int (nomark _))
        (pss_one (ps_set (i := 4) sc__law_cells.nd rfl (by first | exact Or.inl rfl | exact Or.inr rfl) (pe_op op_subX pe_int (pe_op op_mulX pe_int (pv 4)))))
        pss_nil)))
        pss_nil)
        (C8.pss_cut (ps_if (pt_cmpR (op_ltX hr.units) (pv 4) pe_int (nomark _))
        (pss_cons (ps_set (i := 4) sc__law_cells.nd rfl (by first | exact Or.inl rfl | exact Or.inr rfl) (pe_op op_modX (pe_op op_addX (pe_op op_addX (pe_op op_mulX (pe_callTy (CallR.or call_int1 call_int_str) (by rfl) T.b_int (by decide +kernel) (pa_cons (pv 4) pa_nil)) pe_int) pe_int) (pe_op op_mulX pe_int (pv 3))) pe_int))
        (pss_one (ps_set (i := 4) sc__law_cells.nd rfl (by first | exact Or.inl rfl | exact Or.inr rfl) (pe_op op_modX (pe_op op_addX (pe_op op_mulX (pe_callTy (CallR.or call_int1 call_int_str) (by rfl) T.b_int (by decide +kernel) (pa_cons (pv 4) pa_nil)) pe_int) pe_int) pe_int))))
        pss_nil)
        (pss_one (ps_expr (pe_bm PySem.F.plainAttrs_list PySem.F.slot_list_append PySem.F.type_list_append mt_append (pv 2) (pa_cons (pv 4) pa_nil))))))))
        (pss_one (ps_ret (pv 2)))))
theorem Tx.ok__law_cells (T : Tx K mg) : Cl P w K mg base 1 "_law_cells" (sp__law_cells K) [] := by
  obtain ⟨fd, F⟩ := T.d__law_cells
  have ok := fn__law_cells (P := P) (w := w) (base := base) T F
  exact ⟨_, fd, _, [], ok, T.g__law_cells, F.kp, (FunD.bindsN F fun _ _ _ _ _ _ us hl => match us, hl with | [_, _], _ => rfl), .nil⟩
theorem fn__law_draw (T : Tx K mg) {fd : FuncData} (F : FunD K "_law_draw" "_law_draw" (defArgs s__law_draw) (defBody s__law_draw) (defScope s__law_draw) [] [] (He.fAd K ("_law_draw", none)) fd) : FnOk P w K mg base (L2.CX P w) 1 (He.fAd K ("_law_draw", none)) fd ["_law_draws", "_law_bound"] (sp__law_draw K) := by
  refine F.ok sc__law_draw (fun vs H Q E h => h.1) (fun cdv A outer s H vs Q E hr h => ⟨_, ?_, h.2⟩)
  refine PSs.nox ?_
  exact (C8.pss_cut (ps_if (PW.pt (pw_and (pt_cmpR (op_eqX hr.units) (pe_ix ix_seq (pv 0) pe_int fun _ _ => rfl) pe_int (nomark _)) (pw_and1 (pt_cmpR op_gtX (pe_callB call_len (by rfl) T.b_len boot_len (pa_cons (pv 0) pa_nil)) pe_int (nomark _)))))
        (pss_one (ps_expr (pe_bm PySem.F.plainAttrs_list PySem.F.slot_list_pop PySem.F.type_list_pop (MtR.or mt_pop mt_popAt) (pv 0) (pa_cons pe_int pa_nil))))
        pss_nil)
        (pss_cons (ps_set (i := 2) sc__law_draw.nd rfl (by first | exact Or.inl rfl | exact Or.inr rfl) (pe_op op_modX (pe_callTy (CallR.or call_int1 call_int_str) (by rfl) T.b_int (by decide +kernel) (pa_cons (pe_ix ix_seq (pv 0) pe_int fun _ _ => rfl) pa_nil)) (pv 1)))
        (pss_cons (ps_asg (pe_op op_divX (pe_ix ix_seq (pv 0) pe_int fun _ _ => rfl) (pv 1)) (pg_sub (pv 0) pe_int set_list))
        (pss_one (ps_ret (pv 2))))))
theorem Tx.ok__law_draw (T : Tx K mg) : Cl P w K mg base 1 "_law_draw" (sp__law_draw K) [] := by
  obtain ⟨fd, F⟩ := T.d__law_draw
  have ok := fn__law_draw (P := P) (w := w) (base := base) T F
  exact ⟨_, fd, _, [], ok, T.g__law_draw, F.kp, (FunD.bindsN F fun _ _ _ _ _ _ us hl => match us, hl with | [_, _], _ => rfl), .nil⟩
theorem fn__law_pick (T : Tx K mg) {fd : FuncData} (F : FunD K "_law_pick" "_law_pick" (defArgs s__law_pick) (defBody s__law_pick) (defScope s__law_pick) [] [] (He.fAd K ("_law_pick", none)) fd) : FnOk P w K mg base (L2.CX P w) 2 (He.fAd K ("_law_pick", none)) fd ["_law_draws", "_law_row"] (sp__law_pick K) := by
  refine F.ok sc__law_pick (fun vs H Q E h => h.1) (fun cdv A outer s H vs Q E hr h => ⟨_, ?_, h.2⟩)
  refine PSs.nox ?_
  exact (pss_one (ps_ret (pe_ix ix_seq (pv 1) (pe_cl (T.ok__law_draw (P := P)) hr (by decide) (fun _ => pz) rfl (pa_cons (pv 0) (pa_cons (pe_callB call_len (by rfl) T.b_len boot_len (pa_cons (pv 1) pa_nil)) pa_nil))) fun _ _ => rfl)))
theorem Tx.ok__law_pick (T : Tx K mg) : Cl P w K mg base 2 "_law_pick" (sp__law_pick K) [] := by
  obtain ⟨fd, F⟩ := T.d__law_pick
  have ok := fn__law_pick (P := P) (w := w) (base := base) T F
  exact ⟨_, fd, _, [], ok, T.g__law_pick, F.kp, (FunD.bindsN F fun _ _ _ _ _ _ us hl => match us, hl with | [_, _], _ => rfl), .nil⟩
theorem fn__law_text (T : Tx K mg) {fd : FuncData} (F : FunD K "_law_text" "_law_text" (defArgs s__law_text) (defBody s__law_text) (defScope s__law_text) [] [] (He.fAd K ("_law_text", none)) fd) : FnOk P w K mg base (L2.CX P w) 3 (He.fAd K ("_law_text", none)) fd ["_law_draws"] (sp__law_text K) := by
  refine F.ok sc__law_text (fun vs H Q E h => h.1) (fun cdv A outer s H vs Q E hr h => ⟨_, ?_, h.2⟩)
  refine PSs.nox ?_
  exact (pss_cons (ps_set (i := 1) sc__law_text.nd rfl (by first | exact Or.inl rfl | exact Or.inr rfl) pe_str)
        (pss_cons (ps_for PassesOwn.never rfl (pi_range1 rfl T.b_range (pa_cons (pe_cl (T.ok__law_draw (P := P)) hr (by decide) (fun _ => pz) rfl (pa_cons (pv 0) (pa_cons pe_int pa_nil))) pa_nil)) (pg_name (i := 2) sc__law_text.nd rfl (by first | exact Or.inl rfl | exact Or.inr rfl))
        (pss_cons (ps_set (i := 1) sc__law_text.nd rfl (by first | exact Or.inl rfl | exact Or.inr rfl) (pe_op op_addX (pv 1) (pe_ix ix_seq pe_str (pe_cl (T.ok__law_draw (P := P)) hr (by decide) (fun _ => pz) rfl (pa_cons (pv 0) (pa_cons pe_int pa_nil))) fun _ _ => rfl)))
        (pss_one (ps_if (pt_cmpR (op_eqX hr.units) (pe_cl (T.ok__law_draw (P := P)) hr (by decide) (fun _ => pz) rfl (pa_cons (pv 0) (pa_cons pe_int pa_nil))) pe_int (nomark _))
        (pss_one (ps_set (i := 1) sc__law_text.nd rfl (by first | exact Or.inl rfl | exact Or.inr rfl) (pe_op op_addX (pv 1) (pe_cl (T.ok__law_pick (P := P)) hr (by decide) (fun _ => pz) rfl (pa_cons (pv 0) (pa_cons (pe_lst (pa_cons pe_str (pa_cons pe_str (pa_cons pe_str (pa_cons pe_str (pa_cons pe_str (pa_cons pe_str pa_nil))))))) pa_nil))))))
        pss_nil))))
        (pss_one (ps_ret (pe_slice sl_X (pv 1) po_none (po_some (pe_op op_subX pe_int (pe_cl (T.ok__law_draw (P := P)) hr (by decide) (fun _ => pz) rfl (pa_cons (pv 0) (pa_cons pe_int pa_nil))))))))))
theorem Tx.ok__law_text (T : Tx K mg) : Cl P w K mg base 3 "_law_text" (sp__law_text K) [] := by
  obtain ⟨fd, F⟩ := T.d__law_text
  have ok := fn__law_text (P := P) (w := w) (base := base) T F
  exact ⟨_, fd, _, [], ok, T.g__law_text, F.kp, (FunD.bindsN F fun _ _ _ _ _ _ us hl => match us, hl with | [_], _ => rfl), .nil⟩
theorem fn__law_quoted (T : Tx K mg) {fd : FuncData} (F : FunD K "_law_quoted" "_law_quoted" (defArgs s__law_quoted) (defBody s__law_quoted) (defScope s__law_quoted) [] [] (He.fAd K ("_law_quoted", none)) fd) : FnOk P w K mg base (L2.CX P w) 1 (He.fAd K ("_law_quoted", none)) fd ["_law_text_here", "_law_at"] (sp__law_quoted K) := by
  refine F.ok sc__law_quoted (fun vs H Q E h => h.1) (fun cdv A outer s H vs Q E hr h => ⟨_, ?_, h.2⟩)
  refine PSs.nox ?_
  exact (pss_cons (ps_set (i := 2) sc__law_quoted.nd rfl (by first | exact Or.inl rfl | exact Or.inr rfl) pe_str)
        (pss_cons (ps_set (i := 3) sc__law_quoted.nd rfl (by first | exact Or.inl rfl | exact Or.inr rfl) (pe_op op_addX (pv 1) pe_int))
        (pss_cons (ps_for PassesOwn.never rfl (pi_range1 rfl T.b_range (pa_cons (pe_callB call_len (by rfl) T.b_len boot_len (pa_cons (pv 0) pa_nil)) pa_nil)) (pg_name (i := 4) sc__law_quoted.nd rfl (by first | exact Or.inl rfl | exact Or.inr rfl))
        (pss_cons (ps_if (pt_cmpR op_geX (pv 3) (pe_callB call_len (by rfl) T.b_len boot_len (pa_cons (pv 0) pa_nil)) (nomark _))
        (pss_one ps_break)
        pss_nil)
        (pss_cons (ps_if (pt_cmpR (op_eqX hr.units) (pe_ix ix_seq (pv 0) (pv 3) fun _ _ => rfl) pe_str (nomark _))
        (pss_one (ps_ret (pe_tup (pa_cons pe_str (pa_cons (pv 2) (pa_cons (pe_op op_addX (pv 3) pe_int) pa_nil))))))
        pss_nil)
        (C8.pss_cut (ps_if (pt_cmpR (op_eqX hr.units) (pe_ix ix_seq (pv 0) (pv 3) fun _ _ => rfl) pe_str (nomark _))
        (pss_cons (ps_set (i := 3) sc__law_quoted.nd rfl (by first | exact Or.inl rfl | exact Or.inr rfl) (pe_op op_addX (pv 3) pe_int))
        (pss_cons (ps_if (pt_cmpR op_geX (pv 3) (pe_callB call_len (by rfl) T.b_len boot_len (pa_cons (pv 0) pa_nil)) (nomark _))
        (pss_one ps_break)
        pss_nil)
        (pss_one (ps_if (PW.pt (pw_and (pt_cmpR (op_neX hr.units) (pe_ix ix_seq (pv 0) (pv 3) fun _ _ => rfl) pe_str (nomark _)) (pw_and1 (pt_cmpR (op_neX hr.units) (pe_ix ix_seq (pv 0) (pv 3) fun _ _ => rfl) pe_str (nomark _)))))
        (pss_one (ps_ret (pe_tup (pa_cons pe_str (pa_cons pe_str (pa_cons (pv 3) pa_nil))))))
        pss_nil))))
        pss_nil)
        (pss_cons (ps_set (i := 2) sc__law_quoted.nd rfl (by first | exact Or.inl rfl | exact Or.inr rfl) (pe_op op_addX (pv 2) (pe_ix ix_seq (pv 0) (pv 3) fun _ _ => rfl)))
        (pss_one (ps_set (i := 3) sc__law_quoted.nd rfl (by first | exact Or.inl rfl | exact Or.inr rfl) (pe_op op_addX (pv 3) pe_int))))))))
        (pss_one (ps_ret (pe_tup (pa_cons pe_str (pa_cons pe_str (pa_cons (pv 1) pa_nil)))))))))
theorem Tx.ok__law_quoted (T : Tx K mg) : Cl P w K mg base 1 "_law_quoted" (sp__law_quoted K) [] := by
  obtain ⟨fd, F⟩ := T.d__law_quoted
  have ok := fn__law_quoted (P := P) (w := w) (base := base) T F
  exact ⟨_, fd, _, [], ok, T.g__law_quoted, F.kp, (FunD.bindsN F fun _ _ _ _ _ _ us hl => match us, hl with | [_, _], _ => rfl), .nil⟩
theorem fn__law_is_letter (T : Tx K mg) {fd : FuncData} (F : FunD K "_law_is_letter" "_law_is_letter" (defArgs s__law_is_letter) (defBody s__law_is_letter) (defScope s__law_is_letter) [] [] (He.fAd K ("_law_is_letter", none)) fd) : FnOk P w K mg base (L2.CX P w) 1 (He.fAd K ("_law_is_letter", none)) fd ["_law_sign"] (sp__law_is_letter K) := by
  refine F.ok sc__law_is_letter (fun vs H Q E h => h.1) (fun cdv A outer s H vs Q E hr h => ⟨_, ?_, h.2⟩)
  refine PSs.nox ?_
  exact (pss_one (ps_ret (pe_or (pe_chain op_leX op_leX pe_str (pv 0) pe_str) (pe_one (pe_chain op_leX op_leX pe_str (pv 0) pe_str)))))
theorem Tx.ok__law_is_letter (T : Tx K mg) : Cl P w K mg base 1 "_law_is_letter" (sp__law_is_letter K) [] := by
  obtain ⟨fd, F⟩ := T.d__law_is_letter
  have ok := fn__law_is_letter (P := P) (w := w) (base := base) T F
  exact ⟨_, fd, _, [], ok, T.g__law_is_letter, F.kp, (FunD.bindsN F fun _ _ _ _ _ _ us hl => match us, hl with | [_], _ => rfl), .nil⟩
theorem fn__law_is_digit (T : Tx K mg) {fd : FuncData} (F : FunD K "_law_is_digit" "_law_is_digit" (defArgs s__law_is_digit) (defBody s__law_is_digit) (defScope s__law_is_digit) [] [] (He.fAd K ("_law_is_digit", none)) fd) : FnOk P w K mg base (L2.CX P w) 1 (He.fAd K ("_law_is_digit", none)) fd ["_law_sign"] (sp__law_is_digit K) := by
  refine F.ok sc__law_is_digit (fun vs H Q E h => h.1) (fun cdv A outer s H vs Q E hr h => ⟨_, ?_, h.2⟩)
  refine PSs.nox ?_
  exact (pss_one (ps_ret (pe_chain op_leX op_leX pe_str (pv 0) pe_str)))
theorem Tx.ok__law_is_digit (T : Tx K mg) : Cl P w K mg base 1 "_law_is_digit" (sp__law_is_digit K) [] := by
  obtain ⟨fd, F⟩ := T.d__law_is_digit
  have ok := fn__law_is_digit (P := P) (w := w) (base := base) T F
  exact ⟨_, fd, _, [], ok, T.g__law_is_digit, F.kp, (FunD.bindsN F fun _ _ _ _ _ _ us hl => match us, hl with | [_], _ => rfl), .nil⟩
theorem fn__law_run (T : Tx K mg) {fd : FuncData} (F : FunD K "_law_run" "_law_run" (defArgs s__law_run) (defBody s__law_run) (defScope s__law_run) [] [] (He.fAd K ("_law_run", none)) fd) : FnOk P w K mg base (L2.CX P w) 2 (He.fAd K ("_law_run", none)) fd ["_law_text_here", "_law_at", "_law_letters"] (sp__law_run K) := by
  refine F.ok sc__law_run (fun vs H Q E h => h.1) (fun cdv A outer s H vs Q E hr h => ⟨_, ?_, h.2⟩)
  refine PSs.nox ?_
  exact (pss_cons (ps_set (i := 3) sc__law_run.nd rfl (by first | exact Or.inl rfl | exact Or.inr rfl) pe_int)
        (pss_cons (ps_while PassesOwn.never (PW.pt (pw_and (pt_cmpR (op_ltX hr.units) (pe_op op_addX (pv 1) (pv 3)) (pe_callB call_len (by rfl) T.b_len boot_len (pa_cons (pv 0) pa_nil)) (nomark _)) (pw_and1 (PW.pt (pw_or (pt_truth (pe_cl (T.ok__law_is_digit (P := P)) hr (by decide) (fun _ => pz) rfl (pa_cons (pe_ix ix_seq (pv 0) (pe_op op_addX (pv 1) (pv 3)) fun _ _ => rfl) pa_nil)) fun _ => rfl) (pw_or1 (PW.pt (pw_and (pt_truth (pv 2) fun _ => rfl) (pw_and1 (PW.pt (pw_or (pt_truth (pe_cl (T.ok__law_is_letter (P := P)) hr (by decide) (fun _ => pz) rfl (pa_cons (pe_ix ix_seq (pv 0) (pe_op op_addX (pv 1) (pv 3)) fun _ _ => rfl) pa_nil)) fun _ => rfl) (pw_or1 (pt_cmpR (op_eqX hr.units) (pe_ix ix_seq (pv 0) (pe_op op_addX (pv 1) (pv 3)) fun _ _ => rfl) pe_str (nomark _))))))))))))))
        (pss_one (ps_set (i := 3) sc__law_run.nd rfl (by first | exact Or.inl rfl | exact Or.inr rfl) (pe_op op_addX (pv 3) pe_int))))
        (pss_one (ps_ret (pv 3)))))
theorem Tx.ok__law_run (T : Tx K mg) : Cl P w K mg base 2 "_law_run" (sp__law_run K) [] := by
  obtain ⟨fd, F⟩ := T.d__law_run
  have ok := fn__law_run (P := P) (w := w) (base := base) T F
  exact ⟨_, fd, _, [], ok, T.g__law_run, F.kp, (FunD.bindsN F fun _ _ _ _ _ _ us hl => match us, hl with | [_, _, _], _ => rfl), .nil⟩
theorem fn__law_one (T : Tx K mg) {fd : FuncData} (F : FunD K "_law_one" "_law_one" (defArgs s__law_one) (defBody s__law_one) (defScope s__law_one) [] [] (He.fAd K ("_law_one", none)) fd) : FnOk P w K mg base (L2.CX P w) 3 (He.fAd K ("_law_one", none)) fd ["_law_text_here", "_law_at"] (sp__law_one K) := by
  refine F.ok sc__law_one (fun vs H Q E h => h.1) (fun cdv A outer s H vs Q E hr h => ⟨_, ?_, h.2⟩)
  refine PSs.nox ?_
  exact (pss_cons (ps_set (i := 2) sc__law_one.nd rfl (by first | exact Or.inl rfl | exact Or.inr rfl) (pe_ix ix_seq (pv 0) (pv 1) fun _ _ => rfl))
        (pss_cons (ps_if (pt_cmpR (op_eqX hr.units) (pv 2) pe_str (nomark _))
        (pss_one (ps_ret (pe_cl (T.ok__law_quoted (P := P)) hr (by decide) (fun _ => pz) rfl (pa_cons (pv 0) (pa_cons (pv 1) pa_nil)))))
        pss_nil)
        (pss_cons (ps_if (pt_truth (pe_cl (T.ok__law_is_letter (P := P)) hr (by decide) (fun _ => pz) rfl (pa_cons (pv 2) pa_nil)) fun _ => rfl)
        (pss_cons (ps_set (i := 3) sc__law_one.nd rfl (by first | exact Or.inl rfl | exact Or.inr rfl) (pe_cl (T.ok__law_run (P := P)) hr (by decide) (fun _ => pz) rfl (pa_cons (pv 0) (pa_cons (pv 1) (pa_cons pe_bl pa_nil)))))
        (pss_cons (ps_if (pt_cmpR op_gtX (pv 3) pe_int (nomark _))
        (pss_one (ps_ret (pe_tup (pa_cons pe_str (pa_cons pe_str (pa_cons (pv 1) pa_nil))))))
        pss_nil)
        (pss_one (ps_ret (pe_tup (pa_cons pe_str (pa_cons (pe_slice sl_X (pv 0) (po_some (pv 1)) (po_some (pe_op op_addX (pv 1) (pv 3)))) (pa_cons (pe_op op_addX (pv 1) (pv 3)) pa_nil))))))))
        pss_nil)
        (pss_cons (ps_if (pt_truth (pe_cl (T.ok__law_is_digit (P := P)) hr (by decide) (fun _ => pz) rfl (pa_cons (pv 2) pa_nil)) fun _ => rfl)
        (pss_cons (ps_set (i := 3) sc__law_one.nd rfl (by first | exact Or.inl rfl | exact Or.inr rfl) (pe_cl (T.ok__law_run (P := P)) hr (by decide) (fun _ => pz) rfl (pa_cons (pv 0) (pa_cons (pv 1) (pa_cons pe_bl pa_nil)))))
        (pss_cons (ps_if (PW.pt (pw_and (pt_cmpR op_gtX (pv 3) pe_int (nomark _)) (pw_and1 (pt_cmpR (op_eqX hr.units) (pv 2) pe_str (nomark _)))))
        (pss_one (ps_ret (pe_tup (pa_cons pe_str (pa_cons pe_str (pa_cons (pv 1) pa_nil))))))
        pss_nil)
        (pss_cons (ps_if (pt_cmpR op_gtX (pv 3) pe_int (nomark _))
        (pss_one (ps_ret (pe_tup (pa_cons pe_str (pa_cons pe_str (pa_cons (pv 1) pa_nil))))))
        pss_nil)
        (pss_cons (ps_if (pt_cmpR op_gtX (pe_cl (T.ok__law_run (P := P)) hr (by decide) (fun _ => pz) rfl (pa_cons (pv 0) (pa_cons (pe_op op_addX (pv 1) (pv 3)) (pa_cons pe_bl pa_nil)))) pe_int (nomark _))
        (pss_one (ps_ret (pe_tup (pa_cons pe_str (pa_cons pe_str (pa_cons (pe_op op_addX (pv 1) (pv 3)) pa_nil))))))
        pss_nil)
        (pss_one (ps_ret (pe_tup (pa_cons pe_str (pa_cons (pe_slice sl_X (pv 0) (po_some (pv 1)) (po_some (pe_op op_addX (pv 1) (pv 3)))) (pa_cons (pe_op op_addX (pv 1) (pv 3)) pa_nil))))))))))
        pss_nil)
        (pss_cons (ps_if (PW.pt (pw_or (pt_cmpR (op_eqX hr.units) (pe_slice sl_X (pv 0) (po_some (pv 1)) (po_some (pe_op op_addX (pv 1) pe_int))) pe_str (nomark _)) (pw_or1 (pt_cmpR (op_eqX hr.units) (pe_slice sl_X (pv 0) (po_some (pv 1)) (po_some (pe_op op_addX (pv 1) pe_int))) pe_str (nomark _)))))
        (pss_one (ps_ret (pe_tup (pa_cons pe_str (pa_cons (pe_slice sl_X (pv 0) (po_some (pv 1)) (po_some (pe_op op_addX (pv 1) pe_int))) (pa_cons (pe_op op_addX (pv 1) pe_int) pa_nil))))))
        pss_nil)
        (pss_cons (ps_if (PW.pt (pw_or (pt_cmpR (op_eqX hr.units) (pv 2) pe_str (nomark _)) (pw_or (pt_cmpR (op_eqX hr.units) (pv 2) pe_str (nomark _)) (pw_or1 (pt_cmpR (op_eqX hr.units) (pv 2) pe_str (nomark _))))))
        (pss_one (ps_ret (pe_tup (pa_cons pe_str (pa_cons (pv 2) (pa_cons (pe_op op_addX (pv 1) pe_int) pa_nil))))))
        pss_nil)
        (pss_one (ps_ret (pe_tup (pa_cons pe_str (pa_cons pe_str (pa_cons (pv 1) pa_nil))))))))))))
theorem Tx.ok__law_one (T : Tx K mg) : Cl P w K mg base 3 "_law_one" (sp__law_one K) [] := by
  obtain ⟨fd, F⟩ := T.d__law_one
  have ok := fn__law_one (P := P) (w := w) (base := base) T F
  exact ⟨_, fd, _, [], ok, T.g__law_one, F.kp, (FunD.bindsN F fun _ _ _ _ _ _ us hl => match us, hl with | [_, _], _ => rfl), .nil⟩
theorem fn__law_due (T : Tx K mg) {fd : FuncData} (F : FunD K "_law_due" "_law_due" (defArgs s__law_due) (defBody s__law_due) (defScope s__law_due) [] [] (He.fAd K ("_law_due", none)) fd) : FnOk P w K mg base (L2.CX P w) 4 (He.fAd K ("_law_due", none)) fd ["_law_text_here", "_law_longest"] (sp__law_due K) := by
  refine F.ok sc__law_due (fun vs H Q E h => h.1) (fun cdv A outer s H vs Q E hr h => ⟨_, ?_, h.2⟩)
  refine PSs.nox ?_
  exact (pss_cons (ps_if (pt_cmpR op_gtX (pe_callB call_len (by rfl) T.b_len boot_len (pa_cons (pv 0) pa_nil)) (pv 1) (nomark _))
        (pss_one (ps_ret (pe_tup (pa_cons (pe_lst pa_nil) (pa_cons (pe_tup (pa_cons pe_int (pa_cons pe_str pa_nil))) pa_nil)))))
        pss_nil)
        (pss_cons (ps_set (i := 2) sc__law_due.nd rfl (by first | exact Or.inl rfl | exact Or.inr rfl) (pe_lst pa_nil))
        (pss_cons (ps_set (i := 3) sc__law_due.nd rfl (by first | exact Or.inl rfl | exact Or.inr rfl) pe_int)
        (pss_cons (ps_while PassesOwn.never (pt_cmpR (op_ltX hr.units) (pv 3) (pe_callB call_len (by rfl) T.b_len boot_len (pa_cons (pv 0) pa_nil)) (nomark _))
        (pss_one (ps_if (pt_cmpR (op_eqX hr.units) (pe_ix ix_seq (pv 0) (pv 3) fun _ _ => rfl) pe_str (nomark _))
        (pss_one (ps_set (i := 3) sc__law_due.nd rfl (by first | exact Or.inl rfl | exact Or.inr rfl) (pe_op op_addX (pv 3) pe_int)))
        (pss_cons (ps_asg (pe_cl (T.ok__law_one (P := P)) hr (by decide) (fun _ => pz) rfl (pa_cons (pv 0) (pa_cons (pv 3) pa_nil))) (pg_tup rfl (pgs_cons (pg_name (i := 4) sc__law_due.nd rfl (by first | exact Or.inl rfl | exact Or.inr rfl)) (pgs_cons (pg_name (i := 5) sc__law_due.nd rfl (by first | exact Or.inl rfl | exact Or.inr rfl)) (pgs_cons (pg_name (i := 6) sc__law_due.nd rfl (by first | exact Or.inl rfl | exact Or.inr rfl)) pgs_nil)))))
        (pss_cons (ps_if (pt_cmpR (op_eqX hr.units) (pv 4) pe_str (nomark _))
        (pss_one (ps_ret (pe_tup (pa_cons (pe_lst pa_nil) (pa_cons (pe_tup (pa_cons (pv 6) (pa_cons (pv 5) pa_nil))) pa_nil)))))
        pss_nil)
        (pss_cons (ps_expr (pe_bm PySem.F.plainAttrs_list PySem.F.slot_list_append PySem.F.type_list_append mt_append (pv 2) (pa_cons (pe_tup (pa_cons (pv 4) (pa_cons (pv 5) (pa_cons (pv 3) pa_nil)))) pa_nil)))
        (pss_one (ps_set (i := 3) sc__law_due.nd rfl (by first | exact Or.inl rfl | exact Or.inr rfl) (pv 6)))))))))
        (pss_cons (ps_expr (pe_bm PySem.F.plainAttrs_list PySem.F.slot_list_append PySem.F.type_list_append mt_append (pv 2) (pa_cons (pe_tup (pa_cons pe_str (pa_cons pe_str (pa_cons (pe_callB call_len (by rfl) T.b_len boot_len (pa_cons (pv 0) pa_nil)) pa_nil)))) pa_nil)))
        (pss_one (ps_ret (pe_tup (pa_cons (pv 2) (pa_cons pe_non pa_nil))))))))))
theorem Tx.ok__law_due (T : Tx K mg) : Cl P w K mg base 4 "_law_due" (sp__law_due K) [] := by
  obtain ⟨fd, F⟩ := T.d__law_due
  have ok := fn__law_due (P := P) (w := w) (base := base) T F
  exact ⟨_, fd, _, [], ok, T.g__law_due, F.kp, (FunD.bindsN F fun _ _ _ _ _ _ us hl => match us, hl with | [_, _], _ => rfl), .nil⟩
theorem fn_word_end (T : Tx K mg) {fd : FuncData} (F : FunD K "word_end" "word_end" (defArgs s_word_end) (defBody s_word_end) (defScope s_word_end) [] [] (He.fAd K ("word_end", none)) fd) : FnOk P w K mg base (L2.CX P w) 1 (He.fAd K ("word_end", none)) fd ["text", "place"] (sp_word_end K) := by
  refine F.ok sc_word_end (fun vs H Q E h => h.1) (fun cdv A outer s H vs Q E hr h => ⟨_, ?_, h.2⟩)
  refine PSs.nox ?_
  exact (pss_cons (ps_while PassesOwn.never (PW.pt (pw_and (pt_cmpR (op_ltX hr.units) (pv 1) (pe_callB call_len (by rfl) T.b_len boot_len (pa_cons (pv 0) pa_nil)) (nomark _)) (pw_and1 (PW.pt (pw_or (pt_cmpR op_inX (pe_ix ix_seq (pv 0) (pv 1) fun _ _ => rfl) (pe_gc rfl T.k_LETTERS) (by rfl)) (pw_or (pt_cmpR op_inX (pe_ix ix_seq (pv 0) (pv 1) fun _ _ => rfl) (pe_gc rfl T.k_DIGITS) (by rfl)) (pw_or1 (pt_cmpR (op_eqX hr.units) (pe_ix ix_seq (pv 0) (pv 1) fun _ _ => rfl) pe_str (nomark _)))))))))
        (pss_one (ps_set (i := 1) sc_word_end.nd rfl (by first | exact Or.inl rfl | exact Or.inr rfl) (pe_op op_addX (pv 1) pe_int))))
        (pss_one (ps_ret (pv 1))))
theorem Tx.ok_word_end (T : Tx K mg) : Cl P w K mg base 1 "word_end" (sp_word_end K) [] := by
  obtain ⟨fd, F⟩ := T.d_word_end
  have ok := fn_word_end (P := P) (w := w) (base := base) T F
  exact ⟨_, fd, _, [], ok, T.g_word_end, F.kp, (FunD.bindsN F fun _ _ _ _ _ _ us hl => match us, hl with | [_, _], _ => rfl), .nil⟩
theorem fn_Token_init (T : Tx K mg) {fd : FuncData} (F : FunD K "__init__" "Token.__init__" (defArgs s_Token_init) (defBody s_Token_init) (defScope s_Token_init) [] [] (He.fAd K ("Token", some "__init__")) fd) : FnOk P w K mg base (L2.CX P w) 1 (He.fAd K ("Token", some "__init__")) fd ["self", "role", "text", "place"] (sp_Token_init K) := by
  refine F.ok sc_Token_init (fun vs H Q E h => h.1) (fun cdv A outer s H vs Q E hr h => ⟨_, ?_, h.2⟩)
  refine PSs.nox ?_
  exact (pss_cons (ps_fld (pv 0) (pv 1) rfl)
        (pss_cons (ps_fld (pv 0) (pv 2) rfl)
        (pss_one (ps_fld (pv 0) (pv 3) rfl))))
theorem Tx.ok_Token_init (T : Tx K mg) : Mq P w K mg base 1 "Token" (He.ga K ("Token" : Str)) (sp_Token_init K) [] := by
  obtain ⟨fd, F⟩ := T.d_Token_init
  have ok := fn_Token_init (P := P) (w := w) (base := base) T F
  exact ⟨_, fd, _, [], T.mk_Token, ok, T.gc_Token, (FunD.bindsN F fun _ _ _ _ _ _ us hl => match us, hl with | [_, _, _, _], _ => rfl), .nil⟩
theorem fn_read_word (T : Tx K mg) {fd : FuncData} (F : FunD K "read_word" "read_word" (defArgs s_read_word) (defBody s_read_word) (defScope s_read_word) [] [] (He.fAd K ("read_word", none)) fd) : FnOk P w K mg base (L2.CX P w) 3 (He.fAd K ("read_word", none)) fd ["text", "place"] (sp_read_word K) := by
  refine F.ok sc_read_word (fun vs H Q E h => h.1) (fun cdv A outer s H vs Q E hr h => ⟨_, ?_, h.2⟩)
  have tk : Takes (cxOf (L2.CX P w) P w K mg base ["text", "place", "stop"] "read_word" (defScope s_read_word) (He.fAd K ("read_word", none)) cdv A outer s H E) (fun cls d _ H => E cls d H) := takes_of rfl rfl rfl rfl
  have po : PassesOwn (model _ _) _ _ (cxOf (L2.CX P w) P w K mg base ["text", "place", "stop"] "read_word" (defScope s_read_word) (He.fAd K ("read_word", none)) cdv A outer s H E).xe := passes_of rfl
  exact (pss_cons (ps_set (i := 2) sc_read_word.nd rfl (by first | exact Or.inl rfl | exact Or.inr rfl) (pe_cl (T.ok_word_end (P := P)) hr (by decide) (fun _ => pz) rfl (pa_cons (pv 0) (pa_cons (pv 1) pa_nil))))
        (pss_cons (ps_if (pt_cmpR op_gtX (pe_op op_subX (pv 2) (pv 1)) (pe_gc rfl T.k_WORD_LENGTH) (nomark _))
        (pss_one (ps_raiseF rfl tk (T.fau.txt P) hr (by decide) (pa_cons (pv 1) (pa_cons pe_str pa_nil))))
        pss_nil)
        (pss_one (ps_ret (pe_mq (T.ok_Token_init (P := P)) hr (by decide) rfl (pa_cons pe_str (pa_cons (pe_slice sl_X (pv 0) (po_some (pv 1)) (po_some (pv 2))) (pa_cons (pv 1) pa_nil))))))))
theorem Tx.ok_read_word (T : Tx K mg) : Cl P w K mg base 3 "read_word" (sp_read_word K) [] := by
  obtain ⟨fd, F⟩ := T.d_read_word
  have ok := fn_read_word (P := P) (w := w) (base := base) T F
  exact ⟨_, fd, _, [], ok, T.g_read_word, F.kp, (FunD.bindsN F fun _ _ _ _ _ _ us hl => match us, hl with | [_, _], _ => rfl), .nil⟩
theorem fn_digits_end (T : Tx K mg) {fd : FuncData} (F : FunD K "digits_end" "digits_end" (defArgs s_digits_end) (defBody s_digits_end) (defScope s_digits_end) [] [] (He.fAd K ("digits_end", none)) fd) : FnOk P w K mg base (L2.CX P w) 1 (He.fAd K ("digits_end", none)) fd ["text", "place"] (sp_digits_end K) := by
  refine F.ok sc_digits_end (fun vs H Q E h => h.1) (fun cdv A outer s H vs Q E hr h => ⟨_, ?_, h.2⟩)
  refine PSs.nox ?_
  exact (pss_cons (ps_while PassesOwn.never (PW.pt (pw_and (pt_cmpR (op_ltX hr.units) (pv 1) (pe_callB call_len (by rfl) T.b_len boot_len (pa_cons (pv 0) pa_nil)) (nomark _)) (pw_and1 (pt_cmpR op_inX (pe_ix ix_seq (pv 0) (pv 1) fun _ _ => rfl) (pe_gc rfl T.k_DIGITS) (by rfl)))))
        (pss_one (ps_set (i := 1) sc_digits_end.nd rfl (by first | exact Or.inl rfl | exact Or.inr rfl) (pe_op op_addX (pv 1) pe_int))))
        (pss_one (ps_ret (pv 1))))
theorem Tx.ok_digits_end (T : Tx K mg) : Cl P w K mg base 1 "digits_end" (sp_digits_end K) [] := by
  obtain ⟨fd, F⟩ := T.d_digits_end
  have ok := fn_digits_end (P := P) (w := w) (base := base) T F
  exact ⟨_, fd, _, [], ok, T.g_digits_end, F.kp, (FunD.bindsN F fun _ _ _ _ _ _ us hl => match us, hl with | [_, _], _ => rfl), .nil⟩
theorem fn_read_number (T : Tx K mg) {fd : FuncData} (F : FunD K "read_number" "read_number" (defArgs s_read_number) (defBody s_read_number) (defScope s_read_number) [] [] (He.fAd K ("read_number", none)) fd) : FnOk P w K mg base (L2.CX P w) 3 (He.fAd K ("read_number", none)) fd ["text", "place"] (sp_read_number K) := by
  refine F.ok sc_read_number (fun vs H Q E h => h.1) (fun cdv A outer s H vs Q E hr h => ⟨_, ?_, h.2⟩)
  have tk : Takes (cxOf (L2.CX P w) P w K mg base ["text", "place", "stop"] "read_number" (defScope s_read_number) (He.fAd K ("read_number", none)) cdv A outer s H E) (fun cls d _ H => E cls d H) := takes_of rfl rfl rfl rfl
  have po : PassesOwn (model _ _) _ _ (cxOf (L2.CX P w) P w K mg base ["text", "place", "stop"] "read_number" (defScope s_read_number) (He.fAd K ("read_number", none)) cdv A outer s H E).xe := passes_of rfl
  exact (pss_cons (ps_set (i := 2) sc_read_number.nd rfl (by first | exact Or.inl rfl | exact Or.inr rfl) (pe_cl (T.ok_digits_end (P := P)) hr (by decide) (fun _ => pz) rfl (pa_cons (pv 0) (pa_cons (pv 1) pa_nil))))
        (pss_cons (ps_if (PW.pt (pw_and (pt_cmpR op_gtX (pe_op op_subX (pv 2) (pv 1)) pe_int (nomark _)) (pw_and1 (pt_cmpR (op_eqX hr.units) (pe_ix ix_seq (pv 0) (pv 1) fun _ _ => rfl) pe_str (nomark _)))))
        (pss_one (ps_raiseF rfl tk (T.fau.txt P) hr (by decide) (pa_cons (pv 1) (pa_cons pe_str pa_nil))))
        pss_nil)
        (pss_cons (ps_if (pt_cmpR op_gtX (pe_op op_subX (pv 2) (pv 1)) (pe_gc rfl T.k_NUMBER_LENGTH) (nomark _))
        (pss_one (ps_raiseF rfl tk (T.fau.txt P) hr (by decide) (pa_cons (pv 1) (pa_cons pe_str pa_nil))))
        pss_nil)
        (pss_cons (ps_if (pt_cmpR op_gtX (pe_cl (T.ok_word_end (P := P)) hr (by decide) (fun _ => pz) rfl (pa_cons (pv 0) (pa_cons (pv 2) pa_nil))) (pv 2) (nomark _))
        (pss_one (ps_raiseF rfl tk (T.fau.txt P) hr (by decide) (pa_cons (pv 2) (pa_cons pe_str pa_nil))))
        pss_nil)
        (pss_one (ps_ret (pe_mq (T.ok_Token_init (P := P)) hr (by decide) rfl (pa_cons pe_str (pa_cons (pe_slice sl_X (pv 0) (po_some (pv 1)) (po_some (pv 2))) (pa_cons (pv 1) pa_nil))))))))))
theorem Tx.ok_read_number (T : Tx K mg) : Cl P w K mg base 3 "read_number" (sp_read_number K) [] := by
  obtain ⟨fd, F⟩ := T.d_read_number
  have ok := fn_read_number (P := P) (w := w) (base := base) T F
  exact ⟨_, fd, _, [], ok, T.g_read_number, F.kp, (FunD.bindsN F fun _ _ _ _ _ _ us hl => match us, hl with | [_, _], _ => rfl), .nil⟩
theorem fn_read_quoted (T : Tx K mg) {fd : FuncData} (F : FunD K "read_quoted" "read_quoted" (defArgs s_read_quoted) (defBody s_read_quoted) (defScope s_read_quoted) [] [] (He.fAd K ("read_quoted", none)) fd) : FnOk P w K mg base (L2.CX P w) 3 (He.fAd K ("read_quoted", none)) fd ["text", "place"] (sp_read_quoted K) := by
  refine F.ok sc_read_quoted (fun vs H Q E h => h.1) (fun cdv A outer s H vs Q E hr h => ⟨_, ?_, h.2⟩)
  have tk : Takes (cxOf (L2.CX P w) P w K mg base ["text", "place", "signs", "at", "sign"] "read_quoted" (defScope s_read_quoted) (He.fAd K ("read_quoted", none)) cdv A outer s H E) (fun cls d _ H => E cls d H) := takes_of rfl rfl rfl rfl
  have po : PassesOwn (model _ _) _ _ (cxOf (L2.CX P w) P w K mg base ["text", "place", "signs", "at", "sign"] "read_quoted" (defScope s_read_quoted) (He.fAd K ("read_quoted", none)) cdv A outer s H E).xe := passes_of rfl
  exact (pss_cons (ps_set (i := 2) sc_read_quoted.nd rfl (by first | exact Or.inl rfl | exact Or.inr rfl) (pe_lst pa_nil))
        (pss_cons (ps_set (i := 3) sc_read_quoted.nd rfl (by first | exact Or.inl rfl | exact Or.inr rfl) (pe_op op_addX (pv 1) pe_int))
        (pss_cons (ps_while po (pt_cmpR (op_ltX hr.units) (pv 3) (pe_callB call_len (by rfl) T.b_len boot_len (pa_cons (pv 0) pa_nil)) (nomark _))
        (pss_cons (ps_set (i := 4) sc_read_quoted.nd rfl (by first | exact Or.inl rfl | exact Or.inr rfl) (pe_ix ix_seq (pv 0) (pv 3) fun _ _ => rfl))
        (pss_cons (ps_if (pt_cmpR (op_eqX hr.units) (pv 4) pe_str (nomark _))
        (pss_one (ps_ret (pe_tup (pa_cons (pe_mq (T.ok_Token_init (P := P)) hr (by decide) rfl (pa_cons pe_str (pa_cons (pe_join pe_str (pv 2)) (pa_cons (pv 1) pa_nil)))) (pa_cons (pe_op op_addX (pv 3) pe_int) pa_nil)))))
        pss_nil)
        (C8.pss_cut (ps_if (pt_cmpR (op_eqX hr.units) (pv 4) pe_str (nomark _))
        (pss_cons (ps_set (i := 3) sc_read_quoted.nd rfl (by first | exact Or.inl rfl | exact Or.inr rfl) (pe_op op_addX (pv 3) pe_int))
        (pss_cons (ps_if (pt_cmpR (op_eqX hr.units) (pv 3) (pe_callB call_len (by rfl) T.b_len boot_len (pa_cons (pv 0) pa_nil)) (nomark _))
        (pss_one ps_break)
        pss_nil)
        (pss_cons (ps_set (i := 4) sc_read_quoted.nd rfl (by first | exact Or.inl rfl | exact Or.inr rfl) (pe_ix ix_seq (pv 0) (pv 3) fun _ _ => rfl))
        (pss_one (ps_if (pt_cmpR op_notInX (pv 4) (pe_tup (pa_cons pe_str (pa_cons pe_str pa_nil))) (by rfl))
        (pss_one (ps_raiseF rfl tk (T.fau.txt P) hr (by decide) (pa_cons (pv 3) (pa_cons pe_str pa_nil))))
        pss_nil)))))
        pss_nil)
        (pss_cons (ps_expr (pe_bm PySem.F.plainAttrs_list PySem.F.slot_list_append PySem.F.type_list_append mt_append (pv 2) (pa_cons (pv 4) pa_nil)))
        (pss_one (ps_set (i := 3) sc_read_quoted.nd rfl (by first | exact Or.inl rfl | exact Or.inr rfl) (pe_op op_addX (pv 3) pe_int))))))))
        (pss_one (ps_raiseF rfl tk (T.fau.txt P) hr (by decide) (pa_cons (pv 1) (pa_cons pe_str pa_nil)))))))
theorem Tx.ok_read_quoted (T : Tx K mg) : Cl P w K mg base 3 "read_quoted" (sp_read_quoted K) [] := by
  obtain ⟨fd, F⟩ := T.d_read_quoted
  have ok := fn_read_quoted (P := P) (w := w) (base := base) T F
  exact ⟨_, fd, _, [], ok, T.g_read_quoted, F.kp, (FunD.bindsN F fun _ _ _ _ _ _ us hl => match us, hl with | [_, _], _ => rfl), .nil⟩
theorem fn_read_sign (T : Tx K mg) {fd : FuncData} (F : FunD K "read_sign" "read_sign" (defArgs s_read_sign) (defBody s_read_sign) (defScope s_read_sign) [] [] (He.fAd K ("read_sign", none)) fd) : FnOk P w K mg base (L2.CX P w) 3 (He.fAd K ("read_sign", none)) fd ["text", "place", "signs"] (sp_read_sign K) := by
  refine F.ok sc_read_sign (fun vs H Q E h => h.1) (fun cdv A outer s H vs Q E hr h => ⟨_, ?_, h.2⟩)
  have tk : Takes (cxOf (L2.CX P w) P w K mg base ["text", "place", "signs", "found", "sign"] "read_sign" (defScope s_read_sign) (He.fAd K ("read_sign", none)) cdv A outer s H E) (fun cls d _ H => E cls d H) := takes_of rfl rfl rfl rfl
  have po : PassesOwn (model _ _) _ _ (cxOf (L2.CX P w) P w K mg base ["text", "place", "signs", "found", "sign"] "read_sign" (defScope s_read_sign) (He.fAd K ("read_sign", none)) cdv A outer s H E).xe := passes_of rfl
  exact (pss_cons (ps_set (i := 3) sc_read_sign.nd rfl (by first | exact Or.inl rfl | exact Or.inr rfl) pe_str)
        (pss_cons (ps_for po rfl (pi_any (pv 2)) (pg_name (i := 4) sc_read_sign.nd rfl (by first | exact Or.inl rfl | exact Or.inr rfl))
        (pss_one (ps_if (PW.pt (pw_and (pt_truth (pe_bm PySem.F.plainAttrs_str PySem.F.slot_str_startswith PySem.F.type_str_startswith mt_startswith3 (pv 0) (pa_cons (pv 4) (pa_cons (pv 1) pa_nil))) fun _ => rfl) (pw_and1 (pt_cmpR op_gtX (pe_callB call_len (by rfl) T.b_len boot_len (pa_cons (pv 4) pa_nil)) (pe_callB call_len (by rfl) T.b_len boot_len (pa_cons (pv 3) pa_nil)) (nomark _)))))
        (pss_one (ps_set (i := 3) sc_read_sign.nd rfl (by first | exact Or.inl rfl | exact Or.inr rfl) (pv 4)))
        pss_nil)))
        (pss_cons (ps_if (pt_cmpR (op_eqX hr.units) (pv 3) pe_str (nomark _))
        (pss_one (ps_raiseF rfl tk (T.fau.txt P) hr (by decide) (pa_cons (pv 1) (pa_cons pe_str pa_nil))))
        pss_nil)
        (pss_one (ps_ret (pe_mq (T.ok_Token_init (P := P)) hr (by decide) rfl (pa_cons pe_str (pa_cons (pv 3) (pa_cons (pv 1) pa_nil)))))))))
theorem Tx.ok_read_sign (T : Tx K mg) : Cl P w K mg base 3 "read_sign" (sp_read_sign K) [] := by
  obtain ⟨fd, F⟩ := T.d_read_sign
  have ok := fn_read_sign (P := P) (w := w) (base := base) T F
  exact ⟨_, fd, _, [], ok, T.g_read_sign, F.kp, (FunD.bindsN F fun _ _ _ _ _ _ us hl => match us, hl with | [_, _, _], _ => rfl), .nil⟩
theorem fn_tokens (T : Tx K mg) {fd : FuncData} (F : FunD K "tokens" "tokens" (defArgs s_tokens) (defBody s_tokens) (defScope s_tokens) [] [] (He.fAd K ("tokens", none)) fd) : FnOk P w K mg base (L2.CX P w) 4 (He.fAd K ("tokens", none)) fd ["text", "signs", "longest"] (sp_tokens K) := by
  refine F.ok sc_tokens (fun vs H Q E h => h.1) (fun cdv A outer s H vs Q E hr h => ⟨_, ?_, h.2⟩)
  have tk : Takes (cxOf (L2.CX P w) P w K mg base ["text", "signs", "longest", "row", "place", "sign", "token"] "tokens" (defScope s_tokens) (He.fAd K ("tokens", none)) cdv A outer s H E) (fun cls d _ H => E cls d H) := takes_of rfl rfl rfl rfl
  have po : PassesOwn (model _ _) _ _ (cxOf (L2.CX P w) P w K mg base ["text", "signs", "longest", "row", "place", "sign", "token"] "tokens" (defScope s_tokens) (He.fAd K ("tokens", none)) cdv A outer s H E).xe := passes_of rfl
  exact (pss_cons (ps_if (pt_cmpR op_gtX (pe_callB call_len (by rfl) T.b_len boot_len (pa_cons (pv 0) pa_nil)) (pv 2) (nomark _))
        (pss_one (ps_raiseF rfl tk (T.fau.txt P) hr (by decide) (pa_cons pe_int (pa_cons pe_str pa_nil))))
        pss_nil)
        (pss_cons (ps_set (i := 3) sc_tokens.nd rfl (by first | exact Or.inl rfl | exact Or.inr rfl) (pe_lst pa_nil))
        (pss_cons (ps_set (i := 4) sc_tokens.nd rfl (by first | exact Or.inl rfl | exact Or.inr rfl) pe_int)
        (pss_cons (ps_while po (pt_cmpR (op_ltX hr.units) (pv 4) (pe_callB call_len (by rfl) T.b_len boot_len (pa_cons (pv 0) pa_nil)) (nomark _))
        (pss_cons (ps_set (i := 5) sc_tokens.nd rfl (by first | exact Or.inl rfl | exact Or.inr rfl) (pe_ix ix_seq (pv 0) (pv 4) fun _ _ => rfl))
        (pss_one (ps_if (pt_cmpR (op_eqX hr.units) (pv 5) pe_str (nomark _))
        (pss_one (ps_set (i := 4) sc_tokens.nd rfl (by first | exact Or.inl rfl | exact Or.inr rfl) (pe_op op_addX (pv 4) pe_int)))
        (pss_one (ps_if (pt_cmpR op_inX (pv 5) (pe_gc rfl T.k_LETTERS) (by rfl))
        (pss_cons (ps_set (i := 6) sc_tokens.nd rfl (by first | exact Or.inl rfl | exact Or.inr rfl) (pe_cl (T.ok_read_word (P := P)) hr (by decide) (fun σ => passAt tk σ) rfl (pa_cons (pv 0) (pa_cons (pv 4) pa_nil))))
        (pss_cons (ps_expr (pe_bm PySem.F.plainAttrs_list PySem.F.slot_list_append PySem.F.type_list_append mt_append (pv 3) (pa_cons (pv 6) pa_nil)))
        (pss_one (ps_set (i := 4) sc_tokens.nd rfl (by first | exact Or.inl rfl | exact Or.inr rfl) (pe_op op_addX (pv 4) (pe_callB call_len (by rfl) T.b_len boot_len (pa_cons (pe_fld (pv 6) rfl) pa_nil)))))))
        (pss_one (ps_if (pt_cmpR op_inX (pv 5) (pe_gc rfl T.k_DIGITS) (by rfl))
        (pss_cons (ps_set (i := 6) sc_tokens.nd rfl (by first | exact Or.inl rfl | exact Or.inr rfl) (pe_cl (T.ok_read_number (P := P)) hr (by decide) (fun σ => passAt tk σ) rfl (pa_cons (pv 0) (pa_cons (pv 4) pa_nil))))
        (pss_cons (ps_expr (pe_bm PySem.F.plainAttrs_list PySem.F.slot_list_append PySem.F.type_list_append mt_append (pv 3) (pa_cons (pv 6) pa_nil)))
        (pss_one (ps_set (i := 4) sc_tokens.nd rfl (by first | exact Or.inl rfl | exact Or.inr rfl) (pe_op op_addX (pv 4) (pe_callB call_len (by rfl) T.b_len boot_len (pa_cons (pe_fld (pv 6) rfl) pa_nil)))))))
        (pss_one (ps_if (pt_cmpR (op_eqX hr.units) (pv 5) pe_str (nomark _))
        (pss_cons (ps_asg (pe_cl (T.ok_read_quoted (P := P)) hr (by decide) (fun σ => passAt tk σ) rfl (pa_cons (pv 0) (pa_cons (pv 4) pa_nil))) (pg_tup rfl (pgs_cons (pg_name (i := 6) sc_tokens.nd rfl (by first | exact Or.inl rfl | exact Or.inr rfl)) (pgs_cons (pg_name (i := 4) sc_tokens.nd rfl (by first | exact Or.inl rfl | exact Or.inr rfl)) pgs_nil))))
        (pss_one (ps_expr (pe_bm PySem.F.plainAttrs_list PySem.F.slot_list_append PySem.F.type_list_append mt_append (pv 3) (pa_cons (pv 6) pa_nil)))))
        (pss_cons (ps_set (i := 6) sc_tokens.nd rfl (by first | exact Or.inl rfl | exact Or.inr rfl) (pe_cl (T.ok_read_sign (P := P)) hr (by decide) (fun σ => passAt tk σ) rfl (pa_cons (pv 0) (pa_cons (pv 4) (pa_cons (pv 1) pa_nil)))))
        (pss_cons (ps_expr (pe_bm PySem.F.plainAttrs_list PySem.F.slot_list_append PySem.F.type_list_append mt_append (pv 3) (pa_cons (pv 6) pa_nil)))
        (pss_one (ps_set (i := 4) sc_tokens.nd rfl (by first | exact Or.inl rfl | exact Or.inr rfl) (pe_op op_addX (pv 4) (pe_callB call_len (by rfl) T.b_len boot_len (pa_cons (pe_fld (pv 6) rfl) pa_nil)))))))))))))))))
        (pss_cons (ps_expr (pe_bm PySem.F.plainAttrs_list PySem.F.slot_list_append PySem.F.type_list_append mt_append (pv 3) (pa_cons (pe_mq (T.ok_Token_init (P := P)) hr (by decide) rfl (pa_cons pe_str (pa_cons pe_str (pa_cons (pe_callB call_len (by rfl) T.b_len boot_len (pa_cons (pv 0) pa_nil)) pa_nil)))) pa_nil)))
        (pss_one (ps_ret (pv 3))))))))
theorem Tx.ok_tokens (T : Tx K mg) : Cl P w K mg base 4 "tokens" (sp_tokens K) [] := by
  obtain ⟨fd, F⟩ := T.d_tokens
  have ok := fn_tokens (P := P) (w := w) (base := base) T F
  exact ⟨_, fd, _, [], ok, T.g_tokens, F.kp, (FunD.bindsN F fun _ _ _ _ _ _ us hl => match us, hl with | [_, _, _], _ => rfl), .nil⟩
theorem fn_law (T : Tx K mg) {fd : FuncData} (F : FunD K "law" "law" (defArgs s_law) (defBody s_law) (defScope s_law) [] [] (He.fAd K ("law", none)) fd) : FnOk P w K mg base (L2.CX P w) 5 (He.fAd K ("law", none)) fd ["_law_script"] (sp_law K) := by
  refine F.ok sc_law (fun vs H Q E h => h.1) (fun cdv A outer s H vs Q E hr h => ⟨_, ?_, h.2⟩)
  have tk : Takes (cxOf (L2.CX P w) P w K mg base ["_law_script", "_law_draws", "_law_text_here", "_law_due_here", "_law_fault", "_law_found", "_law_raised", "e", "_law_k"] "law" (defScope s_law) (He.fAd K ("law", none)) cdv A outer s H E) (fun cls d _ H => E cls d H) := takes_of rfl rfl rfl rfl
  have po : PassesOwn (model _ _) _ _ (cxOf (L2.CX P w) P w K mg base ["_law_script", "_law_draws", "_law_text_here", "_law_due_here", "_law_fault", "_law_found", "_law_raised", "e", "_law_k"] "law" (defScope s_law) (He.fAd K ("law", none)) cdv A outer s H E).xe := passes_of rfl
  exact (pss_cons (ps_set (i := 1) sc_law.nd rfl (by first | exact Or.inl rfl | exact Or.inr rfl) (pe_cl (T.ok__law_cells (P := P)) hr (by decide) (fun _ => pz) rfl (pa_cons (pv 0) (pa_cons pe_int pa_nil))))
        (pss_cons (ps_set (i := 2) sc_law.nd rfl (by first | exact Or.inl rfl | exact Or.inr rfl) (pe_cl (T.ok__law_text (P := P)) hr (by decide) (fun _ => pz) rfl (pa_cons (pv 1) pa_nil)))
        (pss_cons (ps_asg (pe_cl (T.ok__law_due (P := P)) hr (by decide) (fun _ => pz) rfl (pa_cons (pv 2) (pa_cons pe_int pa_nil))) (pg_tup rfl (pgs_cons (pg_name (i := 3) sc_law.nd rfl (by first | exact Or.inl rfl | exact Or.inr rfl)) (pgs_cons (pg_name (i := 4) sc_law.nd rfl (by first | exact Or.inl rfl | exact Or.inr rfl)) pgs_nil))))
        (pss_cons (ps_set (i := 5) sc_law.nd rfl (by first | exact Or.inl rfl | exact Or.inr rfl) pe_non)
        (pss_cons (ps_set (i := 6) sc_law.nd rfl (by first | exact Or.inl rfl | exact Or.inr rfl) pe_non)
        (C8.pss_cut (ps_try_as (i := 7) (tb := fun W => (tAsg (tCallSD (sp_tokens K) [] (WE W) (tCons (tVar 2) (tCons (tTup (tCons (tC (.str ("." : Str))) (tCons (tC (.str (".." : Str))) (tCons (tC (.str ("-" : Str))) (tCons (tC (.str ("->" : Str))) (tCons (tC (.str ("{" : Str))) tNil)))))) (tCons (tC (.int 24)) tNil)))) (gName 5))) (ts := fun a cls d => (tSeq (tAsg (tTup (tCons (tXf a cls d (He.ga K "Fault") ("place" : Str) (tVar 7)) (tCons (tXf a cls d (He.ga K "Fault") ("reason" : Str) (tVar 7)) tNil))) (gName 6)) (tIfS (tOr (tNot (tTru K (tCB (rIsF K (He.ga K "Fault") a cls d) (tCons (tVar 7) (tCons (tC (.ref (He.ga K ("HeapError" : Str)))) tNil))))) (tNot (tTru K (tCB (rIsF K (He.ga K "Fault") a cls d) (tCons (tVar 7) (tCons (tC (.ty "ValueError")) tNil)))))) (tRet (tC (.bl false))) tNext))) rfl rfl sc_law.nd rfl rfl ⟨rfl, by decide, Or.inl (T.fau.txt P).gC⟩ tk
        (fun W pn xe tk po => (pss_one (ps_set (i := 5) sc_law.nd rfl (by first | exact Or.inl rfl | exact Or.inr rfl) (pe_cl (T.ok_tokens (P := P)) hr (by decide) (fun σ => passAt tk σ) rfl (pa_cons (pv 2) (pa_cons (pe_tup (pa_cons pe_str (pa_cons pe_str (pa_cons pe_str (pa_cons pe_str (pa_cons pe_str pa_nil)))))) (pa_cons pe_int pa_nil)))))))
        (fun a oe cls d pn hz hf => (pss_cons (ps_set (i := 6) sc_law.nd rfl (by first | exact Or.inl rfl | exact Or.inr rfl) (pe_tup (pa_cons (pe_xf (xfc_of (T.fau.txt P)) (T.fau.txt P).noP hz hf (pv 7)) (pa_cons (pe_xf (xfc_of (T.fau.txt P)) (T.fau.txt P).noR hz hf (pv 7)) pa_nil))))
        (pss_one (ps_if (PW.pt (pw_or (pt_not (pt_truth (pe_callB (call_isF (T.fau.txt P) T.if_Fault hz hf) (by rfl) T.b_isinstance (by decide +kernel) (pa_cons (pv 7) (pa_cons (pe_glob rfl T.gc_HeapError rfl) pa_nil))) fun _ => rfl)) (pw_or1 (pt_not (pt_truth (pe_callB (call_isF (T.fau.txt P) T.if_Fault hz hf) (by rfl) T.b_isinstance (by decide +kernel) (pa_cons (pv 7) (pa_cons (pe_bltn (by rfl) T.b_ValueError (by decide +kernel) rfl) pa_nil))) fun _ => rfl)))))
        (pss_one (ps_ret pe_bl))
        pss_nil)))))
        (pss_cons (ps_if (pt_cmpR op_isNotX (pv 4) pe_non (nomark _))
        (pss_one (ps_ret (pe_and (pe_cmpR op_isNotX (pv 6) pe_non (nomark _)) (pe_and (pe_cmpR (op_eqX hr.units) (pe_ix ix_seq (pv 6) pe_int fun _ _ => rfl) (pe_ix ix_seq (pv 4) pe_int fun _ _ => rfl) (nomark _)) (pe_one (pe_cmpR (op_eqX hr.units) (pe_ix ix_seq (pv 6) pe_int fun _ _ => rfl) (pe_ix ix_seq (pv 4) pe_int fun _ _ => rfl) (nomark _)))))))
        pss_nil)
        (pss_cons (ps_if (PW.pt (pw_or (pt_cmpR op_isNotX (pv 6) pe_non (nomark _)) (pw_or (pt_not (pt_truth (pe_callB call_isi (by rfl) T.b_isinstance (by decide +kernel) (pa_cons (pv 5) (pa_cons (pe_bltn (by rfl) T.b_list (by decide +kernel) rfl) pa_nil))) fun _ => rfl)) (pw_or1 (pt_cmpR (op_neX hr.units) (pe_callB call_len (by rfl) T.b_len boot_len (pa_cons (pv 5) pa_nil)) (pe_callB call_len (by rfl) T.b_len boot_len (pa_cons (pv 3) pa_nil)) (nomark _))))))
        (pss_one (ps_ret pe_bl))
        pss_nil)
        (pss_cons (ps_for po rfl (pi_range1 rfl T.b_range (pa_cons (pe_callB call_len (by rfl) T.b_len boot_len (pa_cons (pv 3) pa_nil)) pa_nil)) (pg_name (i := 8) sc_law.nd rfl (by first | exact Or.inl rfl | exact Or.inr rfl))
        (pss_one (ps_if (PW.pt (pw_or (pt_cmpR (op_neX hr.units) (pe_fld (pe_ix ix_seq (pv 5) (pv 8) fun _ _ => rfl) rfl) (pe_ix ix_seq (pe_ix ix_seq (pv 3) (pv 8) fun _ _ => rfl) pe_int fun _ _ => rfl) (nomark _)) (pw_or (pt_cmpR (op_neX hr.units) (pe_fld (pe_ix ix_seq (pv 5) (pv 8) fun _ _ => rfl) rfl) (pe_ix ix_seq (pe_ix ix_seq (pv 3) (pv 8) fun _ _ => rfl) pe_int fun _ _ => rfl) (nomark _)) (pw_or1 (pt_cmpR (op_neX hr.units) (pe_fld (pe_ix ix_seq (pv 5) (pv 8) fun _ _ => rfl) rfl) (pe_ix ix_seq (pe_ix ix_seq (pv 3) (pv 8) fun _ _ => rfl) pe_int fun _ _ => rfl) (nomark _))))))
        (pss_one (ps_ret pe_bl))
        pss_nil)))
        (pss_one (ps_ret pe_bl)))))))))))
theorem Tx.law (T : Tx K mg) : ∃ fd : FuncData, (∀ (s : Shared) (u : Value), BindsTo s fd ⟨[u], []⟩ [("_law_script", u)]) ∧ ∀ base : Heap, FnOk P w K mg base (L2.CX P w) 5 (He.ga K "law") fd ["_law_script"] (sp_law K) := by
  obtain ⟨fd, F⟩ := T.d_law
  have b := FunD.bindsA (ps := ["_law_script"]) F fun _ _ _ _ _ _ us hl => match us, hl with | [_], _ => rfl
  exact ⟨fd, fun s v => b s [v] rfl, fun base => fn_law T F⟩
end
end Lw

namespace Lw
open PySem PySem.Spec PyProof.Rows L2 G
def dd__law_cells : He.DefD := ⟨("_law_cells", none), "_law_cells", "_law_cells", defArgs s__law_cells, defBody s__law_cells, defScope s__law_cells, [], []⟩
def dd__law_draw : He.DefD := ⟨("_law_draw", none), "_law_draw", "_law_draw", defArgs s__law_draw, defBody s__law_draw, defScope s__law_draw, [], []⟩
def dd__law_pick : He.DefD := ⟨("_law_pick", none), "_law_pick", "_law_pick", defArgs s__law_pick, defBody s__law_pick, defScope s__law_pick, [], []⟩
def dd__law_text : He.DefD := ⟨("_law_text", none), "_law_text", "_law_text", defArgs s__law_text, defBody s__law_text, defScope s__law_text, [], []⟩
def dd__law_quoted : He.DefD := ⟨("_law_quoted", none), "_law_quoted", "_law_quoted", defArgs s__law_quoted, defBody s__law_quoted, defScope s__law_quoted, [], []⟩
def dd__law_is_letter : He.DefD := ⟨("_law_is_letter", none), "_law_is_letter", "_law_is_letter", defArgs s__law_is_letter, defBody s__law_is_letter, defScope s__law_is_letter, [], []⟩
def dd__law_is_digit : He.DefD := ⟨("_law_is_digit", none), "_law_is_digit", "_law_is_digit", defArgs s__law_is_digit, defBody s__law_is_digit, defScope s__law_is_digit, [], []⟩
def dd__law_run : He.DefD := ⟨("_law_run", none), "_law_run", "_law_run", defArgs s__law_run, defBody s__law_run, defScope s__law_run, [], []⟩
def dd__law_one : He.DefD := ⟨("_law_one", none), "_law_one", "_law_one", defArgs s__law_one, defBody s__law_one, defScope s__law_one, [], []⟩
def dd__law_due : He.DefD := ⟨("_law_due", none), "_law_due", "_law_due", defArgs s__law_due, defBody s__law_due, defScope s__law_due, [], []⟩
def dd_word_end : He.DefD := ⟨("word_end", none), "word_end", "word_end", defArgs s_word_end, defBody s_word_end, defScope s_word_end, [], []⟩
def dd_Token_init : He.DefD := ⟨("Token", some "__init__"), "__init__", "Token.__init__", defArgs s_Token_init, defBody s_Token_init, defScope s_Token_init, [], []⟩
def dd_read_word : He.DefD := ⟨("read_word", none), "read_word", "read_word", defArgs s_read_word, defBody s_read_word, defScope s_read_word, [], []⟩
def dd_digits_end : He.DefD := ⟨("digits_end", none), "digits_end", "digits_end", defArgs s_digits_end, defBody s_digits_end, defScope s_digits_end, [], []⟩
def dd_read_number : He.DefD := ⟨("read_number", none), "read_number", "read_number", defArgs s_read_number, defBody s_read_number, defScope s_read_number, [], []⟩
def dd_read_quoted : He.DefD := ⟨("read_quoted", none), "read_quoted", "read_quoted", defArgs s_read_quoted, defBody s_read_quoted, defScope s_read_quoted, [], []⟩
def dd_read_sign : He.DefD := ⟨("read_sign", none), "read_sign", "read_sign", defArgs s_read_sign, defBody s_read_sign, defScope s_read_sign, [], []⟩
def dd_tokens : He.DefD := ⟨("tokens", none), "tokens", "tokens", defArgs s_tokens, defBody s_tokens, defScope s_tokens, [], []⟩
def dd_law : He.DefD := ⟨("law", none), "law", "law", defArgs s_law, defBody s_law, defScope s_law, [], []⟩
def fn : List He.DefD := [dd__law_cells, dd__law_draw, dd__law_pick, dd__law_text, dd__law_quoted, dd__law_is_letter, dd__law_is_digit, dd__law_run, dd__law_one, dd__law_due, dd_word_end, dd_Token_init, dd_read_word, dd_digits_end, dd_read_number, dd_read_quoted, dd_read_sign, dd_tokens, dd_law]
def fa : List He.Fa := [.glo "_law_cells", .glo "_law_draw", .glo "_law_pick", .glo "_law_text", .glo "_law_quoted", .glo "_law_is_letter", .glo "_law_is_digit", .glo "_law_run", .glo "_law_one", .glo "_law_due", .glo "word_end", .glo "read_word", .glo "digits_end", .glo "read_number", .glo "read_quoted", .glo "read_sign", .glo "tokens", .glo "law", .free "ValueError", .free "int", .free "isinstance", .free "len", .free "list", .free "range", .str "DIGITS" "0123456789", .str "LETTERS" "abcdefghijklmnopqrstuvwxyzABCDEFGHIJKLMNOPQRSTUVWXYZ", .int "NUMBER_LENGTH" 18, .int "WORD_LENGTH" 12, .glo "Token", .cls "Token", .mkr "Token", .noat "Token" "place", .noat "Token" "role", .noat "Token" "text", .glo "HeapError"]
theorem kstr {K : PySem.W.Frag} {h : Heap} {mg : Str → Option Value} (X : K.In h) (G : h.Ns mainGlobals mg) {x z : Str} (c : (He.Fa.str x z).ok K = true) : ∃ u, mg x = some u ∧ RelV (.str z) u := by
  obtain ⟨t, e⟩ := He.str_ok X G c
  exact ⟨_, e, _, rfl⟩
theorem kint {K : PySem.W.Frag} {h : Heap} {mg : Str → Option Value} (X : K.In h) (G : h.Ns mainGlobals mg) {x : Str} {z : Int} (c : (He.Fa.int x z).ok K = true) : ∃ u, mg x = some u ∧ RelV (.int z) u := by
  obtain ⟨t, e⟩ := He.int_ok X G c
  exact ⟨_, e, _, rfl⟩
def exs : List (PySem.W.Frag → Bool) := [fIn "Token", fIsT "Token" "ValueError" false, fIsT "Token" "list" false, fIs "Token" "HeapError" false, fTIs "NoneType" "HeapError" false, fTIs "bool" "HeapError" false, fTIs "int" "HeapError" false, fTIs "str" "HeapError" false, fTIs "list" "HeapError" false, fTIs "tuple" "HeapError" false, fTIs "dict" "HeapError" false, fIn "Fault", fIs "Fault" "HeapError" true, fIsT "Fault" "ValueError" true]
theorem tx {K : PySem.W.Frag} {h : Heap} {mg : Str → Option Value} (X : K.In h) (G : h.Ns mainGlobals mg) (c : He.SaysD fa fn K) (x : allB exs K = true) (fau : FaT K mg) : Tx K mg where
  fau := fau
  d__law_cells := c.def_ 0 (d := dd__law_cells) rfl
  d__law_draw := c.def_ 1 (d := dd__law_draw) rfl
  d__law_pick := c.def_ 2 (d := dd__law_pick) rfl
  d__law_text := c.def_ 3 (d := dd__law_text) rfl
  d__law_quoted := c.def_ 4 (d := dd__law_quoted) rfl
  d__law_is_letter := c.def_ 5 (d := dd__law_is_letter) rfl
  d__law_is_digit := c.def_ 6 (d := dd__law_is_digit) rfl
  d__law_run := c.def_ 7 (d := dd__law_run) rfl
  d__law_one := c.def_ 8 (d := dd__law_one) rfl
  d__law_due := c.def_ 9 (d := dd__law_due) rfl
  d_word_end := c.def_ 10 (d := dd_word_end) rfl
  d_Token_init := c.def_ 11 (d := dd_Token_init) rfl
  d_read_word := c.def_ 12 (d := dd_read_word) rfl
  d_digits_end := c.def_ 13 (d := dd_digits_end) rfl
  d_read_number := c.def_ 14 (d := dd_read_number) rfl
  d_read_quoted := c.def_ 15 (d := dd_read_quoted) rfl
  d_read_sign := c.def_ 16 (d := dd_read_sign) rfl
  d_tokens := c.def_ 17 (d := dd_tokens) rfl
  d_law := c.def_ 18 (d := dd_law) rfl
  g__law_cells := He.glo_ok X G (c.fact 0 (f := .glo "_law_cells") rfl)
  g__law_draw := He.glo_ok X G (c.fact 1 (f := .glo "_law_draw") rfl)
  g__law_pick := He.glo_ok X G (c.fact 2 (f := .glo "_law_pick") rfl)
  g__law_text := He.glo_ok X G (c.fact 3 (f := .glo "_law_text") rfl)
  g__law_quoted := He.glo_ok X G (c.fact 4 (f := .glo "_law_quoted") rfl)
  g__law_is_letter := He.glo_ok X G (c.fact 5 (f := .glo "_law_is_letter") rfl)
  g__law_is_digit := He.glo_ok X G (c.fact 6 (f := .glo "_law_is_digit") rfl)
  g__law_run := He.glo_ok X G (c.fact 7 (f := .glo "_law_run") rfl)
  g__law_one := He.glo_ok X G (c.fact 8 (f := .glo "_law_one") rfl)
  g__law_due := He.glo_ok X G (c.fact 9 (f := .glo "_law_due") rfl)
  g_word_end := He.glo_ok X G (c.fact 10 (f := .glo "word_end") rfl)
  g_read_word := He.glo_ok X G (c.fact 11 (f := .glo "read_word") rfl)
  g_digits_end := He.glo_ok X G (c.fact 12 (f := .glo "digits_end") rfl)
  g_read_number := He.glo_ok X G (c.fact 13 (f := .glo "read_number") rfl)
  g_read_quoted := He.glo_ok X G (c.fact 14 (f := .glo "read_quoted") rfl)
  g_read_sign := He.glo_ok X G (c.fact 15 (f := .glo "read_sign") rfl)
  g_tokens := He.glo_ok X G (c.fact 16 (f := .glo "tokens") rfl)
  g_law := He.glo_ok X G (c.fact 17 (f := .glo "law") rfl)
  b_ValueError := He.free_ok X G (c.fact 18 (f := .free "ValueError") rfl)
  b_int := He.free_ok X G (c.fact 19 (f := .free "int") rfl)
  b_isinstance := He.free_ok X G (c.fact 20 (f := .free "isinstance") rfl)
  b_len := He.free_ok X G (c.fact 21 (f := .free "len") rfl)
  b_list := He.free_ok X G (c.fact 22 (f := .free "list") rfl)
  b_range := He.free_ok X G (c.fact 23 (f := .free "range") rfl)
  k_DIGITS := kstr X G (c.fact 24 (f := .str "DIGITS" "0123456789") rfl)
  k_LETTERS := kstr X G (c.fact 25 (f := .str "LETTERS" "abcdefghijklmnopqrstuvwxyzABCDEFGHIJKLMNOPQRSTUVWXYZ") rfl)
  k_NUMBER_LENGTH := kint X G (c.fact 26 (f := .int "NUMBER_LENGTH" 18) rfl)
  k_WORD_LENGTH := kint X G (c.fact 27 (f := .int "WORD_LENGTH" 12) rfl)
  gc_Token := He.glo_ok X G (c.fact 28 (f := .glo "Token") rfl)
  cl_Token := He.cls_ok (c.fact 29 (f := .cls "Token") rfl)
  mk_Token := He.mkr_ok (c.fact 30 (f := .mkr "Token") rfl)
  no_Token_place := He.noat_ok (c.fact 31 (f := .noat "Token" "place") rfl)
  no_Token_role := He.noat_ok (c.fact 32 (f := .noat "Token" "role") rfl)
  no_Token_text := He.noat_ok (c.fact 33 (f := .noat "Token" "text") rfl)
  gc_HeapError := He.glo_ok X G (c.fact 34 (f := .glo "HeapError") rfl)
  if_Token := fIn_ok (allB_at x 0 (f := fIn "Token") rfl)
  it_Token_ValueError := fIsT_ok (allB_at x 1 (f := fIsT "Token" "ValueError" false) rfl)
  it_Token_list := fIsT_ok (allB_at x 2 (f := fIsT "Token" "list" false) rfl)
  is_Token_HeapError := fIs_ok (allB_at x 3 (f := fIs "Token" "HeapError" false) rfl)
  ti_NoneType_HeapError := fTIs_ok (allB_at x 4 (f := fTIs "NoneType" "HeapError" false) rfl)
  ti_bool_HeapError := fTIs_ok (allB_at x 5 (f := fTIs "bool" "HeapError" false) rfl)
  ti_int_HeapError := fTIs_ok (allB_at x 6 (f := fTIs "int" "HeapError" false) rfl)
  ti_str_HeapError := fTIs_ok (allB_at x 7 (f := fTIs "str" "HeapError" false) rfl)
  ti_list_HeapError := fTIs_ok (allB_at x 8 (f := fTIs "list" "HeapError" false) rfl)
  ti_tuple_HeapError := fTIs_ok (allB_at x 9 (f := fTIs "tuple" "HeapError" false) rfl)
  ti_dict_HeapError := fTIs_ok (allB_at x 10 (f := fTIs "dict" "HeapError" false) rfl)
  if_Fault := fIn_ok (allB_at x 11 (f := fIn "Fault") rfl)
  is_Fault_HeapError := fIs_ok (allB_at x 12 (f := fIs "Fault" "HeapError" true) rfl)
  it_Fault_ValueError := fIsT_ok (allB_at x 13 (f := fIsT "Fault" "ValueError" true) rfl)
abbrev R : PySem.W.OpenRow := PySem.W.OpenLaw.row PySem.Challenge.rw_oneheap_k00_tokens_of_texts
abbrev hk : PySem.W.Hook := G.hookY 5 fa fn (allB exs) "/claim/cut.py"
def ob (s : PySem.W.SharedT) : G.AlY := G.obsY 5 fa fn (allB exs) "/claim/cut.py" (HandSHeadRun.getT s)
theorem ob_eq (s : PySem.W.SharedT) : ob s = hk.obs s.abs := G.obsY_eq (HandSHeadRun.getT_eq s)
instance : PI (PySem.Challenge.rw_oneheap_k00_tokens_of_texts).prog := ⟨by kernel_rfl, by kernel_rfl⟩
def nm : List Str := ["HeapError", "Fault", "Token", "word_end", "digits_end", "read_word", "read_number", "read_quoted", "read_sign", "tokens", "_law_cells", "_law_draw", "_law_pick", "_law_text", "_law_is_letter", "_law_is_digit", "_law_run", "_law_quoted", "_law_one", "_law_due", "WORD_LENGTH", "NUMBER_LENGTH", "LETTERS", "DIGITS"]
theorem run (w : World) : HandSHeadRun.RunEq R (PySem.W.view R.prog [27]) hk ob 4000 nm w := by
  intro os
  kernel_rfl
end Lw

local macro_rules | `(tactic| walk_at "go1") => `(tactic| first
  | with_reducible refine G.g_seq ?_
  | (with_reducible show L2.tVar _ _ _ _; refine G.g_var rfl ?_)
  | with_reducible refine G.g_c ?_
  | with_reducible refine G.g_op ?_
  | with_reducible refine G.g_asg ?_
  | with_reducible refine G.g_if ?_
  | with_reducible refine G.g_test ?_
  | with_reducible refine G.g_k ?_
  | with_reducible refine G.g_tru ?_
  | with_reducible refine G.v_truB ?_
  | with_reducible refine G.v_truN ?_
  | with_reducible refine L2.iteT ?_
  | with_reducible refine L2.iteF ?_
  | with_reducible refine G.iteNT ?_
  | with_reducible refine G.iteNF ?_
  | with_reducible refine G.v_addI ?_
  | with_reducible refine G.v_sub ?_
  | with_reducible refine G.v_lt ?_
  | with_reducible refine G.v_le ?_
  | with_reducible refine G.v_gt ?_
  | with_reducible refine G.v_ge ?_
  | with_reducible refine G.v_eqI ?_
  | with_reducible refine G.v_eqS ?_
  | with_reducible refine G.v_eqB ?_
  | with_reducible refine G.v_neI ?_
  | with_reducible refine G.v_neS ?_
  | with_reducible refine G.v_neB ?_
  | with_reducible refine G.v_inS ?_
  | with_reducible refine G.v_notInS ?_
  | with_reducible refine G.v_isN ?_
  | with_reducible refine G.v_isNotN ?_
  | with_reducible refine G.v_isB ?_
  | with_reducible refine G.v_isNotB ?_
  | with_reducible refine G.g_chain ?_
  | with_reducible refine G.v_find ?_
  | with_reducible refine G.g_meth1 ?_
  | with_reducible refine G.g_yes ?_
  | with_reducible refine G.g_lstRg ?_
  | with_reducible refine G.v_intI ?_
  | with_reducible refine G.g_callB ?_
  | with_reducible refine G.g_call ?_
  | with_reducible refine G.g_nil ?_
  | with_reducible refine G.g_cons ?_
  | with_reducible refine G.g_and ?_
  | with_reducible refine G.g_or ?_
  | with_reducible refine G.g_not ?_
  | with_reducible refine G.g_andV ?_
  | with_reducible refine G.g_orV ?_
  | with_reducible refine G.g_notV ?_
  | with_reducible refine G.g_ifE ?_
  | with_reducible refine G.g_un ?_
  | with_reducible refine G.g_tup ?_
  | with_reducible refine G.g_lst ?_
  | with_reducible refine G.g_small (Nat.le_of_ble_eq_true rfl) ?_
  | with_reducible refine G.g_drop ?_
  | with_reducible refine G.g_ret ?_
  | with_reducible refine G.g_retN ?_
  | with_reducible refine G.g_next ?_
  | with_reducible refine G.g_brk ?_
  | with_reducible refine G.g_cont ?_
  | with_reducible refine G.g_for ?_
  | with_reducible refine G.g_name ?_
  | with_reducible refine G.g_rng1 ?_
  | with_reducible refine G.g_rng2 ?_
  | with_reducible refine G.g_bm ?_
  | with_reducible refine G.g_bm0 ?_
  | with_reducible refine G.g_tyS ?_
  | with_reducible refine G.g_m1 ?_
  | with_reducible refine G.g_isS ?_
  | with_reducible refine G.v_starts3 ?_
  | with_reducible refine G.g_sl ?_
  | with_reducible refine G.g_no ?_
  | with_reducible refine G.g_part ?_
  | with_reducible refine G.g_isI ?_
  | with_reducible refine G.g_make ?_
  | with_reducible refine G.g_fld ?_
  | with_reducible refine G.g_sfld ?_
  | with_reducible refine G.g_asgG ?_
  | with_reducible refine G.g_sub ?_
  | with_reducible refine G.g_gcons ?_
  | with_reducible refine G.g_gnil ?_
  | with_reducible refine G.v_mulI (by unfold L2.CMul; first | (left; omega) | (right; omega)) ?_
  | with_reducible refine G.v_mod (by omega) ?_
  | with_reducible refine G.v_div (by unfold L2.CDiv; omega) ?_
  | with_reducible refine G.v_leS ?_
  | with_reducible refine G.g_raise ?_)
local macro_rules | `(tactic| walk_at "go") => `(tactic| repeat walk_at "go1")

namespace Lw
open PySem PySem.Spec PyProof.Rows L2 G
section
variable {K : PySem.W.Frag} {H : Hp} {Q : VK} {E : XK}
theorem rd_cells {a : Addr} {ns : List Int} {n : Nat} (hS : SqL K H a (ns.map V.int)) (hn : n ≤ 64)
    (q : ∀ p xs H', H p = none → H' p = some (.lst ((xs : List Int).map V.int)) → xs.length = n → Same H H' → Q (.ref p) H') : sp__law_cells K [.ref a, .int (n : Int)] H Q E := by
  refine ⟨rfl, ?_⟩
  unfold t__law_cells
  walk_at "go"
  intro p hp
  walk_at "go"
  refine g_rngN (n := n) (by omega) ?_
  refine l_range (fun i σ H' => i ≤ n ∧ ∃ (xs : List Int) (v4 v5 : Option V), xs.length = i ∧ σ = [some (.ref a), some (.int n), some (.ref p), v4, v5] ∧ H' p = some (.lst (xs.map V.int)) ∧ Same H H')
    ⟨Nat.zero_le _, [], none, none, rfl, rfl, upd_same, same_new hp⟩ ?_ ?_
  · rintro i σ H' hi ⟨_, xs, v4, v5, hl, rfl, hx, hs⟩
    walk_at "go"
    refine g_cut (fun σ' H'' => H' = H'' ∧ ∃ c : Int, σ' = [some (.ref a), some (.int n), some (.ref p), some (.int (0 + i)), some (.int c)]) ?_ ?_
    · walk_at "go"
      refine v_lenSq (hs.seq hS) ?_
      walk_at "go"
      refine ite2 (fun hlt => ?_) (fun hlt => ?_)
      · have hlt' := of_decide_eq_true hlt
        rw [List.length_map] at hlt'
        walk_at "go"
        refine v_ixSq (hs.seq hS) (atN (i := i) (by omega) (List.getElem?_eq_getElem (by rw [List.length_map]; omega))) ?_
        rw [List.getElem_map]
        walk_at "go"
        refine ite2 (fun h0 => ?_) (fun h0 => ?_)
        · walk_at "go"
          exact ⟨rfl, _, rfl⟩
        · walk_at "go"
          exact ⟨rfl, _, rfl⟩
      · walk_at "go"
        exact ⟨rfl, _, rfl⟩
    rintro σ' H'' ⟨rfl, c, rfl⟩
    refine g_cut (fun σ' H'' => H' = H'' ∧ ∃ c : Int, σ' = [some (.ref a), some (.int n), some (.ref p), some (.int (0 + i)), some (.int c)]) ?_ ?_
    · walk_at "go"
      refine ite2 (fun hlt => ?_) (fun hlt => ?_)
      · walk_at "go"
        exact ⟨rfl, _, rfl⟩
      · walk_at "go"
        exact ⟨rfl, _, rfl⟩
    rintro σ' H'' ⟨rfl, c, rfl⟩
    walk_at "go"
    refine g_tyL hx ?_
    walk_at "go"
    refine v_append hx (by rw [List.length_map]; exact small1000 (by omega)) ?_
    refine ⟨by omega, xs ++ [c], some (.int (0 + i)), some (.int c), by simp [hl], rfl, by rw [List.map_append]; exact upd_same, fun b o e => ?_⟩
    rw [upd_ne (ne_of_none e hp)]
    exact hs b o e
  · rintro σ H' ⟨_, xs, v4, v5, hl, rfl, hx, hs⟩
    walk_at "go"
    exact q p xs _ hp hx hl hs
/-- the draws: a list of ints, not empty -/
def Dr (d : Addr) (H : Hp) : Prop := ∃ xs : List Int, xs ≠ [] ∧ xs.length ≤ 64 ∧ H d = some (.lst (xs.map V.int))
theorem rd_draw {d : Addr} {b : Int} (hd : Dr d H) (hb : 0 < b ∧ b < 1073741824) (q : ∀ v H', 0 ≤ v → v < b → Dr d H' → Sb d H H' → Q (.int v) H') : sp__law_draw K [.ref d, .int b] H Q E := by
  obtain ⟨xs, hx, hxl, hd⟩ := hd
  refine ⟨rfl, ?_⟩
  unfold t__law_draw
  refine g_cut (fun σ' H' => σ' = [some (.ref d), some (.int b), none] ∧ Sb d H H' ∧ ∃ (y : Int) (ys : List Int), ys.length + 1 ≤ 64 ∧ H' d = some (.lst ((y :: ys).map V.int))) ?_ ?_
  · obtain ⟨y, ys, rfl⟩ : ∃ y ys, xs = y :: ys := by
      cases xs with
      | nil => exact absurd rfl hx
      | cons y ys => exact ⟨y, ys, rfl⟩
    have fin : ∀ {A B : Prop}, A → B → A ∧ B := fun a b => ⟨a, b⟩
    walk_at "go"
    refine v_ixL hd (atN (i := 0) rfl rfl) ?_
    walk_at "go"
    refine ite2 (fun h0 => ?_) (fun h0 => ?_)
    · walk_at "go"
      refine v_lenL hd ?_
      walk_at "go"
      refine ite2 (fun h1 => ?_) (fun h1 => ?_)
      · have h1' := of_decide_eq_true h1
        rw [List.length_map] at h1'
        cases ys with
        | nil => simp at h1'
        | cons z zs =>
          walk_at "go"
          refine g_tyL hd ?_
          walk_at "go"
          refine .inr ⟨_, _, 0, 0, _, rfl, rfl, hd, by decide, by decide, (ixN_seq (j := 0) (by simp [ixN]; omega)).1, rfl, ?_⟩
          exact ⟨rfl, Sb.upd, z, zs, by simp at hxl ⊢; omega, upd_same⟩
      · walk_at "go"
        exact ⟨rfl, Sb.refl, y, ys, hxl, hd⟩
    · walk_at "go"
      exact ⟨rfl, Sb.refl, y, ys, hxl, hd⟩
  rintro σ' H' ⟨rfl, hs, y, ys, hl, hd'⟩
  walk_at "go"
  refine v_ixL hd' (atN (i := 0) rfl rfl) ?_
  walk_at "go"
  refine v_ixL hd' (atN (i := 0) rfl rfl) ?_
  walk_at "go"
  refine v_setL (j := 0) hd' (by simp [ixN]) ?_
  walk_at "go"
  exact q _ _ (Int.emod_nonneg _ (by omega)) (Int.emod_lt_of_pos _ hb.1) ⟨y / b :: ys, by simp, by simpa using hl, upd_same⟩ (hs.trans Sb.upd)
end
end Lw

namespace Lw
open PySem PySem.Spec PyProof.Rows L2 G
/-- a text by its codes -/
abbrev sv (zs : List Nat) : V := .str ⟨zs.toArray⟩
theorem str_eta (z : Str) : z = ⟨z.cps.toList.toArray⟩ := by cases z; simp
theorem len_sv (zs : List Nat) : (⟨zs.toArray⟩ : Str).length = zs.length := by show zs.toArray.size = _; simp
theorem app_sv (a b : List Nat) : (⟨a.toArray⟩ : Str) ++ ⟨b.toArray⟩ = ⟨(a ++ b).toArray⟩ := by
  show (⟨a.toArray ++ b.toArray⟩ : Str) = _
  simp
theorem at_some {α : Type} {xs : List α} {n : Int} (h0 : 0 ≤ n) (h1 : n < xs.length) : ∃ c, xs[n.toNat]? = some c ∧ atI xs n = some c := by
  obtain ⟨i, rfl⟩ := Int.eq_ofNat_of_zero_le h0
  have hi : i < xs.length := by omega
  exact ⟨xs[i], by simp [hi], atI_nat (by simp [hi])⟩
theorem sl_const : sizeLine = 16777216 := sizeLine_eq
/-- ''.join of signs -/
theorem join_signs : ∀ zs : List Nat, Txt.join ("" : Str) (zs.map fun c => (⟨#[c]⟩ : Str)) = ⟨zs.toArray⟩ := by
  intro zs
  have e : ("" : Str) = ⟨#[]⟩ := by decide +kernel
  have key : ∀ l : List Nat, Str.join ⟨#[]⟩ (l.map fun c => (⟨#[c]⟩ : Str)) = ⟨l.toArray⟩ := by
    intro l
    induction l with
    | nil => rfl
    | cons a l ih =>
      cases l with
      | nil => rfl
      | cons b l =>
        show (⟨#[a]⟩ : Str) ++ ⟨#[]⟩ ++ Str.join ⟨#[]⟩ ((b :: l).map fun c => (⟨#[c]⟩ : Str)) = _
        rw [ih]
        show (⟨#[a] ++ #[] ++ (b :: l).toArray⟩ : Str) = _
        simp
  rw [e, TL.join_eq]
  exact key zs
theorem ins2 (c : Nat) : inV (.str ⟨#[c]⟩) [.str ("\"" : Str), .str ("\\" : Str)] = decide (c = 34 ∨ c = 92) := by
  have e1 : ("\"" : Str) = ⟨#[34]⟩ := by decide +kernel
  have e2 : ("\\" : Str) = ⟨#[92]⟩ := by decide +kernel
  rw [e1, e2]
  show ((⟨#[34]⟩ : Str) == ⟨#[c]⟩ || ((⟨#[92]⟩ : Str) == ⟨#[c]⟩ || false)) = _
  have k : ∀ d : Nat, ((⟨#[d]⟩ : Str) == ⟨#[c]⟩) = decide (c = d) := by
    intro d
    by_cases h : c = d
    · subst h; simp
    · have : ¬ (⟨#[d]⟩ : Str) = ⟨#[c]⟩ := by
        intro z
        have z2 := congrArg (fun s : Str => s.cps.toList) z
        simp at z2
        exact h z2.symm
      rw [decide_eq_false h]
      simpa using this
  rw [k, k]
  by_cases h1 : c = 34 <;> by_cases h2 : c = 92 <;> simp [h1, h2]
/-- what quoted writes of a sign -/
def esc (c : Nat) : List Nat := if c = 34 ∨ c = 92 then [92, c] else [c]
def qt (zs : List Nat) : List Nat := 34 :: (zs.flatMap esc ++ [34])
theorem esc_len (zs : List Nat) : (zs.flatMap esc).length ≤ 2 * zs.length := by
  induction zs with
  | nil => simp
  | cons a l ih =>
    rw [List.flatMap_cons, List.length_append, List.length_cons]
    have : (esc a).length ≤ 2 := by unfold esc; split <;> simp
    omega
section
variable {K : PySem.W.Frag} {H : Hp} {Q : VK} {E : XK}
theorem sg_len (l : List Nat) : ((l.map fun c => (⟨#[c]⟩ : Str)).map (·.length)).sum = l.length := by
  induction l with
  | nil => rfl
  | cons a l ih => simp only [List.map_cons, List.sum_cons, ih, List.length_cons]; show 1 + l.length = _; omega
end
end Lw
namespace Lw
open PySem PySem.Spec PyProof.Rows L2 G
/-! ### a quoted text, read -/
inductive Rq where
  | ok (t : List Nat) (n : Nat)
  | opn
  | bad (k : Nat)
def Rq.more (d : Nat) (k : Nat) : Rq → Rq
  | .ok t n => .ok (d :: t) (n + k)
  | .opn => .opn
  | .bad j => .bad (j + k)
def rq : List Nat → Rq
  | [] => .opn
  | [c] => if c = 34 then .ok [] 1 else .opn
  | c :: d :: r => if c = 34 then .ok [] 1 else if c = 92 then (if d = 34 ∨ d = 92 then (rq r).more d 2 else .bad 1) else (rq (d :: r)).more c 1
def Rq.at (acc : List Nat) (i : Nat) : Rq → Rq
  | .ok t n => .ok (acc ++ t) (i + n)
  | .opn => .opn
  | .bad j => .bad (i + j)
theorem Rq.at_more (acc : List Nat) (i d k : Nat) (r : Rq) : (r.more d k).at acc i = r.at (acc ++ [d]) (i + k) := by
  cases r <;> simp [Rq.more, Rq.at] <;> omega
/-- what quoted wrote is read back -/
theorem rq_esc (zs post : List Nat) : rq (zs.flatMap esc ++ 34 :: post) = .ok zs ((zs.flatMap esc).length + 1) := by
  induction zs with
  | nil => cases post <;> simp [rq]
  | cons c zs ih =>
    rw [List.flatMap_cons]
    by_cases h : c = 34 ∨ c = 92
    · have e : esc c = [92, c] := if_pos h
      rw [e]
      show rq (92 :: c :: (zs.flatMap esc ++ 34 :: post)) = _
      rw [rq, if_neg (by decide), if_pos rfl, if_pos h, ih]
      simp [Rq.more]
    · have e : esc c = [c] := if_neg h
      rw [e]
      have h1 : c ≠ 34 := fun z => h (.inl z)
      have h2 : c ≠ 92 := fun z => h (.inr z)
      have : ∀ l : List Nat, l ≠ [] → rq (c :: l) = (rq l).more c 1 := by
        intro l hl
        cases l with
        | nil => exact absurd rfl hl
        | cons d r => rw [rq, if_neg h1, if_neg h2]
      show rq (c :: (zs.flatMap esc ++ 34 :: post)) = _
      rw [this _ (by simp), ih]
      simp [Rq.more]
def tkF (r t p : V) : List (Str × V) := [("role", r), ("text", t), ("place", p)]
def TokAt (K : PySem.W.Frag) (H : Hp) (x : Addr) (r t p : V) : Prop := ∃ dx, H x = some (.ins (He.ga K "Token") dx (tkF r t p))
theorem TokAt.same {K : PySem.W.Frag} {H H' : Hp} {x : Addr} {r t p : V} (h : TokAt K H x r t p) (s : Same H H') : TokAt K H' x r t p := by
  obtain ⟨dx, h⟩ := h
  exact ⟨dx, s _ _ h⟩
theorem TokAt.sb {K : PySem.W.Frag} {H H' : Hp} {x d : Addr} {r t p : V} (h : TokAt K H x r t p) (s : Sb d H H') (n : x ≠ d) : TokAt K H' x r t p := by
  obtain ⟨dx, h⟩ := h
  exact ⟨dx, s _ _ n h⟩
section
variable {K : PySem.W.Frag} {H : Hp} {Q : VK} {E : XK} {mg : Str → Option Value}
theorem putF_lt {f : Str} {v : V} {n : Nat} : ∀ {fs : List (Str × V)}, fs.length < n → (putF f v fs).length < n + 1
  | [], h => by simp [putF]; omega
  | (g, z) :: r, h => by
    unfold putF
    split
    · simp only [List.length_cons] at h ⊢; omega
    · cases n with
      | zero => simp at h
      | succ n =>
        have := putF_lt (f := f) (v := v) (n := n) (fs := r) (by simpa using h)
        simp only [List.length_cons]
        omega
theorem mk_token (T : Tx K mg) {r t p : V} {S : Addr → Hp → Prop} (q : ∀ x H', H x = none → Same H H' → TokAt K H' x r t p → S x H') :
    ∀ x dx, H x = none → H dx = none → dx ≠ x → sp_Token_init K [.ref x, r, t, p] (upd (upd H dx (.own x)) x (.ins (He.ga K "Token") dx [])) (fun v H2 => v = .non ∧ S x H2) E := by
  intro x dx hx hdx ne
  refine ⟨rfl, ?_⟩
  unfold t_Token_init
  walk_at "go"
  refine v_sfld upd_same T.cl_Token T.no_Token_role (by decide) ?_
  walk_at "go"
  refine v_sfld upd_same T.cl_Token T.no_Token_text (putF_lt (n := 999) (by decide)) ?_
  walk_at "go"
  refine v_sfld upd_same T.cl_Token T.no_Token_place (putF_lt (n := 999) (putF_lt (n := 998) (by decide))) ?_
  refine ⟨rfl, q x _ hx (fun b o e => ?_) ⟨dx, ?_⟩⟩
  · have n1 := ne_of_none e hx
    rw [upd_ne n1, upd_ne n1, upd_ne n1, upd_ne n1, upd_ne (ne_of_none e hdx)]
    exact e
  · rw [upd_same]
    have e1 : ¬ ("role" : Str) = "text" := by decide +kernel
    have e2 : ¬ ("role" : Str) = "place" := by decide +kernel
    have e3 : ¬ ("text" : Str) = "place" := by decide +kernel
    simp only [putF, if_neg e1, if_neg e2, if_neg e3, tkF]
theorem sv_q : ("\"" : Str) = ⟨#[34]⟩ := by decide +kernel
theorem sv_b : ("\\" : Str) = ⟨#[92]⟩ := by decide +kernel
theorem one_eq {c d : Nat} : ((⟨#[c]⟩ : Str) = ⟨#[d]⟩) ↔ c = d := by
  constructor
  · intro z
    have z2 := congrArg (fun s : Str => s.cps.toList) z
    simpa using z2
  · intro z; rw [z]
end
end Lw
namespace Lw
open PySem PySem.Spec PyProof.Rows L2 G
/-- a Fault is let out -/
def FE (K : PySem.W.Frag) (E : XK) (H : Hp) (i : Int) (r : Str) : Prop := ∀ d H', Same H H' → H' d = none → E (.ref (He.ga K "Fault")) (some d) (upd H' d (.xd (faD i r)))
theorem FE.same {K : PySem.W.Frag} {E : XK} {H H' : Hp} {i : Int} {r : Str} (h : FE K E H i r) (s : Same H H') : FE K E H' i r := fun d H2 s2 => h d H2 (s.trans s2)
theorem drop_cons' {zs : List Nat} {i c : Nat} (h : zs[i]? = some c) : zs.drop i = c :: zs.drop (i + 1) := by
  obtain ⟨hi, e⟩ := List.getElem?_eq_some_iff.mp h
  rw [List.drop_eq_getElem_cons hi, e]
section
variable {K : PySem.W.Frag} {H : Hp} {Q : VK} {E : XK} {mg : Str → Option Value}
theorem rd_read_quoted (T : Tx K mg) {zs : List Nat} {pl : Nat} {R : Rq} (hz : zs.length ≤ 1000) (hp : pl < zs.length) (hr : (rq (zs.drop (pl + 1))).at [] (pl + 1) = R)
    (q1 : ∀ txt n p x H', R = .ok txt n → H x = none → Same H H' → H' p = some (.tup [.ref x, .int (n : Nat)]) → TokAt K H' x (.str "text") (sv txt) (.int pl) → Q (.ref p) H')
    (q2 : R = .opn → FE K E H pl "text is not closed") (q3 : ∀ k : Nat, R = .bad k → FE K E H k "unexpected sign") : sp_read_quoted K [sv zs, .int pl] H Q E := by
  refine ⟨rfl, ?_⟩
  unfold t_read_quoted
  walk_at "go"
  intro p hp
  walk_at "go"
  have close : ∀ (σ : L2.St) (H' : Hp) (v3 v4 : Option V), σ = [some (sv zs), some (.int pl), some (.ref p), v3, v4] → Same H H' → R = .opn → (tRaiseF (He.ga K "Fault") (fun cls d _ H => E cls d H) (tCons (tVar 1) (tCons (tC (.str ("text is not closed" : Str))) tNil)))
      ⟨fun _ H' => Q .non H', Q, fun _ _ => False, fun _ _ => False⟩ σ H' := by
    rintro σ H' v3 v4 rfl s e
    walk_at "go"
    exact v_fau (by omega) (by decide +kernel) fun d hd => q2 e d H' s hd
  refine g_while ⟨fun m σ H' => ∃ (i : Nat) (acc : List Nat) (v4 : Option V), m = zs.length - i ∧ pl + 1 ≤ i ∧ i ≤ zs.length ∧ acc.length ≤ i ∧ σ = [some (sv zs), some (.int pl), some (.ref p), some (.int i), v4] ∧
    H' p = some (.lst ((acc.map fun c => (⟨#[c]⟩ : Str)).map V.str)) ∧ Same H H' ∧ (rq (zs.drop i)).at acc i = R,
    ⟨zs.length - (pl + 1), pl + 1, [], none, rfl, Nat.le_refl _, by omega, by simp, rfl, upd_same, same_new hp, hr⟩, ?_⟩
  rintro m σ H' ⟨i, acc, v4, rfl, hi0, hi, hacc, rfl, hx, hs, hq⟩
  walk_at "go"
  refine v_lenS (by rw [len_sv, sl_const]; omega) ?_
  rw [len_sv]
  walk_at "go"
  by_cases hlt : i < zs.length
  case neg =>
    rw [decide_eq_false (by omega)]
    refine iteF ?_
    have : i = zs.length := by omega
    subst this
    rw [List.drop_length] at hq
    exact close _ _ _ _ rfl hs (by rw [← hq]; rfl)
  rw [decide_eq_true (by omega)]
  walk_at "go"
  refine g_turn ?_
  have hc : zs[i]? = some zs[i] := List.getElem?_eq_getElem hlt
  have hdr := drop_cons' hc
  generalize zs[i] = c at *
  walk_at "go"
  refine v_ixS (c := c) (by rw [len_sv, sl_const]; omega) (atN (i := i) rfl (by simpa using hc)) ?_
  walk_at "go"
  rw [sv_q]
  by_cases h34 : c = 34
  · rw [decide_eq_true (one_eq.mpr h34)]
    subst h34
    have hq2 : R = .ok acc (i + 1) := by
      rw [← hq, hdr]
      cases zs.drop (i + 1) <;> simp [rq, Rq.at]
    walk_at "go"
    refine v_join (ys := acc.map fun c => (⟨#[c]⟩ : Str)) hx ?_ ?_
    · rw [sg_len, List.length_map]
      have e0 : (("" : Str)).length = 0 := by decide +kernel
      rw [e0]
      omega
    · rw [join_signs]
      walk_at "go"
      refine mk_token T fun x H2 hx0 hs2 ht => ?_
      walk_at "go"
      intro t ht0
      exact q1 acc (i + 1) t x _ hq2 (hs.free hx0) (fun b o e => up_new (hs2 b o (hs b o e)) ht0) upd_same (ht.same (same_new ht0))
  rw [decide_eq_false (fun z => h34 (one_eq.mp z))]
  walk_at "go"
  refine g_cut (fun σ' H'' => ∃ (j d : Nat), σ' = [some (sv zs), some (.int pl), some (.ref p), some (.int j), some (.str ⟨#[d]⟩)] ∧ i ≤ j ∧ j < zs.length ∧
    H'' p = some (.lst ((acc.map fun c => (⟨#[c]⟩ : Str)).map V.str)) ∧ Same H H'' ∧ (rq (zs.drop (j + 1))).at (acc ++ [d]) (j + 1) = R) ?_ ?_
  · walk_at "go"
    rw [sv_b]
    by_cases h92 : c = 92
    case neg =>
      rw [decide_eq_false (fun z => h92 (one_eq.mp z))]
      walk_at "go"
      refine ⟨i, c, rfl, Nat.le_refl _, hlt, hx, hs, ?_⟩
      rw [← hq, hdr, ← Rq.at_more]
      cases h : zs.drop (i + 1) with
      | nil => simp [rq, if_neg h34, Rq.more, Rq.at]
      | cons d r => rw [rq, if_neg h34, if_neg h92]
    rw [decide_eq_true (one_eq.mpr h92)]
    subst h92
    walk_at "go"
    refine v_lenS (by rw [len_sv, sl_const]; omega) ?_
    rw [len_sv]
    walk_at "go"
    by_cases he : i + 1 = zs.length
    · rw [decide_eq_true (by omega)]
      refine iteT ?_
      refine g_brk ?_
      have : zs.drop (i + 1) = [] := List.drop_eq_nil_of_le (by omega)
      rw [hdr, this] at hq
      exact close _ _ _ _ rfl hs (by rw [← hq]; simp [rq, Rq.at])
    · rw [decide_eq_false (by omega)]
      have he' : i + 1 < zs.length := by omega
      have hd : zs[i + 1]? = some zs[i + 1] := List.getElem?_eq_getElem he'
      have hdr2 := drop_cons' hd
      generalize zs[i + 1] = d at *
      walk_at "go"
      refine v_ixS (c := d) (by rw [len_sv, sl_const]; omega) (atN (i := i + 1) (by omega) (by simpa using hd)) ?_
      walk_at "go"
      intro t ht
      refine v_notInT upd_same rfl rfl ?_
      have e3 := ins2 d
      rw [sv_q, sv_b] at e3
      rw [e3]
      rw [hdr, hdr2, rq, if_neg (by decide), if_pos rfl] at hq
      by_cases hd2 : d = 34 ∨ d = 92
      · rw [decide_eq_true hd2]
        rw [if_pos hd2, Rq.at_more] at hq
        walk_at "go"
        exact ⟨i + 1, d, rfl, by omega, he', up_new hx ht, fun b o e => up_new (hs b o e) ht, hq⟩
      · rw [decide_eq_false hd2]
        rw [if_neg hd2] at hq
        walk_at "go"
        refine v_fau (by omega) (by decide +kernel) fun d' hd' => ?_
        exact q3 (i + 1) (by rw [← hq]; rfl) d' _ (fun b o e => up_new (hs b o e) ht) hd'
  · rintro σ' H'' ⟨j, d, rfl, hj1, hj2, hx', hs', hq'⟩
    walk_at "go"
    refine g_tyL hx' ?_
    walk_at "go"
    refine v_append hx' (by simp only [List.length_map]; rw [sl_const]; omega) ?_
    walk_at "go"
    refine ⟨zs.length - (j + 1), by omega, j + 1, acc ++ [d], some (.str ⟨#[d]⟩), rfl, by omega, by omega, by simp; omega, rfl, ?_, fun b o e => ?_, hq'⟩
    · rw [upd_same, List.map_append, List.map_append]
      rfl
    · rw [upd_ne (ne_of_none e hp)]
      exact hs' b o e
end
end Lw

namespace Lw
open PySem PySem.Spec PyProof.Rows L2 G
def isL (c : Nat) : Bool := (decide (97 ≤ c) && decide (c ≤ 122)) || (decide (65 ≤ c) && decide (c ≤ 90))
def isD (c : Nat) : Bool := decide (48 ≤ c) && decide (c ≤ 57)
def isW (c : Nat) : Bool := isL c || (isD c || decide (c = 95))
/-- how many signs from p on are f's -/
def cw (f : Nat → Bool) (zs : List Nat) (p : Nat) : Nat := ((zs.drop p).takeWhile f).length
theorem cw_at {f : Nat → Bool} {zs : List Nat} {p c : Nat} (h : zs[p]? = some c) : cw f zs p = if f c = true then 1 + cw f zs (p + 1) else 0 := by
  unfold cw
  rw [drop_cons' h, List.takeWhile_cons]
  split
  · rw [List.length_cons]; omega
  · rfl
theorem cw_end {f : Nat → Bool} {zs : List Nat} {p : Nat} (h : zs.length ≤ p) : cw f zs p = 0 := by
  unfold cw
  rw [List.drop_eq_nil_of_le h]
  rfl
theorem cw_le {f : Nat → Bool} {zs : List Nat} {p : Nat} (h : p ≤ zs.length) : p + cw f zs p ≤ zs.length := by
  unfold cw
  have := (List.takeWhile_sublist (p := f) (l := zs.drop p)).length_le
  rw [List.length_drop] at this
  omega
theorem letters_codes : ("abcdefghijklmnopqrstuvwxyzABCDEFGHIJKLMNOPQRSTUVWXYZ" : Str).cps.toList = [97, 98, 99, 100, 101, 102, 103, 104, 105, 106, 107, 108, 109, 110, 111, 112, 113, 114, 115, 116, 117, 118, 119, 120, 121, 122, 65, 66, 67, 68, 69, 70, 71, 72, 73, 74, 75, 76, 77, 78, 79, 80, 81, 82, 83, 84, 85, 86, 87, 88, 89, 90] := by decide +kernel
theorem digits_codes : ("0123456789" : Str).cps.toList = [48, 49, 50, 51, 52, 53, 54, 55, 56, 57] := by decide +kernel
section
variable {K : PySem.W.Frag} {H : Hp} {Q : VK} {E : XK} {mg : Str → Option Value}
theorem v_inL' {c : Nat} (q : Q (.bl (isL c)) H) : rInX K (.str ⟨#[c]⟩) k_LETTERS H Q := by
  refine v_inS (z := "abcdefghijklmnopqrstuvwxyzABCDEFGHIJKLMNOPQRSTUVWXYZ") ?_
  rw [letters_codes]
  have e : decide (c ∈ [97, 98, 99, 100, 101, 102, 103, 104, 105, 106, 107, 108, 109, 110, 111, 112, 113, 114, 115, 116, 117, 118, 119, 120, 121, 122, 65, 66, 67, 68, 69, 70, 71, 72, 73, 74, 75, 76, 77, 78, 79, 80, 81, 82, 83, 84, 85, 86, 87, 88, 89, 90]) = isL c := by
    rw [Bool.eq_iff_iff, decide_eq_true_iff]
    unfold isL
    simp only [List.mem_cons, List.not_mem_nil, or_false, Bool.or_eq_true, Bool.and_eq_true, decide_eq_true_iff]
    omega
  rw [e]
  exact q
theorem v_inD' {c : Nat} (q : Q (.bl (isD c)) H) : rInX K (.str ⟨#[c]⟩) k_DIGITS H Q := by
  refine v_inS (z := "0123456789") ?_
  rw [digits_codes]
  have e : decide (c ∈ [48, 49, 50, 51, 52, 53, 54, 55, 56, 57]) = isD c := by
    rw [Bool.eq_iff_iff, decide_eq_true_iff]
    unfold isD
    simp only [List.mem_cons, List.not_mem_nil, or_false, Bool.and_eq_true, decide_eq_true_iff]
    omega
  rw [e]
  exact q
theorem sv_u : ("_" : Str) = ⟨#[95]⟩ := by decide +kernel
theorem dOne {c d : Nat} : decide ((⟨#[c]⟩ : Str) = ⟨#[d]⟩) = decide (c = d) := decide_eq_decide.mpr one_eq
theorem rd_word_end {zs : List Nat} {p : Nat} (hz : zs.length ≤ 1000) (hp : p ≤ zs.length) (q : Q (.int ((p + cw isW zs p : Nat) : Int)) H) : sp_word_end K [sv zs, .int (p : Int)] H Q E := by
  refine ⟨rfl, ?_⟩
  unfold t_word_end
  walk_at "go"
  refine g_while ⟨fun m σ H' => ∃ j : Nat, m = zs.length - j ∧ j ≤ zs.length ∧ σ = [some (sv zs), some (.int j)] ∧ H' = H ∧ j + cw isW zs j = p + cw isW zs p, ⟨_, p, rfl, hp, rfl, rfl, rfl⟩, ?_⟩
  rintro m σ H' ⟨j, rfl, hj, rfl, rfl, he⟩
  walk_at "go"
  refine v_lenS (by rw [len_sv, sl_const]; omega) ?_
  rw [len_sv]
  walk_at "go"
  by_cases hlt : j < zs.length
  case neg =>
    rw [decide_eq_false (by omega)]
    walk_at "go"
    rw [cw_end (by omega)] at he
    rw [show j = p + cw isW zs p by omega]
    exact q
  rw [decide_eq_true (by omega)]
  have hc : zs[j]? = some zs[j] := List.getElem?_eq_getElem hlt
  have hcw := cw_at (f := isW) hc
  generalize zs[j] = c at *
  have ix : ∀ {R : VK}, R (.str ⟨#[c]⟩) H' → rIx K (sv zs) (.int (j : Int)) H' R := fun r => v_ixS (c := c) (by rw [len_sv, sl_const]; omega) (atN (i := j) rfl (by simpa using hc)) r
  have stop : isW c = false → Q (.int (j : Int)) H' := fun e => by
    rw [e] at hcw
    rw [if_neg (by decide)] at hcw
    rw [show j = p + cw isW zs p by omega]
    exact q
  have cont : isW c = true → (j + 1) + cw isW zs (j + 1) = p + cw isW zs p := fun e => by
    rw [e, if_pos rfl] at hcw
    omega
  walk_at "go"
  refine ix ?_
  walk_at "go"
  refine v_inL' ?_
  walk_at "go"
  cases hL : isL c with
  | true =>
    walk_at "go"
    refine g_turn ?_
    walk_at "go"
    exact ⟨_, by omega, j + 1, rfl, by omega, rfl, rfl, cont (by unfold isW; rw [hL]; rfl)⟩
  | false =>
    walk_at "go"
    refine ix ?_
    walk_at "go"
    refine v_inD' ?_
    walk_at "go"
    cases hD : isD c with
    | true =>
      walk_at "go"
      refine g_turn ?_
      walk_at "go"
      exact ⟨_, by omega, j + 1, rfl, by omega, rfl, rfl, cont (by unfold isW; rw [hL, hD]; rfl)⟩
    | false =>
      walk_at "go"
      refine ix ?_
      walk_at "go"
      rw [sv_u, dOne]
      by_cases h95 : c = 95
      · rw [decide_eq_true h95]
        walk_at "go"
        refine g_turn ?_
        walk_at "go"
        exact ⟨_, by omega, j + 1, rfl, by omega, rfl, rfl, cont (by unfold isW; rw [hL, hD, decide_eq_true h95]; rfl)⟩
      · rw [decide_eq_false h95]
        walk_at "go"
        exact stop (by unfold isW; rw [hL, hD, decide_eq_false h95]; rfl)
theorem rd_digits_end {zs : List Nat} {p : Nat} (hz : zs.length ≤ 1000) (hp : p ≤ zs.length) (q : Q (.int ((p + cw isD zs p : Nat) : Int)) H) : sp_digits_end K [sv zs, .int (p : Int)] H Q E := by
  refine ⟨rfl, ?_⟩
  unfold t_digits_end
  walk_at "go"
  refine g_while ⟨fun m σ H' => ∃ j : Nat, m = zs.length - j ∧ j ≤ zs.length ∧ σ = [some (sv zs), some (.int j)] ∧ H' = H ∧ j + cw isD zs j = p + cw isD zs p, ⟨_, p, rfl, hp, rfl, rfl, rfl⟩, ?_⟩
  rintro m σ H' ⟨j, rfl, hj, rfl, rfl, he⟩
  walk_at "go"
  refine v_lenS (by rw [len_sv, sl_const]; omega) ?_
  rw [len_sv]
  walk_at "go"
  by_cases hlt : j < zs.length
  case neg =>
    rw [decide_eq_false (by omega)]
    walk_at "go"
    rw [cw_end (by omega)] at he
    rw [show j = p + cw isD zs p by omega]
    exact q
  rw [decide_eq_true (by omega)]
  have hc : zs[j]? = some zs[j] := List.getElem?_eq_getElem hlt
  have hcw := cw_at (f := isD) hc
  generalize zs[j] = c at *
  walk_at "go"
  refine v_ixS (c := c) (by rw [len_sv, sl_const]; omega) (atN (i := j) rfl (by simpa using hc)) ?_
  walk_at "go"
  refine v_inD' ?_
  walk_at "go"
  cases hD : isD c with
  | true =>
    rw [hD, if_pos rfl] at hcw
    walk_at "go"
    refine g_turn ?_
    walk_at "go"
    exact ⟨_, by omega, j + 1, rfl, by omega, rfl, rfl, by omega⟩
  | false =>
    rw [hD, if_neg (by decide)] at hcw
    walk_at "go"
    rw [show j = p + cw isD zs p by omega]
    exact q
end
end Lw

namespace Lw
open PySem PySem.Spec PyProof.Rows L2 G
inductive One where
  | tok (role : Str) (txt : List Nat) (stop : Nat)
  | bad (r : Str) (pl : Nat)
def qOne (zs : List Nat) (p : Nat) : One := match (rq (zs.drop (p + 1))).at [] (p + 1) with
  | .ok t n => .tok "text" t n
  | .opn => .bad "text is not closed" p
  | .bad k => .bad "unexpected sign" k
def two (zs : List Nat) (p : Nat) : List Nat := (zs.drop p).take 2
def isT (l : List Nat) : Bool := decide (l = [46, 46]) || decide (l = [45, 62])
def isS (c : Nat) : Bool := decide (c = 46) || (decide (c = 45) || decide (c = 123))
def sgn (zs : List Nat) (p c : Nat) : One := if isT (two zs p) = true then .tok "sign" (two zs p) (p + 2) else if isS c = true then .tok "sign" [c] (p + 1) else .bad "unexpected sign" p
def wOne (zs : List Nat) (p : Nat) : One := if 12 < cw isW zs p then .bad "word too long" p else .tok "word" ((zs.drop p).take (cw isW zs p)) (p + cw isW zs p)
def nOne (zs : List Nat) (p c : Nat) : One := if 1 < cw isD zs p ∧ c = 48 then .bad "needless zero" p else if 18 < cw isD zs p then .bad "number too long" p else
  if 0 < cw isW zs (p + cw isD zs p) then .bad "unexpected sign" (p + cw isD zs p) else .tok "number" ((zs.drop p).take (cw isD zs p)) (p + cw isD zs p)
def one (zs : List Nat) (p c : Nat) : One := if c = 34 then qOne zs p else if isL c = true then wOne zs p else if isD c = true then nOne zs p c else sgn zs p c
theorem cut_at {zs : List Nat} {p n : Nat} (hp : p ≤ zs.length) : cutS ⟨zs.toArray⟩ (some (p : Int)) (some ((p : Int) + (n : Int))) = ⟨((zs.drop p).take n).toArray⟩ := by
  unfold cutS
  rw [HT.sIx_nat, show (p : Int) + (n : Int) = ((p + n : Nat) : Int) by omega, HT.sIx_nat, len_sv]
  show (⟨((zs.toArray.toList.drop (min p zs.length)).take (min (p + n) zs.length - min p zs.length)).toArray⟩ : Str) = _
  rw [show zs.toArray.toList = zs from rfl, show min p zs.length = p by omega]
  congr 2
  by_cases h : p + n ≤ zs.length
  · rw [show min (p + n) zs.length - p = n by omega]
  · rw [List.take_of_length_le (by rw [List.length_drop]; omega), List.take_of_length_le (by rw [List.length_drop]; omega)]
def stepS (D : List Nat) (acc s : List Nat) : List Nat := if D.take s.length = s ∧ acc.length < s.length then s else acc
def sgs : List (List Nat) := [[46], [46, 46], [45], [45, 62], [123]]
theorem fold_sg {c : Nat} {r : List Nat} : sgs.foldl (stepS (c :: r)) [] = if isT ((c :: r).take 2) = true then (c :: r).take 2 else if isS c = true then [c] else [] := by
  unfold sgs isT isS stepS
  cases r with
  | nil =>
    by_cases h1 : c = 46 <;> by_cases h2 : c = 45 <;> by_cases h3 : c = 123 <;> simp_all
  | cons d r =>
    by_cases h1 : c = 46 <;> by_cases h2 : c = 45 <;> by_cases h3 : c = 123 <;> by_cases h4 : d = 46 <;> by_cases h5 : d = 62 <;> simp_all
section
variable {K : PySem.W.Frag} {H : Hp} {Q : VK} {E : XK} {mg : Str → Option Value}
/-- a token or a fault -/
def TokK (K : PySem.W.Frag) (p : Nat) (H : Hp) (Q : VK) (E : XK) : One → Prop
  | .tok role txt _ => ∀ x H', H x = none → Same H H' → TokAt K H' x (.str role) (sv txt) (.int p) → Q (.ref x) H'
  | .bad r k => FE K E H k r
theorem rd_read_word (T : Tx K mg) {zs : List Nat} {p : Nat} (hz : zs.length ≤ 1000) (hp : p ≤ zs.length) (q : TokK K p H Q E (wOne zs p)) : sp_read_word K [sv zs, .int (p : Int)] H Q E := by
  refine ⟨rfl, ?_⟩
  unfold t_read_word
  walk_at "go"
  refine rd_word_end hz hp ?_
  walk_at "go"
  have hle := cw_le (f := isW) hp
  rw [show ((p + cw isW zs p : Nat) : Int) - (p : Int) = (cw isW zs p : Nat) by omega]
  unfold k_WORD_LENGTH
  walk_at "go"
  unfold wOne at q
  by_cases h : 12 < cw isW zs p
  · rw [if_pos h] at q
    rw [decide_eq_true (by omega)]
    walk_at "go"
    exact v_fau (by omega) (by decide +kernel) fun d hd => q d _ (fun _ _ e => e) hd
  · rw [if_neg h] at q
    rw [decide_eq_false (by omega)]
    walk_at "go"
    refine v_slS (by rw [len_sv, sl_const]; omega) ?_
    walk_at "go"
    rw [show ((p + cw isW zs p : Nat) : Int) = (p : Int) + (cw isW zs p : Nat) by omega, cut_at hp]
    exact mk_token T fun x H2 hx0 hs2 ht => q x H2 hx0 hs2 ht
theorem rd_read_number (T : Tx K mg) {zs : List Nat} {p c : Nat} (hz : zs.length ≤ 1000) (hc : zs[p]? = some c) (q : TokK K p H Q E (nOne zs p c)) : sp_read_number K [sv zs, .int (p : Int)] H Q E := by
  have hpl := (List.getElem?_eq_some_iff.mp hc).1
  have hp : p ≤ zs.length := by omega
  refine ⟨rfl, ?_⟩
  unfold t_read_number
  walk_at "go"
  refine rd_digits_end hz hp ?_
  walk_at "go"
  have hle := cw_le (f := isD) hp
  have e1 : ((p + cw isD zs p : Nat) : Int) - (p : Int) = (cw isD zs p : Nat) := by omega
  have sv0 : ("0" : Str) = ⟨#[48]⟩ := by decide +kernel
  rw [e1]
  unfold nOne at q
  have second : ¬ (1 < cw isD zs p ∧ c = 48) → tSeq (tIfS (tTest (tOp rGtX (tOp rSubX (tVar 2) (tVar 1)) (tC k_NUMBER_LENGTH))) (tRaiseF (He.ga K "Fault") (fun cls d _ H => E cls d H) (tCons (tVar 1) (tCons (tC (.str ("number too long" : Str))) tNil))) tNext) (tSeq (tIfS (tTest (tOp rGtX (tCallSD (sp_word_end K) [] Ez (tCons (tVar 0) (tCons (tVar 2) tNil))) (tVar 2))) (tRaiseF (He.ga K "Fault") (fun cls d _ H => E cls d H) (tCons (tVar 2) (tCons (tC (.str ("unexpected sign" : Str))) tNil))) tNext) (tRet (tMake (He.ga K ("Token" : Str)) (sp_Token_init K) [] E0 (tCons (tC (.str ("number" : Str))) (tCons (tSl (rSlX K) (tVar 0) (tPart (tVar 1)) (tPart (tVar 2))) (tCons (tVar 1) tNil))))))
      ⟨fun _ H' => Q .non H', Q, fun _ _ => False, fun _ _ => False⟩ [some (sv zs), some (.int p), some (.int ((p + cw isD zs p : Nat) : Int))] H := by
    intro hn
    rw [if_neg hn] at q
    walk_at "go"
    rw [e1]
    unfold k_NUMBER_LENGTH
    walk_at "go"
    by_cases h : 18 < cw isD zs p
    · rw [if_pos h] at q
      rw [decide_eq_true (by omega)]
      walk_at "go"
      exact v_fau (by omega) (by decide +kernel) fun d hd => q d _ (fun _ _ e => e) hd
    rw [if_neg h] at q
    rw [decide_eq_false (by omega)]
    walk_at "go"
    refine rd_word_end hz hle ?_
    walk_at "go"
    by_cases h2 : 0 < cw isW zs (p + cw isD zs p)
    · rw [if_pos h2] at q
      rw [decide_eq_true (by omega)]
      walk_at "go"
      exact v_fau (by omega) (by decide +kernel) fun d hd => q d _ (fun _ _ e => e) hd
    rw [if_neg h2] at q
    rw [decide_eq_false (by omega)]
    walk_at "go"
    refine v_slS (by rw [len_sv, sl_const]; omega) ?_
    walk_at "go"
    rw [show ((p + cw isD zs p : Nat) : Int) = (p : Int) + (cw isD zs p : Nat) by omega, cut_at hp]
    exact mk_token T fun x H2 hx0 hs2 ht => q x H2 hx0 hs2 ht
  by_cases h1 : 1 < cw isD zs p
  · rw [decide_eq_true (by omega)]
    walk_at "go"
    refine v_ixS (c := c) (by rw [len_sv, sl_const]; omega) (atN (i := p) rfl (by simpa using hc)) ?_
    walk_at "go"
    rw [sv0, dOne]
    by_cases h2 : c = 48
    · rw [if_pos ⟨h1, h2⟩] at q
      rw [decide_eq_true h2]
      walk_at "go"
      exact v_fau (by omega) (by decide +kernel) fun d hd => q d _ (fun _ _ e => e) hd
    · rw [decide_eq_false h2]
      refine iteF ?_
      refine g_next ?_
      exact second fun z => h2 z.2
  · rw [decide_eq_false (by omega)]
    refine iteF ?_
    refine iteF ?_
    refine g_next ?_
    exact second fun z => h1 z.1
end
end Lw

namespace Lw
open PySem PySem.Spec PyProof.Rows L2 G
theorem sw_at {zs s : List Nat} {p : Nat} : Txt.startswith3 ⟨zs.toArray⟩ ⟨s.toArray⟩ (p : Int) = decide (s.length + p ≤ zs.length ∧ (zs.drop p).take s.length = s) := by
  have e : (zs.toArray.extract p (p + s.length)).toList = (zs.drop p).take s.length := by
    rw [Array.toList_extract]
    simp [List.extract_eq_take_drop]
  unfold Txt.startswith3
  have f : ∀ n : Nat, fromIndex n (p : Int) = p := fun n => by unfold fromIndex; rw [if_neg (by omega)]; omega
  rw [f, len_sv, len_sv]
  have g : Builtin.Str.subAt ⟨zs.toArray⟩ ⟨s.toArray⟩ p = decide ((zs.drop p).take s.length = s) := by
    unfold Builtin.Str.subAt
    rw [len_sv, ← e, Bool.eq_iff_iff, decide_eq_true_iff, beq_iff_eq]
    constructor
    · intro h; rw [h]
    · intro h
      apply Array.toList_inj.mp
      exact h
  rw [g, Bool.eq_iff_iff, Bool.and_eq_true, decide_eq_true_iff, decide_eq_true_iff, decide_eq_true_iff, Nat.add_comm]
theorem sw_sg {zs s : List Nat} {p : Nat} (hp : p ≤ zs.length) : Txt.startswith3 ⟨zs.toArray⟩ ⟨s.toArray⟩ (p : Int) = decide ((zs.drop p).take s.length = s) := by
  rw [sw_at]
  refine decide_eq_decide.mpr ⟨fun h => h.2, fun h => ⟨?_, h⟩⟩
  have := congrArg List.length h
  rw [List.length_take, List.length_drop] at this
  omega
theorem sgs_v : ([V.str ".", V.str "..", V.str "-", V.str "->", V.str "{"] : List V) = sgs.map sv := by
  have e1 : ("." : Str) = ⟨#[46]⟩ := by decide +kernel
  have e2 : (".." : Str) = ⟨#[46, 46]⟩ := by decide +kernel
  have e3 : ("-" : Str) = ⟨#[45]⟩ := by decide +kernel
  have e4 : ("->" : Str) = ⟨#[45, 62]⟩ := by decide +kernel
  have e5 : ("{" : Str) = ⟨#[123]⟩ := by decide +kernel
  rw [e1, e2, e3, e4, e5]
  rfl
theorem stepS_len {D acc s : List Nat} (h1 : acc.length ≤ 1000) (h2 : s.length ≤ 1000) : (stepS D acc s).length ≤ 1000 := by
  unfold stepS
  split <;> assumption
theorem sv_inj {a b : List Nat} (h : (⟨a.toArray⟩ : Str) = ⟨b.toArray⟩) : a = b := by
  have := congrArg (fun s : Str => s.cps.toList) h
  simpa using this
theorem dSv {a b : List Nat} : decide ((⟨a.toArray⟩ : Str) = ⟨b.toArray⟩) = decide (a = b) := decide_eq_decide.mpr ⟨sv_inj, fun h => by rw [h]⟩
theorem sv_e : ("" : Str) = ⟨([] : List Nat).toArray⟩ := by decide +kernel
section
variable {K : PySem.W.Frag} {H : Hp} {Q : VK} {E : XK} {mg : Str → Option Value}
theorem rd_read_sign (T : Tx K mg) {zs : List Nat} {p c : Nat} {g : Addr} (hz : zs.length ≤ 1000) (hc : zs[p]? = some c) (hg : SqT K H g (sgs.map sv)) (q : TokK K p H Q E (sgn zs p c)) : sp_read_sign K [sv zs, .int (p : Int), .ref g] H Q E := by
  have hpl := (List.getElem?_eq_some_iff.mp hc).1
  have hp : p ≤ zs.length := by omega
  refine ⟨rfl, ?_⟩
  unfold t_read_sign
  walk_at "go"
  refine gi_tup ?_
  walk_at "go"
  refine v_ovT hg ?_
  refine l_tup (fun i σ H' => ∃ v4 : Option V, σ = [some (sv zs), some (.int p), some (.ref g), some (sv ((sgs.take i).foldl (stepS (zs.drop p)) [])), v4] ∧ H' = H ∧ ((sgs.take i).foldl (stepS (zs.drop p)) []).length ≤ 1000)
    ⟨none, by rw [sv_e]; rfl, rfl, by simp⟩ (fun i σ H' _ ⟨_, _, e, _⟩ => by rw [e]; exact hg) ?_ ?_
  · rintro i x σ H' hx ⟨v4, rfl, rfl, hacc⟩
    rw [List.getElem?_map] at hx
    obtain ⟨s, hs, rfl⟩ := Option.map_eq_some_iff.mp hx
    have hsl : s.length ≤ 1000 := by
      have := List.mem_of_getElem? hs
      unfold sgs at this
      simp only [List.mem_cons, List.not_mem_nil, or_false] at this
      rcases this with rfl | rfl | rfl | rfl | rfl <;> decide
    have tk : sgs.take (i + 1) = sgs.take i ++ [s] := by rw [List.take_add_one, hs]; rfl
    rw [tk, List.foldl_append]
    generalize (sgs.take i).foldl (stepS (zs.drop p)) [] = acc at *
    show (tIfS _ _ _ _ _ _)
    have nxt : ∀ b, stepS (zs.drop p) acc s = b → b.length ≤ 1000 := fun b e => by rw [← e]; exact stepS_len hacc hsl
    walk_at "go"
    rw [sw_sg hp]
    by_cases h1 : (zs.drop p).take s.length = s
    · rw [decide_eq_true h1]
      walk_at "go"
      refine v_lenS (by rw [len_sv, sl_const]; omega) ?_
      rw [len_sv]
      walk_at "go"
      refine v_lenS (by rw [len_sv, sl_const]; omega) ?_
      rw [len_sv]
      walk_at "go"
      by_cases h2 : acc.length < s.length
      · rw [decide_eq_true (by omega)]
        walk_at "go"
        have e : [s].foldl (stepS (zs.drop p)) acc = s := by show stepS _ _ _ = s; unfold stepS; rw [if_pos ⟨h1, h2⟩]
        rw [e]
        exact ⟨_, rfl, rfl, hsl⟩
      · rw [decide_eq_false (by omega)]
        walk_at "go"
        have e : [s].foldl (stepS (zs.drop p)) acc = acc := by show stepS _ _ _ = acc; unfold stepS; rw [if_neg (fun z => h2 z.2)]
        rw [e]
        exact ⟨_, rfl, rfl, hacc⟩
    · rw [decide_eq_false h1]
      walk_at "go"
      have e : [s].foldl (stepS (zs.drop p)) acc = acc := by show stepS _ _ _ = acc; unfold stepS; rw [if_neg (fun z => h1 z.1)]
      rw [e]
      exact ⟨_, rfl, rfl, hacc⟩
  · rintro σ H' ⟨v4, rfl, rfl, _⟩
    have ef : (sgs.take (sgs.map sv).length).foldl (stepS (zs.drop p)) [] = if isT (two zs p) = true then two zs p else if isS c = true then [c] else [] := by
      rw [show sgs.take (sgs.map sv).length = sgs from rfl, drop_cons' hc, fold_sg]
      unfold two
      rw [drop_cons' hc]
    rw [ef]
    unfold sgn at q
    walk_at "go"
    rw [sv_e, dSv]
    by_cases h1 : isT (two zs p) = true
    · rw [if_pos h1] at q ⊢
      have ne : two zs p ≠ [] := fun z => by rw [z] at h1; cases h1
      rw [decide_eq_false ne]
      walk_at "go"
      exact mk_token T fun x H2 hx0 hs2 ht => q x H2 hx0 hs2 ht
    · rw [if_neg h1] at q ⊢
      by_cases h2 : isS c = true
      · rw [if_pos h2] at q ⊢
        rw [decide_eq_false (by simp)]
        walk_at "go"
        exact mk_token T fun x H2 hx0 hs2 ht => q x H2 hx0 hs2 ht
      · rw [if_neg h2] at q ⊢
        rw [decide_eq_true rfl]
        walk_at "go"
        exact v_fau (by omega) (by decide +kernel) fun d hd => q d _ (fun _ _ e => e) hd
end
end Lw

namespace Lw
open PySem PySem.Spec PyProof.Rows L2 G
abbrev Tk := Str × List Nat × Nat
inductive Res where
  | ok (l : List Tk)
  | bad (r : Str) (k : Nat)
def Res.pre (acc : List Tk) : Res → Res
  | .ok l => .ok (acc ++ l)
  | .bad r k => .bad r k
theorem pre_pre {a b : List Tk} {r : Res} : (r.pre b).pre a = r.pre (a ++ b) := by cases r <;> simp [Res.pre]
def scan (zs : List Nat) (p : Nat) : Res :=
  if h : p < zs.length then
    if zs[p] = 32 then scan zs (p + 1)
    else match one zs p zs[p] with
      | .tok r t s => if h2 : p < s then (scan zs s).pre [(r, t, p)] else .bad "" 0
      | .bad r k => .bad r k
  else .ok [("end", [], zs.length)]
termination_by zs.length - p
theorem scan_end {zs : List Nat} {p : Nat} (h : zs.length ≤ p) : scan zs p = .ok [("end", [], zs.length)] := by
  rw [scan, dif_neg (by omega)]
theorem scan_blank {zs : List Nat} {p : Nat} (h : zs[p]? = some 32) : scan zs p = scan zs (p + 1) := by
  obtain ⟨h1, h2⟩ := List.getElem?_eq_some_iff.mp h
  rw [scan, dif_pos h1, if_pos h2]
theorem scan_tok {zs : List Nat} {p c s : Nat} {r : Str} {t : List Nat} (h : zs[p]? = some c) (hc : c ≠ 32) (e : one zs p c = .tok r t s) (hs : p < s) : scan zs p = (scan zs s).pre [(r, t, p)] := by
  obtain ⟨h1, h2⟩ := List.getElem?_eq_some_iff.mp h
  rw [scan, dif_pos h1, h2, if_neg hc, e]
  simp [hs]
theorem scan_bad {zs : List Nat} {p c k : Nat} {r : Str} (h : zs[p]? = some c) (hc : c ≠ 32) (e : one zs p c = .bad r k) : scan zs p = .bad r k := by
  obtain ⟨h1, h2⟩ := List.getElem?_eq_some_iff.mp h
  rw [scan, dif_pos h1, h2, if_neg hc, e]
theorem rq_pos : ∀ {l t : List Nat} {n : Nat}, rq l = .ok t n → 1 ≤ n
  | [], _, _, h => by simp [rq] at h
  | [c], t, n, h => by
    by_cases e : c = 34
    · simp [rq, e] at h; omega
    · simp [rq, e] at h
  | c :: d :: r, t, n, h => by
    rw [rq] at h
    by_cases e : c = 34
    · rw [if_pos e] at h
      injection h with h1 h2
      omega
    · rw [if_neg e] at h
      by_cases e2 : c = 92
      · rw [if_pos e2] at h
        by_cases e3 : d = 34 ∨ d = 92
        · rw [if_pos e3] at h
          cases hr : rq r with
          | ok t' n' => rw [hr] at h; simp [Rq.more] at h; omega
          | opn => rw [hr] at h; simp [Rq.more] at h
          | bad k => rw [hr] at h; simp [Rq.more] at h
        · rw [if_neg e3] at h; cases h
      · rw [if_neg e2] at h
        cases hr : rq (d :: r) with
        | ok t' n' => rw [hr] at h; simp [Rq.more] at h; omega
        | opn => rw [hr] at h; simp [Rq.more] at h
        | bad k => rw [hr] at h; simp [Rq.more] at h
theorem at_ok {r : Rq} {acc t : List Nat} {i n : Nat} (h : r.at acc i = .ok t n) (hr : ∀ t' n', r = .ok t' n' → 1 ≤ n') : i < n := by
  cases r with
  | ok t' n' =>
    have := hr t' n' rfl
    simp [Rq.at] at h
    omega
  | opn => cases h
  | bad k => cases h
theorem isT_len {l : List Nat} (h : isT l = true) : l.length = 2 := by
  unfold isT at h
  rw [Bool.or_eq_true, decide_eq_true_iff, decide_eq_true_iff] at h
  rcases h with h | h <;> rw [h] <;> rfl
/-- where a token ends -/
theorem one_stop {zs : List Nat} {p c s : Nat} {r : Str} {t : List Nat} (h : zs[p]? = some c) (e : one zs p c = .tok r t s) : p < s ∧ (c ≠ 34 → s = p + t.length) := by
  have hpl := (List.getElem?_eq_some_iff.mp h).1
  unfold one at e
  have tl : ∀ f : Nat → Bool, ((zs.drop p).take (cw f zs p)).length = cw f zs p := fun f => by
    have := cw_le (f := f) (zs := zs) (p := p) (by omega)
    rw [List.length_take, List.length_drop]
    omega
  by_cases h34 : c = 34
  · rw [if_pos h34] at e
    unfold qOne at e
    refine ⟨?_, fun z => absurd h34 z⟩
    split at e
    · rename_i t' n' hq
      injection e with e1 e2 e3
      have := at_ok hq fun t' n' => rq_pos
      omega
    · cases e
    · cases e
  rw [if_neg h34] at e
  by_cases hL : isL c = true
  · rw [if_pos hL] at e
    unfold wOne at e
    split at e
    · cases e
    · injection e with e1 e2 e3
      have := cw_at (f := isW) h
      rw [if_pos (by unfold isW; rw [hL]; rfl)] at this
      refine ⟨by omega, fun _ => ?_⟩
      rw [← e2, tl, e3]
  rw [if_neg hL] at e
  by_cases hD : isD c = true
  · rw [if_pos hD] at e
    unfold nOne at e
    split at e
    · cases e
    split at e
    · cases e
    split at e
    · cases e
    injection e with e1 e2 e3
    have := cw_at (f := isD) h
    rw [if_pos hD] at this
    refine ⟨by omega, fun _ => ?_⟩
    rw [← e2, tl, e3]
  rw [if_neg hD] at e
  unfold sgn at e
  split at e
  · rename_i hT
    injection e with e1 e2 e3
    refine ⟨by omega, fun _ => ?_⟩
    rw [← e2, isT_len hT]
    omega
  · split at e
    · injection e with e1 e2 e3
      refine ⟨by omega, fun _ => ?_⟩
      rw [← e2]
      show s = p + 1
      omega
    · cases e
def TkAt (K : PySem.W.Frag) (H : Hp) (v : V) (t : Tk) : Prop := ∃ x, v = .ref x ∧ TokAt K H x (.str t.1) (sv t.2.1) (.int t.2.2)
/-- a list of tokens -/
def TksAt (K : PySem.W.Frag) (H : Hp) (l : Addr) (ts : List Tk) : Prop := ∃ vs, H l = some (.lst vs) ∧ vs.length = ts.length ∧ ∀ (i : Nat) (v : V) (t : Tk), vs[i]? = some v → ts[i]? = some t → TkAt K H v t
theorem TksAt.same {K : PySem.W.Frag} {H H' : Hp} {l : Addr} {ts : List Tk} (h : TksAt K H l ts) (s : Same H H') : TksAt K H' l ts := by
  obtain ⟨vs, a, b, c⟩ := h
  exact ⟨vs, s _ _ a, b, fun i v t e1 e2 => by obtain ⟨x, e, k⟩ := c i v t e1 e2; exact ⟨x, e, k.same s⟩⟩
theorem push_tk {K : PySem.W.Frag} {H : Hp} {l x : Addr} {ts : List Tk} {t : Tk} {vs : List V} (h : TksAt K H l ts) (hl : H l = some (.lst vs)) (ht : TokAt K H x (.str t.1) (sv t.2.1) (.int t.2.2)) : TksAt K (upd H l (.lst (vs ++ [.ref x]))) l (ts ++ [t]) := by
  obtain ⟨vs', e, el, hr⟩ := h
  rw [hl] at e
  cases e
  have ne : ∀ {y r u p}, TokAt K H y r u p → y ≠ l := fun {y r u p} k z => by
    obtain ⟨dx, k⟩ := k
    rw [z, hl] at k
    cases k
  refine ⟨_, upd_same, by simp [el], fun i w y hw hy => ?_⟩
  by_cases hi : i < vs.length
  · rw [List.getElem?_append_left hi] at hw
    rw [List.getElem?_append_left (by omega)] at hy
    obtain ⟨z, e, k⟩ := hr i w y hw hy
    exact ⟨z, e, k.sb Sb.upd (ne k)⟩
  · rw [List.getElem?_append_right (by omega)] at hw hy
    rw [el] at hw
    generalize i - ts.length = k at hw hy
    match k with
    | 0 => cases hw; cases hy; exact ⟨x, rfl, ht.sb Sb.upd (ne ht)⟩
    | k + 1 => cases hw
end Lw

namespace Lw
open PySem PySem.Spec PyProof.Rows L2 G
theorem rq_le : ∀ {l t : List Nat} {n : Nat}, rq l = .ok t n → n ≤ l.length
  | [], _, _, h => by simp [rq] at h
  | [c], t, n, h => by
    by_cases e : c = 34
    · simp [rq, e] at h; simp; omega
    · simp [rq, e] at h
  | c :: d :: r, t, n, h => by
    rw [rq] at h
    by_cases e : c = 34
    · rw [if_pos e] at h
      injection h with h1 h2
      simp only [List.length_cons]
      omega
    · rw [if_neg e] at h
      by_cases e2 : c = 92
      · rw [if_pos e2] at h
        by_cases e3 : d = 34 ∨ d = 92
        · rw [if_pos e3] at h
          cases hr : rq r with
          | ok t' n' =>
            have ih := rq_le hr
            rw [hr] at h; simp [Rq.more] at h; simp only [List.length_cons]; omega
          | opn => rw [hr] at h; simp [Rq.more] at h
          | bad k => rw [hr] at h; simp [Rq.more] at h
        · rw [if_neg e3] at h; cases h
      · rw [if_neg e2] at h
        cases hr : rq (d :: r) with
        | ok t' n' =>
          have ih := rq_le hr
          rw [hr] at h; simp [Rq.more] at h; simp only [List.length_cons] at ih ⊢; omega
        | opn => rw [hr] at h; simp [Rq.more] at h
        | bad k => rw [hr] at h; simp [Rq.more] at h
theorem at_le {l acc t : List Nat} {i n : Nat} (h : (rq l).at acc i = .ok t n) (hr : ∀ t' n', rq l = .ok t' n' → n' ≤ l.length) : n ≤ i + l.length := by
  cases e : rq l with
  | ok t' n' =>
    have := hr t' n' e
    rw [e] at h
    simp [Rq.at] at h
    omega
  | opn => rw [e] at h; cases h
  | bad k => rw [e] at h; cases h
theorem sv_bl : (" " : Str) = ⟨#[32]⟩ := by decide +kernel
theorem tk_text {r t p : V} : (tkF r t p).lookup ("text" : Str) = some t := by
  unfold tkF
  rw [lookup_put, if_neg (by decide +kernel), lookup_put, if_pos rfl]
theorem tk_role {r t p : V} : (tkF r t p).lookup ("role" : Str) = some r := by
  unfold tkF
  rw [lookup_put, if_pos rfl]
theorem tk_place {r t p : V} : (tkF r t p).lookup ("place" : Str) = some p := by
  unfold tkF
  rw [lookup_put, if_neg (by decide +kernel), lookup_put, if_neg (by decide +kernel), lookup_put, if_pos rfl]
section
variable {K : PySem.W.Frag} {H : Hp} {Q : VK} {E : XK} {mg : Str → Option Value}
theorem rd_tokens (T : Tx K mg) {zs : List Nat} {g : Addr} {n : Nat} (hz : zs.length ≤ 1000) (hg : H g = some (.tup (sgs.map sv))) (h0 : n < zs.length → FE K E H 0 "text too long")
    (h1 : zs.length ≤ n → ∀ l, scan zs 0 = .ok l → ∀ R H', Same H H' → TksAt K H' R l → Q (.ref R) H') (h2 : zs.length ≤ n → ∀ r k, scan zs 0 = .bad r k → FE K E H k r) : sp_tokens K [sv zs, .ref g, .int (n : Int)] H Q E := by
  refine ⟨rfl, ?_⟩
  unfold t_tokens
  walk_at "go"
  refine v_lenS (by rw [len_sv, sl_const]; omega) ?_
  rw [len_sv]
  walk_at "go"
  by_cases hlong : n < zs.length
  · rw [decide_eq_true (by omega)]
    walk_at "go"
    exact v_fau (by decide) (by decide +kernel) fun d hd => h0 hlong d _ (fun _ _ e => e) hd
  rw [decide_eq_false (by omega)]
  have h1 := h1 (by omega)
  have h2 := h2 (by omega)
  clear h0
  walk_at "go"
  intro R hR
  walk_at "go"
  refine g_while ⟨fun m σ H' => ∃ (p : Nat) (acc : List Tk) (v5 v6 : Option V), m = zs.length - p ∧ σ = [some (sv zs), some (.ref g), some (.int n), some (.ref R), some (.int p), v5, v6] ∧ Same H H' ∧ TksAt K H' R acc ∧ acc.length ≤ p ∧ scan zs 0 = (scan zs p).pre acc ∧ p ≤ 100000,
    ⟨_, 0, [], none, none, rfl, rfl, same_new hR, ⟨[], upd_same, rfl, fun i v t h => (by cases h)⟩, Nat.le_refl _, by cases scan zs 0 <;> rfl, by omega⟩, ?_⟩
  rintro m σ H' ⟨p, acc, v5, v6, rfl, rfl, s, hT, hal, hsc, hpb⟩
  obtain ⟨vs, hv, hvl, _⟩ := id hT
  walk_at "go"
  refine v_lenS (by rw [len_sv, sl_const]; omega) ?_
  rw [len_sv]
  walk_at "go"
  by_cases hlt : p < zs.length
  case neg =>
    rw [decide_eq_false (by omega)]
    walk_at "go"
    refine g_tyL hv ?_
    walk_at "go"
    refine v_lenS (by rw [len_sv, sl_const]; omega) ?_
    rw [len_sv]
    walk_at "go"
    refine mk_token T fun x H2 hx0 s2 ht => ?_
    walk_at "go"
    refine v_append (s2 _ _ hv) (by rw [hvl, sl_const]; omega) ?_
    walk_at "go"
    rw [scan_end (p := p) (by omega)] at hsc
    refine h1 _ hsc R _ (fun b o e => ?_) (push_tk (t := (("end" : Str), [], zs.length)) (hT.same s2) (s2 _ _ hv) (by rw [sv_e] at ht; exact ht))
    rw [upd_ne (ne_of_none e hR)]
    exact s2 _ _ (s _ _ e)
  rw [decide_eq_true (by omega)]
  have hc : zs[p]? = some zs[p] := List.getElem?_eq_getElem hlt
  generalize zs[p] = c at hc
  walk_at "go"
  refine g_turn ?_
  walk_at "go"
  refine v_ixS (c := c) (by rw [len_sv, sl_const]; omega) (atN (i := p) rfl (by simpa using hc)) ?_
  walk_at "go"
  rw [sv_bl, dOne]
  by_cases h32 : c = 32
  · rw [decide_eq_true h32]
    subst h32
    walk_at "go"
    exact ⟨_, by omega, p + 1, acc, _, _, rfl, rfl, s, hT, by omega, by rw [hsc, scan_blank hc], by omega⟩
  rw [decide_eq_false h32]
  have sR : ∀ {H2 : Hp} {l : List V}, Same H' H2 → Same H (upd H2 R (.lst l)) := fun {H2 l} s2 b o e => by
    rw [upd_ne (ne_of_none e hR)]
    exact s2 _ _ (s _ _ e)
  -- a token at p that is no quoted text
  have put : ∀ (r : Str) (t : List Nat) (st : Nat) (x : Addr) (H2 : Hp), c ≠ 34 → one zs p c = .tok r t st → Same H' H2 → TokAt K H2 x (.str r) (sv t) (.int p) →
      ∃ m', m' < zs.length - p ∧ ∃ (p' : Nat) (acc' : List Tk) (v5 v6 : Option V), m' = zs.length - p' ∧ [some (sv zs), some (.ref g), some (.int n), some (.ref R), some (.int ((p : Int) + (t.length : Int))), some (.str ⟨#[c]⟩), some (.ref x)] = [some (sv zs), some (.ref g), some (.int n), some (.ref R), some (.int p'), v5, v6] ∧ Same H (upd H2 R (.lst (vs ++ [.ref x]))) ∧ TksAt K (upd H2 R (.lst (vs ++ [.ref x]))) R acc' ∧ acc'.length ≤ p' ∧ scan zs 0 = (scan zs p').pre acc' ∧ p' ≤ 100000 := by
    intro r t st x H2 h34 e s2 ht
    have k := one_stop hc e
    have hs := k.2 h34
    subst hs
    have tlb : t.length ≤ zs.length := by
      unfold one at e
      rw [if_neg h34] at e
      have tk : ∀ n, ((zs.drop p).take n).length ≤ zs.length := fun n => by rw [List.length_take, List.length_drop]; omega
      by_cases hL : isL c = true
      · rw [if_pos hL] at e
        unfold wOne at e
        split at e
        · cases e
        · injection e with e1 e2 e3; rw [← e2]; exact tk _
      rw [if_neg hL] at e
      by_cases hD : isD c = true
      · rw [if_pos hD] at e
        unfold nOne at e
        split at e
        · cases e
        split at e
        · cases e
        split at e
        · cases e
        injection e with e1 e2 e3; rw [← e2]; exact tk _
      rw [if_neg hD] at e
      unfold sgn at e
      split at e
      · injection e with e1 e2 e3; rw [← e2]; exact tk _
      · split at e
        · injection e with e1 e2 e3; rw [← e2]; show 1 ≤ _; omega
        · cases e
    refine ⟨zs.length - (p + t.length), by omega, p + t.length, acc ++ [(r, t, p)], some (.str ⟨#[c]⟩), some (.ref x), rfl, ?_, sR s2, push_tk (t := (r, t, p)) (hT.same s2) (s2 _ _ hv) ht, by rw [List.length_append]; show _ + 1 ≤ _; omega, ?_, by omega⟩
    · rw [show ((p + t.length : Nat) : Int) = (p : Int) + (t.length : Int) by omega]
    · rw [hsc, scan_tok hc h32 e k.1, pre_pre]
  have bad : ∀ (r : Str) (k : Nat), one zs p c = .bad r k → FE K E H' k r := fun r k e => by
    refine FE.same (h2 r k ?_) s
    rw [hsc, scan_bad hc h32 e]
    rfl
  walk_at "go"
  refine v_inL' ?_
  walk_at "go"
  by_cases hL : isL c = true
  · have h34 : c ≠ 34 := fun z => by rw [z] at hL; cases hL
    have eo : one zs p c = wOne zs p := by unfold one; rw [if_neg h34, if_pos hL]
    rw [hL]
    walk_at "go"
    refine rd_read_word T hz (by omega) ?_
    rw [← eo]
    cases ho : one zs p c with
    | bad r k => exact bad r k ho
    | tok r t st =>
      intro x H2 hx0 s2 ht
      have tl : t.length ≤ 1000 := by
        rw [eo] at ho
        unfold wOne at ho
        split at ho
        · cases ho
        · injection ho with e1 e2 e3; rw [← e2, List.length_take]; omega
      walk_at "go"
      refine g_tyL (s2 _ _ hv) ?_
      walk_at "go"
      refine v_append (s2 _ _ hv) (by rw [hvl, sl_const]; omega) ?_
      walk_at "go"
      obtain ⟨dx, htt⟩ := id ht
      have nx : x ≠ R := fun z => by rw [z, s2 _ _ hv] at htt; cases htt
      refine v_fld (by rw [upd_ne nx]; exact htt) T.cl_Token T.no_Token_text tk_text ?_
      walk_at "go"
      refine v_lenS (by rw [len_sv, sl_const]; omega) ?_
      rw [len_sv]
      walk_at "go"
      exact put r t st x H2 h34 ho s2 ht
  rw [Bool.not_eq_true _ |>.mp hL]
  walk_at "go"
  refine v_inD' ?_
  walk_at "go"
  by_cases hD : isD c = true
  · have h34 : c ≠ 34 := fun z => by rw [z] at hD; cases hD
    have eo : one zs p c = nOne zs p c := by unfold one; rw [if_neg h34, if_neg hL, if_pos hD]
    rw [hD]
    walk_at "go"
    refine rd_read_number T hz hc ?_
    rw [← eo]
    cases ho : one zs p c with
    | bad r k => exact bad r k ho
    | tok r t st =>
      intro x H2 hx0 s2 ht
      have tl : t.length ≤ 1000 := by
        rw [eo] at ho
        unfold nOne at ho
        split at ho
        · cases ho
        split at ho
        · cases ho
        split at ho
        · cases ho
        injection ho with e1 e2 e3; rw [← e2, List.length_take]; omega
      walk_at "go"
      refine g_tyL (s2 _ _ hv) ?_
      walk_at "go"
      refine v_append (s2 _ _ hv) (by rw [hvl, sl_const]; omega) ?_
      walk_at "go"
      obtain ⟨dx, htt⟩ := id ht
      have nx : x ≠ R := fun z => by rw [z, s2 _ _ hv] at htt; cases htt
      refine v_fld (by rw [upd_ne nx]; exact htt) T.cl_Token T.no_Token_text tk_text ?_
      walk_at "go"
      refine v_lenS (by rw [len_sv, sl_const]; omega) ?_
      rw [len_sv]
      walk_at "go"
      exact put r t st x H2 h34 ho s2 ht
  rw [Bool.not_eq_true _ |>.mp hD]
  walk_at "go"
  rw [sv_q, dOne]
  by_cases h34 : c = 34
  · rw [decide_eq_true h34]
    have eo : one zs p c = qOne zs p := by unfold one; rw [if_pos h34]
    walk_at "go"
    unfold qOne at eo
    refine rd_read_quoted T hz hlt rfl (fun txt k t x H2 e hx0 s2 htu ht => ?_) (fun e => ?_) (fun k e => ?_)
    · rw [e] at eo
      have hst := one_stop hc eo
      refine g_gtup htu rfl ?_
      walk_at "go"
      refine g_tyL (s2 _ _ hv) ?_
      walk_at "go"
      refine v_append (s2 _ _ hv) (by rw [hvl, sl_const]; omega) ?_
      refine ⟨zs.length - k, by omega, k, acc ++ [(("text" : Str), txt, p)], _, _, rfl, rfl, sR s2, push_tk (t := (("text" : Str), txt, p)) (hT.same s2) (s2 _ _ hv) ht, by rw [List.length_append]; show _ + 1 ≤ _; omega, ?_, ?_⟩
      · rw [hsc, scan_tok hc h32 eo hst.1, pre_pre]
      · have := at_le e fun t' n' => rq_le
        rw [List.length_drop] at this
        omega
    · rw [e] at eo
      exact bad _ _ eo
    · rw [e] at eo
      exact bad _ _ eo
  · have eo : one zs p c = sgn zs p c := by unfold one; rw [if_neg h34, if_neg hL, if_neg hD]
    rw [decide_eq_false h34]
    walk_at "go"
    refine rd_read_sign T hz hc (SqT.of (s _ _ hg)) ?_
    rw [← eo]
    cases ho : one zs p c with
    | bad r k => exact bad r k ho
    | tok r t st =>
      intro x H2 hx0 s2 ht
      have tl : t.length ≤ 1000 := by
        rw [eo] at ho
        unfold sgn two at ho
        split at ho
        · injection ho with e1 e2 e3; rw [← e2, List.length_take]; omega
        split at ho
        · injection ho with e1 e2 e3; rw [← e2]; show 1 ≤ 1000; omega
        · cases ho
      walk_at "go"
      refine g_tyL (s2 _ _ hv) ?_
      walk_at "go"
      refine v_append (s2 _ _ hv) (by rw [hvl, sl_const]; omega) ?_
      walk_at "go"
      obtain ⟨dx, htt⟩ := id ht
      have nx : x ≠ R := fun z => by rw [z, s2 _ _ hv] at htt; cases htt
      refine v_fld (by rw [upd_ne nx]; exact htt) T.cl_Token T.no_Token_text tk_text ?_
      walk_at "go"
      refine v_lenS (by rw [len_sv, sl_const]; omega) ?_
      rw [len_sv]
      walk_at "go"
      exact put r t st x H2 h34 ho s2 ht
end
end Lw

namespace Lw
open PySem PySem.Spec PyProof.Rows L2 G
theorem leOne {c d : Nat} : (!decide ((⟨#[c]⟩ : Str).cps.toList < (⟨#[d]⟩ : Str).cps.toList)) = decide (d ≤ c) := by
  show (!decide ([c] < [d])) = _
  rw [Bool.eq_iff_iff]
  simp [List.cons_lt_cons_iff]
theorem sv_la : ("a" : Str) = ⟨#[97]⟩ := by decide +kernel
theorem sv_lz : ("z" : Str) = ⟨#[122]⟩ := by decide +kernel
theorem sv_uA : ("A" : Str) = ⟨#[65]⟩ := by decide +kernel
theorem sv_uZ : ("Z" : Str) = ⟨#[90]⟩ := by decide +kernel
theorem sv_d0 : ("0" : Str) = ⟨#[48]⟩ := by decide +kernel
theorem sv_d9 : ("9" : Str) = ⟨#[57]⟩ := by decide +kernel
def oneV : One → List V
  | .tok r t s => [.str r, sv t, .int s]
  | .bad r k => [.str "fault", .str r, .int k]
section
variable {K : PySem.W.Frag} {H : Hp} {Q : VK} {E : XK} {mg : Str → Option Value}
theorem rd_is_digit {c : Nat} (q : Q (.bl (isD c)) H) : sp__law_is_digit K [.str ⟨#[c]⟩] H Q E := by
  refine ⟨rfl, ?_⟩
  unfold t__law_is_digit
  rw [sv_d0, sv_d9]
  walk_at "go"
  rw [leOne]
  unfold isD at q
  by_cases h : 48 ≤ c
  · rw [decide_eq_true h] at q ⊢
    walk_at "go"
    rw [leOne]
    exact q
  · rw [decide_eq_false h] at q ⊢
    walk_at "go"
    exact q
theorem rd_is_letter {c : Nat} (q : Q (.bl (isL c)) H) : sp__law_is_letter K [.str ⟨#[c]⟩] H Q E := by
  refine ⟨rfl, ?_⟩
  unfold t__law_is_letter
  rw [sv_la, sv_lz, sv_uA, sv_uZ]
  walk_at "go"
  rw [leOne]
  unfold isL at q
  have second : Q (.bl (decide (65 ≤ c) && decide (c ≤ 90))) H → tChain rLeX rLeX (tC (.str ⟨#[65]⟩)) (tVar 0) (tC (.str ⟨#[90]⟩)) [some (.str ⟨#[c]⟩)] H Q := fun q => by
    walk_at "go"
    rw [leOne]
    by_cases h : 65 ≤ c
    · rw [decide_eq_true h] at q ⊢
      walk_at "go"
      rw [leOne]
      exact q
    · rw [decide_eq_false h] at q ⊢
      walk_at "go"
      exact q
  by_cases h : 97 ≤ c
  · rw [decide_eq_true h] at q ⊢
    walk_at "go"
    rw [leOne]
    by_cases h2 : c ≤ 122
    · rw [decide_eq_true h2] at q ⊢
      walk_at "go"
      exact q
    · rw [decide_eq_false h2] at q ⊢
      refine iteF ?_
      exact second q
  · rw [decide_eq_false h] at q ⊢
    refine iteF ?_
    refine g_k ?_
    refine iteF ?_
    exact second q
theorem rd_run {zs : List Nat} {p : Nat} {b : Bool} (hz : zs.length ≤ 1000) (hp : p ≤ zs.length) (q : Q (.int ((cw (if b = true then isW else isD) zs p : Nat) : Int)) H) : sp__law_run K [sv zs, .int (p : Int), .bl b] H Q E := by
  refine ⟨rfl, ?_⟩
  unfold t__law_run
  obtain ⟨F, hF⟩ : ∃ F, F = (if b = true then isW else isD) := ⟨_, rfl⟩
  rw [← hF] at q
  walk_at "go"
  refine g_while ⟨fun m σ H' => ∃ j : Nat, m = zs.length - (p + j) ∧ p + j ≤ zs.length ∧ σ = [some (sv zs), some (.int p), some (.bl b), some (.int j)] ∧ H' = H ∧ j + cw F zs (p + j) = cw F zs p, ⟨_, 0, rfl, by omega, rfl, rfl, by rw [Nat.zero_add, Nat.add_zero]⟩, ?_⟩
  rintro m σ H' ⟨j, rfl, hj, rfl, rfl, he⟩
  walk_at "go"
  refine v_lenS (by rw [len_sv, sl_const]; omega) ?_
  rw [len_sv]
  walk_at "go"
  by_cases hlt : p + j < zs.length
  case neg =>
    rw [decide_eq_false (by omega)]
    walk_at "go"
    rw [cw_end (by omega), Nat.add_zero] at he
    rw [he]
    exact q
  rw [decide_eq_true (by omega)]
  have hc : zs[p + j]? = some zs[p + j] := List.getElem?_eq_getElem hlt
  have hcw := cw_at (f := F) hc
  generalize zs[p + j] = c at *
  have ix : ∀ {R : VK}, R (.str ⟨#[c]⟩) H' → rIx K (sv zs) (.int ((p : Int) + (j : Int))) H' R := fun r => v_ixS (c := c) (by rw [len_sv, sl_const]; omega) (atN (i := p + j) (by omega) (by simpa using hc)) r
  have cont : F c = true → (j + 1) + cw F zs (p + (j + 1)) = cw F zs p := fun e => by
    rw [if_pos e] at hcw
    rw [← Nat.add_assoc]
    omega
  have stop : F c = false → Q (.int (j : Int)) H' := fun e => by
    rw [if_neg (by rw [e]; decide)] at hcw
    have : j = cw F zs p := by omega
    rw [← this] at q
    exact q
  walk_at "go"
  refine ix ?_
  walk_at "go"
  refine rd_is_digit ?_
  walk_at "go"
  cases hD : isD c with
  | true =>
    walk_at "go"
    refine g_turn ?_
    walk_at "go"
    refine ⟨_, by omega, j + 1, rfl, by omega, rfl, rfl, cont ?_⟩
    cases b
    · rw [hF]; exact hD
    · rw [hF]; show isW c = true; unfold isW; rw [hD]; simp
  | false =>
    walk_at "go"
    cases b with
    | false =>
      walk_at "go"
      exact stop (by rw [hF]; exact hD)
    | true =>
      walk_at "go"
      refine ix ?_
      walk_at "go"
      refine rd_is_letter ?_
      walk_at "go"
      cases hL : isL c with
      | true =>
        walk_at "go"
        refine g_turn ?_
        walk_at "go"
        refine ⟨_, by omega, j + 1, rfl, by omega, rfl, rfl, cont ?_⟩
        rw [hF]; show isW c = true; unfold isW; rw [hL]; rfl
      | false =>
        walk_at "go"
        refine ix ?_
        walk_at "go"
        rw [sv_u, dOne]
        by_cases h95 : c = 95
        · rw [decide_eq_true h95]
          walk_at "go"
          refine g_turn ?_
          walk_at "go"
          refine ⟨_, by omega, j + 1, rfl, by omega, rfl, rfl, cont ?_⟩
          rw [hF]; show isW c = true; unfold isW; rw [hL, hD, decide_eq_true h95]; rfl
        · rw [decide_eq_false h95]
          walk_at "go"
          refine stop ?_
          rw [hF]; show isW c = false; unfold isW; rw [hL, hD, decide_eq_false h95]; rfl
theorem rd_lquoted {zs : List Nat} {p : Nat} {R : Rq} (hz : zs.length ≤ 1000) (hp : p < zs.length) (hr : (rq (zs.drop (p + 1))).at [] (p + 1) = R)
    (q : ∀ t H', Same H H' → H' t = some (.tup (oneV (qOne zs p))) → Q (.ref t) H') : sp__law_quoted K [sv zs, .int (p : Int)] H Q E := by
  refine ⟨rfl, ?_⟩
  unfold t__law_quoted
  unfold qOne at q
  rw [hr] at q
  walk_at "go"
  refine v_lenS (by rw [len_sv, sl_const]; omega) ?_
  rw [len_sv]
  walk_at "go"
  refine g_rngN (n := zs.length) (by omega) ?_
  have close : ∀ (σ : L2.St) (v2 v3 v4 : Option V), σ = [some (sv zs), some (.int p), v2, v3, v4] → R = .opn → (tRet (tTup (tCons (tC (.str ("fault" : Str))) (tCons (tC (.str ("text is not closed" : Str))) (tCons (tVar 1) tNil)))))
      ⟨fun _ H' => Q .non H', Q, fun _ _ => False, fun _ _ => False⟩ σ H := by
    rintro σ v2 v3 v4 rfl e
    rw [e] at q
    walk_at "go"
    intro t ht
    exact q t _ (same_new ht) upd_same
  refine l_range (fun i σ H' => ∃ (pl : Nat) (acc : List Nat) (v4 : Option V), σ = [some (sv zs), some (.int p), some (sv acc), some (.int pl), v4] ∧ H' = H ∧ p + 1 + i ≤ pl ∧ acc.length ≤ pl ∧ pl ≤ zs.length ∧ (rq (zs.drop pl)).at acc pl = R)
    ⟨p + 1, [], none, by rw [sv_e]; rfl, rfl, by omega, by simp, by omega, hr⟩ ?_ ?_
  · rintro i σ H' hi ⟨pl, acc, v4, rfl, rfl, hpl, hal, hpz, hq⟩
    walk_at "go"
    refine v_lenS (by rw [len_sv, sl_const]; omega) ?_
    rw [len_sv]
    walk_at "go"
    by_cases hge : zs.length ≤ pl
    · rw [decide_eq_true (by omega)]
      refine iteT ?_
      refine g_brk ?_
      rw [List.drop_eq_nil_of_le hge] at hq
      exact close _ _ _ _ rfl (by rw [← hq]; rfl)
    rw [decide_eq_false (by omega)]
    have hlt : pl < zs.length := by omega
    have hc : zs[pl]? = some zs[pl] := List.getElem?_eq_getElem hlt
    have hdr := drop_cons' hc
    generalize zs[pl] = c at *
    have ix : ∀ {S : VK}, S (.str ⟨#[c]⟩) H' → rIx K (sv zs) (.int (pl : Int)) H' S := fun r => v_ixS (c := c) (by rw [len_sv, sl_const]; omega) (atN (i := pl) rfl (by simpa using hc)) r
    walk_at "go"
    refine ix ?_
    walk_at "go"
    rw [sv_q, dOne]
    by_cases h34 : c = 34
    · rw [decide_eq_true h34]
      subst h34
      have hq2 : R = .ok acc (pl + 1) := by
        rw [← hq, hdr]
        cases zs.drop (pl + 1) <;> simp [rq, Rq.at]
      rw [hq2] at q
      walk_at "go"
      intro t ht
      exact q t _ (same_new ht) upd_same
    rw [decide_eq_false h34]
    walk_at "go"
    refine g_cut (fun σ' H'' => ∃ (j d : Nat), σ' = [some (sv zs), some (.int p), some (sv acc), some (.int j), some (.int (0 + i))] ∧ H'' = H' ∧ pl ≤ j ∧ zs[j]? = some d ∧ (rq (zs.drop (j + 1))).at (acc ++ [d]) (j + 1) = R) ?_ ?_
    · walk_at "go"
      refine ix ?_
      walk_at "go"
      rw [sv_b, dOne]
      by_cases h92 : c = 92
      case neg =>
        rw [decide_eq_false h92]
        walk_at "go"
        refine ⟨pl, c, rfl, rfl, Nat.le_refl _, hc, ?_⟩
        rw [← hq, hdr, ← Rq.at_more]
        cases h : zs.drop (pl + 1) with
        | nil => simp [rq, if_neg h34, Rq.more, Rq.at]
        | cons d r => rw [rq, if_neg h34, if_neg h92]
      rw [decide_eq_true h92]
      subst h92
      walk_at "go"
      refine v_lenS (by rw [len_sv, sl_const]; omega) ?_
      rw [len_sv]
      walk_at "go"
      by_cases he : zs.length ≤ pl + 1
      · rw [decide_eq_true (by omega)]
        refine iteT ?_
        refine g_brk ?_
        have : zs.drop (pl + 1) = [] := List.drop_eq_nil_of_le (by omega)
        rw [hdr, this] at hq
        exact close _ _ _ _ rfl (by rw [← hq]; simp [rq, Rq.at])
      rw [decide_eq_false (by omega)]
      have he' : pl + 1 < zs.length := by omega
      have hd : zs[pl + 1]? = some zs[pl + 1] := List.getElem?_eq_getElem he'
      have hdr2 := drop_cons' hd
      generalize zs[pl + 1] = d at *
      have ix2 : ∀ {S : VK}, S (.str ⟨#[d]⟩) H' → rIx K (sv zs) (.int ((pl : Int) + 1)) H' S := fun r => v_ixS (c := d) (by rw [len_sv, sl_const]; omega) (atN (i := pl + 1) (by omega) (by simpa using hd)) r
      rw [hdr, hdr2, rq, if_neg (by decide), if_pos rfl] at hq
      have good : d = 34 ∨ d = 92 → ∃ (j d' : Nat), [some (sv zs), some (V.int p), some (sv acc), some (.int ((pl : Int) + 1)), some (.int (0 + i))] = [some (sv zs), some (.int p), some (sv acc), some (.int j), some (.int (0 + i))] ∧ H' = H' ∧ pl ≤ j ∧ zs[j]? = some d' ∧ (rq (zs.drop (j + 1))).at (acc ++ [d']) (j + 1) = R := fun h => by
        rw [if_pos h, Rq.at_more] at hq
        exact ⟨pl + 1, d, rfl, rfl, by omega, hd, hq⟩
      walk_at "go"
      refine ix2 ?_
      walk_at "go"
      rw [dOne]
      by_cases e1 : d = 34
      · rw [decide_eq_true e1]
        walk_at "go"
        exact good (.inl e1)
      rw [decide_eq_false e1]
      walk_at "go"
      refine ix2 ?_
      walk_at "go"
      rw [dOne]
      by_cases e2 : d = 92
      · rw [decide_eq_true e2]
        walk_at "go"
        exact good (.inr e2)
      rw [decide_eq_false e2]
      rw [if_neg (fun z => z.elim e1 e2)] at hq
      rw [← hq] at q
      walk_at "go"
      intro t ht
      refine q t _ (same_new ht) ?_
      rw [upd_same]
      show some (HO.tup [_, _, V.int ((pl : Int) + 1)]) = some (HO.tup [_, _, V.int ((pl + 1 : Nat) : Int)])
      rfl
    · rintro σ' H'' ⟨j, d, rfl, rfl, hj1, hd, hq'⟩
      have hjz := (List.getElem?_eq_some_iff.mp hd).1
      walk_at "go"
      refine v_ixS (c := d) (by rw [len_sv, sl_const]; omega) (atN (i := j) rfl (by simpa using hd)) ?_
      refine v_addS (a := ⟨acc.toArray⟩) (b := ⟨#[d]⟩) (by rw [len_sv, sl_const]; show acc.length + 1 ≤ _; omega) ?_
      walk_at "go"
      refine ⟨j + 1, acc ++ [d], some (.int (0 + i)), ?_, rfl, by omega, by rw [List.length_append]; show _ + 1 ≤ _; omega, by omega, hq'⟩
      have e := app_sv acc [d]
      show [some (sv zs), some (V.int p), some (V.str ((⟨acc.toArray⟩ : Str) ++ ⟨[d].toArray⟩)), some (V.int ((j : Int) + 1)), some (V.int (0 + i))] = _
      rw [e]
      rfl
  · rintro σ H' ⟨pl, acc, v4, rfl, rfl, hpl, hal, hpz, hq⟩
    exact absurd hpl (by omega)
end
end Lw

namespace Lw
open PySem PySem.Spec PyProof.Rows L2 G
theorem sv_dd : (".." : Str) = ⟨[46, 46].toArray⟩ := by decide +kernel
theorem sv_ar : ("->" : Str) = ⟨[45, 62].toArray⟩ := by decide +kernel
theorem sv_do : ("." : Str) = ⟨#[46]⟩ := by decide +kernel
theorem sv_mi : ("-" : Str) = ⟨#[45]⟩ := by decide +kernel
theorem sv_br : ("{" : Str) = ⟨#[123]⟩ := by decide +kernel
section
variable {K : PySem.W.Frag} {H : Hp} {Q : VK} {E : XK} {mg : Str → Option Value}
theorem cut2 {zs : List Nat} {p : Nat} (hp : p ≤ zs.length) : cutS ⟨zs.toArray⟩ (some (p : Int)) (some ((p : Int) + 2)) = ⟨(two zs p).toArray⟩ := cut_at (n := 2) hp
theorem rd_one {zs : List Nat} {p c : Nat} (hz : zs.length ≤ 1000) (hc : zs[p]? = some c) (q : ∀ t H', Same H H' → H' t = some (.tup (oneV (one zs p c))) → Q (.ref t) H') : sp__law_one K [sv zs, .int (p : Int)] H Q E := by
  have hlt := (List.getElem?_eq_some_iff.mp hc).1
  have hp : p ≤ zs.length := by omega
  refine ⟨rfl, ?_⟩
  unfold t__law_one
  unfold one at q
  walk_at "go"
  refine v_ixS (c := c) (by rw [len_sv, sl_const]; omega) (atN (i := p) rfl (by simpa using hc)) ?_
  walk_at "go"
  rw [sv_q, dOne]
  by_cases h34 : c = 34
  · rw [if_pos h34] at q
    rw [decide_eq_true h34]
    walk_at "go"
    exact rd_lquoted hz hlt rfl q
  rw [if_neg h34] at q
  rw [decide_eq_false h34]
  walk_at "go"
  refine rd_is_letter ?_
  walk_at "go"
  by_cases hL : isL c = true
  · rw [if_pos hL] at q
    rw [hL]
    walk_at "go"
    refine rd_run (b := true) hz hp ?_
    walk_at "go"
    rw [if_pos rfl]
    unfold wOne at q
    by_cases h : 12 < cw isW zs p
    · rw [if_pos h] at q
      rw [decide_eq_true (by omega)]
      walk_at "go"
      intro t ht
      exact q t _ (same_new ht) upd_same
    · rw [if_neg h] at q
      rw [decide_eq_false (by omega)]
      walk_at "go"
      refine v_slS (by rw [len_sv, sl_const]; omega) ?_
      rw [cut_at hp]
      walk_at "go"
      intro t ht
      exact q t _ (same_new ht) upd_same
  rw [if_neg hL] at q
  rw [Bool.not_eq_true _ |>.mp hL]
  walk_at "go"
  refine rd_is_digit ?_
  walk_at "go"
  by_cases hD : isD c = true
  · rw [if_pos hD] at q
    rw [hD]
    walk_at "go"
    refine rd_run (b := false) hz hp ?_
    rw [if_neg (by decide)]
    walk_at "go"
    unfold nOne at q
    rw [sv_d0]
    have hle := cw_le (f := isD) hp
    have second : ∀ nx bk ct, ¬ (1 < cw isD zs p ∧ c = 48) → tSeq (tIfS (tTest (tOp rGtX (tVar 3) (tC (.int 18)))) (tRet (tTup (tCons (tC (.str ("fault" : Str))) (tCons (tC (.str ("number too long" : Str))) (tCons (tVar 1) tNil))))) tNext) (tSeq (tIfS (tTest (tOp rGtX (tCallSD (sp__law_run K) [] Ez (tCons (tVar 0) (tCons (tOp (rAddX K) (tVar 1) (tVar 3)) (tCons (tC (.bl true)) tNil)))) (tC (.int 0)))) (tRet (tTup (tCons (tC (.str ("fault" : Str))) (tCons (tC (.str ("unexpected sign" : Str))) (tCons (tOp (rAddX K) (tVar 1) (tVar 3)) tNil))))) tNext) (tRet (tTup (tCons (tC (.str ("number" : Str))) (tCons (tSl (rSlX K) (tVar 0) (tPart (tVar 1)) (tPart (tOp (rAddX K) (tVar 1) (tVar 3)))) (tCons (tOp (rAddX K) (tVar 1) (tVar 3)) tNil))))))
        ⟨nx, Q, bk, ct⟩ [some (sv zs), some (.int p), some (.str ⟨#[c]⟩), some (.int (cw isD zs p : Nat))] H := by
      intro nx bk ct hn
      rw [if_neg hn] at q
      walk_at "go"
      by_cases h : 18 < cw isD zs p
      · rw [if_pos h] at q
        rw [decide_eq_true (by omega)]
        walk_at "go"
        intro t ht
        exact q t _ (same_new ht) upd_same
      rw [if_neg h] at q
      rw [decide_eq_false (by omega)]
      walk_at "go"
      refine rd_run (p := p + cw isD zs p) (b := true) hz hle ?_
      rw [if_pos rfl]
      walk_at "go"
      by_cases h2 : 0 < cw isW zs (p + cw isD zs p)
      · rw [if_pos h2] at q
        rw [decide_eq_true (by omega)]
        walk_at "go"
        intro t ht
        exact q t _ (same_new ht) upd_same
      rw [if_neg h2] at q
      rw [decide_eq_false (by omega)]
      walk_at "go"
      refine v_slS (by rw [len_sv, sl_const]; omega) ?_
      rw [cut_at hp]
      walk_at "go"
      intro t ht
      exact q t _ (same_new ht) upd_same
    by_cases h1 : 1 < cw isD zs p
    · rw [decide_eq_true (by omega)]
      walk_at "go"
      rw [dOne]
      by_cases h2 : c = 48
      · rw [if_pos ⟨h1, h2⟩] at q
        rw [decide_eq_true h2]
        walk_at "go"
        intro t ht
        exact q t _ (same_new ht) upd_same
      · rw [decide_eq_false h2]
        refine iteF ?_
        refine g_next ?_
        exact second _ _ _ fun z => h2 z.2
    · rw [decide_eq_false (by omega)]
      refine iteF ?_
      refine iteF ?_
      refine g_next ?_
      exact second _ _ _ fun z => h1 z.1
  rw [if_neg hD] at q
  rw [Bool.not_eq_true _ |>.mp hD]
  walk_at "go"
  unfold sgn isT at q
  have two' : ∀ {S : VK}, S (.str ⟨(two zs p).toArray⟩) H → rSlX K (sv zs) (some (p : Int)) (some ((p : Int) + 2)) H S := fun r => v_slS (by rw [len_sv, sl_const]; omega) (by rw [cut2 hp]; exact r)
  refine two' ?_
  walk_at "go"
  rw [sv_dd, dSv]
  by_cases e1 : two zs p = [46, 46]
  · rw [if_pos (by rw [decide_eq_true e1]; rfl)] at q
    rw [decide_eq_true e1]
    walk_at "go"
    refine two' ?_
    walk_at "go"
    intro t ht
    exact q t _ (same_new ht) upd_same
  rw [decide_eq_false e1] at q ⊢
  walk_at "go"
  refine two' ?_
  walk_at "go"
  rw [sv_ar, dSv]
  by_cases e2 : two zs p = [45, 62]
  · rw [if_pos (by rw [decide_eq_true e2]; rfl)] at q
    rw [decide_eq_true e2]
    walk_at "go"
    refine two' ?_
    walk_at "go"
    intro t ht
    exact q t _ (same_new ht) upd_same
  rw [if_neg (by rw [decide_eq_false e2]; decide)] at q
  rw [decide_eq_false e2]
  unfold isS at q
  walk_at "go"
  rw [sv_do, dOne]
  by_cases f1 : c = 46
  · rw [if_pos (by rw [decide_eq_true f1]; rfl)] at q
    rw [decide_eq_true f1]
    walk_at "go"
    intro t ht
    exact q t _ (same_new ht) upd_same
  rw [decide_eq_false f1] at q ⊢
  walk_at "go"
  rw [sv_mi, dOne]
  by_cases f2 : c = 45
  · rw [if_pos (by rw [decide_eq_true f2]; rfl)] at q
    rw [decide_eq_true f2]
    walk_at "go"
    intro t ht
    exact q t _ (same_new ht) upd_same
  rw [decide_eq_false f2] at q ⊢
  walk_at "go"
  rw [sv_br, dOne]
  by_cases f3 : c = 123
  · rw [if_pos (by rw [decide_eq_true f3]; rfl)] at q
    rw [decide_eq_true f3]
    walk_at "go"
    intro t ht
    exact q t _ (same_new ht) upd_same
  rw [if_neg (by rw [decide_eq_false f3]; decide)] at q
  rw [decide_eq_false f3]
  walk_at "go"
  intro t ht
  exact q t _ (same_new ht) upd_same
end
end Lw

namespace Lw
open PySem PySem.Spec PyProof.Rows L2 G
def TdAt (H : Hp) (l : Addr) (ts : List Tk) : Prop := ∃ vs, H l = some (.lst vs) ∧ vs.length = ts.length ∧ ∀ (i : Nat) (v : V) (t : Tk), vs[i]? = some v → ts[i]? = some t → ∃ x, v = .ref x ∧ H x = some (.tup [.str t.1, sv t.2.1, .int t.2.2])
theorem TdAt.same {H H' : Hp} {l : Addr} {ts : List Tk} (h : TdAt H l ts) (s : Same H H') : TdAt H' l ts := by
  obtain ⟨vs, a, b, c⟩ := h
  exact ⟨vs, s _ _ a, b, fun i v t e1 e2 => by obtain ⟨x, e, k⟩ := c i v t e1 e2; exact ⟨x, e, s _ _ k⟩⟩
theorem push_td {H : Hp} {l x : Addr} {ts : List Tk} {t : Tk} {vs : List V} (h : TdAt H l ts) (hl : H l = some (.lst vs)) (ht : H x = some (.tup [.str t.1, sv t.2.1, .int t.2.2])) : TdAt (upd H l (.lst (vs ++ [.ref x]))) l (ts ++ [t]) := by
  obtain ⟨vs', e, el, hr⟩ := h
  rw [hl] at e
  cases e
  have keep : ∀ {y ws}, H y = some (.tup ws) → upd H l (.lst (vs ++ [.ref x])) y = some (.tup ws) := fun {y ws} k => by
    rw [upd_ne]
    · exact k
    · intro z; rw [z, hl] at k; cases k
  refine ⟨_, upd_same, by simp [el], fun i w y hw hy => ?_⟩
  by_cases hi : i < vs.length
  · rw [List.getElem?_append_left hi] at hw
    rw [List.getElem?_append_left (by omega)] at hy
    obtain ⟨z, e, k⟩ := hr i w y hw hy
    exact ⟨z, e, keep k⟩
  · rw [List.getElem?_append_right (by omega)] at hw hy
    rw [el] at hw
    generalize i - ts.length = k at hw hy
    match k with
    | 0 => cases hw; cases hy; exact ⟨x, rfl, keep ht⟩
    | k + 1 => cases hw
theorem role_ok {zs : List Nat} {p c s : Nat} {r : Str} {t : List Nat} (e : one zs p c = .tok r t s) : r ≠ "fault" := by
  unfold one at e
  split at e
  · unfold qOne at e
    split at e
    · injection e with e1; rw [← e1]; decide +kernel
    · cases e
    · cases e
  split at e
  · unfold wOne at e
    split at e
    · cases e
    · injection e with e1; rw [← e1]; decide +kernel
  split at e
  · unfold nOne at e
    split at e
    · cases e
    split at e
    · cases e
    split at e
    · cases e
    injection e with e1; rw [← e1]; decide +kernel
  unfold sgn at e
  split at e
  · injection e with e1; rw [← e1]; decide +kernel
  split at e
  · injection e with e1; rw [← e1]; decide +kernel
  · cases e
theorem one_le {zs : List Nat} {p c s : Nat} {r : Str} {t : List Nat} (h : zs[p]? = some c) (e : one zs p c = .tok r t s) (hz : zs.length ≤ 1000) : s ≤ 100000 := by
  have hlt := (List.getElem?_eq_some_iff.mp h).1
  unfold one at e
  split at e
  · unfold qOne at e
    split at e
    · rename_i t' n' hq
      injection e with e1 e2 e3
      have := at_le hq fun t' n' => rq_le
      rw [List.length_drop] at this
      omega
    · cases e
    · cases e
  split at e
  · unfold wOne at e
    split at e
    · cases e
    · injection e with e1 e2 e3
      have := cw_le (f := isW) (zs := zs) (p := p) (by omega)
      omega
  split at e
  · unfold nOne at e
    split at e
    · cases e
    split at e
    · cases e
    split at e
    · cases e
    injection e with e1 e2 e3
    have := cw_le (f := isD) (zs := zs) (p := p) (by omega)
    omega
  unfold sgn at e
  split at e
  · injection e with e1 e2 e3; omega
  split at e
  · injection e with e1 e2 e3; omega
  · cases e
section
variable {K : PySem.W.Frag} {H : Hp} {Q : VK} {E : XK} {mg : Str → Option Value}
theorem rd_due {zs : List Nat} {n : Nat} (hz : zs.length ≤ 1000)
    (q0 : ∀ (k : Nat) (r : Str) (t L F : Addr) (H' : Hp), ((n < zs.length ∧ k = 0 ∧ r = "text too long") ∨ (zs.length ≤ n ∧ scan zs 0 = .bad r k)) → Same H H' → H' t = some (.tup [.ref L, .ref F]) → H' F = some (.tup [.int (k : Nat), .str r]) → Q (.ref t) H')
    (q1 : zs.length ≤ n → ∀ l t L H', scan zs 0 = .ok l → Same H H' → H' t = some (.tup [.ref L, .non]) → TdAt H' L l → l.length ≤ 100001 → Q (.ref t) H') : sp__law_due K [sv zs, .int (n : Int)] H Q E := by
  refine ⟨rfl, ?_⟩
  unfold t__law_due
  walk_at "go"
  refine v_lenS (by rw [len_sv, sl_const]; omega) ?_
  rw [len_sv]
  walk_at "go"
  by_cases hlong : n < zs.length
  · rw [decide_eq_true (by omega)]
    walk_at "go"
    intro L hL
    walk_at "go"
    intro F hF
    walk_at "go"
    intro t ht
    exact q0 0 "text too long" t L F _ (.inl ⟨hlong, rfl, rfl⟩) (((same_new hL).trans (same_new hF)).trans (same_new ht)) upd_same (up_new upd_same ht)
  rw [decide_eq_false (by omega)]
  walk_at "go"
  intro R hR
  walk_at "go"
  refine g_while ⟨fun m σ H' => ∃ (p : Nat) (acc : List Tk) (v4 v5 v6 : Option V), m = zs.length - p ∧ σ = [some (sv zs), some (.int n), some (.ref R), some (.int p), v4, v5, v6] ∧ Same H H' ∧ TdAt H' R acc ∧ acc.length ≤ p ∧ scan zs 0 = (scan zs p).pre acc ∧ p ≤ 100000,
    ⟨_, 0, [], none, none, none, rfl, rfl, same_new hR, ⟨[], upd_same, rfl, fun i v t h => (by cases h)⟩, Nat.le_refl _, by cases scan zs 0 <;> rfl, by omega⟩, ?_⟩
  rintro m σ H' ⟨p, acc, v4, v5, v6, rfl, rfl, s, hT, hal, hsc, hpb⟩
  obtain ⟨vs, hv, hvl, _⟩ := id hT
  have sR : ∀ {H2 : Hp} {l : List V}, Same H' H2 → Same H (upd H2 R (.lst l)) := fun {H2 l} s2 b o e => by
    rw [upd_ne (ne_of_none e hR)]
    exact s2 _ _ (s _ _ e)
  walk_at "go"
  refine v_lenS (by rw [len_sv, sl_const]; omega) ?_
  rw [len_sv]
  walk_at "go"
  by_cases hlt : p < zs.length
  case neg =>
    rw [decide_eq_false (by omega)]
    walk_at "go"
    refine g_tyL hv ?_
    walk_at "go"
    refine v_lenS (by rw [len_sv, sl_const]; omega) ?_
    rw [len_sv]
    walk_at "go"
    intro x hx
    walk_at "go"
    refine v_append (up_new hv hx) (by rw [hvl, sl_const]; omega) ?_
    walk_at "go"
    intro t ht
    rw [scan_end (p := p) (by omega)] at hsc
    have hp2 := push_td (t := (("end" : Str), [], zs.length)) (hT.same (same_new (o := .tup [.str "end", .str "", .int zs.length]) hx)) (up_new hv hx) (by rw [upd_same, sv_e])
    refine q1 (by omega) _ t R _ hsc ((sR (same_new hx)).trans (same_new ht)) upd_same (hp2.same (same_new ht)) (by rw [List.length_append]; show _ + 1 ≤ _; omega)
  rw [decide_eq_true (by omega)]
  have hc : zs[p]? = some zs[p] := List.getElem?_eq_getElem hlt
  generalize zs[p] = c at hc
  walk_at "go"
  refine g_turn ?_
  walk_at "go"
  refine v_ixS (c := c) (by rw [len_sv, sl_const]; omega) (atN (i := p) rfl (by simpa using hc)) ?_
  walk_at "go"
  rw [sv_bl, dOne]
  by_cases h32 : c = 32
  · rw [decide_eq_true h32]
    subst h32
    walk_at "go"
    exact ⟨_, by omega, p + 1, acc, _, _, _, rfl, rfl, s, hT, by omega, by rw [hsc, scan_blank hc], by omega⟩
  rw [decide_eq_false h32]
  walk_at "go"
  refine rd_one hz hc fun t H2 s2 htu => ?_
  cases ho : one zs p c with
  | bad r k =>
    have htu : H2 t = some (.tup [.str "fault", .str r, .int (k : Nat)]) := by rw [ho] at htu; exact htu
    refine g_gtup htu rfl ?_
    walk_at "go"
    rw [decide_eq_true rfl]
    walk_at "go"
    intro L hL
    walk_at "go"
    intro F hF
    walk_at "go"
    intro t2 ht2
    exact q0 k r t2 L F _ (.inr ⟨by omega, by rw [hsc, scan_bad hc h32 ho]; rfl⟩) ((((s.trans s2).trans (same_new hL)).trans (same_new hF)).trans (same_new ht2)) upd_same (up_new upd_same ht2)
  | tok r tx st =>
    have htu : H2 t = some (.tup [.str r, sv tx, .int (st : Nat)]) := by rw [ho] at htu; exact htu
    have hst := one_stop hc ho
    have hsb := one_le hc ho hz
    refine g_gtup htu rfl ?_
    walk_at "go"
    rw [decide_eq_false (role_ok ho)]
    walk_at "go"
    refine g_tyL (s2 _ _ hv) ?_
    walk_at "go"
    intro x hx
    walk_at "go"
    refine v_append (up_new (s2 _ _ hv) hx) (by rw [hvl, sl_const]; omega) ?_
    walk_at "go"
    have s3 : Same H' (upd H2 x (.tup [.str r, sv tx, .int p])) := s2.trans (same_new hx)
    refine ⟨zs.length - st, by omega, st, acc ++ [(r, tx, p)], _, _, _, rfl, rfl, sR s3, push_td (t := (r, tx, p)) (hT.same s3) (s3 _ _ hv) upd_same, by rw [List.length_append]; show _ + 1 ≤ _; omega, ?_, hsb⟩
    rw [hsc, scan_tok hc h32 ho hst.1, pre_pre]
end
end Lw

namespace Lw
open PySem PySem.Spec PyProof.Rows L2 G
theorem at_menu {α : Type} {xs : List α} {n : Int} (h0 : 0 ≤ n) (h1 : n < xs.length) : ∃ c, atI xs n = some c := by
  obtain ⟨i, rfl⟩ := Int.eq_ofNat_of_zero_le h0
  have hi : i < xs.length := by omega
  exact ⟨xs[i], atI_nat (by simp [hi])⟩
theorem g_try {K : PySem.W.Frag} {c : Value} {i : Nat} {tb : WX → TS} {ts : Addr → Value → Option Addr → TS} {Wout : WX} {nx bk ct : L2.St → Hp → Prop} {rt : VK} {σ : L2.St} {H : Hp} (h : tb (wAs K c i ts Wout ⟨nx, rt, bk, ct⟩) ⟨nx, rt, bk, ct⟩ σ H) : tTryAs K c i tb ts Wout ⟨nx, rt, bk, ct⟩ σ H := h
theorem Dr.same'' {d : Addr} {H H' : Hp} (h : Dr d H) (s : Same H H') : Dr d H' := by
  obtain ⟨xs, a, b, c⟩ := h
  exact ⟨xs, a, b, s _ _ c⟩
section
variable {K : PySem.W.Frag} {H : Hp} {Q : VK} {E : XK} {mg : Str → Option Value}
theorem rd_pick {d p : Addr} {xs : List V} (hd : Dr d H) (hp : H p = some (.lst xs)) (hn : 0 < xs.length) (hn2 : xs.length < 1000000) (hpd : p ≠ d) (q : ∀ (v : V) (H' : Hp), v ∈ xs → Dr d H' → Sb d H H' → Q v H') : sp__law_pick K [.ref d, .ref p] H Q E := by
  refine ⟨rfl, ?_⟩
  unfold t__law_pick
  walk_at "go"
  refine v_lenL hp ?_
  walk_at "go"
  refine rd_draw hd ⟨by omega, by omega⟩ fun v H' h0 h1 hd' hs => ?_
  obtain ⟨i, rfl⟩ := Int.eq_ofNat_of_zero_le h0
  have hi : i < xs.length := by omega
  exact v_ixL (hs _ _ hpd hp) (atN (i := i) rfl (List.getElem?_eq_getElem hi)) (q _ _ (List.getElem_mem hi) hd' hs)
theorem rd_text {d : Addr} (hd : Dr d H) (q : ∀ zs H', zs.length ≤ 26 → Dr d H' → Sb d H H' → Q (sv zs) H') : sp__law_text K [.ref d] H Q E := by
  refine ⟨rfl, ?_⟩
  unfold t__law_text
  walk_at "go"
  refine rd_draw hd (by decide) fun n H1 n0 n1 hd1 hs1 => ?_
  walk_at "go"
  refine g_rngI (n := n) (by omega) (by omega) ?_
  refine l_range (fun i σ H' => ∃ (zs : List Nat) (v2 : Option V), zs.length ≤ 17 * i ∧ σ = [some (.ref d), some (sv zs), v2] ∧ Dr d H' ∧ Sb d H H')
    ⟨[], none, by simp, by rw [sv_e]; rfl, hd1, hs1⟩ ?_ ?_
  · rintro i σ H' hi ⟨zs, v2, hl, rfl, hd', hs'⟩
    walk_at "go"
    refine rd_draw hd' (by decide) fun m H2 m0 m1 hd2 hs2 => ?_
    obtain ⟨c, hc⟩ := at_menu (xs := (("ab_0Z7 \"\\.->{# a" : Str)).cps.toList) m0 (by rw [show (("ab_0Z7 \"\\.->{# a" : Str)).cps.toList.length = 16 by decide +kernel]; exact m1)
    refine v_ixS (c := c) (by rw [sl_const]; exact Nat.le_trans (by decide +kernel : ("ab_0Z7 \"\\.->{# a" : Str).length ≤ 16) (by decide)) hc ?_
    refine v_addS (a := ⟨zs.toArray⟩) (b := ⟨#[c]⟩) (by rw [len_sv, sl_const]; show zs.length + 1 ≤ _; omega) ?_
    have ea : ((⟨zs.toArray⟩ : Str) ++ ⟨#[c]⟩) = ⟨(zs ++ [c]).toArray⟩ := app_sv zs [c]
    rw [ea]
    walk_at "go"
    refine rd_draw hd2 (by decide) fun m2 H3 m20 m21 hd3 hs3 => ?_
    walk_at "go"
    by_cases h0 : m2 = 0
    case neg =>
      rw [decide_eq_false h0]
      walk_at "go"
      exact ⟨zs ++ [c], _, by rw [List.length_append]; show _ + 1 ≤ _; omega, rfl, hd3, (hs'.trans hs2).trans hs3⟩
    rw [decide_eq_true h0]
    walk_at "go"
    intro p hp
    walk_at "go"
    have hpd : p ≠ d := by
      obtain ⟨xs, _, _, hx⟩ := hd3
      exact fun e => by rw [e, hx] at hp; cases hp
    refine rd_pick (hd3.same'' (same_new hp)) upd_same (by show 0 < 6; decide) (by show 6 < 1000000; decide) hpd fun v H4 hv hd4 hs4 => ?_
    have hw : ∃ w : Str, v = .str w ∧ w.length ≤ 16 := by
      simp only [List.mem_cons, List.not_mem_nil, or_false] at hv
      rcases hv with h | h | h | h | h | h <;> exact ⟨_, h, by decide +kernel⟩
    obtain ⟨w, rfl, hwl⟩ := hw
    rw [str_eta w]
    have hwl2 : w.cps.toList.length ≤ 16 := by rw [Array.length_toList]; exact hwl
    generalize w.cps.toList = ws at hwl2
    refine v_addS (a := ⟨(zs ++ [c]).toArray⟩) (b := ⟨ws.toArray⟩) (by rw [len_sv, len_sv, sl_const, List.length_append]; show zs.length + 1 + _ ≤ _; omega) ?_
    rw [app_sv]
    exact ⟨zs ++ [c] ++ ws, _, by rw [List.length_append, List.length_append]; show _ + 1 + _ ≤ _; omega, rfl, hd4, ((hs'.trans hs2).trans hs3).trans ((Same.sb (same_new hp)).trans hs4)⟩
  · rintro σ H' ⟨zs, v2, hl, rfl, hd', hs'⟩
    walk_at "go"
    refine rd_draw hd' (by decide) fun v H2 v0 v1 hd2 hs2 => ?_
    walk_at "go"
    refine v_slS (by rw [len_sv, sl_const]; omega) ?_
    refine q _ _ ?_ hd2 (hs'.trans hs2)
    rw [List.length_take]
    have : HT.sIx (⟨zs.toArray⟩ : Str).length (⟨zs.toArray⟩ : Str).length (some (26 - v)) ≤ 26 := by
      show (if (26 - v : Int) < 0 then _ else min (26 - v : Int).toNat _) ≤ 26
      rw [if_neg (by omega)]
      omega
    omega
end
end Lw

namespace Lw
open PySem PySem.Spec PyProof.Rows L2 G
theorem fa_place {i : Int} {r : Str} : (faD i r).lookup ("place" : Str) = some (.int i) := by
  unfold faD
  rw [lookup_put, if_neg (by decide +kernel), lookup_put, if_pos rfl]
theorem fa_reason {i : Int} {r : Str} : (faD i r).lookup ("reason" : Str) = some (.str r) := by
  unfold faD
  rw [lookup_put, if_pos rfl]
def XfK (a : Addr) (cls : Value) (d : Option Addr) (C : Addr) (f : Str) (x : V) (H1 : Hp) (Q : VK) : Prop := x = .ref a ∧ cls = .ref C ∧ ∃ (dd : Addr) (fs : List (Str × V)) (v : V), d = some dd ∧ H1 dd = some (.xd fs) ∧ fs.lookup f = some v ∧ Q v H1
theorem g_xf {a : Addr} {cls : Value} {d : Option Addr} {C : Addr} {f : Str} {te : TE} {σ : L2.St} {H : Hp} {Q : VK} (h : te σ H fun x H1 => XfK a cls d C f x H1 Q) : tXf a cls d C f te σ H Q := h
section
variable {K : PySem.W.Frag} {H : Hp} {Q : VK} {E : XK} {mg : Str → Option Value}
theorem law00 (T : Tx K mg) (H : Hp) (a : Addr) (ns : List Int) (hl : ns.length ≤ 63) (hO : Only H) (hS : SqL K H a (ns.map V.int)) : sp_law K [.ref a] H (fun v _ => v = .bl true) fun _ _ _ => False := by
  refine ⟨rfl, ?_⟩
  unfold t_law
  walk_at "go"
  refine rd_cells (n := 8) hS (by decide) fun d xs H1 hd0 hd1 hlx hs1 => ?_
  have D1 : Dr d H1 := ⟨xs, by intro z; rw [z] at hlx; simp at hlx, by omega, hd1⟩
  clear hd0 hd1 hlx hs1
  walk_at "go"
  refine rd_text D1 fun zs H2 hzl D2 s2 => ?_
  clear D1 s2
  walk_at "go"
  -- behind the try: what was found, what was raised
  have tail : ∀ (H3 : Hp) (L : Addr) (fv : V) (k : Nat) (r : Str) (l : List Tk), ((∃ F, fv = .ref F ∧ H3 F = some (.tup [.int (k : Nat), .str r]) ∧ ((24 < zs.length ∧ k = 0 ∧ r = "text too long") ∨ (zs.length ≤ 24 ∧ scan zs 0 = .bad r k))) ∨ (fv = .non ∧ zs.length ≤ 24 ∧ scan zs 0 = .ok l ∧ TdAt H3 L l ∧ l.length ≤ 100001)) →
      (tSeq (tAsg (tC .non) (gName 5)) (tSeq (tAsg (tC .non) (gName 6)) (C8.tCut (tTryAs K (.ref (He.ga K "Fault")) 7 (fun W => (tAsg (tCallSD (sp_tokens K) [] (WE W) (tCons (tVar 2) (tCons (tTup (tCons (tC (.str ("." : Str))) (tCons (tC (.str (".." : Str))) (tCons (tC (.str ("-" : Str))) (tCons (tC (.str ("->" : Str))) (tCons (tC (.str ("{" : Str))) tNil)))))) (tCons (tC (.int 24)) tNil)))) (gName 5))) (fun a cls d => (tSeq (tAsg (tTup (tCons (tXf a cls d (He.ga K "Fault") ("place" : Str) (tVar 7)) (tCons (tXf a cls d (He.ga K "Fault") ("reason" : Str) (tVar 7)) tNil))) (gName 6)) (tIfS (tOr (tNot (tTru K (tCB (rIsF K (He.ga K "Fault") a cls d) (tCons (tVar 7) (tCons (tC (.ref (He.ga K ("HeapError" : Str)))) tNil))))) (tNot (tTru K (tCB (rIsF K (He.ga K "Fault") a cls d) (tCons (tVar 7) (tCons (tC (.ty "ValueError")) tNil)))))) (tRet (tC (.bl false))) tNext))) (fun cls d _ H => False)) (tSeq (tIfS (tTest (tOp rIsNotX (tVar 4) (tC .non))) (tRet (tAndV (tOp rIsNotX (tVar 6) (tC .non)) (tAndV (tOp (rEqX K) (tOp (rIx K) (tVar 6) (tC (.int 0))) (tOp (rIx K) (tVar 4) (tC (.int 0)))) (tOp (rEqX K) (tOp (rIx K) (tVar 6) (tC (.int 1))) (tOp (rIx K) (tVar 4) (tC (.int 1))))))) tNext) (tSeq (tIfS (tOr (tTest (tOp rIsNotX (tVar 6) (tC .non))) (tOr (tNot (tTru K (tCB (rIsi K) (tCons (tVar 5) (tCons (tC (.ty "list")) tNil))))) (tTest (tOp (rNeX K) (tCB (rLen K) (tCons (tVar 5) tNil)) (tCB (rLen K) (tCons (tVar 3) tNil)))))) (tRet (tC (.bl false))) tNext) (tSeq (tFor (iRng1 (tCons (tCB (rLen K) (tCons (tVar 3) tNil)) tNil)) (gName 8) (tIfS (tOr (tTest (tOp (rNeX K) (tFld K (tOp (rIx K) (tVar 5) (tVar 8)) ("role" : Str)) (tOp (rIx K) (tOp (rIx K) (tVar 3) (tVar 8)) (tC (.int 0))))) (tOr (tTest (tOp (rNeX K) (tFld K (tOp (rIx K) (tVar 5) (tVar 8)) ("text" : Str)) (tOp (rIx K) (tOp (rIx K) (tVar 3) (tVar 8)) (tC (.int 1))))) (tTest (tOp (rNeX K) (tFld K (tOp (rIx K) (tVar 5) (tVar 8)) ("place" : Str)) (tOp (rIx K) (tOp (rIx K) (tVar 3) (tVar 8)) (tC (.int 2))))))) (tRet (tC (.bl false))) tNext)) (tRet (tC (.bl true)))))))))
        ⟨fun _ _ => (V.non) = .bl true, fun v _ => v = .bl true, fun _ _ => False, fun _ _ => False⟩ [some (.ref a), some (.ref d), some (sv zs), some (.ref L), some fv, none, none, none, none] H3 := by
    intro H3 L fv k r l hcase
    walk_at "go"
    refine g_cut (fun σ' H' => ∃ (gv rv : V), σ' = [some (.ref a), some (.ref d), some (sv zs), some (.ref L), some fv, some gv, some rv, none, none] ∧ Same H3 H' ∧
      ((∃ F R, fv = .ref F ∧ rv = .ref R ∧ H' F = some (.tup [.int (k : Nat), .str r]) ∧ H' R = some (.tup [.int (k : Nat), .str r])) ∨ (fv = .non ∧ rv = .non ∧ TdAt H' L l ∧ l.length ≤ 100001 ∧ ∃ R, gv = .ref R ∧ TksAt K H' R l))) ?_ ?_
    · refine g_try ?_
      walk_at "go"
      intro g hg
      walk_at "go"
      have hgs : (upd H3 g (.tup [V.str ".", V.str "..", V.str "-", V.str "->", V.str "{"])) g = some (.tup (sgs.map sv)) := by rw [upd_same, sgs_v]
      -- a fault is caught
      have caught : ∀ F, fv = .ref F → H3 F = some (.tup [.int (k : Nat), .str r]) → FE K (WE (wAs K (.ref (He.ga K "Fault")) 7 (fun a cls d => (tSeq (tAsg (tTup (tCons (tXf a cls d (He.ga K "Fault") ("place" : Str) (tVar 7)) (tCons (tXf a cls d (He.ga K "Fault") ("reason" : Str) (tVar 7)) tNil))) (gName 6)) (tIfS (tOr (tNot (tTru K (tCB (rIsF K (He.ga K "Fault") a cls d) (tCons (tVar 7) (tCons (tC (.ref (He.ga K ("HeapError" : Str)))) tNil))))) (tNot (tTru K (tCB (rIsF K (He.ga K "Fault") a cls d) (tCons (tVar 7) (tCons (tC (.ty "ValueError")) tNil)))))) (tRet (tC (.bl false))) tNext))) (fun cls d _ H => False)
          ⟨fun σ' H' => ∃ (gv rv : V), σ' = [some (.ref a), some (.ref d), some (sv zs), some (.ref L), some fv, some gv, some rv, none, none] ∧ Same H3 H' ∧
      ((∃ F R, fv = .ref F ∧ rv = .ref R ∧ H' F = some (.tup [.int (k : Nat), .str r]) ∧ H' R = some (.tup [.int (k : Nat), .str r])) ∨ (fv = .non ∧ rv = .non ∧ TdAt H' L l ∧ l.length ≤ 100001 ∧ ∃ R, gv = .ref R ∧ TksAt K H' R l)), fun v _ => v = .bl true, fun _ _ => False, fun _ _ => False⟩) [some (.ref a), some (.ref d), some (sv zs), some (.ref L), some fv, some .non, some .non, none, none]) (upd H3 g (.tup [V.str ".", V.str "..", V.str "-", V.str "->", V.str "{"])) k r := by
        rintro F rfl hF dd H4 s4 hdd
        refine ⟨true, (T.fau.txt (PySem.Challenge.rw_oneheap_k00_tokens_of_texts).prog).te, fun _ ea hea => ?_, fun z => by cases z⟩
        have s5 : Same H3 (upd H4 dd (.xd (faD k r))) := ((same_new hg).trans s4).trans (same_new hdd)
        walk_at "go"
        refine g_xf ?_
        walk_at "go"
        refine ⟨rfl, rfl, dd, _, _, rfl, upd_same, fa_place, ?_⟩
        walk_at "go"
        refine g_xf ?_
        walk_at "go"
        refine ⟨rfl, rfl, dd, _, _, rfl, upd_same, fa_reason, ?_⟩
        walk_at "go"
        intro R hR
        walk_at "go"
        refine ⟨_, _, true, dd, _, rfl, .own _, rfl, rfl, up_new upd_same hR, T.is_Fault_HeapError, ?_⟩
        walk_at "go"
        refine ⟨_, _, true, dd, _, rfl, .ty _, rfl, rfl, up_new upd_same hR, T.it_Fault_ValueError, ?_⟩
        walk_at "go"
        exact ⟨_, _, rfl, s5.trans (same_new hR), .inl ⟨F, R, rfl, rfl, up_new (s5 _ _ hF) hR, upd_same⟩⟩
      refine rd_tokens T (n := 24) (by omega) hgs (fun h => ?_) (fun h l' hsc R H4 s4 hT => ?_) (fun h r' k' hsc => ?_)
      · rcases hcase with ⟨F, rfl, hF, ⟨_, rfl, rfl⟩ | ⟨h3, _⟩⟩ | ⟨_, h3, _⟩
        · exact caught F rfl hF
        · omega
        · omega
      · rcases hcase with ⟨F, rfl, hF, ⟨h3, _⟩ | ⟨_, h3⟩⟩ | ⟨rfl, h3, h4, hTd, hll⟩
        · omega
        · rw [h3] at hsc; cases hsc
        · rw [h4] at hsc
          cases hsc
          walk_at "go"
          exact ⟨_, _, rfl, (same_new hg).trans s4, .inr ⟨rfl, rfl, hTd.same ((same_new hg).trans s4), hll, R, rfl, hT⟩⟩
      · rcases hcase with ⟨F, rfl, hF, ⟨h3, _⟩ | ⟨_, h3⟩⟩ | ⟨_, _, h4, _⟩
        · omega
        · rw [h3] at hsc
          cases hsc
          exact caught F rfl hF
        · rw [h4] at hsc; cases hsc
    rintro σ' H4 ⟨gv, rv, rfl, s4, hc⟩
    walk_at "go"
    rcases hc with ⟨F, R, rfl, rfl, hF, hR⟩ | ⟨rfl, rfl, hTd, hll, R, rfl, hTk⟩
    · rw [decide_eq_false (by intro z; cases z)]
      walk_at "go"
      rw [decide_eq_false (by intro z; cases z)]
      walk_at "go"
      refine v_ixT hR (atN (i := 0) rfl rfl) ?_
      walk_at "go"
      refine v_ixT hF (atN (i := 0) rfl rfl) ?_
      walk_at "go"
      rw [decide_eq_true rfl]
      walk_at "go"
      refine v_ixT hR (atN (i := 1) rfl rfl) ?_
      walk_at "go"
      refine v_ixT hF (atN (i := 1) rfl rfl) ?_
      walk_at "go"
      rw [decide_eq_true rfl]
    · rw [decide_eq_true rfl]
      walk_at "go"
      rw [decide_eq_true rfl]
      walk_at "go"
      obtain ⟨vs, hv, hvl, hvr⟩ := hTk
      obtain ⟨us, hu, hul, hur⟩ := hTd
      refine v_isiL hv ?_
      walk_at "go"
      refine v_lenL hv ?_
      walk_at "go"
      refine v_lenL hu ?_
      walk_at "go"
      rw [decide_eq_true (by rw [hvl, hul])]
      walk_at "go"
      refine v_lenL hu ?_
      walk_at "go"
      refine g_rngN (n := us.length) (by omega) ?_
      refine l_range (fun i σ H' => ∃ v8 : Option V, σ = [some (.ref a), some (.ref d), some (sv zs), some (.ref L), some .non, some (.ref R), some .non, none, v8] ∧ H' = H4) ⟨none, rfl, rfl⟩ ?_ ?_
      · rintro i σ H' hi ⟨v8, rfl, rfl⟩
        have e1 : vs[i]? = some vs[i] := List.getElem?_eq_getElem (by omega)
        have e2 : us[i]? = some us[i] := List.getElem?_eq_getElem (by omega)
        have e3 : l[i]? = some l[i] := List.getElem?_eq_getElem (by omega)
        obtain ⟨x, ex, dx, hx⟩ := hvr i _ _ e1 e3
        obtain ⟨y, ey, hy⟩ := hur i _ _ e2 e3
        have i1 : ∀ {S : VK}, S (.ref x) H' → rIx K (.ref R) (.int (0 + (i : Int))) H' S := fun r => v_ixL hv (atN (i := i) (by omega) (by rw [e1, ex])) r
        have i2 : ∀ {S : VK}, S (.ref y) H' → rIx K (.ref L) (.int (0 + (i : Int))) H' S := fun r => v_ixL hu (atN (i := i) (by omega) (by rw [e2, ey])) r
        walk_at "go"
        refine i1 ?_
        refine v_fld hx T.cl_Token T.no_Token_role tk_role ?_
        walk_at "go"
        refine i2 ?_
        walk_at "go"
        refine v_ixT hy (atN (i := 0) rfl rfl) ?_
        walk_at "go"
        rw [decide_eq_true rfl]
        walk_at "go"
        refine i1 ?_
        refine v_fld hx T.cl_Token T.no_Token_text tk_text ?_
        walk_at "go"
        refine i2 ?_
        walk_at "go"
        refine v_ixT hy (atN (i := 1) rfl rfl) ?_
        walk_at "go"
        rw [decide_eq_true rfl]
        walk_at "go"
        refine i1 ?_
        refine v_fld hx T.cl_Token T.no_Token_place tk_place ?_
        walk_at "go"
        refine i2 ?_
        walk_at "go"
        refine v_ixT hy (atN (i := 2) rfl rfl) ?_
        walk_at "go"
        rw [decide_eq_true rfl]
        walk_at "go"
        exact ⟨_, rfl, rfl⟩
      · rintro σ H' ⟨v8, rfl, rfl⟩
        walk_at "go"
        rfl
  refine rd_due (n := 24) (by omega) (fun k r t L F H3 hk s3 ht hF => ?_) (fun h24 l t L H3 hsc s3 ht hT hll => ?_)
  · refine g_gtup ht rfl ?_
    refine g_gcons (g_name (g_gcons (g_name (g_gnil ?_))))
    exact tail H3 L (.ref F) k r [] (.inl ⟨F, rfl, hF, hk⟩)
  · refine g_gtup ht rfl ?_
    refine g_gcons (g_name (g_gcons (g_name (g_gnil ?_))))
    exact tail H3 L .non 0 "" l (.inr ⟨rfl, h24, hsc, hT, hll⟩)
end
end Lw

open PySem PySem.W PySem.Calls PyProof.Rows
set_option maxHeartbeats 0 in
theorem PySem.Challenge.cw_oneheap_k00_tokens_of_texts_holds : PySem.Challenge.rw_oneheap_k00_tokens_of_texts.Holds := by
  w_on; o_law
  refine HandSHeadRun.head_any (r := OpenLaw.row PySem.Challenge.rw_oneheap_k00_tokens_of_texts) (q := view (OpenLaw.row PySem.Challenge.rw_oneheap_k00_tokens_of_texts).prog [27]) (H := Lw.hk) (ob := Lw.ob) (M := 4000) (loose := Lw.nm) (d := HandSHeadRun.topDef (OpenLaw.row PySem.Challenge.rw_oneheap_k00_tokens_of_texts).prog 27) (kwd := []) Lw.ob_eq
    (by kernel_rfl) (fun s => by kernel_rfl) Lw.run (by kernel_rfl) (by kernel_rfl) (by kernel_rfl) (by rfl) (by first | assumption | decide +kernel) (by decide +kernel) ⟨rfl, rfl, rfl, rfl, rfl, by decide +kernel⟩ ?hw ?hc
  case hw => w_witness2
  case hc =>
    refine G.walk_ofW (l := PySem.Challenge.rw_oneheap_k00_tokens_of_texts) (n := 63) (k := 5) (x := "_law_script") rfl (by decide) (by kernel_rfl) ⟨rfl, by decide, by decide⟩ ?F
    intro w mg fa h Y G hmg0
    obtain ⟨K, KX, c⟩ := Y
    have hmg : mg ("law" : PySem.Str) = some (.ref fa) := by
      have e : (HandSHeadRun.topDef (OpenLaw.row PySem.Challenge.rw_oneheap_k00_tokens_of_texts).prog 27).name = ("law" : PySem.Str) := by kernel_rfl
      rw [← e]
      exact hmg0
    have T := Lw.tx KX G c.d c.more (c.fau KX G)
    have e : fa = He.ga K "law" := by
      have z := hmg.symm.trans T.g_law
      cases z
      rfl
    subst e
    obtain ⟨fd, hb, hF⟩ := T.law (P := (PySem.Challenge.rw_oneheap_k00_tokens_of_texts).prog) (w := w)
    exact ⟨K, fd, Lw.sp_law K, KX, hb, fun H a ns hl hO hS => Lw.law00 T H a ns hl hO hS, hF⟩
