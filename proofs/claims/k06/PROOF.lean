import PyProof.Rows.All
import Wide.All
import OpenK.AllK
import Wide.FinOn
import KE.KStateDown
import Lean
import HandS.ForMost
import HandS.ForExc
import HandS.More
import HandS.Defaults
import HandS.CallSlots
import HandS.StrMore
import HandS.Text
import HandS.Steps
import HandS.Codes
import HandS.Iter
import HandS.IsInst
import HandS.FStr
import HandS.Wide
import HandS.Head0
import HandS.Head1
import HandS.Head2
import HandS.HeadEnd
import HandS.HeadHook1
import HandS.HeadHook2
import HandS.HeadHook3
import HandS.HeadHook4
import HandS.Conv
import HandS.Style
import KE.KExcSuper
import KE.KExcInit
import KE.KSuper
import HandS.Exc
import HandS.ExcInit
import HandS.ExcField
import HandS.Ends
import KE.KExcIs
import HandS.Property
import KE.KIntText
import HandS.ReplaceLit
import PyProof.StrReplace2
import HandS.OwnEq
import PySem.Challenge.RW_oneheap_k06_whole_schema_texts
set_option Elab.async false
set_option linter.all false
set_option maxRecDepth 100000
set_option maxHeartbeats 4000000
namespace G
open PySem PySem.Spec PyProof.Rows L2

/-! ### what a callee keeps, by its name -/
structure Cl (P : Program) (w : World) (K : PySem.W.Frag) (mg : Str → Option Value) (base : Heap) (k : Nat) (x : Str) (sp : Sp) (dvs : List V) : Prop where
  ex : ∃ (f : Addr) (fd : FuncData) (ps : List Str) (ds : List Value), FnOk P w K mg base (L2.CX P w) k f fd ps sp ∧ mg x = some (.ref f) ∧ PySem.W.keepIn K (.ref f) = true ∧ Binds K fd ps ds ∧ Vals dvs ds
structure Mt (P : Program) (w : World) (K : PySem.W.Frag) (mg : Str → Option Value) (base : Heap) (k : Nat) (C : Addr) (m : Str) (sp : Sp) (dvs : List V) : Prop where
  ex : ∃ (f : Addr) (fd : FuncData) (ps : List Str) (ds : List Value), Cls K C ∧ Meth K C m f ∧ FnOk P w K mg base (L2.CX P w) k f fd ps sp ∧ Binds K fd ps ds ∧ Vals dvs ds
structure Mq (P : Program) (w : World) (K : PySem.W.Frag) (mg : Str → Option Value) (base : Heap) (k : Nat) (x : Str) (C : Addr) (sp : Sp) (dvs : List V) : Prop where
  ex : ∃ (f : Addr) (fd : FuncData) (ps : List Str) (ds : List Value), Mk K C f ∧ FnOk P w K mg base (L2.CX P w) k f fd ps sp ∧ mg x = some (.ref C) ∧ Binds K fd ps ds ∧ Vals dvs ds
/-- a law's end, where its defs may raise -/
theorem walk_ofW {l : PySem.W.OpenLaw} {n k : Nat} {q : Program} {loose : List Str} {XP : (Str → Option Value) → Heap → Prop} {YP : World → Heap → Prop} {d : DefRec} {x : Str}
    (hn : l.most = some n) (hn2 : n ≤ sizeLine) (hdf : d.params.defaults = []) (hr : Room k callerA)
    (F : ∀ (w : World) (mg : Str → Option Value) (fa : Addr) (h : Heap), YP w h → h.Ns mainGlobals mg → mg d.name = some (.ref fa) →
      ∃ (K : PySem.W.Frag) (fd : FuncData) (sp : Sp), K.In h ∧ (∀ (s : Shared) (u : Value), BindsTo s fd ⟨[u], []⟩ [(x, u)]) ∧
        (∀ (H : Hp) (a : Addr) (ns : List Int), ns.length ≤ n → Only H → SqL K H a (ns.map V.int) → sp [.ref a] H (fun v _ => v = .bl true) fun _ _ _ => False) ∧
        ∀ base : Heap, FnOk l.prog w K mg base (L2.CX l.prog w) k fa fd [x] sp) :
    PySem.W.WalkO q loose XP YP l.row.toRowW d [] (fun f vs => PySem.call f vs) := by
  refine Att.attach_call hn hdf fun w s₀ s₁ mg mb fa o pm cd doc a vs ns G Y ho hd hcd hmg hobj hints hlen hg => ?_
  obtain ⟨K, fd, sp, KX, hb, hsp, hF⟩ := F w mg fa _ Y G.T.g hmg
  refine law_call (CX := L2.CX l.prog w) KX G.T.g G.T.b G.T.builtins G.T.nolimit hg hobj hints (Nat.le_trans hlen hn2) hr (fun base _ _ => hF base) hb (fun H hO hS => hsp H a ns hlen hO hS) fun H e s' c => ?_
  obtain ⟨_, _, _, _, _, _, _, _, _, _, _, _, z⟩ := c
  exact z.elim
/-- nothing is let out -/
def Ez : L2.St → XK := fun _ _ _ _ => False
section
variable {X : Cx} {k j : Nat} {C : Addr} {x m : Str} {sp : Sp} {dvs : List V} {p pos apos : Pos} {e o : Expr} {es : List Expr} {ta : TE} {t : TA} {E : L2.St → XK}
theorem pz {σ : L2.St} : PassesAt (L2.CX X.prog X.w) X σ (Ez σ) := fun _ _ _ _ _ _ h => by
  obtain ⟨_, _, _, _, _, _, _, _, _, _, _, _, z⟩ := h
  exact z.elim
theorem pe_cl (c : Cl X.prog X.w X.K X.mg X.base k x sp dvs) (hr : Room j X.A) (hk : k ≤ j) (hx : ∀ σ, PassesAt (L2.CX X.prog X.w) X σ (E σ)) (hg : Gl X x) (ha : PA X (e :: es) t)
    (hdb : (x == ("__debug__" : Str)) = false := by decide) (he : starEach (e :: es) X.env = (false, eval e X.env) :: starEach es X.env := by rfl) (hpl : (backTo pos (starEach es X.env)).any (·.1) = false := by rfl) :
    PE X (.Call (.Name x p) (e :: es) [] pos) (tCallSD sp dvs E t) := by
  obtain ⟨f, fd, ps, ds, F, hm, kp, b, d⟩ := c.ex
  exact pe_callSD F (hr.mono hk) hg hm kp b d hx ha hdb he hpl
theorem pe_mq (c : Mq X.prog X.w X.K X.mg X.base k x C sp dvs) (hr : Room j X.A) (hk : k + 1 ≤ j) (hg : Gl X x) (ha : PA X (e :: es) t)
    (hdb : (x == ("__debug__" : Str)) = false := by decide) (he : starEach (e :: es) X.env = (false, eval e X.env) :: starEach es X.env := by rfl) (hpl : (backTo pos (starEach es X.env)).any (·.1) = false := by rfl) :
    PE X (.Call (.Name x p) (e :: es) [] pos) (tMake C sp dvs E0 t) := by
  obtain ⟨f, fd, ps, ds, M, F, hm, b, d⟩ := c.ex
  exact pe_make M F (hr.mono hk) hg hm b d passL ha hdb he hpl
/-- a constant of the module -/
theorem pe_gc {v : V} (hg : Gl X x) (h : ∃ u, X.mg x = some u ∧ RelV v u) (hd : (x == ("__debug__" : Str)) = false := by decide) : PE X (.Name x pos) (tC v) := by
  obtain ⟨u, hm, r⟩ := h
  exact pe_glob hg hm r hd
end

section
variable {X : Cx} {k j : Nat} {C : Addr} {x m : Str} {sp : Sp} {dvs : List V} {p pos apos : Pos} {e o : Expr} {es : List Expr} {ta : TE} {t : TA} {E : L2.St → XK}
/-- an expression has two readings: either will do -/
def tEor (t u : TE) : TE := fun σ H Q => t σ H Q ∨ u σ H Q
theorem pe_or2 {t u : TE} (h : PE X e t) (h' : PE X e u) : PE X e (tEor t u) := ⟨fun pins s σ H Q I q => q.elim (h.run pins s σ H Q I) (h'.run pins s σ H Q I)⟩
/-- o.m(..), what is raised is wished for at the caller's slots -/
def tMethD (C : Addr) (m : Str) (sp : Sp) (dvs : List V) (E : L2.St → XK) (ta : TE) (t : TA) : TE := fun σ H Q => ta σ H fun x H1 => ∃ a dx fs, x = .ref a ∧ H1 a = some (.ins C dx fs) ∧ fs.lookup m = none ∧
  t σ H1 fun vs H2 => sp (x :: (vs ++ dvs)) H2 Q (E σ)
theorem pe_mt1 {pl : Sem Bool} (c : Mt X.prog X.w X.K X.mg X.base k C m sp dvs) (hr : Room j X.A) (hk : k ≤ j) (hx : ∀ σ, PassesAt (L2.CX X.prog X.w) X σ (E σ)) (he : PE X o ta) (ha : PA X (e :: es) t)
    (hst : starEach (e :: es) X.env = (false, eval e X.env) :: starEach es X.env := by rfl) (hpl : (backTo pos (starEach es X.env)).any (·.1) = false := by rfl)
    (ht : eval (.Call (.Attribute o m apos) (e :: es) [] pos) X.env = (do
      let ov ← eval o X.env
      standAt apos.atName
      let (f, first) ← holding [ov] (getMethod ov m pl)
      callWith pos f first (backTo pos (starEach (e :: es) X.env)) (backToKw pos (keywordEach [] X.env))) := by rfl) :
    PE X (.Call (.Attribute o m apos) (e :: es) [] pos) (tMethD C m sp dvs E ta t) := by
  obtain ⟨f, fd, ps, ds, cl, hm, F, b, d⟩ := c.ex
  refine ⟨fun pins s σ H Q I h => ?_⟩
  refine PySem.W.methodCall_KW (pl := pl) (thn (he.run pins s σ H _ I h) fun u s1 ⟨x, H1, I1, rx, a, dx, fs, ex, ea, l, q⟩ => ?_) ht
  subst ex
  obtain rfl : u = Value.ref a := rx
  refine getmeth_ok I1 ea cl hm l (PySem.W.callWith_K (first := [.ref a]) (h₀ := X.base) I.ok.mod.kin hm.kp (thn (ha.run pos pins s1 σ H1 _ I1 q) fun us s2 ⟨vs, H2, I2, r, q2⟩ => ⟨I2.kIn, ?_⟩) hst hpl)
  exact run_fnSD (us := .ref a :: us) (vs := .ref a :: vs) F (hr.mono hk) b d (hx σ) I2 (.cons rfl r) q2
theorem pe_mt0 {pl : Sem Bool} (c : Mt X.prog X.w X.K X.mg X.base k C m sp dvs) (hr : Room j X.A) (hk : k ≤ j) (hx : ∀ σ, PassesAt (L2.CX X.prog X.w) X σ (E σ)) (he : PE X o ta)
    (ht : eval (.Call (.Attribute o m apos) [] [] pos) X.env = (do
      let ov ← eval o X.env
      standAt apos.atName
      let (f, first) ← holding [ov] (getMethod ov m pl)
      callWith pos f first (backTo pos (starEach [] X.env)) (backToKw pos (keywordEach [] X.env))) := by rfl) :
    PE X (.Call (.Attribute o m apos) [] [] pos) (tMethD C m sp dvs E ta tNil) := by
  obtain ⟨f, fd, ps, ds, cl, hm, F, b, d⟩ := c.ex
  refine ⟨fun pins s σ H Q I h => ?_⟩
  refine PySem.W.methodCall_KW (pl := pl) (thn (he.run pins s σ H _ I h) fun u s1 ⟨x, H1, I1, rx, a, dx, fs, ex, ea, l, q⟩ => ?_) ht
  subst ex
  obtain rfl : u = Value.ref a := rx
  exact getmeth_ok I1 ea cl hm l (PySem.W.callWith_K0 (first := [.ref a]) I1.kIn hm.kp (run_fnSD (us := [.ref a]) (vs := [.ref a]) F (hr.mono hk) b d (hx σ) I1 (.cons rfl .nil) q))
def rAbs : List V → Hp → VK → Prop := fun xs H Q => ∃ i, xs = [.int i] ∧ Q (.int (if i < 0 then -i else i)) H
def rMax2 : List V → Hp → VK → Prop := fun xs H Q => ∃ i j, xs = [.int i, .int j] ∧ Q (.int (if j > i then j else i)) H
def rMin2 : List V → Hp → VK → Prop := fun xs H Q => ∃ i j, xs = [.int i, .int j] ∧ Q (.int (if j < i then j else i)) H
def rFind : V → List V → Hp → VK → Prop := fun x xs H Q => ∃ a b, x = .str a ∧ xs = [.str b] ∧ Q (.int (Txt.find a b)) H
def rListX (K : PySem.W.Frag) : List V → Hp → VK → Prop := fun xs H Q => (∃ p ys, xs = [.ref p] ∧ (SqL K H p ys ∨ SqT K H p ys) ∧ ∀ l, H l = none → Q (.ref l) (upd H l (.lst ys))) ∨ rListD xs H Q
/-- a fact of the head that is told as a Bool -/
def fIs (C D : Str) (b : Bool) (K : PySem.W.Frag) : Bool := decide (PySem.W.kitOne K (.ref (He.ga K C)) (.ref (He.ga K D)) = some b)
def fIsT (C : Str) (D : String) (b : Bool) (K : PySem.W.Frag) : Bool := decide (PySem.W.kitOne K (.ref (He.ga K C)) (.type D) = some b)
def fTIs (D : String) (C : Str) (b : Bool) (K : PySem.W.Frag) : Bool := decide (PySem.W.kitOne K (.type D) (.ref (He.ga K C)) = some b)
def fIn (C : Str) (K : PySem.W.Frag) : Bool := He.eqO (PySem.W.findIn K (.ref (He.ga K C)) "__class__") (some (some (.builtin "object.__class__"))) &&
  (He.eqO (PySem.W.specialIn K (.builtin "object.__class__") "__get__") (some (some (.builtin "getset_descriptor.__get__"))) && (decide (PySem.W.takesIn K (.builtin "object.__class__") = some true) && decide (PySem.W.mroIn K (He.ga K C) (.type "object") = some true)))
theorem fIs_ok {C D : Str} {b : Bool} {K : PySem.W.Frag} (h : fIs C D b K = true) : PySem.W.kitOne K (.ref (He.ga K C)) (.ref (He.ga K D)) = some b := of_decide_eq_true h
theorem fIsT_ok {C : Str} {D : String} {b : Bool} {K : PySem.W.Frag} (h : fIsT C D b K = true) : PySem.W.kitOne K (.ref (He.ga K C)) (.type D) = some b := of_decide_eq_true h
theorem fTIs_ok {C : Str} {D : String} {b : Bool} {K : PySem.W.Frag} (h : fTIs D C b K = true) : PySem.W.kitOne K (.type D) (.ref (He.ga K C)) = some b := of_decide_eq_true h
/-- what isinstance asks of an instance of the class -/
structure InsF (K : PySem.W.Frag) (C : Addr) : Prop where
  ha : PySem.W.findIn K (.ref C) "__class__" = some (some (.builtin "object.__class__"))
  hn : PySem.W.specialIn K (.builtin "object.__class__") "__get__" = some (some (.builtin "getset_descriptor.__get__"))
  htk : PySem.W.takesIn K (.builtin "object.__class__") = some true
  hm : PySem.W.mroIn K C (.type "object") = some true
theorem fIn_ok {C : Str} {K : PySem.W.Frag} (h : fIn C K = true) : InsF K (He.ga K C) := by
  obtain ⟨h1, h2⟩ := He.ba h
  obtain ⟨h2, h3⟩ := He.ba h2
  obtain ⟨h3, h4⟩ := He.ba h3
  exact ⟨He.eqO_ok h1, He.eqO_ok h2, of_decide_eq_true h3, of_decide_eq_true h4⟩
def allB (fs : List (PySem.W.Frag → Bool)) (K : PySem.W.Frag) : Bool := fs.all fun f => f K
theorem allB_at {fs : List (PySem.W.Frag → Bool)} {K : PySem.W.Frag} (h : allB fs K = true) (i : Nat) {f : PySem.W.Frag → Bool} (hf : fs[i]? = some f := by rfl) : f K = true := List.all_eq_true.mp h f (List.mem_of_getElem? hf)
end

/-! ### operators by the values' kinds -/
section
variable {X : Cx}
def MulS (z : Str) (n : Int) : Prop := z.length ≤ 1024 ∧ n ≤ 1024 ∧ -1024 ≤ n
def rMulS : R2 := fun x y H Q => ∃ z n, x = .str z ∧ y = .int n ∧ MulS z n ∧ Q (.str (Txt.mul z n)) H
theorem op_mulS : OpR X (binaryOp .Mult) rMulS := by
  intro pins s σ H x y v u Q I rx ry h
  obtain ⟨z, n, rfl, rfl, ⟨h1, h2, h3⟩, q⟩ := h
  obtain ⟨t, rfl⟩ := rx
  obtain ⟨t', rfl⟩ := ry
  exact SB.mul (mulOk_of 1024 1024 h1 h2 (by omega) (by decide) (by decide)) fun t' k => ⟨.str _, H, I.tok _, ⟨_, rfl⟩, q⟩
def rAddS : R2 := fun x y H Q => ∃ i j, x = .str i ∧ y = .str j ∧ i.length + j.length ≤ sizeLine ∧ Q (.str (i ++ j)) H
/-- a + b: ints, texts, lists, tuples -/
def rAddX (K : PySem.W.Frag) : R2 := fun x y H Q => rI0 (fun i j => .int (i + j)) x y H Q ∨ rAddS x y H Q ∨ rCat x y H Q ∨ rCatT K x y H Q
theorem op_addX : OpR X (binaryOp .Add) (rAddX X.K) := OpR.or op_add (OpR.or op_add_str (OpR.or op_cat op_catT))
def rSubX : R2 := rI0 fun i j => .int (i - j)
theorem op_subX : OpR X (binaryOp .Sub) rSubX := op_sub
def rMulX : R2 := fun x y H Q => rI CMul (fun i j => .int (i * j)) x y H Q ∨ rMulS x y H Q ∨ rRep x y H Q
theorem op_mulX : OpR X (binaryOp .Mult) rMulX := OpR.or op_mul (OpR.or op_mulS op_rep)
def rModX : R2 := fun x y H Q => rI (fun _ j => 0 < j) (fun i j => .int (i % j)) x y H Q ∨ rI (fun _ j => j ≠ 0) (fun i j => .int (i.fmod j)) x y H Q
theorem op_modX : OpR X (binaryOp .Mod) rModX := OpR.or op_mod op_modN
def rDivX : R2 := fun x y H Q => rI CDiv (fun i j => .int (i / j)) x y H Q ∨ rI CDivN (fun i j => .int (i.fdiv j)) x y H Q
theorem op_divX : OpR X (binaryOp .FloorDiv) rDivX := OpR.or op_fdiv op_fdivN
def rInStr : R2 := fun x y H Q => ∃ (c : Nat) (z : Str), x = .str ⟨#[c]⟩ ∧ y = .str z ∧ Q (.bl (decide (c ∈ z.cps.toList))) H
def rNotInStr : R2 := fun x y H Q => ∃ (c : Nat) (z : Str), x = .str ⟨#[c]⟩ ∧ y = .str z ∧ Q (.bl (!decide (c ∈ z.cps.toList))) H
def rInX (K : PySem.W.Frag) : R2 := fun x y H Q => rIn K false x y H Q ∨ rInStr x y H Q
theorem op_inX : OpR X (compareOp .In) (rInX X.K) := OpR.or op_in_seq op_in_sign
def rNotInX (K : PySem.W.Frag) : R2 := fun x y H Q => rIn K true x y H Q ∨ rNotInStr x y H Q
theorem op_notInX : OpR X (compareOp .NotIn) (rNotInX X.K) := OpR.or op_notIn_seq op_notIn_sign
def rLtS : R2 := fun x y H Q => ∃ i j, x = .str i ∧ y = .str j ∧ Q (.bl (decide (i.cps.toList < j.cps.toList))) H
def rLtX (K : PySem.W.Frag) : R2 := fun x y H Q => rI0 (fun i j => .bl (decide (i < j))) x y H Q ∨ rLtS x y H Q ∨ rLtT K x y H Q
def rLeS : R2 := fun x y H Q => ∃ i j, x = .str i ∧ y = .str j ∧ Q (.bl (!decide (j.cps.toList < i.cps.toList))) H
def rLeX : R2 := fun x y H Q => rI0 (fun i j => .bl (decide (i ≤ j))) x y H Q ∨ rLeS x y H Q
def rGtX : R2 := rI0 fun i j => .bl (decide (j < i))
def rGeX : R2 := rI0 fun i j => .bl (decide (j ≤ i))
theorem op_ltX (hu : X.A.units + 64 < cLine) : OpR X (compareOp .Lt) (rLtX X.K) := OpR.or op_lt (OpR.or op_lt_str (op_ltT (by omega)))
theorem op_leX : OpR X (compareOp .LtE) rLeX := OpR.or op_le op_le_str
theorem op_gtX : OpR X (compareOp .Gt) rGtX := op_gt
theorem op_geX : OpR X (compareOp .GtE) rGeX := op_ge
/-- x is None, True, False, an object -/
def isW : V → Bool
  | .non => true
  | .bl _ => true
  | _ => false
def rIsW : R2 := fun x y H Q => isW y = true ∧ Q (.bl (decide (x = y))) H
def rIsNotW : R2 := fun x y H Q => isW y = true ∧ Q (.bl (!decide (x = y))) H
theorem is_b_gen {prog : Program} {w : World} {A : Around} {E : Value → Shared → Prop} {s : Shared} {x : V} {v : Value} {b : Bool} {Q : Value → Shared → Prop} (r : RelV x v) (h : Q (.bool (decide (x = .bl b))) s) : wpAny (model prog w) A (compareOp .Is v (.bool b)) Q E s := by
  cases x with
  | bl c =>
    cases r
    have e : (Value.bool c == Value.bool b) = decide (V.bl c = V.bl b) := by
      cases c <;> cases b <;> decide
    exact wpAny_pure (by rw [← e] at h; exact h)
  | non => cases r; exact wpAny_pure h
  | int i => obtain ⟨t, rfl⟩ := r; exact wpAny_pure h
  | str i => obtain ⟨t, rfl⟩ := r; exact wpAny_pure h
  | byt i => obtain ⟨t, rfl⟩ := r; exact wpAny_pure h
  | flt i => obtain ⟨t, rfl⟩ := r; exact wpAny_pure h
  | ref i => cases r; exact wpAny_pure h
  | ty i => cases r; exact wpAny_pure h
theorem isnot_b_gen {prog : Program} {w : World} {A : Around} {E : Value → Shared → Prop} {s : Shared} {x : V} {v : Value} {b : Bool} {Q : Value → Shared → Prop} (r : RelV x v) (h : Q (.bool (!decide (x = .bl b))) s) : wpAny (model prog w) A (compareOp .IsNot v (.bool b)) Q E s := by
  cases x with
  | bl c =>
    cases r
    have e : (Value.bool c == Value.bool b) = decide (V.bl c = V.bl b) := by
      cases c <;> cases b <;> decide
    exact wpAny_pure (by rw [← e] at h; exact h)
  | non => cases r; exact wpAny_pure h
  | int i => obtain ⟨t, rfl⟩ := r; exact wpAny_pure h
  | str i => obtain ⟨t, rfl⟩ := r; exact wpAny_pure h
  | byt i => obtain ⟨t, rfl⟩ := r; exact wpAny_pure h
  | flt i => obtain ⟨t, rfl⟩ := r; exact wpAny_pure h
  | ref i => cases r; exact wpAny_pure h
  | ty i => cases r; exact wpAny_pure h
theorem op_isW : OpR X (compareOp .Is) rIsW := by
  intro pins s σ H x y v u Q I rx ry h
  obtain ⟨hy, q⟩ := h
  cases y with
  | non => exact op_isN pins s σ H x .non v u Q I rx ry ⟨rfl, q⟩
  | bl b => cases ry; exact is_b_gen rx ⟨.bl _, H, I, rfl, q⟩
  | _ => exact absurd (show false = true from hy) Bool.false_ne_true
theorem op_isNotW : OpR X (compareOp .IsNot) rIsNotW := by
  intro pins s σ H x y v u Q I rx ry h
  obtain ⟨hy, q⟩ := h
  cases y with
  | non => exact op_notN pins s σ H x .non v u Q I rx ry ⟨rfl, q⟩
  | bl b => cases ry; exact isnot_b_gen rx ⟨.bl _, H, I, rfl, q⟩
  | _ => exact absurd (show false = true from hy) Bool.false_ne_true
def rIsO : R2 := fun x y H Q => ∃ a b oa ob, x = .ref a ∧ y = .ref b ∧ H a = some oa ∧ isObj oa = true ∧ H b = some ob ∧ isObj ob = true ∧ Q (.bl (decide (a = b))) H
def rIsNotO : R2 := fun x y H Q => ∃ a b oa ob, x = .ref a ∧ y = .ref b ∧ H a = some oa ∧ isObj oa = true ∧ H b = some ob ∧ isObj ob = true ∧ Q (.bl (!decide (a = b))) H
def rIsX : R2 := fun x y H Q => rIsW x y H Q ∨ rIsO x y H Q
def rIsNotX : R2 := fun x y H Q => rIsNotW x y H Q ∨ rIsNotO x y H Q
theorem op_isX : OpR X (compareOp .Is) rIsX := OpR.or op_isW op_is_ref
theorem op_isNotX : OpR X (compareOp .IsNot) rIsNotX := OpR.or op_isNotW op_isnot_ref
/-- ==: of single values, of data at any depth -/
def rEqX (K : PySem.W.Frag) : R2 := fun x y H Q => rEq x y H Q ∨ rEqD K x y H Q
def rNeX (K : PySem.W.Frag) : R2 := fun x y H Q => rNe x y H Q ∨ rNeD K x y H Q
theorem op_eqX (hu : X.A.units + 64 < cLine) : OpR X (compareOp .Eq) (rEqX X.K) := OpR.or op_eq (op_eqD hu)
theorem op_neX (hu : X.A.units + 64 < cLine) : OpR X (compareOp .NotEq) (rNeX X.K) := OpR.or op_ne (op_neD hu)
/-- a[i:j] of texts and lists -/
def rSlX (K : PySem.W.Frag) : V → Option Int → Option Int → Hp → VK → Prop := fun x lo hi H Q => rSlS x lo hi H Q ∨ rSlL K x lo hi H Q
theorem sl_X : SlR X (rSlX X.K) := SlR.or sl_str sl_list
def rIntX : List V → Hp → VK → Prop := fun xs H Q => ((∃ i, xs = [.int i] ∧ Q (.int i) H) ∨ ∃ k, xs = [.bl k] ∧ Q (.int (b2i k)) H) ∨ ∃ a n, xs = [.str a] ∧ PySem.intText? a = some n ∧ a.length ≤ 640 ∧ Q (.int n) H
end

section
variable {X : Cx}
def rJoin (K : PySem.W.Frag) : V → List V → Hp → VK → Prop := fun x xs H Q => ∃ a p, ∃ ys : List Str, x = .str a ∧ xs = [.ref p] ∧ (SqL K H p (ys.map V.str) ∨ SqT K H p (ys.map V.str)) ∧
  (ys.map (·.length)).sum + ys.length * a.length ≤ 16777216 ∧ Q (.str (Txt.join a ys)) H
def rStarts3 : V → List V → Hp → VK → Prop := fun x xs H Q => ∃ (a b : Str) (i : Int), x = .str a ∧ xs = [.str b, .int i] ∧ Q (.bl (Txt.startswith3 a b i)) H
/-- what a for walks: a list, a tuple, a text -/
def iAny (K : PySem.W.Frag) (te : TE) : TI := fun σ H R => iList K te σ H R ∨ iTup K te σ H R ∨ iStr te σ H R
theorem pi_any {tg e : Expr} {te : TE} (he : PE X e te) : PI X tg e (iAny X.K te) := ⟨fun pins s σ H R I h => by
  rcases h with h | h | h
  · exact (pi_list he).run pins s σ H R I h
  · exact (pi_tup he).run pins s σ H R I h
  · exact (pi_str he).run pins s σ H R I h⟩
end

/-! ### the reading, step by step: each ⟨nx, rt, bk, ct⟩ stands open -/
section
variable {nx bk ct : L2.St → Hp → Prop} {rt : VK} {σ : L2.St} {H : Hp} {Q : VK} {te ta tb tc : TE} {t u : TS} {tt tt' : TT} {K : PySem.W.Frag} {v x y : V} {i : Nat} {r : R2} {TA1 : TA}
theorem g_seq (h : t ⟨u ⟨nx, rt, bk, ct⟩, rt, bk, ct⟩ σ H) : tSeq t u ⟨nx, rt, bk, ct⟩ σ H := h
theorem g_next (h : nx σ H) : tNext ⟨nx, rt, bk, ct⟩ σ H := h
theorem g_brk (h : bk σ H) : tBreak ⟨nx, rt, bk, ct⟩ σ H := h
theorem g_cont (h : ct σ H) : tCont ⟨nx, rt, bk, ct⟩ σ H := h
theorem g_asg (h : te σ H fun x H1 => nx (σ.set i (some x)) H1) : tAsg te (gName i) ⟨nx, rt, bk, ct⟩ σ H := h
theorem g_drop (h : te σ H fun _ H1 => nx σ H1) : tDrop te ⟨nx, rt, bk, ct⟩ σ H := h
theorem g_ret (h : te σ H rt) : tRet te ⟨nx, rt, bk, ct⟩ σ H := h
theorem g_retN (h : rt .non H) : tRetN ⟨nx, rt, bk, ct⟩ σ H := h
theorem g_if (h : tt σ H fun b H1 => if b = true then t ⟨nx, rt, bk, ct⟩ σ H1 else u ⟨nx, rt, bk, ct⟩ σ H1) : tIfS tt t u ⟨nx, rt, bk, ct⟩ σ H := h
theorem g_var (h : σ[i]? = some (some v)) (q : Q v H) : tVar i σ H Q := ⟨v, h, q⟩
theorem g_c (q : Q v H) : tC v σ H Q := q
theorem g_op (h : ta σ H fun x H1 => tb σ H1 fun y H2 => r x y H2 Q) : tOp r ta tb σ H Q := h
theorem g_un {r : V → Hp → VK → Prop} (h : ta σ H fun x H1 => r x H1 Q) : tUn r ta σ H Q := h
theorem g_nil {Q : List V → Hp → Prop} (h : Q [] H) : tNil σ H Q := h
theorem g_cons {Q : List V → Hp → Prop} (h : ta σ H fun x H1 => TA1 σ H1 fun xs H2 => Q (x :: xs) H2) : tCons ta TA1 σ H Q := h
def TestK (x : V) (H : Hp) (Q : Bool → Hp → Prop) : Prop := ∃ k, x = .bl k ∧ Q k H
theorem g_test {Q : Bool → Hp → Prop} (h : te σ H fun x H' => TestK x H' Q) : tTest te σ H Q := h
theorem g_b {Q : Bool → Hp → Prop} (h : te σ H fun x H' => TestK x H' Q) : tB te σ H Q := h
theorem g_k {Q : Bool → Hp → Prop} {b : Bool} (q : Q b H) : TestK (.bl b) H Q := ⟨b, rfl, q⟩
def TruK (K : PySem.W.Frag) (x : V) (H : Hp) (Q : Bool → Hp → Prop) : Prop := ∃ k, TruV K x H k ∧ Q k H
theorem g_tru {Q : Bool → Hp → Prop} (h : te σ H fun x H' => TruK K x H' Q) : tTru K te σ H Q := h
theorem v_truB {Q : Bool → Hp → Prop} {b : Bool} (q : Q b H) : TruK K (.bl b) H Q := ⟨b, rfl, q⟩
theorem v_truN {Q : Bool → Hp → Prop} (q : Q false H) : TruK K .non H Q := ⟨_, rfl, q⟩
theorem v_truI {Q : Bool → Hp → Prop} {i : Int} (q : Q (i != 0) H) : TruK K (.int i) H Q := ⟨_, rfl, q⟩
theorem g_and {Q : Bool → Hp → Prop} (h : tt σ H fun c H1 => if c = true then tt' σ H1 Q else Q false H1) : tAnd tt tt' σ H Q := h
theorem g_or {Q : Bool → Hp → Prop} (h : tt σ H fun c H1 => if c = true then Q true H1 else tt' σ H1 Q) : tOr tt tt' σ H Q := h
theorem g_not {Q : Bool → Hp → Prop} (h : tt σ H fun c H1 => Q (!c) H1) : tNot tt σ H Q := h
theorem g_andV (h : ta σ H fun x H1 => TestK x H1 fun c H1 => if c = true then tb σ H1 Q else Q (.bl false) H1) : tAndV ta tb σ H Q := h
theorem g_orV (h : ta σ H fun x H1 => TestK x H1 fun c H1 => if c = true then Q (.bl true) H1 else tb σ H1 Q) : tOrV ta tb σ H Q := h
theorem g_notV (h : ta σ H fun x H1 => TestK x H1 fun c H1 => Q (.bl (!c)) H1) : tNotV ta σ H Q := h
theorem g_ifE (h : tt σ H fun c H1 => if c = true then ta σ H1 Q else tb σ H1 Q) : tIf tt ta tb σ H Q := h
theorem g_callB {r : List V → Hp → VK → Prop} (h : TA1 σ H fun vs H1 => r vs H1 Q) : tCB r TA1 σ H Q := h
theorem g_call {sp : Sp} {E : L2.St → XK} (h : TA1 σ H fun vs H1 => sp vs H1 Q (E σ)) : tCallSD sp [] E TA1 σ H Q := by
  show TA1 σ H fun vs H1 => sp (vs ++ []) H1 Q (E σ)
  simp only [List.append_nil]
  exact h
theorem g_tup (h : TA1 σ H fun xs H1 => xs.length ≤ sizeLine ∧ ∀ p, H1 p = none → Q (.ref p) (upd H1 p (.tup xs))) : tTup TA1 σ H Q := h
theorem g_lst (h : TA1 σ H fun xs H1 => xs.length ≤ sizeLine ∧ ∀ p, H1 p = none → Q (.ref p) (upd H1 p (.lst xs))) : tLst TA1 σ H Q := h
theorem g_small {xs : List V} {A : Prop} (h : xs.length ≤ 1000) (q : A) : xs.length ≤ sizeLine ∧ A := ⟨Nat.le_of_lt (small1000 h), q⟩
/-! by values -/
theorem v_addI {i j : Int} (q : Q (.int (i + j)) H) : rAddX K (.int i) (.int j) H Q := .inl ⟨_, _, rfl, rfl, q⟩
theorem v_addS {a b : Str} (h : a.length + b.length ≤ sizeLine) (q : Q (.str (a ++ b)) H) : rAddX K (.str a) (.str b) H Q := .inr (.inl ⟨_, _, rfl, rfl, h, q⟩)
theorem v_sub {i j : Int} (q : Q (.int (i - j)) H) : rSubX (.int i) (.int j) H Q := ⟨_, _, rfl, rfl, q⟩
theorem v_mulI {i j : Int} (h : CMul i j) (q : Q (.int (i * j)) H) : rMulX (.int i) (.int j) H Q := .inl ⟨_, _, rfl, rfl, h, q⟩
theorem v_mulS {z : Str} {n : Int} (h : MulS z n) (q : Q (.str (Txt.mul z n)) H) : rMulX (.str z) (.int n) H Q := .inr (.inl ⟨_, _, rfl, rfl, h, q⟩)
theorem v_mod {i j : Int} (h : 0 < j) (q : Q (.int (i % j)) H) : rModX (.int i) (.int j) H Q := .inl ⟨_, _, rfl, rfl, h, q⟩
theorem v_div {i j : Int} (h : CDiv i j) (q : Q (.int (i / j)) H) : rDivX (.int i) (.int j) H Q := .inl ⟨_, _, rfl, rfl, h, q⟩
theorem v_lt {i j : Int} (q : Q (.bl (decide (i < j))) H) : rLtX K (.int i) (.int j) H Q := .inl ⟨_, _, rfl, rfl, q⟩
theorem v_le {i j : Int} (q : Q (.bl (decide (i ≤ j))) H) : rLeX (.int i) (.int j) H Q := .inl ⟨_, _, rfl, rfl, q⟩
theorem v_leS {a b : Str} (q : Q (.bl (!decide (b.cps.toList < a.cps.toList))) H) : rLeX (.str a) (.str b) H Q := .inr ⟨_, _, rfl, rfl, q⟩
theorem v_gt {i j : Int} (q : Q (.bl (decide (j < i))) H) : rGtX (.int i) (.int j) H Q := ⟨_, _, rfl, rfl, q⟩
theorem v_ge {i j : Int} (q : Q (.bl (decide (j ≤ i))) H) : rGeX (.int i) (.int j) H Q := ⟨_, _, rfl, rfl, q⟩
theorem dS {a b : Str} : decide (V.str a = V.str b) = decide (a = b) := by
  by_cases h : a = b
  · rw [h]; simp
  · rw [decide_eq_false h, decide_eq_false]; intro z; exact h (V.str.inj z)
theorem dI {a b : Int} : decide (V.int a = V.int b) = decide (a = b) := by
  by_cases h : a = b
  · rw [h]; simp
  · rw [decide_eq_false h, decide_eq_false]; intro z; exact h (V.int.inj z)
theorem dB {a b : Bool} : decide (V.bl a = V.bl b) = decide (a = b) := by
  by_cases h : a = b
  · rw [h]; simp
  · rw [decide_eq_false h, decide_eq_false]; intro z; exact h (V.bl.inj z)
theorem v_eqI {i j : Int} (q : Q (.bl (decide (i = j))) H) : rEqX K (.int i) (.int j) H Q := .inl ⟨rfl, by rw [dI]; exact q⟩
theorem v_eqS {i j : Str} (q : Q (.bl (decide (i = j))) H) : rEqX K (.str i) (.str j) H Q := .inl ⟨rfl, by rw [dS]; exact q⟩
theorem v_eqB {i j : Bool} (q : Q (.bl (decide (i = j))) H) : rEqX K (.bl i) (.bl j) H Q := .inl ⟨rfl, by rw [dB]; exact q⟩
theorem v_neI {i j : Int} (q : Q (.bl (!decide (i = j))) H) : rNeX K (.int i) (.int j) H Q := .inl ⟨rfl, by rw [dI]; exact q⟩
theorem v_neS {i j : Str} (q : Q (.bl (!decide (i = j))) H) : rNeX K (.str i) (.str j) H Q := .inl ⟨rfl, by rw [dS]; exact q⟩
theorem v_neB {i j : Bool} (q : Q (.bl (!decide (i = j))) H) : rNeX K (.bl i) (.bl j) H Q := .inl ⟨rfl, by rw [dB]; exact q⟩
theorem v_isN (q : Q (.bl (decide (x = .non))) H) : rIsX x .non H Q := .inl ⟨rfl, q⟩
theorem v_isNotN (q : Q (.bl (!decide (x = .non))) H) : rIsNotX x .non H Q := .inl ⟨rfl, q⟩
theorem v_isB {b : Bool} (q : Q (.bl (decide (x = .bl b))) H) : rIsX x (.bl b) H Q := .inl ⟨rfl, q⟩
theorem v_isNotB {b : Bool} (q : Q (.bl (!decide (x = .bl b))) H) : rIsNotX x (.bl b) H Q := .inl ⟨rfl, q⟩
theorem v_eqV (h : scal x y = true) (q : Q (.bl (decide (x = y))) H) : rEqX K x y H Q := .inl ⟨h, q⟩
theorem v_neV (h : scal x y = true) (q : Q (.bl (!decide (x = y))) H) : rNeX K x y H Q := .inl ⟨h, q⟩
theorem v_eqD {d e : PyData} (h1 : Dp K H x d) (h2 : Dp K H y e) (s1 : SeqAt.shaped d = true) (s2 : SeqAt.shaped e = true) (q : Q (.bl (PyData.eqv d e)) H) : rEqX K x y H Q := .inr ⟨_, _, h1, h2, s1, s2, q⟩
theorem v_neD {d e : PyData} (h1 : Dp K H x d) (h2 : Dp K H y e) (s1 : SeqAt.shaped d = true) (s2 : SeqAt.shaped e = true) (q : Q (.bl (!PyData.eqv d e)) H) : rNeX K x y H Q := .inr ⟨_, _, h1, h2, s1, s2, q⟩
theorem v_inL {p : Addr} {xs : List V} (h : SqL K H p xs) (f1 : flatV x = true) (f2 : xs.all flatV = true) (q : Q (.bl (inV x xs)) H) : rInX K x (.ref p) H Q := .inl ⟨p, xs, rfl, .inl h, f1, f2, q⟩
theorem v_notInL {p : Addr} {xs : List V} (h : SqL K H p xs) (f1 : flatV x = true) (f2 : xs.all flatV = true) (q : Q (.bl (!inV x xs)) H) : rNotInX K x (.ref p) H Q := .inl ⟨p, xs, rfl, .inl h, f1, f2, q⟩
theorem v_cat {l b : Addr} {xs zs : List V} (h : H l = some (.lst xs)) (h2 : H b = some (.lst zs)) (hz : xs.length + zs.length ≤ sizeLine) (q : ∀ p, H p = none → Q (.ref p) (upd H p (.lst (xs ++ zs)))) : rAddX K (.ref l) (.ref b) H Q := .inr (.inr (.inl ⟨_, _, _, _, rfl, rfl, h, h2, hz, q⟩))
theorem v_inS {c : Nat} {z : Str} (q : Q (.bl (decide (c ∈ z.cps.toList))) H) : rInX K (.str ⟨#[c]⟩) (.str z) H Q := .inr ⟨_, _, rfl, rfl, q⟩
theorem v_notInS {c : Nat} {z : Str} (q : Q (.bl (!decide (c ∈ z.cps.toList))) H) : rNotInX K (.str ⟨#[c]⟩) (.str z) H Q := .inr ⟨_, _, rfl, rfl, q⟩
theorem v_inT {p : Addr} {xs : List V} (h : H p = some (.tup xs)) (f1 : flatV x = true) (f2 : xs.all flatV = true) (q : Q (.bl (inV x xs)) H) : rInX K x (.ref p) H Q := .inl ⟨p, xs, rfl, .inr (SqT.of h), f1, f2, q⟩
theorem v_notInT {p : Addr} {xs : List V} (h : H p = some (.tup xs)) (f1 : flatV x = true) (f2 : xs.all flatV = true) (q : Q (.bl (!inV x xs)) H) : rNotInX K x (.ref p) H Q := .inl ⟨p, xs, rfl, .inr (SqT.of h), f1, f2, q⟩
theorem v_lenS {z : Str} (h : z.length ≤ sizeLine) (q : Q (.int (z.length : Int)) H) : rLen K [.str z] H Q := ⟨_, _, rfl, ⟨h, rfl⟩, q⟩
theorem v_lenL {p : Addr} {xs : List V} (h : H p = some (.lst xs)) (q : Q (.int (xs.length : Int)) H) : rLen K [.ref p] H Q := ⟨_, _, rfl, .inl ⟨_, SqL.of h, rfl⟩, q⟩
theorem v_lenT {p : Addr} {xs : List V} (h : H p = some (.tup xs)) (q : Q (.int (xs.length : Int)) H) : rLen K [.ref p] H Q := ⟨_, _, rfl, .inr ⟨_, SqT.of h, rfl⟩, q⟩
theorem v_ixL {p : Addr} {xs : List V} {n : Int} (h : H p = some (.lst xs)) (e : atI xs n = some v) (q : Q v H) : rIx K (.ref p) (.int n) H Q := .inl ⟨_, _, _, _, rfl, rfl, SqL.of h, e, q⟩
theorem v_ixT {p : Addr} {xs : List V} {n : Int} (h : H p = some (.tup xs)) (e : atI xs n = some v) (q : Q v H) : rIx K (.ref p) (.int n) H Q := .inr (.inl ⟨_, _, _, _, rfl, rfl, SqT.of h, e, q⟩)
theorem v_ixS {z : Str} {n : Int} {c : Nat} (h : z.length ≤ sizeLine) (e : atI z.cps.toList n = some c) (q : Q (.str ⟨#[c]⟩) H) : rIx K (.str z) (.int n) H Q := .inr (.inr ⟨_, _, _, rfl, rfl, h, e, q⟩)
theorem v_intI {n : Int} (q : Q (.int n) H) : rIntX [.int n] H Q := .inl (.inl ⟨_, rfl, q⟩)
theorem v_intS {a : Str} {n : Int} (h : PySem.intText? a = some n) (hl : a.length ≤ 640) (q : Q (.int n) H) : rIntX [.str a] H Q := .inr ⟨_, _, rfl, h, hl, q⟩
/-! loops -/
def LoopG (J : It) (g : TG) (tb : TS) : TS := fun D σ H => ∃ W : Nat → Nat → L2.St → Hp → Prop, (∃ m, W 0 m σ H) ∧ ∀ i m σ H, W i m σ H →
  (J.stop i H ∧ D.nx σ H) ∨ (J.go i H ∧ ∃ N : L2.St → Hp → Prop, (∀ σ' H', N σ' H' → ∃ m', m' < m ∧ W (i + 1) m' σ' H') ∧ ∀ x H', J.yld i H x H' → g x σ H' fun σ2 H2 => tb { D with nx := N, ct := N, bk := D.nx } σ2 H2)
variable {wi : TI} {g : TG} {tb : TS}
theorem g_for (h : wi σ H fun J H1 => LoopG J g tb ⟨nx, rt, bk, ct⟩ σ H1) : tFor wi g tb ⟨nx, rt, bk, ct⟩ σ H := h
theorem g_name {S : L2.St → Hp → Prop} (h : S (σ.set i (some v)) H) : gName i v σ H S := h
def Rng1 (R : It → Hp → Prop) (vs : List V) (H : Hp) : Prop := ∃ j : Int, vs = [.int j] ∧ -(2 ^ 62) ≤ j ∧ j < 2 ^ 62 ∧ R (Itr 0 j.toNat) H
def Rng2 (R : It → Hp → Prop) (vs : List V) (H : Hp) : Prop := ∃ i j : Int, vs = [.int i, .int j] ∧ (-(2 ^ 62) ≤ i ∧ i < 2 ^ 62 ∧ -(2 ^ 62) ≤ j ∧ j < 2 ^ 62) ∧ R (Itr i (j - i).toNat) H
theorem g_rng1 {R : It → Hp → Prop} (h : TA1 σ H (Rng1 R)) : iRng1 TA1 σ H R := h
theorem g_rng2 {R : It → Hp → Prop} (h : TA1 σ H (Rng2 R)) : iRng2 TA1 σ H R := h
theorem g_rngN {R : It → Hp → Prop} {n : Nat} (hn : n < 2 ^ 62) (h : R (Itr 0 n) H) : Rng1 R [V.int (n : Int)] H := ⟨_, rfl, by omega, by omega, by rw [Int.toNat_natCast]; exact h⟩
theorem g_rngI {R : It → Hp → Prop} {n : Int} (h1 : -(2 ^ 62) ≤ n) (h2 : n < 2 ^ 62) (h : R (Itr 0 n.toNat) H) : Rng1 R [V.int n] H := ⟨_, rfl, h1, h2, h⟩
theorem g_rngT {R : It → Hp → Prop} {m n : Int} (h1 : -(2 ^ 62) ≤ m ∧ m < 2 ^ 62 ∧ -(2 ^ 62) ≤ n ∧ n < 2 ^ 62) (h : R (Itr m (n - m).toNat) H) : Rng2 R [V.int m, V.int n] H := ⟨_, _, rfl, h1, h⟩
def OvL (K : PySem.W.Frag) (R : It → Hp → Prop) (x : V) (H : Hp) : Prop := ∃ a, x = .ref a ∧ (∃ xs, SqL K H a xs) ∧ R (Itl K a) H
def OvT (K : PySem.W.Frag) (R : It → Hp → Prop) (x : V) (H : Hp) : Prop := ∃ a, x = .ref a ∧ (∃ xs, SqT K H a xs) ∧ R (Itt K a) H
def OvS (R : It → Hp → Prop) (x : V) (H : Hp) : Prop := ∃ z, x = .str z ∧ R (Its z) H
theorem gi_list {R : It → Hp → Prop} (h : te σ H (OvL K R)) : iAny K te σ H R := .inl h
theorem gi_tup {R : It → Hp → Prop} (h : te σ H (OvT K R)) : iAny K te σ H R := .inr (.inl h)
theorem gi_str {R : It → Hp → Prop} (h : te σ H (OvS R)) : iAny K te σ H R := .inr (.inr h)
theorem v_ovL {R : It → Hp → Prop} {p : Addr} {xs : List V} (h : SqL K H p xs) (q : R (Itl K p) H) : OvL K R (.ref p) H := ⟨p, rfl, ⟨xs, h⟩, q⟩
theorem v_ovT {R : It → Hp → Prop} {p : Addr} {xs : List V} (h : SqT K H p xs) (q : R (Itt K p) H) : OvT K R (.ref p) H := ⟨p, rfl, ⟨xs, h⟩, q⟩
theorem v_ovS {R : It → Hp → Prop} {z : Str} (q : R (Its z) H) : OvS R (.str z) H := ⟨z, rfl, q⟩
theorem l_range {lo : Int} {n : Nat} (Pv : Nat → L2.St → Hp → Prop) (h0 : Pv 0 σ H) (hs : ∀ i σ H, i < n → Pv i σ H → g (.int (lo + i)) σ H fun σ2 H2 => tb ⟨Pv (i + 1), rt, nx, Pv (i + 1)⟩ σ2 H2)
    (hd : ∀ σ H, Pv n σ H → nx σ H) : LoopG (Itr lo n) g tb ⟨nx, rt, bk, ct⟩ σ H := for_range (D := ⟨nx, rt, bk, ct⟩) Pv h0 hs hd
theorem l_list {a : Addr} {xs : List V} (Pv : Nat → L2.St → Hp → Prop) (h0 : Pv 0 σ H) (hl : ∀ i σ H, i ≤ xs.length → Pv i σ H → SqL K H a xs)
    (hs : ∀ i x σ H, xs[i]? = some x → Pv i σ H → g x σ H fun σ2 H2 => tb ⟨Pv (i + 1), rt, nx, Pv (i + 1)⟩ σ2 H2) (hd : ∀ σ H, Pv xs.length σ H → nx σ H) : LoopG (Itl K a) g tb ⟨nx, rt, bk, ct⟩ σ H := for_list (D := ⟨nx, rt, bk, ct⟩) Pv h0 hl hs hd
theorem l_tup {a : Addr} {xs : List V} (Pv : Nat → L2.St → Hp → Prop) (h0 : Pv 0 σ H) (hl : ∀ i σ H, i ≤ xs.length → Pv i σ H → SqT K H a xs)
    (hs : ∀ i x σ H, xs[i]? = some x → Pv i σ H → g x σ H fun σ2 H2 => tb ⟨Pv (i + 1), rt, nx, Pv (i + 1)⟩ σ2 H2) (hd : ∀ σ H, Pv xs.length σ H → nx σ H) : LoopG (Itt K a) g tb ⟨nx, rt, bk, ct⟩ σ H := for_tup (D := ⟨nx, rt, bk, ct⟩) Pv h0 hl hs hd
theorem l_str {zs : List Nat} (Pv : Nat → L2.St → Hp → Prop) (h0 : Pv 0 σ H) (hs : ∀ i c σ H, zs[i]? = some c → Pv i σ H → g (.str ⟨#[c]⟩) σ H fun σ2 H2 => tb ⟨Pv (i + 1), rt, nx, Pv (i + 1)⟩ σ2 H2)
    (hd : ∀ σ H, Pv zs.length σ H → nx σ H) : LoopG (Its ⟨zs.toArray⟩) g tb ⟨nx, rt, bk, ct⟩ σ H := by
  refine ⟨fun i m σ H => m = zs.length - i ∧ i ≤ zs.length ∧ Pv i σ H, ⟨zs.length, by simp, Nat.zero_le _, h0⟩, ?_⟩
  rintro i m σ H ⟨rfl, hi, p⟩
  by_cases hlt : i < zs.length
  · refine .inr ⟨(by show i < zs.toArray.size; simpa using hlt), Pv (i + 1), fun σ' H' p' => ⟨zs.length - (i + 1), by omega, rfl, hlt, p'⟩, fun x H' y => ?_⟩
    obtain ⟨e, c, hc, ex⟩ := y
    subst e ex
    exact hs i c σ _ (by simpa using hc) p
  · have e : i = zs.length := by omega
    subst e
    exact .inl ⟨(by show zs.toArray.size ≤ zs.length; simp), hd σ H p⟩
theorem g_while (h : ∃ W : Nat → L2.St → Hp → Prop, (∃ m, W m σ H) ∧ ∀ m σ H, W m σ H →
    tt σ H fun b H1 => if b = true then ∃ N : L2.St → Hp → Prop, (∀ σ' H', N σ' H' → ∃ m', m' < m ∧ W m' σ' H') ∧ tb ⟨N, rt, nx, N⟩ σ H1 else nx σ H1) : tWhile tt tb ⟨nx, rt, bk, ct⟩ σ H := h
theorem g_turn {W : Nat → L2.St → Hp → Prop} {m : Nat} (h : tb ⟨fun σ' H' => ∃ m', m' < m ∧ W m' σ' H', rt, nx, fun σ' H' => ∃ m', m' < m ∧ W m' σ' H'⟩ σ H) :
    ∃ N : L2.St → Hp → Prop, (∀ σ' H', N σ' H' → ∃ m', m' < m ∧ W m' σ' H') ∧ tb ⟨N, rt, nx, N⟩ σ H := ⟨_, fun _ _ z => z, h⟩
/-! methods of lists, texts, stores -/
theorem g_bm {T : String} {r : V → List V → Hp → VK → Prop} (h : ta σ H fun x H1 => tyV K T x H1 ∧ TA1 σ H1 fun xs H2 => r x xs H2 Q) : tBM K T r ta TA1 σ H Q := h
theorem g_bm0 {T : String} {r : V → List V → Hp → VK → Prop} (h : ta σ H fun x H1 => tyV K T x H1 ∧ r x [] H1 Q) : tBM0 K T r ta σ H Q := h
theorem g_tyL {p : Addr} {xs : List V} {A : Prop} (h : H p = some (.lst xs)) (q : A) : tyV K "list" (.ref p) H ∧ A := ⟨.inl ⟨rfl, _, SqL.of h⟩, q⟩
theorem g_tyS {z : Str} {A : Prop} (q : A) : tyV K "str" (.str z) H ∧ A := ⟨rfl, q⟩
theorem v_append {l : Addr} {xs : List V} (h : H l = some (.lst xs)) (hl : xs.length < sizeLine) (q : Q .non (upd H l (.lst (xs ++ [y])))) : rAppend (.ref l) [y] H Q := ⟨_, _, _, rfl, rfl, h, hl, q⟩
theorem g_m1 {r : V → List V → Hp → VK → Prop} (h : ta σ H fun x H1 => (∃ a, x = .str a) ∧ tc σ H1 fun y H2 => r x [y] H2 Q) : tM1 r ta tc σ H Q := h
theorem g_isS {z : Str} {A : Prop} (q : A) : (∃ a, V.str z = .str a) ∧ A := ⟨⟨_, rfl⟩, q⟩
theorem v_join {p : Addr} {a : Str} {ys : List Str} (h : H p = some (.lst (ys.map V.str))) (hz : (ys.map (·.length)).sum + ys.length * a.length ≤ 16777216) (q : Q (.str (Txt.join a ys)) H) : rJoin K (.str a) [.ref p] H Q := ⟨_, _, _, rfl, rfl, .inl (SqL.of h), hz, q⟩
theorem v_starts3 {a b : Str} {n : Int} (q : Q (.bl (Txt.startswith3 a b n)) H) : rStarts3 (.str a) [.str b, .int n] H Q := ⟨_, _, _, rfl, rfl, q⟩
theorem g_sl {r : V → Option Int → Option Int → Hp → VK → Prop} {tl th : TO} (h : te σ H fun x H1 => tl σ H1 fun l H2 => th σ H2 fun u H3 => r x l u H3 Q) : tSl r te tl th σ H Q := h
theorem g_no {Q : Option Int → Hp → Prop} (h : Q none H) : tNoPart σ H Q := h
def PartK (x : V) (H : Hp) (Q : Option Int → Hp → Prop) : Prop := ∃ i, x = .int i ∧ Q (some i) H
theorem g_part {Q : Option Int → Hp → Prop} (h : te σ H fun x H1 => PartK x H1 Q) : tPart te σ H Q := h
theorem g_isI {n : Int} {Q : Option Int → Hp → Prop} (h : Q (some n) H) : PartK (.int n) H Q := ⟨_, rfl, h⟩
theorem v_slS {z : Str} {lo hi : Option Int} (h : z.length ≤ sizeLine) (q : Q (.str (cutS z lo hi)) H) : rSlX K (.str z) lo hi H Q := .inl ⟨_, rfl, h, q⟩
theorem v_slL {p : Addr} {xs : List V} {lo hi : Option Int} (h : H p = some (.lst xs)) (q : ∀ p, H p = none → Q (.ref p) (upd H p (.lst (cutV xs lo hi)))) : rSlX K (.ref p) lo hi H Q := .inr ⟨_, _, rfl, SqL.of h, q⟩
theorem g_make {C : Addr} {sp : Sp} {E : XK} (h : TA1 σ H fun vs H1 => ∀ x dx, H1 x = none → H1 dx = none → dx ≠ x → sp (.ref x :: vs) (upd (upd H1 dx (.own x)) x (.ins C dx [])) (fun v H2 => v = .non ∧ Q (.ref x) H2) E) : tMake C sp [] E TA1 σ H Q := by
  show TA1 σ H fun vs H1 => ∀ x dx, H1 x = none → H1 dx = none → dx ≠ x → sp (.ref x :: (vs ++ [])) (upd (upd H1 dx (.own x)) x (.ins C dx [])) (fun v H2 => v = .non ∧ Q (.ref x) H2) E
  simp only [List.append_nil]
  exact h
def FldK (K : PySem.W.Frag) (f : Str) (x : V) (H : Hp) (Q : VK) : Prop := ∃ a C dx fs v, x = .ref a ∧ H a = some (.ins C dx fs) ∧ Cls K C ∧ NoAttr K C f ∧ fs.lookup f = some v ∧ Q v H
theorem g_fld {f : Str} (h : ta σ H fun x H1 => FldK K f x H1 Q) : tFld K ta f σ H Q := h
theorem v_fld {a C dx : Addr} {fs : List (Str × V)} {f : Str} (h : H a = some (.ins C dx fs)) (c : Cls K C) (n : NoAttr K C f) (l : fs.lookup f = some v) (q : Q v H) : FldK K f (.ref a) H Q := ⟨_, _, _, _, _, rfl, h, c, n, l, q⟩
def SfldK (K : PySem.W.Frag) (f : Str) (x y : V) (H : Hp) (S : Hp → Prop) : Prop := ∃ a C dx fs, x = .ref a ∧ H a = some (.ins C dx fs) ∧ Cls K C ∧ NoAttr K C f ∧ fs.length < 1000 ∧ S (upd H a (.ins C dx (putF f y fs)))
theorem g_sfld {tv : TE} {f : Str} (h : tv σ H fun y H1 => ta σ H1 fun x H2 => SfldK K f x y H2 (nx σ)) : sFld K ta tv f ⟨nx, rt, bk, ct⟩ σ H := h
theorem v_sfld {a C dx : Addr} {fs : List (Str × V)} {f : Str} {S : Hp → Prop} (h : H a = some (.ins C dx fs)) (c : Cls K C) (n : NoAttr K C f) (l : fs.length < 1000) (q : S (upd H a (.ins C dx (putF f y fs)))) :
    SfldK K f (.ref a) y H S := ⟨_, _, _, _, rfl, h, c, n, l, q⟩
theorem g_asgG (h : te σ H fun x H1 => g x σ H1 nx) : tAsg te g ⟨nx, rt, bk, ct⟩ σ H := h
theorem g_sub {S : L2.St → Hp → Prop} {to ti : TE} {ts : TSet} (h : to σ H fun o H1 => ti σ H1 fun i H2 => ts o i v H2 fun H3 => S σ H3) : gSub to ti ts v σ H S := h
theorem v_setL {p : Addr} {xs : List V} {n : Int} {j : Nat} {S : Hp → Prop} (h : H p = some (.lst xs)) (e : ixN xs.length n = some j) (q : S (upd H p (.lst (xs.set j v)))) : rSetL (.ref p) (.int n) v H S := ⟨_, _, _, _, rfl, rfl, h, e, q⟩
theorem g_gtup {S : L2.St → Hp → Prop} {n : Nat} {t : TGs} {a : Addr} {xs : List V} (h : H a = some (.tup xs)) (l : xs.length = n) (q : t xs σ H S) : gTup K n t (.ref a) σ H S := ⟨a, xs, rfl, SqT.of h, l, q⟩
theorem g_gcons {S : L2.St → Hp → Prop} {t : TG} {u : TGs} {r : List V} (h : t v σ H fun σ' H' => u r σ' H' S) : gCons t u (v :: r) σ H S := ⟨v, r, rfl, h⟩
theorem g_gnil {S : L2.St → Hp → Prop} (h : S σ H) : gNil [] σ H S := ⟨rfl, h⟩
theorem g_cut (Mid : L2.St → Hp → Prop) (h1 : t ⟨Mid, rt, bk, ct⟩ σ H) (h2 : ∀ σ' H', Mid σ' H' → u ⟨nx, rt, bk, ct⟩ σ' H') : C8.tCut t u ⟨nx, rt, bk, ct⟩ σ H := ⟨Mid, h1, h2⟩
theorem g_thr (h : t ⟨u ⟨nx, rt, bk, ct⟩, rt, bk, ct⟩ σ H) : C8.tCut t u ⟨nx, rt, bk, ct⟩ σ H := ⟨_, h, fun _ _ z => z⟩
theorem v_lenSq {p : Addr} {xs : List V} (h : SqL K H p xs) (q : Q (.int (xs.length : Int)) H) : rLen K [.ref p] H Q := ⟨_, _, rfl, .inl ⟨_, h, rfl⟩, q⟩
theorem v_ixSq {p : Addr} {xs : List V} {n : Int} (h : SqL K H p xs) (e : atI xs n = some v) (q : Q v H) : rIx K (.ref p) (.int n) H Q := .inl ⟨_, _, _, _, rfl, rfl, h, e, q⟩
theorem up_new {p a : Addr} {o u : HO} (h : H a = some u) (n : H p = none) : upd H p o a = some u := by rw [upd_ne (ne_of_none h n)]; exact h
theorem same_new {p : Addr} {o : HO} (n : H p = none) : Same H (upd H p o) := fun _ _ h => up_new h n
/-- all stays but what stands at d -/
def Sb (d : Addr) (H H' : Hp) : Prop := ∀ b o, b ≠ d → H b = some o → H' b = some o
theorem Sb.refl {d : Addr} : Sb d H H := fun _ _ _ h => h
theorem Sb.trans {d : Addr} {H1 H2 : Hp} (a : Sb d H H1) (b : Sb d H1 H2) : Sb d H H2 := fun c o n h => b c o n (a c o n h)
theorem Sb.upd {d : Addr} {o : HO} : Sb d H (L2.upd H d o) := fun b _ n h => by rw [upd_ne n]; exact h
theorem Same.sb {d : Addr} {H1 : Hp} (a : Same H H1) : Sb d H H1 := fun c o _ h => a c o h
theorem atN {α : Type} {xs : List α} {i : Nat} {x : α} {n : Int} (e : n = (i : Int)) (h : xs[i]? = some x) : atI xs n = some x := by rw [e]; exact atI_nat h
theorem iteNT {A B : Prop} (h : B) : if (!true) = true then A else B := by
  rw [if_neg (by decide)]
  exact h
theorem iteNF {A B : Prop} (h : A) : if (!false) = true then A else B := by
  rw [if_pos (by decide)]
  exact h
theorem g_meth {C : Addr} {m : Str} {sp : Sp} {E : L2.St → XK} (h : ta σ H fun x H1 => ∃ a dx fs, x = .ref a ∧ H1 a = some (.ins C dx fs) ∧ fs.lookup m = none ∧ TA1 σ H1 fun vs H2 => sp (x :: vs) H2 Q (E σ)) : tMethD C m sp [] E ta TA1 σ H Q := by
  show ta σ H fun x H1 => ∃ a dx fs, x = .ref a ∧ H1 a = some (.ins C dx fs) ∧ fs.lookup m = none ∧ TA1 σ H1 fun vs H2 => sp (x :: (vs ++ [])) H2 Q (E σ)
  simp only [List.append_nil]
  exact h
theorem v_find {a b : Str} (q : Q (.int (Txt.find a b)) H) : rFind (.str a) [.str b] H Q := ⟨_, _, rfl, rfl, q⟩
theorem v_listL {p : Addr} {ys : List V} (h : SqL K H p ys) (q : ∀ l, H l = none → Q (.ref l) (upd H l (.lst ys))) : rListX K [.ref p] H Q := .inl ⟨_, _, rfl, .inl h, q⟩
theorem v_listT {p : Addr} {ys : List V} (h : SqT K H p ys) (q : ∀ l, H l = none → Q (.ref l) (upd H l (.lst ys))) : rListX K [.ref p] H Q := .inl ⟨_, _, rfl, .inr h, q⟩
/-! comprehensions -/
def LcG (J : It) (g : TG) (tt : TT) (te : TE) (σ0 : L2.St) (vs : List Nat) (D : Addr) (H1 : Hp) (Qd : Hp → Prop) : Prop := ∃ W : Nat → Nat → Hp → Prop, (∃ m, W 0 m (upd H1 D (.lst []))) ∧ ∀ i m H, W i m H →
      (J.stop i H ∧ Qd H) ∨ (J.go i H ∧ ∃ Nx : Hp → Prop, (∀ H', Nx H' → ∃ m', m' < m ∧ W (i + 1) m' H') ∧ ∀ x H', J.yld i H x H' → g x (wipe σ0 vs) H' fun σ2 H2 => wipe σ2 vs = wipe σ0 vs ∧ tt σ2 H2 fun b H3 =>
        if b = true then te σ2 H3 fun y H4 => ∃ acc, H4 D = some (.lst acc) ∧ acc.length < sizeLine ∧ Nx (upd H4 D (.lst (acc ++ [y]))) else Nx H3)
theorem g_lc {vs : List Nat} {g : TG} (h : wi σ H fun J H1 => ∀ D, H1 D = none → LcG J g tt te σ vs D H1 (Q (.ref D))) : tLc wi g tt te vs σ H Q := h
/-- a comprehension's new item -/
def PutC (D : Addr) (y : V) (H4 : Hp) (S : Hp → Prop) : Prop := ∃ acc, H4 D = some (.lst acc) ∧ acc.length < sizeLine ∧ S (upd H4 D (.lst (acc ++ [y])))
theorem v_put {D : Addr} {acc : List V} {S : Hp → Prop} (h : H D = some (.lst acc)) (hl : acc.length < sizeLine) (q : S (upd H D (.lst (acc ++ [y])))) : PutC D y H S := ⟨acc, h, hl, q⟩
theorem c_range {lo : Int} {n : Nat} {g : TG} {vs : List Nat} {D : Addr} {Qd : Hp → Prop} (Pv : Nat → Hp → Prop) (h0 : Pv 0 (upd H D (.lst [])))
    (hs : ∀ i H, i < n → Pv i H → g (.int (lo + i)) (wipe σ vs) H fun σ2 H2 => wipe σ2 vs = wipe σ vs ∧ tt σ2 H2 fun b H3 => if b = true then te σ2 H3 fun y H4 => PutC D y H4 (Pv (i + 1)) else Pv (i + 1) H3) (hd : ∀ H, Pv n H → Qd H) : LcG (Itr lo n) g tt te σ vs D H Qd := lc_range Pv h0 hs hd
theorem c_list {a : Addr} {xs : List V} {g : TG} {vs : List Nat} {D : Addr} {Qd : Hp → Prop} (Pv : Nat → Hp → Prop) (h0 : Pv 0 (upd H D (.lst []))) (hl : ∀ i H, i ≤ xs.length → Pv i H → SqL K H a xs)
    (hs : ∀ i x H, xs[i]? = some x → Pv i H → g x (wipe σ vs) H fun σ2 H2 => wipe σ2 vs = wipe σ vs ∧ tt σ2 H2 fun b H3 => if b = true then te σ2 H3 fun y H4 => PutC D y H4 (Pv (i + 1)) else Pv (i + 1) H3) (hd : ∀ H, Pv xs.length H → Qd H) : LcG (Itl K a) g tt te σ vs D H Qd := lc_list Pv h0 hl hs hd
theorem c_tup {a : Addr} {xs : List V} {g : TG} {vs : List Nat} {D : Addr} {Qd : Hp → Prop} (Pv : Nat → Hp → Prop) (h0 : Pv 0 (upd H D (.lst []))) (hl : ∀ i H, i ≤ xs.length → Pv i H → SqT K H a xs)
    (hs : ∀ i x H, xs[i]? = some x → Pv i H → g x (wipe σ vs) H fun σ2 H2 => wipe σ2 vs = wipe σ vs ∧ tt σ2 H2 fun b H3 => if b = true then te σ2 H3 fun y H4 => PutC D y H4 (Pv (i + 1)) else Pv (i + 1) H3) (hd : ∀ H, Pv xs.length H → Qd H) : LcG (Itt K a) g tt te σ vs D H Qd := lc_tup Pv h0 hl hs hd
theorem g_yes {Q : Bool → Hp → Prop} (h : Q true H) : tYes σ H Q := h
theorem g_chain {tb' : TE} {r' : R2} (h : ta σ H fun x H1 => tb' σ H1 fun y H2 => r x y H2 fun z H3 => TestK z H3 fun k H3 => if k = true then tc σ H3 fun w' H4 => r' y w' H4 Q else Q (.bl false) H3) : tChain r r' ta tb' tc σ H Q := h
/-! isinstance of single values -/
def isI : V → Bool
  | .int _ => true
  | .bl _ => true
  | _ => false
def isS : V → Bool
  | .str _ => true
  | _ => false
def isB : V → Bool
  | .bl _ => true
  | _ => false
theorem isi_flat {c : String} {b : Bool} (h : match x with | .non => kitB "NoneType" c = some b | .bl _ => kitB "bool" c = some b | .int _ => kitB "int" c = some b | .str _ => kitB "str" c = some b | _ => False) (q : Q (.bl b) H) : rIsi K [x, .ty c] H Q := by
  cases x with
  | non => exact ⟨_, _, _, _, b, rfl, .ty c, .base .non, kit_ty h, q⟩
  | bl z => exact ⟨_, _, _, _, b, rfl, .ty c, .base (.bl z), kit_ty h, q⟩
  | int z => exact ⟨_, _, _, _, b, rfl, .ty c, .base (.int z), kit_ty h, q⟩
  | str z => exact ⟨_, _, _, _, b, rfl, .ty c, .base (.str z), kit_ty h, q⟩
  | _ => exact h.elim
theorem v_isiI (f : flatV x = true) (q : Q (.bl (isI x)) H) : rIsi K [x, .ty "int"] H Q := by
  refine isi_flat ?_ q
  cases x with
  | non => exact (by decide +kernel : kitB "NoneType" "int" = some false)
  | bl z => exact (by decide +kernel : kitB "bool" "int" = some true)
  | int z => exact (by decide +kernel : kitB "int" "int" = some true)
  | str z => exact (by decide +kernel : kitB "str" "int" = some false)
  | _ => exact absurd (show false = true from f) Bool.false_ne_true
theorem v_isiS (f : flatV x = true) (q : Q (.bl (isS x)) H) : rIsi K [x, .ty "str"] H Q := by
  refine isi_flat ?_ q
  cases x with
  | non => exact (by decide +kernel : kitB "NoneType" "str" = some false)
  | bl z => exact (by decide +kernel : kitB "bool" "str" = some false)
  | int z => exact (by decide +kernel : kitB "int" "str" = some false)
  | str z => exact (by decide +kernel : kitB "str" "str" = some true)
  | _ => exact absurd (show false = true from f) Bool.false_ne_true
theorem v_isiB (f : flatV x = true) (q : Q (.bl (isB x)) H) : rIsi K [x, .ty "bool"] H Q := by
  refine isi_flat ?_ q
  cases x with
  | non => exact (by decide +kernel : kitB "NoneType" "bool" = some false)
  | bl z => exact (by decide +kernel : kitB "bool" "bool" = some true)
  | int z => exact (by decide +kernel : kitB "int" "bool" = some false)
  | str z => exact (by decide +kernel : kitB "str" "bool" = some false)
  | _ => exact absurd (show false = true from f) Bool.false_ne_true
theorem v_isiL {p : Addr} {xs : List V} (h : H p = some (.lst xs)) (q : Q (.bl true) H) : rIsi K [.ref p, .ty "list"] H Q := ⟨_, _, _, _, true, rfl, .ty _, .base (.lst h), kit_ty (by decide +kernel), q⟩
theorem v_isiO {p C C' dx : Addr} {fs : List (Str × V)} {b : Bool} (h : H p = some (.ins C dx fs)) (cl : Cls K C) (f : InsF K C) (k : PySem.W.kitOne K (.ref C) (.ref C') = some b) (q : Q (.bl b) H) : rIsi K [.ref p, .ref C'] H Q :=
  ⟨_, _, _, _, b, rfl, .own C', .base (.ins h cl f.ha f.hn f.htk f.hm), k, q⟩
theorem v_isiOT {p C dx : Addr} {fs : List (Str × V)} {b : Bool} {c : String} (h : H p = some (.ins C dx fs)) (cl : Cls K C) (f : InsF K C) (k : PySem.W.kitOne K (.ref C) (.type c) = some b) (q : Q (.bl b) H) : rIsi K [.ref p, .ty c] H Q :=
  ⟨_, _, _, _, b, rfl, .ty c, .base (.ins h cl f.ha f.hn f.htk f.hm), k, q⟩
def MethK (C : Addr) (m : Str) (x : V) (H1 : Hp) (S : Hp → Prop) : Prop := ∃ a dx fs, x = .ref a ∧ H1 a = some (.ins C dx fs) ∧ fs.lookup m = none ∧ S H1
theorem g_meth1 {C : Addr} {m : Str} {sp : Sp} {E : L2.St → XK} (h : ta σ H fun x H1 => MethK C m x H1 fun H1 => TA1 σ H1 fun vs H2 => sp (x :: vs) H2 Q (E σ)) : tMethD C m sp [] E ta TA1 σ H Q := g_meth h
theorem v_meth {C a dx : Addr} {m : Str} {fs : List (Str × V)} {S : Hp → Prop} (h : H a = some (.ins C dx fs)) (l : fs.lookup m = none) (q : S H) : MethK C m (.ref a) H S := ⟨_, _, _, rfl, h, l, q⟩
theorem g_orL {te' : TE} (h : te σ H Q) : tEor te te' σ H Q := .inl h
theorem g_orR {te' : TE} (h : te' σ H Q) : tEor te te' σ H Q := .inr h
theorem g_lstRg {a b : TE} (h : a σ H fun x H1 => b σ H1 fun y H2 => ∃ i j, x = .int i ∧ y = .int j ∧ RgOk i j ∧ ∀ q, H2 q = none → Q (.ref q) (upd H2 q (.lst (rgV i j)))) : tLstRg (tRg2 a b) σ H Q := h
theorem ite_same {c A : Prop} [Decidable c] (h : A) : if c then A else A := by
  split <;> exact h
end
end G

/-! an own exception over own classes over ValueError, whose __init__ says super().__init__(f'{..}: {..}') and keeps its two values -/
namespace PySem
namespace FaX
open PySem.W PySem.Calls PyProof.Rows PySem.HandSPX
def fA : Arguments := { posonlyargs := [], args := [{ arg := "self", annotation := none, pos := ⟨9, 17, 9, 21⟩ }, { arg := "place", annotation := none, pos := ⟨9, 23, 9, 28⟩ }, { arg := "reason", annotation := none, pos := ⟨9, 30, 9, 36⟩ }], vararg := none, kwonlyargs := [], kw_defaults := [], kwarg := none, defaults := [] }
def fB : List Stmt := [
  .Expr (.Call (.Attribute (.Call (.Name "super" ⟨10, 8, 10, 13⟩) [] [] ⟨10, 8, 10, 15⟩) "__init__" ⟨10, 8, 10, 24⟩) [.JoinedStr [.FormattedValue (.Name "place" ⟨10, 28, 10, 33⟩) (-1) none ⟨10, 27, 10, 34⟩, .Constant (.str ": ") 0 ⟨10, 34, 10, 36⟩, .FormattedValue (.Name "reason" ⟨10, 37, 10, 43⟩) (-1) none ⟨10, 36, 10, 44⟩] ⟨10, 25, 10, 45⟩] [] ⟨10, 8, 10, 46⟩) ⟨10, 8, 10, 46⟩,
  .Assign [.Attribute (.Name "self" ⟨11, 8, 11, 12⟩) "place" ⟨11, 8, 11, 18⟩] (.Name "place" ⟨11, 21, 11, 26⟩) ⟨11, 8, 11, 26⟩,
  .Assign [.Attribute (.Name "self" ⟨12, 8, 12, 12⟩) "reason" ⟨12, 8, 12, 19⟩] (.Name "reason" ⟨12, 22, 12, 28⟩) ⟨12, 8, 12, 28⟩]
def fS : Scope := { kind := .function, names := [(PySem.Str.ofString "self", .local), (PySem.Str.ofString "place", .local), (PySem.Str.ofString "reason", .local), (PySem.Str.ofString "__class__", .free), (PySem.Str.ofString "super", .globalImplicit)], isGenerator := false, isCoroutine := false, more := [] }
/-- what the written part says of Fault, at C, and of its __init__, at fI -/
structure FaTxt (P : Program) (K : Frag) (mg : Str → Option Value) (C fI : Addr) : Prop where
  gC : mg "Fault" = some (.ref C)
  gS : mg "super" = none
  ini : excInitIn K C He.veBase "ValueError.__new__" = true
  cd : ∃ cd, clsIn K C = some cd ∧ refsVE cd.mro = true ∧ cd.hasDict = true
  sa : findIn K (.ref C) "__setattr__" = some (some (.builtin "object.__setattr__"))
  ga : findIn K (.ref C) "__getattribute__" = some (some (.builtin "BaseException.__getattribute__"))
  gg : findIn K (.ref C) "__getattr__" = some none
  noP : findIn K (.ref C) "place" = some none
  noR : findIn K (.ref C) "reason" = some none
  iC : findIn K (.ref C) "__init__" = some (some (.ref fI))
  tC : typeIn K (.ref fI) = some (.type "function")
  kC : keepIn K (.ref C) = true
  exC : subIn K (.ref C) (.type "BaseException") = some true
  vB : subIn K (.ref C) (.type "ValueError") = some true
  tyC : typeIn K (.ref C) = some (.type "type")
  hdC : hasDictIn K C = true
  te : exmOne K (.ref C) (.ref C) = some true
  sup : ks_superIn K C C "__init__" = some (some (.builtin "ValueError.__init__"))
  self : mroIn K C (.ref C) = some true
  opq : nsIn K cStatics "thirdparty.any" = some none
  top : (P.main.scope.names.lookup ("super" : Str)).isSome = false
  fn : ∃ (oc : Value) (od : Option Addr) (doc pm : Value) (an : Option Addr) (cda : Addr) (ct : Value) (osl : Array (Option Value)) (cc : Addr) (cdo : Obj) (vs : Array Value) (tf : Tok) (co : Obj),
    K.lookup fI = some ⟨oc, od, .func (ksFn "__init__" "Fault.__init__" fA fB fS .none .none doc pm an (.ref cda) ct cc), osl⟩ ∧ codeIn K (.ref cda) "Fault.__init__" = true ∧
    K.lookup cda = some cdo ∧ cdo.data = .fields vs ∧ vs[2]? = some (.str P.main.file tf) ∧ K.lookup cc = some co ∧ co.data = .cell (some (.ref C))
/-- what __init__ leaves of a fresh exception at x -/
structure InitEnd (h h' : Heap) (x C dx t1 : Addr) (v u : Value) : Prop where
  keep : ∀ b o, b ≠ x → h.get? b = some o → h'.get? b = some o
  obj : h'.get? x = some { cls := .ref C, dict := some dx, data := .fields #[.ref t1, .none, .none, .none, .bool false, .none] }
  dbig : h.objs.size ≤ dx
  dne : dx ≠ x
  ns : h'.Ns1 dx (fun y => if y = "reason" then some u else if y = "place" then some v else none)
section
variable {prog : Program} {w : World} {A : Around} {E : Value → Shared → Prop} {R : Result → Shared → Prop} {s : Shared} {K : Frag} {mg mb : Str → Option Value} {C fI : Addr}
theorem ldK {M : Model} {s : Shared} {name : Str} {scope : Scope} {L a cc : Addr} {cd : Value} {m : Str → Option Value} {x : Str} {pos : Pos} {v : Value} {Q : Value → Shared → Prop} {A : Around} {E : Value → Shared → Prop} (hn : s.heap.Ns L m) (hv : m x = some v) (h : Q v s)
    (hk : scope.kind = .function := by rfl) (hl : (ksEnv name scope L a cd cc).kindOf x = some .local := by rfl) (hd : (x == ("__debug__" : Str)) = false := by decide) :
    wpAny M A (eval (.Name x pos) (ksEnv name scope L a cd cc)) Q E s := wpAny_Name (wpAny_loadName_local hk hl hn hv h) hd
theorem fault_init (T : FaTxt prog K mg C fI) {x t0 : Addr} {i : Int} {r : Str} {ti tr : Tok} (X : K.In s.heap) (hlim : s.heap.NoLimit) (hG : s.heap.Ns mainGlobals mg) (hB : s.heap.Ns builtinsNs mb) (hmb : mb "super" = some (.type "super"))
    (hx : s.heap.get? x = some (excO C t0)) (hnx : K.lookup x = none) (hroom : A.depth < recursionLimit) (hi : i.natAbs.log2 < 1920) (hr : r.length ≤ 1000) (hj : (Str.empty ++ toString i ++ ": " ++ r : Str).length ≤ sizeLine)
    (hq : ∀ h' tk dx t1, InitEnd s.heap h' x C dx t1 (.int i ti) (.str r tr) → R (.ok (.ret .none)) { s with heap := h', toks := tk }) :
    codeAny (model prog w) A (.call (.ref fI) ⟨[.ref x, .int i ti, .str r tr], []⟩) R s := by
  obtain ⟨oc, od, doc, pm, an, cda, ct, osl, cc, cdo, vs, tf, co, ho, hcd, hcda, hcdd, hvs, hcc, hccd⟩ := T.fn
  obtain ⟨cd, hcl, hbm, hhd⟩ := T.cd
  have hxL : s.heap.objs.size ≠ x := Nat.ne_of_gt (Heap.lt_size hx)
  refine ks_codeAny_call_defAt (fd := ksFn "__init__" "Fault.__init__" fA fB fS .none .none doc pm an (.ref cda) ct cc) (body := fB) (binds := [("self", .ref x), ("place", .int i ti), ("reason", .str r tr)]) hroom (X _ _ ho) rfl hlim (codeRec_of X hcd) rfl
    (BindsTo.of_eq (by first | rfl | with_unfolding_all rfl)) (by show ∀ x ∈ fS.names, x.2 ≠ .cell; decide) (by show ∀ y ∈ ([("self", .ref x), ("place", .int i ti), ("reason", .str r tr)] : List (Str × Value)), fS.names.lookup y.1 = some .local; intro y hy; simp only [List.mem_cons, List.not_mem_nil, or_false] at hy; rcases hy with rfl | rfl | rfl <;> rfl) (fun h₁ hn k1 => ?_)
  have X1 : K.In h₁ := X.keeps k1
  show wpAt (model prog w) (A.deeper (ksEnv "Fault.__init__" fS s.heap.objs.size fI (.ref cda) cc)) (.func fB (ksEnv "Fault.__init__" fS s.heap.objs.size fI (.ref cda) cc)) (execs fB (ksEnv "Fault.__init__" fS s.heap.objs.size fI (.ref cda) cc)) _ _ _
  unfold fB
  refine ks_wpAt_execs_cons (ks_wpAt_Expr_any (ks_wpAt_MethodCall ?_))
  refine ks_wpAt_super_base (ar := { arg := "self", annotation := none, pos := ⟨9, 17, 9, 21⟩ }) rfl rfl (by decide) rfl (X1 _ _ ho) rfl rfl rfl (X1 _ _ hcda) hcdd hvs (by simp) T.top ?_
  obtain ⟨oD, hD1, hD2⟩ : ∃ oD, h₁.get? C = some oD ∧ oD.data = .cls cd := by
    have hD := hcl
    unfold clsIn at hD
    split at hD
    · rename_i c d cd' sl ho
      cases hD
      exact ⟨_, X1 _ _ ho, rfl⟩
    · cases hD
  refine ks_loadName_global rfl rfl (loadGlobal_builtin (hG.keeps k1) T.gS (hB.keeps k1) hmb ⟨rfl, ?_⟩)
  refine wpAny_loadName_free (c := cc) rfl rfl rfl ⟨_, X1 _ _ hcc, hccd⟩ ?_
  refine wpAny_loadName_local rfl rfl hn (v := .ref x) (by first | rfl | with_unfolding_all rfl | kernel_rfl) ?_
  refine ks_wpAny_isType_cls hD1 hD2 ⟨rfl, ?_⟩
  have hx1 : h₁.get? x = some (excO C t0) := k1 _ _ hx
  refine ks_wpAny_call_super hD1 hD2 hx1 rfl (fun c e => by cases e) (looks_mroIn X1 T.self) (fun h2 e2 k2 => ?_)
  have X2 : K.In h2 := X1.keeps k2
  have hx2 : h2.get? x = some (excO C t0) := k2 _ _ hx1
  have hC2 : Looks (model prog w) h2 (mroOf (.ref C)) cd.mro := fun A Q E s k q => wpAny_bind ((looks_clsIn X2 hcl) A _ E s k (wpAny_pure q))
  have hxC : x ≠ C := fun e => by
    rw [e, hD1] at hx1
    cases hx1
    cases hD2
  have I2 : InstAt h2 x (excO C t0) C none := ⟨hx2, rfl, rfl, trivial⟩
  have hsup : alongIn K "__init__" ((cd.mro.dropWhile (· != .ref C)).drop 1) = some (some (.builtin "ValueError.__init__")) := by
    have h := T.sup
    unfold ks_superIn at h
    rw [hcl] at h
    exact h
  refine kxs_getMethod kxs_ValueError e2 (looks_opaque X2 T.opq) hC2 rfl X2 hsup (I2.type.andThen (looks_subIn X2 T.vB)) hxC (by decide) ?_
  obtain ⟨u, hu⟩ : ∃ u, u = h2.objs.size := ⟨_, rfl⟩
  obtain ⟨h3, eh3⟩ : ∃ h3, h3 = h2.push (kxs_mw "ValueError.__init__" x) := ⟨_, rfl⟩
  have k3 : ∀ b o, h2.get? b = some o → h3.get? b = some o := fun b o e => by rw [eh3]; exact Heap.get?_push_of_some _ e
  have hu3 : h3.get? u = some (kxs_mw "ValueError.__init__" x) := by rw [eh3, hu]; exact Heap.get?_push_at rfl rfl
  rw [← hu, ← eh3]
  show wpAny _ _ (callWith _ (.ref u) [] (backTo _ (starEach [_] _)) []) _ _ _
  refine kxs_callWith (i := "ValueError.__init__") (x := x) rfl (evalArgs_plain ?_)
  have k03 : ∀ b o, s.heap.get? b = some o → h3.get? b = some o := fun b o e => k3 _ _ (k2 _ _ (k1 _ _ e))
  have m1 : (fun y => List.lookup y (List.reverse [(("self" : Str), Value.ref x), ("place", .int i ti), ("reason", .str r tr)])) "self" = some (.ref x) := by first | rfl | with_unfolding_all rfl | kernel_rfl
  have m2 : (fun y => List.lookup y (List.reverse [(("self" : Str), Value.ref x), ("place", .int i ti), ("reason", .str r tr)])) "place" = some (.int i ti) := by first | rfl | with_unfolding_all rfl | kernel_rfl
  have m3 : (fun y => List.lookup y (List.reverse [(("self" : Str), Value.ref x), ("place", .int i ti), ("reason", .str r tr)])) "reason" = some (.str r tr) := by first | rfl | with_unfolding_all rfl | kernel_rfl
  generalize (fun y => List.lookup y (List.reverse [(("self" : Str), Value.ref x), ("place", .int i ti), ("reason", .str r tr)])) = m at hn m1 m2 m3
  have n3 : h3.Ns s.heap.objs.size m := hn.keeps fun b o e => k3 _ _ (k2 _ _ e)
  have la : ∀ x y : Str, (x ++ y).length = x.length + y.length := fun x y => by
    show (x.cps ++ y.cps).size = _
    rw [Array.size_append]
    rfl
  have hj' := hj
  rw [la, la, la] at hj'
  have hx3 : h3.get? x = some (excO C t0) := k3 _ _ hx2
  have L3 : s.heap.objs.size < h3.objs.size := by
    obtain ⟨o, es, ep, e, _⟩ := n3
    exact Heap.lt_size e
  refine spliced_cons (wpAny_JoinedStr (pos := ⟨10, 25, 10, 45⟩) ?_)
  -- the call of the wrapper, whatever the text
  have rest : ∀ (z : Value) (t4 : Nat), wpAny (model prog w) (A.deeper (ksEnv "Fault.__init__" fS s.heap.objs.size fI (.ref cda) cc)) (call (.ref u) [z]) (fun _ s' => wpAt (model prog w) (A.deeper (ksEnv "Fault.__init__" fS s.heap.objs.size fI (.ref cda) cc)) (.func fB (ksEnv "Fault.__init__" fS s.heap.objs.size fI (.ref cda) cc))
      (execs [.Assign [.Attribute (.Name "self" ⟨11, 8, 11, 12⟩) "place" ⟨11, 8, 11, 18⟩] (.Name "place" ⟨11, 21, 11, 26⟩) ⟨11, 8, 11, 26⟩, .Assign [.Attribute (.Name "self" ⟨12, 8, 12, 12⟩) "reason" ⟨12, 8, 12, 19⟩] (.Name "reason" ⟨12, 22, 12, 28⟩) ⟨12, 8, 12, 28⟩] (ksEnv "Fault.__init__" fS s.heap.objs.size fI (.ref cda) cc))
      (fun f s' => R (.ok (.ret (match f with | .ret v => v | _ => .none))) s')
      (fun e s' => wpAny (model prog w) (A.deeper (ksEnv "Fault.__init__" fS s.heap.objs.size fI (.ref cda) cc)) (leaving (ksEnv "Fault.__init__" fS s.heap.objs.size fI (.ref cda) cc) e) (fun _ s'' => R (.error e) s'') (fun e' s'' => R (.error e') s'') s') s')
      (fun e s' => wpAny (model prog w) (A.deeper (ksEnv "Fault.__init__" fS s.heap.objs.size fI (.ref cda) cc)) (leaving (ksEnv "Fault.__init__" fS s.heap.objs.size fI (.ref cda) cc) e) (fun _ s'' => R (.error e) s'') (fun e' s'' => R (.error e') s'') s') { s with heap := h3, toks := t4 } := by
    intro z t4
    obtain ⟨nm, N', qn, bs, bm, hdct, sn, sub, ab, col, dd, c0, c1, c2, c3, c5, hC, hT⟩ := excInit_of (X2.keeps k3) T.ini
    obtain ⟨hp0, g, dr, tk0, os⟩ := s
    refine wpAny_call (codeAny_of_tree ?_)
    show wpAny _ _ (callAny (.ref u) ⟨[z], []⟩) _ _ _
    simp only [callAny]
    refine wpAny_bind (wpAny_load hu3 ?_)
    simp only [kxs_mw, show (Value.type "method-wrapper" == Value.type "method" || Value.type "method-wrapper" == Value.type "builtin_function_or_method" || Value.type "method-wrapper" == Value.type "method-wrapper") = true by decide, if_true]
    refine KFB.if_so (by decide) ?_
    refine wpAny_bind (check_bound_init F.excBase_ValueError.toExcCallFacts hC hx3 rfl ?_)
    refine wpAny_bind (wpAny_pure (wpAny_pure ?_))
    refine ⟨plainId_quiet F.excBase_ValueError.init.plain _, codeAny_builtin F.excBase_ValueError.initEntry ?_⟩
    refine exc_init_tree (cls := .ref C) (t0 := t0) (dv := none) (c2 := .none) (c3 := .none) (b4 := .bool false) hx3 (by rw [sizeLine_eq]; show 1 ≤ 16777216; decide) fun h4 k4 hx4 ht4 => ?_
    have n4 : h4.Ns hp0.objs.size m := by
      obtain ⟨oL, es, ep, hL, r⟩ := n3
      exact ⟨oL, es, ep, k4 _ _ hxL hL, r⟩
    have L4 : hp0.objs.size < h4.objs.size := by
      obtain ⟨o, es, ep, e, _⟩ := n4
      exact Heap.lt_size e
    have kb : ∀ {h h' : Heap}, K.In h → (∀ b o, b ≠ x → h.get? b = some o → h'.get? b = some o) → K.In h' := fun X k a o e => k a o (fun z => by rw [z, hnx] at e; cases e) (X a o e)
    have X4 : K.In h4 := kb (X2.keeps k3) k4
    refine wpAt_of_wpAny (wpAny_execs_cons (plainObj_wpAny_Assign_Attribute ?_))
    refine ldK n4 m2 (ldK n4 m1 ?_)
    refine set_plain X4 (ox := { cls := .ref C, dict := none, data := .fields #[.ref h3.objs.size, .none, .none, .none, .bool false, .none] }) (od := none) ⟨hx4, rfl, rfl, trivial⟩ T.sa ?_
    refine exc_osa X4 hx4 hcl hbm hhd T.noP (fun h5 tk5 dx k5 dn dne hx5 hn5 => ?_)
    have X5 : K.In h5 := kb X4 k5
    have dn' : h4.objs.size ≤ dx := dn
    have n5 : h5.Ns hp0.objs.size m := by
      obtain ⟨oL, es, ep, hL, r⟩ := n4
      exact ⟨oL, es, ep, k5 _ _ hxL hL, r⟩
    refine wpAny_execs_cons (plainObj_wpAny_Assign_Attribute ?_)
    refine ldK n5 m3 (ldK n5 m1 ?_)
    have hw5 : Within (fun y : Str => if y = "place" then some (Value.int i ti) else none) ["place"] := fun y hy => by
      by_cases e : y = "place"
      · rw [e]; exact List.mem_cons_self
      · exact absurd (if_neg e) hy
    obtain ⟨oD5, es5, ep5, hoD5, hdD5, _⟩ := hn5.count hw5
    refine set_plain X5 (ox := { cls := .ref C, dict := some dx, data := .fields #[.ref h3.objs.size, .none, .none, .none, .bool false, .none] }) (od := some oD5) ⟨hx5, rfl, rfl, hoD5⟩ T.sa ?_
    refine OEX.osa_old X5 hx5 hn5 hw5 (by decide) hcl hbm hhd T.noR (fun h6 tk6 k6 hn6 => ?_)
    refine wpAny_execs_nil ?_
    refine hq h6 tk6 dx h3.objs.size ⟨fun b o hb e => ?_, k6 _ _ (Ne.symm dne) hx5, by show hp0.objs.size ≤ dx; omega, dne, hn6⟩
    have lt : b < hp0.objs.size := Heap.lt_size e
    exact k6 _ _ (Nat.ne_of_lt (Nat.lt_of_lt_of_le (Nat.lt_trans lt L4) dn')) (k5 _ _ hb (k4 _ _ hb (k03 _ _ e)))
  refine wpAny_FormattedValue_plain (ldK n3 m2 (wpAny_formatField_int hi ?_))
  refine ⟨toString i, _, rfl, by rw [la]; omega, ?_⟩
  refine Constant_str ?_
  refine ⟨": ", _, rfl, by rw [la, la]; omega, ?_⟩
  refine wpAny_FormattedValue_plain (ldK n3 m3 (wpAny_formatField_str ?_ ?_ (by rw [sizeLine_eq]; omega)))
  · refine ⟨r, _, rfl, hj, ?_⟩
    refine ⟨hj, ?_⟩
    refine spliced_nil ⟨hu3, ?_⟩
    exact rest _ _
  · refine ⟨r, _, rfl, hj, ?_⟩
    refine ⟨hj, ?_⟩
    refine spliced_nil ⟨hu3, ?_⟩
    exact rest _ _
end
end FaX
end PySem

namespace PySem
namespace FaX
open PySem.W PySem.Calls PyProof.Rows PySem.HandSPX
/-- a made Fault -/
structure Made (h h' : Heap) (e C d : Addr) (v u : Value) : Prop where
  keep : ∀ b o, h.get? b = some o → h'.get? b = some o
  new : h.objs.size ≤ e
  obj : ∃ oe vs, h'.get? e = some oe ∧ oe.cls = .ref C ∧ oe.dict = some d ∧ oe.data = .fields vs ∧ vs[1]? = some .none
  dbig : h.objs.size ≤ d
  dne : d ≠ e
  ns : h'.Ns1 d (fun y => if y = "reason" then some u else if y = "place" then some v else none)
section
variable {prog : Program} {w : World} {A : Around} {E : Value → Shared → Prop} {R : Result → Shared → Prop} {s : Shared} {K : Frag} {mg mb : Str → Option Value} {C fI : Addr}
theorem fault_made (T : FaTxt prog K mg C fI) {i : Int} {r : Str} {ti tr : Tok} (X : K.In s.heap) (hlim : s.heap.NoLimit) (hG : s.heap.Ns mainGlobals mg) (hB : s.heap.Ns builtinsNs mb) (hmb : mb "super" = some (.type "super"))
    (hroom : A.depth + 1 < recursionLimit) (hi : i.natAbs.log2 < 1920) (hr : r.length ≤ 1000) (hj : (Str.empty ++ toString i ++ ": " ++ r : Str).length ≤ sizeLine)
    (hq : ∀ h' tk e d, Made s.heap h' e C d (.int i ti) (.str r tr) → R (.ok (.ret (.ref e))) { s with heap := h', toks := tk }) :
    codeAny (model prog w) A (.call (.ref C) ⟨[.int i ti, .str r tr], []⟩) R s := by
  obtain ⟨nm, N', qn, bs, bm, hdct, sn, sub, ab, col, dd, c0, c1, c2, c3, c5, hC, hT⟩ := excInit_of X T.ini
  obtain ⟨hp, g, dr, tk, os⟩ := s
  have k : ∀ b o, hp.get? b = some o → ((hp.push (kdv_tup [.int i ti, .str r tr])).push (excO C hp.objs.size)).get? b = some o := fun b o e => Heap.get?_push_of_some _ (Heap.get?_push_of_some _ e)
  have hget : ((hp.push (kdv_tup [.int i ti, .str r tr])).push (excO C hp.objs.size)).get? (hp.objs.size + 1) = some (excO C hp.objs.size) := by heap_get
  have hnx : K.lookup (hp.objs.size + 1) = none := by
    cases e : K.lookup (hp.objs.size + 1) with
    | none => rfl
    | some o =>
      have z : hp.get? (hp.objs.size + 1) = some o := X _ _ e
      exact absurd (Nat.lt_of_succ_lt (Heap.lt_size z)) (Nat.lt_irrefl _)
  refine call_own F.excBase_ValueError hT hC (looks_findIn X T.iC) (fun self => bind_fn X self T.tC) (by rw [sizeLine_eq]; show 2 ≤ 16777216; decide) ?_
  refine fault_init (s := ⟨(hp.push (kdv_tup [.int i ti, .str r tr])).push (excO C hp.objs.size), g, dr, tk, os⟩) T (X.keeps k) (hlim.keeps k) (hG.keeps k) (hB.keeps k) hmb hget hnx ?_ hi hr hj fun h' tk' dx t1 ⟨k', hx, dn, dne, hns⟩ => ?_
  · show A.depth + 1 < recursionLimit
    exact hroom
  · have old : ∀ b o, hp.get? b = some o → h'.get? b = some o := fun b o e => k' b o (Nat.ne_of_lt (Nat.lt_succ_of_lt (Heap.lt_size e))) (k b o e)
    have z : hp.objs.size + 1 + 1 ≤ dx := by
      first
        | (simpa only [Heap.size_push] using dn)
        | exact dn
        | (have q := dn; rw [Heap.size_push, Heap.size_push] at q; exact q)
    exact ⟨rfl, hq h' tk' (hp.objs.size + 1) dx ⟨old, Nat.le_succ _, ⟨_, _, hx, rfl, rfl, rfl, rfl⟩, Nat.le_trans (Nat.le_trans (Nat.le_succ _) (Nat.le_succ _)) z, dne, hns⟩⟩
end
end FaX
end PySem
namespace L2
open PySem PySem.Spec PyProof.Rows
def faD (i : Int) (r : Str) : List (Str × V) := [("reason", .str r), ("place", .int i)]
theorem relO_fault {v u : V} {v' u' : Value} (r : RelV v v') (r2 : RelV u u') (f : Str) : RelO (List.lookup f [(("reason" : Str), u), ("place", v)]) (if f = "reason" then some u' else if f = "place" then some v' else none) := by
  rw [lookup_put, lookup_put]
  by_cases h : f = "reason"
  · rw [if_pos h, if_pos h]
    exact r2
  · rw [if_neg h, if_neg h]
    by_cases h2 : f = "place"
    · rw [if_pos h2, if_pos h2]
      exact r
    · rw [if_neg h2, if_neg h2]
      exact True.intro
section
variable {X : Cx} {C fI : Addr}
/-- Fault(a, b) -/
def tMkF (C : Addr) (ta : TA) : St → Hp → XK → Prop := fun σ H Q => ta σ H fun vs H1 => ∃ (i : Int) (r : Str), vs = [.int i, .str r] ∧ i.natAbs < 1000000000 ∧ r.length ≤ 1000 ∧ ∀ d, H1 d = none → Q (.ref C) (some d) (upd H1 d (.xd (faD i r)))
theorem pmk_fault {a b : Expr} {ta : TA} {p pos : Pos} {k : Nat} (T : PySem.FaX.FaTxt X.prog X.K X.mg C fI) (hr : Room k X.A) (hk : 1 ≤ k) (ha : PA X [a, b] ta) (hg : Gl X "Fault" := by rfl)
    (he : starEach (a :: [b]) X.env = (false, eval a X.env) :: starEach [b] X.env := by rfl) (hpl : (backTo pos (starEach [b] X.env)).any (·.1) = false := by rfl) :
    PMk X (.Call (.Name "Fault" p) [a, b] [] pos) (tMkF C ta) := by
  intro pins s σ H Q I h
  refine wpAny_Call_Name_kw (ld_glob I hg T.gC ?_)
  refine PySem.W.callWith_K (h₀ := X.base) I.ok.mod.kin T.kC (thn (ha.run pos pins s σ H _ I h) fun us s1 hh => ?_) he hpl
  obtain ⟨vs, H1, I1, r1, i, r, ev, hi, hrl, q1⟩ := hh
  subst ev
  refine ⟨I1.kIn, ?_⟩
  cases r1 with
  | cons rv rn =>
    rename_i v' us'
    cases rn with
    | cons ru rn =>
      rename_i u' us'
      cases rn
      obtain ⟨ti, rfl⟩ := id rv
      obtain ⟨tr, rfl⟩ := id ru
      show wpAny _ _ (call (.ref C) [.int i ti, .str r tr]) _ _ _
      have hlim := I1.nolimit
      have hlog : i.natAbs.log2 < 1920 := by
        have e : i.natAbs.log2 < 30 := by
          by_cases z : i.natAbs = 0
          · rw [z]; decide
          · exact (Nat.log2_lt z).mpr (Nat.lt_trans hi (by decide))
        omega
      have la : ∀ x y : Str, (x ++ y).length = x.length + y.length := fun x y => by
        show (x.cps ++ y.cps).size = _
        rw [Array.size_append]
        rfl
      have hj : (Str.empty ++ toString i ++ ": " ++ r : Str).length ≤ sizeLine := by
        have e := int_text_length_le (k := 1920) (by decide) hlog
        rw [la, la, la, PySem.ofString_length (toString i), sizeLine_eq]
        show 0 + _ + 2 + _ ≤ 16777216
        omega
      obtain ⟨mb, hmb1, hmb2⟩ := I1.ok.mod.blt
      obtain ⟨hp, g, dr, tk, os⟩ := s1
      refine wpAny_call (PySem.FaX.fault_made T I1.kIn hlim (I1.ok.mod.glob.keeps I1.bk) (hmb1.keeps I1.bk) ((hmb2 "super" (by decide)).trans (by first | rfl | decide +kernel | kernel_rfl)) (by have := hr.dp; omega) hlog hrl hj fun h' tk' e d M => ?_)
      show MkP X pins σ Q (.ref e) ⟨h', g, dr, tk', os⟩
      obtain ⟨oe, fv, hoe, hc, hd, hdat, h1⟩ := M.obj
      have hns := M.ns
      obtain ⟨G', g1, g2⟩ := restrict h' fun b => decide (b ≠ e)
      have gk : ∀ b, b ≠ e → G'.get? b = h'.get? b := fun b hb => g1 b (decide_eq_true hb)
      have ge : G'.get? e = none := g2 e (by simp)
      have old : ∀ b o, hp.get? b = some o → G'.get? b = some o := fun b o q => (gk b (Nat.ne_of_lt (Nat.lt_of_lt_of_le (Heap.lt_size q) M.new))).trans (M.keep b o q)
      have ob : ObjOk X.prog X.w (upd H1 d (.xd (faD i r))) G' d (.xd (faD i r)) :=
        ⟨_, hns.at (fun o q => (gk d M.dne).trans q), fun f => relO_fault (v := .int i) (u := .str r) rv ru f⟩
      have J : Inv X pins σ (upd H1 d (.xd (faD i r))) ⟨G', g, dr, tk', os⟩ := I1.laid (t' := tk') old M.dbig ob
      refine ⟨e, oe, fv, ⟨G', g, dr, tk', os⟩, _, .ref C, some d, rfl, J, fun b o q => ?_, ge, hoe, ⟨hc, hd⟩, hdat, h1, ?_, rfl, I1.bare, raises_own T.exC T.tyC, q1 d (I1.hok.fresh M.dbig)⟩
      · by_cases hb : b = e
        · have q' : G'.get? b = some o := q
          rw [hb, ge] at q'; cases q'
        · exact (gk b hb).symm.trans q
      · rw [upd_ne (Ne.symm M.dne)]
        exact I1.hok.fresh M.new
end
end L2
namespace G
open PySem PySem.W PyProof.Rows
/-! ### the head's facts of a class Fault -/
abbrev FnC := Option (Str × Str × Arguments × FuncBody × Scope × Addr × List Str × Addr)
def fnC (K : Frag) (p : Str × Option Str) : FnC := match K.lookup (He.fAd K p) with
  | some ⟨_, _, .func fd, _⟩ => some (fd.name, fd.qualname, fd.params, fd.body, fd.scope, fd.globals, fd.closure.map (·.1), fd.builtins)
  | _ => none
def fnF : FnC := some ("__init__", "Fault.__init__", FaX.fA, .stmts FaX.fB, FaX.fS, mainGlobals, ["__class__"], builtinsNs)
def isNo : Value → Bool
  | .none => true
  | _ => false
theorem isNo_ok {v : Value} (h : isNo v = true) : v = .none := by cases v <;> first | rfl | cases h
def cellB (K : Frag) (cc C : Addr) : Bool := match K.lookup cc with
  | some co => (match co.data with
    | .cell (some (.ref a)) => decide (a = C)
    | _ => false)
  | none => false
theorem cellB_ok {K : Frag} {cc C : Addr} (h : cellB K cc C = true) : ∃ co, K.lookup cc = some co ∧ co.data = .cell (some (.ref C)) := by
  unfold cellB at h
  split at h
  · rename_i co e
    split at h
    · rename_i a e2
      exact ⟨co, e, by rw [e2, of_decide_eq_true h]⟩
    · cases h
  · cases h
def fileB (K : Frag) (cda : Addr) (file : Str) : Bool := match K.lookup cda with
  | some co => (match co.data with
    | .fields vs => (match (vs[2]? : Option Value) with
      | some (Value.str f _) => decide (f = file)
      | _ => false)
    | _ => false)
  | none => false
theorem fileB_ok {K : Frag} {cda : Addr} {file : Str} (h : fileB K cda file = true) : ∃ co vs tf, K.lookup cda = some co ∧ co.data = .fields vs ∧ vs[2]? = some (.str file tf) := by
  unfold fileB at h
  split at h
  · rename_i co e
    split at h
    · rename_i vs e2
      split at h
      · rename_i f tf e3
        exact ⟨co, vs, tf, e, e2, by rw [e3, of_decide_eq_true h]⟩
      · cases h
    · cases h
  · cases h
def codB (K : Frag) (v : Value) (file : Str) : Bool := match v with
  | .ref cda => codeIn K (.ref cda) "Fault.__init__" && fileB K cda file
  | _ => false
def cloB (K : Frag) (l : List (Str × Addr)) (C : Addr) : Bool := match l with
  | [(_, cc)] => cellB K cc C
  | _ => false
def clB (K : Frag) (C : Addr) : Bool := match clsIn K C with
  | some cd => HandSPX.refsVE cd.mro && cd.hasDict
  | none => false
def fuB (K : Frag) (file : Str) : Bool := match K.lookup (He.fAd K ("Fault", some "__init__")) with
  | some ⟨_, _, .func fd, _⟩ => isNo fd.defaults && (isNo fd.kwdefaults && (codB K fd.code file && cloB K fd.closure (He.ga K "Fault")))
  | _ => false
def faBs (file : Str) (K : Frag) : List Bool := [
  He.eqO (nsIn K mainGlobals "Fault") (some (some (.ref (He.ga K "Fault")))),
  He.eqO (nsIn K mainGlobals "super") (some none),
  excInitIn K (He.ga K "Fault") He.veBase "ValueError.__new__",
  clB K (He.ga K "Fault"),
  He.eqO (findIn K (.ref (He.ga K "Fault")) "__setattr__") (some (some (.builtin "object.__setattr__"))),
  He.eqO (findIn K (.ref (He.ga K "Fault")) "__getattribute__") (some (some (.builtin "BaseException.__getattribute__"))),
  He.eqO (findIn K (.ref (He.ga K "Fault")) "__getattr__") (some none),
  He.eqO (findIn K (.ref (He.ga K "Fault")) "place") (some none),
  He.eqO (findIn K (.ref (He.ga K "Fault")) "reason") (some none),
  He.eqO (findIn K (.ref (He.ga K "Fault")) "__init__") (some (some (.ref (He.fAd K ("Fault", some "__init__"))))),
  decide (typeIn K (.ref (He.fAd K ("Fault", some "__init__"))) = some (.type "function")),
  keepIn K (.ref (He.ga K "Fault")),
  decide (subIn K (.ref (He.ga K "Fault")) (.type "BaseException") = some true),
  decide (subIn K (.ref (He.ga K "Fault")) (.type "ValueError") = some true),
  decide (typeIn K (.ref (He.ga K "Fault")) = some (.type "type")),
  hasDictIn K (He.ga K "Fault"),
  decide (exmOne K (.ref (He.ga K "Fault")) (.ref (He.ga K "Fault")) = some true),
  He.eqO (ks_superIn K (He.ga K "Fault") (He.ga K "Fault") "__init__") (some (some (.builtin "ValueError.__init__"))),
  decide (mroIn K (He.ga K "Fault") (.ref (He.ga K "Fault")) = some true),
  He.eqO (nsIn K cStatics "thirdparty.any") (some none),
  fuB K file]
theorem faTxt_of {P : Program} {K : Frag} {h : Heap} {mg : Str → Option Value} (X : K.In h) (Gm : h.Ns mainGlobals mg) (e : fnC K ("Fault", some "__init__") = fnF) (c : (faBs P.main.file K).all id = true) (ht : (P.main.scope.names.lookup ("super" : Str)).isSome = false) :
    FaX.FaTxt P K mg (He.ga K "Fault") (He.fAd K ("Fault", some "__init__")) := by
  have at_ : ∀ (i : Nat) (b : Bool), (faBs P.main.file K)[i]? = some b → b = true := fun i b hb => List.all_eq_true.mp c b (List.mem_of_getElem? hb)
  have hcl : clB K (He.ga K "Fault") = true := at_ 3 _ rfl
  have hfu : fuB K P.main.file = true := at_ 20 _ rfl
  refine {
    gC := mg_of X Gm (He.eqO_ok (at_ 0 _ rfl))
    gS := mg_none_of X Gm (He.eqO_ok (at_ 1 _ rfl))
    ini := at_ 2 _ rfl
    cd := ?_
    sa := He.eqO_ok (at_ 4 _ rfl)
    ga := He.eqO_ok (at_ 5 _ rfl)
    gg := He.eqO_ok (at_ 6 _ rfl)
    noP := He.eqO_ok (at_ 7 _ rfl)
    noR := He.eqO_ok (at_ 8 _ rfl)
    iC := He.eqO_ok (at_ 9 _ rfl)
    tC := of_decide_eq_true (at_ 10 _ rfl)
    kC := at_ 11 _ rfl
    exC := of_decide_eq_true (at_ 12 _ rfl)
    vB := of_decide_eq_true (at_ 13 _ rfl)
    tyC := of_decide_eq_true (at_ 14 _ rfl)
    hdC := at_ 15 _ rfl
    te := of_decide_eq_true (at_ 16 _ rfl)
    sup := He.eqO_ok (at_ 17 _ rfl)
    self := of_decide_eq_true (at_ 18 _ rfl)
    opq := He.eqO_ok (at_ 19 _ rfl)
    top := ht
    fn := ?_ }
  · unfold clB at hcl
    split at hcl
    · rename_i cd e
      obtain ⟨h1, h2⟩ := He.ba hcl
      exact ⟨cd, e, h1, h2⟩
    · cases hcl
  · unfold fuB at hfu
    unfold fnC at e
    split at hfu
    · rename_i oc od fd osl lk
      rw [lk] at e
      obtain ⟨n1, n2, n3, n4, n5, n6, n7, n8, n9, n10, n11, n12, n13, n14, n15⟩ := fd
      obtain ⟨b1, b2⟩ := He.ba hfu
      obtain ⟨b3, b4⟩ := He.ba b2
      obtain ⟨b5, b6⟩ := He.ba b4
      clear hfu b2 b4
      have c1 : n8 = .none := isNo_ok b1
      have c3 : n9 = .none := isNo_ok b3
      have c5 : codB K n13 P.main.file = true := b5
      have c6 : cloB K n7 (He.ga K "Fault") = true := b6
      clear b1 b3 b5 b6
      have e2 : (some (n1, n2, n3, n4, n5, n6, n7.map (·.1), n15) : FnC) = fnF := e
      unfold fnF at e2
      simp only [Option.some.injEq, Prod.mk.injEq] at e2
      obtain ⟨rfl, rfl, rfl, rfl, rfl, rfl, e7, rfl⟩ := e2
      subst c1 c3
      unfold codB at c5
      split at c5
      · rename_i cda
        obtain ⟨k1, k2⟩ := He.ba c5
        obtain ⟨cdo, vs, tf, f1, f2, f3⟩ := fileB_ok k2
        unfold cloB at c6
        split at c6
        · rename_i nm cc
          have e7' : nm = "__class__" := by
            have := e7
            simp at this
            exact this
          subst e7'
          obtain ⟨co, g1, g2⟩ := cellB_ok c6
          exact ⟨oc, od, _, _, _, cda, _, osl, cc, cdo, vs, tf, co, lk, k1, f1, f2, f3, g1, g2⟩
        · cases c6
      · cases c5
    · cases hfu
/-! ### the hook -/
def asY (g : Addr → Option Obj) (n : Nat) : List Addr := cStatics :: He.asD g n
abbrev AlY : Type := He.AlD × FnC × Bool
def obsY (n : Nat) (fa : List He.Fa) (fn : List He.DefD) (ex : Frag → Bool) (file : Str) (g : Addr → Option Obj) : AlY :=
  (He.obsD fa fn (He.frT g (asY g n)), fnC (He.frT g (asY g n)) ("Fault", some "__init__"), ex (He.frT g (asY g n)) && (faBs file (He.frT g (asY g n))).all id)
def valY (fn : List He.DefD) : AlY := (He.valD fn, fnF, true)
structure SaysY (fa : List He.Fa) (fn : List He.DefD) (ex : Frag → Bool) (file : Str) (K : Frag) : Prop where
  d : He.SaysD fa fn K
  f : fnC K ("Fault", some "__init__") = fnF
  more : ex K = true
  b : (faBs file K).all id = true
def hookY (n : Nat) (fa : List He.Fa) (fn : List He.DefD) (ex : Frag → Bool) (file : Str) : Hook where
  α := AlY
  obs := fun s => obsY n fa fn ex file s.heap.get?
  val := fun _ => valY fn
  says := fun _ h => ∃ K : Frag, K.In h ∧ SaysY fa fn ex file K
  of := fun _ _ e => ⟨_, He.frT_in, congrArg (fun z : AlY => z.1) e, congrArg (fun z : AlY => z.2.1) e, (He.ba (congrArg (fun z : AlY => z.2.2) e)).1, (He.ba (congrArg (fun z : AlY => z.2.2) e)).2⟩
  keeps := fun _ _ _ ⟨K, hK, c⟩ k => ⟨K, Frag.In.keeps hK k, c⟩
theorem obsY_eq {n : Nat} {fa : List He.Fa} {fn : List He.DefD} {ex : Frag → Bool} {file : Str} {g : Addr → Option Obj} {s : Shared} (h : ∀ a, g a = s.heap.get? a) : obsY n fa fn ex file g = (hookY n fa fn ex file).obs s := by
  have e : g = s.heap.get? := funext h
  rw [e] <;> rfl
end G
namespace G
open PySem PySem.Spec PyProof.Rows L2
/-- the program's file and its top names -/
class PI (P : Program) : Prop where
  file : P.main.file = "/claim/cut.py"
  top : (P.main.scope.names.lookup ("super" : Str)).isSome = false
/-- Fault's facts, for each such program -/
def FaT (K : PySem.W.Frag) (mg : Str → Option Value) : Prop := ∀ P : Program, PI P → FaX.FaTxt P K mg (He.ga K "Fault") (He.fAd K ("Fault", some "__init__"))
theorem FaT.txt {K : PySem.W.Frag} {mg : Str → Option Value} (T : FaT K mg) (P : Program) [h : PI P] : FaX.FaTxt P K mg (He.ga K "Fault") (He.fAd K ("Fault", some "__init__")) := T P h
theorem SaysY.fau {fa : List He.Fa} {fn : List He.DefD} {ex : PySem.W.Frag → Bool} {K : PySem.W.Frag} {h : Heap} {mg : Str → Option Value} (c : SaysY fa fn ex "/claim/cut.py" K) (X : K.In h) (Gm : h.Ns mainGlobals mg) : FaT K mg := fun P i => by
  refine faTxt_of X Gm c.f ?_ i.top
  rw [i.file]
  exact c.b
/-- raise Fault(a, b) -/
def tRaiseF (C : Addr) (W : WX) (ta : TA) : TS := fun _ σ H => tMkF C ta σ H fun cls d H' => W cls d σ H'
def tTryAs (K : PySem.W.Frag) (c : Value) (i : Nat) (tb : WX → TS) (ts : Addr → Value → Option Addr → TS) (Wout : WX) : TS := fun D σ H => tb (wAs K c i ts Wout D) D σ H
def rIsF (K : PySem.W.Frag) (D a : Addr) (cls : Value) (d : Option Addr) : List V → Hp → VK → Prop := fun xs H Q => ∃ (c : V) (cv : Value) (b : Bool) (dd : Addr) (fs : List (Str × V)), xs = [.ref a, c] ∧ ClsV c cv ∧ cls = .ref D ∧ d = some dd ∧ H dd = some (.xd fs) ∧ PySem.W.kitOne K (.ref D) cv = some b ∧ Q (.bl b) H
section
variable {X : Cx} {C fI : Addr}
theorem ps_raiseF {a b : Expr} {ta : TA} {p pos pos2 : Pos} {k : Nat} {W : WX} (hc : X.calm = true) (tk : Takes X W) (T : FaX.FaTxt X.prog X.K X.mg C fI) (hr : Room k X.A) (hk : 1 ≤ k) (ha : PA X [a, b] ta) (hg : Gl X "Fault" := by rfl)
    (he : starEach (a :: [b]) X.env = (false, eval a X.env) :: starEach [b] X.env := by rfl) (hpl : (backTo pos (starEach [b] X.env)).any (·.1) = false := by rfl) :
    PS X (.Raise (some (.Call (.Name "Fault" p) [a, b] [] pos)) none pos2) (tRaiseF C W ta) := ps_raise hc tk (pmk_fault T hr hk ha hg he hpl)
theorem xfc_of {P : Program} {K : PySem.W.Frag} {mg : Str → Option Value} (T : FaX.FaTxt P K mg C fI) : XfC K C := ⟨T.ga, T.gg, T.exC, T.hdC⟩
theorem call_isF {P : Program} {a : Addr} {oe : Obj} {cls : Value} {d : Option Addr} {pn : List (Addr × Obj)} (T : FaX.FaTxt P X.K X.mg C fI) (F : InsF X.K C) (hz : Zc cls d oe) (hf : ∃ vs, oe.data = .fields vs) : CallR (X.suite a ((a, oe) :: pn)) (.builtin "isinstance") (rIsF X.K C a cls d) := by
  intro pins s σ H xs us Q I r h
  obtain ⟨c, cv, b, dd, fs, rfl, hcv, rfl, rfl, hdd, e, q⟩ := h
  cases r with
  | cons rx rr =>
    cases rr with
    | cons rt rr =>
      cases rr
      cases rx
      have ec := hcv.eq rt
      subst ec
      obtain ⟨hget, _⟩ := I.pin (a, oe) (List.mem_append.mpr (.inl List.mem_cons_self))
      obtain ⟨vs, hv⟩ := hf
      have hx : ObjOk X.prog X.w H s.heap dd (.xd fs) := I.hok dd _ hdd
      obtain ⟨mA, hns, _⟩ := hx
      obtain ⟨od, ho, _⟩ := lookIn_ns hns
      have J : PySem.W.InstAt s.heap a oe C (some od) := ⟨hget, hz.1, by unfold PySem.W.notCls; rw [hv] <;> rfl, by rw [hz.2]; exact ho⟩
      obtain ⟨cd, hcd, _⟩ := T.cd
      exact PySem.W.kia_one (PySem.W.kitx_exc (by rw [hcd]; rfl) T.ga T.gg T.exC F.ha F.hn F.htk F.hm) I.kIn J e (fun z => nomatch z) fun tk => ⟨.bl b, H, I.kept (t' := tk) fun _ _ z => z, rfl, q⟩
end
end G
namespace G
open PySem PySem.Spec PyProof.Rows L2
section
variable {nx bk ct : L2.St → Hp → Prop} {rt : VK} {σ : L2.St} {H : Hp} {Q : VK}
/-- what a raise wants of its values -/
def FauK (C : Addr) (S : Value → Option Addr → Hp → Prop) (vs : List V) (H1 : Hp) : Prop := ∃ (i : Int) (r : Str), vs = [.int i, .str r] ∧ i.natAbs < 1000000000 ∧ r.length ≤ 1000 ∧ ∀ d, H1 d = none → S (.ref C) (some d) (upd H1 d (.xd (faD i r)))
theorem g_raise {C : Addr} {W : WX} {ta : TA} (h : ta σ H (FauK C fun cls d H' => W cls d σ H')) : tRaiseF C W ta ⟨nx, rt, bk, ct⟩ σ H := h
theorem v_fau {C : Addr} {S : Value → Option Addr → Hp → Prop} {i : Int} {r : Str} (h1 : i.natAbs < 1000000000) (h2 : r.length ≤ 1000) (q : ∀ d, H d = none → S (.ref C) (some d) (upd H d (.xd (faD i r)))) : FauK C S [.int i, .str r] H := ⟨i, r, rfl, h1, h2, q⟩
end
end G

/-! ### data that stands still (At), cells that change (HH) -/
namespace G
open PySem PySem.Spec PyProof.Rows L2
inductive D where
  | v (x : V)
  | lst (xs : List D)
  | tup (xs : List D)
  | obj (c : Str) (fs : List (Str × D))
  | dk (kvs : List (Key × D))
abbrev D.i (n : Int) : D := .v (.int n)
abbrev D.t (zs : List Nat) : D := .v (.str ⟨zs.toArray⟩)
abbrev D.b (b : Bool) : D := .v (.bl b)
abbrev D.n : D := .v .non
mutual
def At (K : PySem.W.Frag) (F : Hp) : D → V → Prop
  | .v x, u => u = x
  | .lst xs, u => ∃ a vs, u = .ref a ∧ F a = some (.lst vs) ∧ AtA K F xs vs
  | .tup xs, u => ∃ a vs, u = .ref a ∧ SqT K F a vs ∧ AtA K F xs vs
  | .obj c fs, u => ∃ a dx vs, u = .ref a ∧ F a = some (.ins (He.ga K c) dx vs) ∧ AtF K F fs vs
  | .dk kvs, u => ∃ a vs, u = .ref a ∧ F a = some (.dK vs) ∧ AtK K F kvs vs
def AtA (K : PySem.W.Frag) (F : Hp) : List D → List V → Prop
  | [], vs => vs = []
  | d :: ds, vs => ∃ u us, vs = u :: us ∧ At K F d u ∧ AtA K F ds us
def AtF (K : PySem.W.Frag) (F : Hp) : List (Str × D) → List (Str × V) → Prop
  | [], vs => vs = []
  | (f, d) :: ds, vs => ∃ u us, vs = (f, u) :: us ∧ At K F d u ∧ AtF K F ds us
def AtK (K : PySem.W.Frag) (F : Hp) : List (Key × D) → List (Key × V) → Prop
  | [], vs => vs = []
  | (f, d) :: ds, vs => ∃ u us, vs = (f, u) :: us ∧ At K F d u ∧ AtK K F ds us
end
theorem Same.sqt {K : PySem.W.Frag} {H H' : Hp} {a : Addr} {xs : List V} (e : Same H H') (h : SqT K H a xs) : SqT K H' a xs := by
  rcases h with (h | ⟨o, h⟩) | h
  · exact .inl (.inl (e _ _ h))
  · exact .inl (.inr ⟨o, e _ _ h⟩)
  · exact .inr h
mutual
theorem At.mono {K : PySem.W.Frag} {F F' : Hp} (s : Same F F') : ∀ {d : D} {u : V}, At K F d u → At K F' d u
  | .v x, u, h => by unfold At at h ⊢; exact h
  | .lst xs, u, h => by
    unfold At at h ⊢
    obtain ⟨a, vs, e, hq, h⟩ := h
    exact ⟨a, vs, e, s _ _ hq, AtA.mono s h⟩
  | .tup xs, u, h => by
    unfold At at h ⊢
    obtain ⟨a, vs, e, hq, h⟩ := h
    exact ⟨a, vs, e, Same.sqt s hq, AtA.mono s h⟩
  | .obj c fs, u, h => by
    unfold At at h ⊢
    obtain ⟨a, dx, vs, e, hq, h⟩ := h
    exact ⟨a, dx, vs, e, s _ _ hq, AtF.mono s h⟩
  | .dk kvs, u, h => by
    unfold At at h ⊢
    obtain ⟨a, vs, e, hq, h⟩ := h
    exact ⟨a, vs, e, s _ _ hq, AtK.mono s h⟩
theorem AtA.mono {K : PySem.W.Frag} {F F' : Hp} (s : Same F F') : ∀ {ds : List D} {us : List V}, AtA K F ds us → AtA K F' ds us
  | [], us, h => by unfold AtA at h ⊢; exact h
  | d :: ds, us, h => by
    unfold AtA at h ⊢
    obtain ⟨u, us, e, h1, h2⟩ := h
    exact ⟨u, us, e, At.mono s h1, AtA.mono s h2⟩
theorem AtF.mono {K : PySem.W.Frag} {F F' : Hp} (s : Same F F') : ∀ {ds : List (Str × D)} {us : List (Str × V)}, AtF K F ds us → AtF K F' ds us
  | [], us, h => by unfold AtF at h ⊢; exact h
  | (f, d) :: ds, us, h => by
    unfold AtF at h ⊢
    obtain ⟨u, us, e, h1, h2⟩ := h
    exact ⟨u, us, e, At.mono s h1, AtF.mono s h2⟩
theorem AtK.mono {K : PySem.W.Frag} {F F' : Hp} (s : Same F F') : ∀ {ds : List (Key × D)} {us : List (Key × V)}, AtK K F ds us → AtK K F' ds us
  | [], us, h => by unfold AtK at h ⊢; exact h
  | (f, d) :: ds, us, h => by
    unfold AtK at h ⊢
    obtain ⟨u, us, e, h1, h2⟩ := h
    exact ⟨u, us, e, At.mono s h1, AtK.mono s h2⟩
end
section
variable {K : PySem.W.Frag} {F F' H H' : Hp} {u x w : V} {d : D} {ds es : List D} {us vs : List V} {M : List (Addr × HO)}
theorem At.v_ {x : V} : At K F (.v x) u ↔ u = x := by unfold At; exact Iff.rfl
theorem At.of {x : V} : At K F (.v x) x := At.v_.mpr rfl
theorem AtA.nil : AtA K F [] [] := by unfold AtA; rfl
theorem AtA.cons (h : At K F d u) (t : AtA K F ds us) : AtA K F (d :: ds) (u :: us) := by unfold AtA; exact ⟨_, _, rfl, h, t⟩
theorem AtF.nil : AtF K F [] [] := by unfold AtF; rfl
theorem AtF.cons {f : Str} {fs : List (Str × D)} {gs : List (Str × V)} (h : At K F d u) (t : AtF K F fs gs) : AtF K F ((f, d) :: fs) ((f, u) :: gs) := by unfold AtF; exact ⟨_, _, rfl, h, t⟩
theorem AtA.len : ∀ {ds : List D} {us : List V}, AtA K F ds us → us.length = ds.length
  | [], us, h => by unfold AtA at h; rw [h]; rfl
  | d :: ds, us, h => by
    unfold AtA at h
    obtain ⟨u, us, rfl, _, h⟩ := h
    rw [List.length_cons, List.length_cons, AtA.len h]
theorem AtA.get : ∀ {ds : List D} {us : List V} {i : Nat}, AtA K F ds us → ds[i]? = some d → ∃ u, us[i]? = some u ∧ At K F d u
  | [], us, i, h, e => by cases e
  | d' :: ds, us, 0, h, e => by
    unfold AtA at h
    obtain ⟨u, us, rfl, h1, h⟩ := h
    cases e
    exact ⟨u, rfl, h1⟩
  | d' :: ds, us, i + 1, h, e => by
    unfold AtA at h
    obtain ⟨u, us, rfl, h1, h⟩ := h
    exact AtA.get (i := i) h e
theorem AtA.at_ {i : Nat} (h : AtA K F ds us) (e : us[i]? = some u) : ∃ d, ds[i]? = some d ∧ At K F d u := by
  have hi : i < us.length := by
    rcases Nat.lt_or_ge i us.length with z | z
    · exact z
    · rw [List.getElem?_eq_none z] at e; cases e
  have hd : ds[i]? = some (ds[i]'(by rw [← h.len]; exact hi)) := List.getElem?_eq_getElem _
  obtain ⟨u', e', a⟩ := h.get hd
  rw [e] at e'
  cases e'
  exact ⟨_, hd, a⟩
theorem AtA.app : ∀ {ds : List D} {us : List V}, AtA K F ds us → AtA K F es vs → AtA K F (ds ++ es) (us ++ vs)
  | [], us, h, t => by unfold AtA at h; rw [h]; exact t
  | d :: ds, us, h, t => by
    unfold AtA at h
    obtain ⟨u, us, rfl, h1, h⟩ := h
    exact AtA.cons h1 (AtA.app h t)
theorem AtA.snoc (h : AtA K F ds us) (t : At K F d u) : AtA K F (ds ++ [d]) (us ++ [u]) := h.app (AtA.cons t AtA.nil)
theorem AtA.snocM {α : Type} {e : α → D} {xs : List α} {x : α} (h : AtA K F (xs.map e) us) (t : At K F (e x) u) : AtA K F ((xs ++ [x]).map e) (us ++ [u]) := by
  rw [List.map_append]
  exact h.snoc t
theorem AtA.flat {α : Type} {g : α → V} : ∀ {xs : List α} {us : List V}, AtA K F (xs.map fun x => D.v (g x)) us → us = xs.map g
  | [], us, h => by unfold AtA at h; exact h
  | x :: xs, us, h => by
    unfold AtA at h
    obtain ⟨u, us, rfl, h1, h⟩ := h
    rw [At.v_.mp h1, AtA.flat h]
    rfl
theorem AtA.ofFlat {α : Type} {g : α → V} : ∀ {xs : List α}, AtA K F (xs.map fun x => D.v (g x)) (xs.map g)
  | [] => AtA.nil
  | x :: xs => AtA.cons At.of (AtA.ofFlat (xs := xs))
theorem AtF.get {f : Str} : ∀ {fs : List (Str × D)} {gs : List (Str × V)}, AtF K F fs gs → fs.lookup f = some d → ∃ u, gs.lookup f = some u ∧ At K F d u
  | [], gs, h, e => by cases e
  | (g, d') :: fs, gs, h, e => by
    unfold AtF at h
    obtain ⟨u, us, rfl, h1, h⟩ := h
    rw [List.lookup_cons] at e ⊢
    cases c : f == g with
    | true => rw [c] at e; cases e; exact ⟨u, rfl, h1⟩
    | false => rw [c] at e; exact AtF.get h e
theorem At.obj_ {c : Str} {fs : List (Str × D)} (h : At K F (.obj c fs) u) : ∃ a dx vs, u = .ref a ∧ F a = some (.ins (He.ga K c) dx vs) ∧ AtF K F fs vs := by unfold At at h; exact h
theorem At.lstR (h : At K F (.lst ds) u) : ∃ a vs, u = .ref a ∧ F a = some (.lst vs) ∧ AtA K F ds vs := by unfold At at h; exact h
theorem At.lst_ (h : At K F (.lst ds) u) : ∃ a vs, u = .ref a ∧ SqL K F a vs ∧ AtA K F ds vs := by
  obtain ⟨a, vs, e, hq, t⟩ := h.lstR
  exact ⟨a, vs, e, SqL.of hq, t⟩
theorem At.tup_ (h : At K F (.tup ds) u) : ∃ a vs, u = .ref a ∧ SqT K F a vs ∧ AtA K F ds vs := by unfold At at h; exact h
theorem At.mkL {a : Addr} (h : F a = some (.lst vs)) (t : AtA K F ds vs) : At K F (.lst ds) (.ref a) := by unfold At; exact ⟨a, vs, rfl, h, t⟩
theorem At.mkT {a : Addr} (h : SqT K F a vs) (t : AtA K F ds vs) : At K F (.tup ds) (.ref a) := by unfold At; exact ⟨a, vs, rfl, h, t⟩
theorem At.mkO {c : Str} {a dx : Addr} {fs : List (Str × D)} {gs : List (Str × V)} (h : F a = some (.ins (He.ga K c) dx gs)) (t : AtF K F fs gs) : At K F (.obj c fs) (.ref a) := by unfold At; exact ⟨a, dx, gs, rfl, h, t⟩
/-! cells that may change -/
structure HH (F H : Hp) (M : List (Addr × HO)) : Prop where
  sub : Same F H
  nd : (M.map (·.1)).Nodup
  cell : ∀ p ∈ M, H p.1 = some p.2 ∧ F p.1 = none
theorem HH.start : HH H H [] := ⟨Same.refl H, .nil, fun p h => nomatch h⟩
theorem HH.get {i : Nat} {a : Addr} {o : HO} (h : HH F H M) (e : M[i]? = some (a, o)) : H a = some o := (h.cell _ (List.mem_of_getElem? e)).1
theorem HH.out {i : Nat} {a : Addr} {o : HO} (h : HH F H M) (e : M[i]? = some (a, o)) : F a = none := (h.cell _ (List.mem_of_getElem? e)).2
theorem HH.non {p : Addr} (h : HH F H M) (hp : H p = none) : F p = none := by
  cases e : F p with
  | none => rfl
  | some o => rw [h.sub _ _ e] at hp; cases hp
theorem HH.fresh {p : Addr} (h : HH F H M) (hp : H p = none) : p ∉ M.map (·.1) := by
  intro z
  obtain ⟨q, hq, e⟩ := List.mem_map.mp z
  have := (h.cell q hq).1
  rw [e, hp] at this
  cases this
theorem HH.new {p : Addr} {o : HO} (h : HH F H M) (hp : H p = none) : HH F (upd H p o) ((p, o) :: M) := by
  refine ⟨fun b u e => up_new (h.sub _ _ e) hp, List.nodup_cons.mpr ⟨h.fresh hp, h.nd⟩, fun q hq => ?_⟩
  rcases List.mem_cons.mp hq with rfl | hq
  · exact ⟨upd_same, h.non hp⟩
  · obtain ⟨h1, h2⟩ := h.cell q hq
    exact ⟨up_new h1 hp, h2⟩
theorem HH.newF {p : Addr} {o : HO} (h : HH F H M) (hp : H p = none) : HH (upd F p o) (upd H p o) M := by
  refine ⟨fun b u e => ?_, h.nd, fun q hq => ?_⟩
  · unfold upd at e ⊢
    split
    · rename_i z; rw [if_pos z] at e; exact e
    · rename_i z; rw [if_neg z] at e; exact h.sub _ _ e
  · obtain ⟨h1, h2⟩ := h.cell q hq
    have ne : q.1 ≠ p := ne_of_none h1 hp
    exact ⟨by rw [upd_ne ne]; exact h1, by rw [upd_ne ne]; exact h2⟩
theorem HH.grow {p : Addr} {o : HO} (h : HH F H M) (hp : H p = none) : Same F (upd F p o) := same_new (h.non hp)
theorem HH.perm {M' : List (Addr × HO)} (h : HH F H M) (p : List.Perm M M') : HH F H M' :=
  ⟨h.sub, (p.map _).nodup_iff.mp h.nd, fun q hq => h.cell q (p.mem_iff.mpr hq)⟩
theorem HH.swap {a b : Addr × HO} (h : HH F H (a :: b :: M)) : HH F H (b :: a :: M) := h.perm (.swap b a M)
theorem HH.rot {a b c : Addr × HO} (h : HH F H (a :: b :: c :: M)) : HH F H (c :: a :: b :: M) := h.perm ((List.Perm.cons a (.swap c b M)).trans (.swap c a (b :: M)))
theorem HH.new1 {p : Addr} {o : HO} {a : Addr × HO} (h : HH F H (a :: M)) (hp : H p = none) : HH F (upd H p o) (a :: (p, o) :: M) := (h.new hp).swap
theorem HH.drop {a : Addr × HO} (h : HH F H (a :: M)) : HH F H M := ⟨h.sub, (List.nodup_cons.mp h.nd).2, fun q hq => h.cell q (List.mem_cons_of_mem _ hq)⟩
theorem HH.drop1 {a b : Addr × HO} (h : HH F H (a :: b :: M)) : HH F H (a :: M) := h.swap.drop
theorem HH.set0 {a : Addr} {o o' : HO} (h : HH F H ((a, o) :: M)) : HH F (upd H a o') ((a, o') :: M) := by
  have hn := List.nodup_cons.mp h.nd
  have hF : F a = Option.none := h.out (i := 0) rfl
  refine ⟨fun b u e => ?_, List.nodup_cons.mpr hn, fun q hq => ?_⟩
  · rw [upd_ne (ne_of_none e hF)]; exact h.sub _ _ e
  · rcases List.mem_cons.mp hq with rfl | hq
    · exact ⟨upd_same, hF⟩
    · obtain ⟨h1, h2⟩ := h.cell q (List.mem_cons_of_mem _ hq)
      have ne : q.1 ≠ a := fun e => hn.1 (List.mem_map.mpr ⟨q, hq, e⟩)
      exact ⟨by rw [upd_ne ne]; exact h1, h2⟩
theorem HH.set1 {a : Addr} {o o' : HO} {b : Addr × HO} (h : HH F H (b :: (a, o) :: M)) : HH F (upd H a o') (b :: (a, o') :: M) := h.swap.set0.swap
theorem HH.set2 {a : Addr} {o o' : HO} {b c : Addr × HO} (h : HH F H (b :: c :: (a, o) :: M)) : HH F (upd H a o') (b :: c :: (a, o') :: M) := h.rot.set0.perm ((List.Perm.swap b _ _).trans (.cons b (.swap c _ M)))
theorem HH.frz {a : Addr} {o : HO} (h : HH F H ((a, o) :: M)) : HH (upd F a o) H M := by
  have hn := List.nodup_cons.mp h.nd
  refine ⟨fun b u e => ?_, hn.2, fun q hq => ?_⟩
  · by_cases c : b = a
    · rw [c, upd_same] at e; cases e; rw [c]; exact h.get (i := 0) rfl
    · rw [upd_ne c] at e; exact h.sub _ _ e
  · obtain ⟨h1, h2⟩ := h.cell q (List.mem_cons_of_mem _ hq)
    have ne : q.1 ≠ a := fun e => hn.1 (List.mem_map.mpr ⟨q, hq, e⟩)
    exact ⟨h1, by rw [upd_ne ne]; exact h2⟩
theorem HH.frzS {a : Addr} {o : HO} (h : HH F H ((a, o) :: M)) : Same F (upd F a o) := same_new (h.out (i := 0) rfl)
theorem HH.frz1 {a : Addr} {o : HO} {b : Addr × HO} (h : HH F H (b :: (a, o) :: M)) : HH (upd F a o) H (b :: M) := h.swap.frz
theorem HH.frz1S {a : Addr} {o : HO} {b : Addr × HO} (h : HH F H (b :: (a, o) :: M)) : Same F (upd F a o) := h.swap.frzS
/-- something is there, said for data: a list that was frozen -/
theorem frz_lst {a : Addr} {vs : List V} (hF : F a = Option.none) (h : AtA K F ds vs) : At K (upd F a (.lst vs)) (.lst ds) (.ref a) := At.mkL upd_same (h.mono (same_new hF))
/-! rules over At -/
variable {Q : VK} {S : Hp → Prop} {σ : L2.St} {nx bk ct : L2.St → Hp → Prop} {rt : VK}
theorem a_fld {c f : Str} {fs : List (Str × D)} (h : At K F (.obj c fs) x) (hh : HH F H M) (cl : Cls K (He.ga K c)) (n : NoAttr K (He.ga K c) f) (l : fs.lookup f = some d) (q : ∀ w, At K F d w → Q w H) : FldK K f x H Q := by
  obtain ⟨a, dx, vs, rfl, hF, hv⟩ := h.obj_
  obtain ⟨u, hu, ha⟩ := hv.get l
  exact v_fld (hh.sub _ _ hF) cl n hu (q u ha)
theorem a_fldV {c f : Str} {fs : List (Str × D)} (h : At K F (.obj c fs) x) (hh : HH F H M) (cl : Cls K (He.ga K c)) (n : NoAttr K (He.ga K c) f) (l : fs.lookup f = some (.v w)) (q : Q w H) : FldK K f x H Q :=
  a_fld h hh cl n l fun w' e => by rw [At.v_.mp e]; exact q
theorem m_fld {i : Nat} {a C dx : Addr} {fs : List (Str × V)} {f : Str} (hh : HH F H M) (e : M[i]? = some (a, .ins C dx fs)) (cl : Cls K C) (n : NoAttr K C f) (l : fs.lookup f = some w) (q : Q w H) : FldK K f (.ref a) H Q := v_fld (hh.get e) cl n l q
theorem a_tup {ds : List D} (hh : HH F H M) (h : AtA K F ds vs) (q : ∀ F' H' u, Same F F' → HH F' H' M → At K F' (.tup ds) u → Q u H') : ∀ p, H p = none → Q (.ref p) (upd H p (.tup vs)) := fun p hp =>
  q _ _ _ (hh.grow hp) (hh.newF hp) (At.mkT (SqT.of upd_same) (h.mono (hh.grow hp)))
theorem a_lst {ds : List D} (hh : HH F H M) (h : AtA K F ds vs) (q : ∀ F' H' u, Same F F' → HH F' H' M → At K F' (.lst ds) u → Q u H') : ∀ p, H p = none → Q (.ref p) (upd H p (.lst vs)) := fun p hp =>
  q _ _ _ (hh.grow hp) (hh.newF hp) (At.mkL upd_same (h.mono (hh.grow hp)))
theorem a_lenL (hx : At K F (.lst ds) x) (hh : HH F H M) (q : Q (.int (ds.length : Int)) H) : rLen K [x] H Q := by
  obtain ⟨a, vs, rfl, h, t⟩ := hx.lst_
  exact v_lenSq (hh.sub.seq h) (by rw [t.len]; exact q)
theorem a_ixL {n : Int} {i : Nat} (hx : At K F (.lst ds) x) (hh : HH F H M) (en : n = (i : Int)) (e : ds[i]? = some d) (q : ∀ w, At K F d w → Q w H) : rIx K x (.int n) H Q := by
  obtain ⟨a, vs, rfl, h, t⟩ := hx.lst_
  obtain ⟨u, hu, ha⟩ := t.get e
  exact v_ixSq (hh.sub.seq h) (atN en hu) (q u ha)
theorem a_ixT {n : Int} {i : Nat} (hx : At K F (.tup ds) x) (hh : HH F H M) (en : n = (i : Int)) (e : ds[i]? = some d) (q : ∀ w, At K F d w → Q w H) : rIx K x (.int n) H Q := by
  obtain ⟨a, vs, rfl, h, t⟩ := hx.tup_
  obtain ⟨u, hu, ha⟩ := t.get e
  exact .inr (.inl ⟨_, _, _, _, rfl, rfl, Same.sqt hh.sub h, atN en hu, q u ha⟩)
theorem a_forL {α : Type} {e : α → D} {xs : List α} {g : TG} {tb : TS} (hx : At K F (.lst (xs.map e)) x) (hh : HH F H M) (I : List α → L2.St → Hp → Prop) (hF : ∀ r σ H, I r σ H → Same F H) (h0 : I xs σ H)
    (hs : ∀ y r w σ H, At K F (e y) w → I (y :: r) σ H → g w σ H fun σ2 H2 => tb ⟨I r, rt, nx, I r⟩ σ2 H2) (hd : ∀ σ H, I [] σ H → nx σ H) : OvL K (fun J H1 => LoopG J g tb ⟨nx, rt, bk, ct⟩ σ H1) x H := by
  obtain ⟨a, vs, rfl, h, t⟩ := hx.lst_
  have hl : vs.length = xs.length := by rw [t.len, List.length_map]
  refine v_ovL (hh.sub.seq h) (l_list (fun i σ H => I (xs.drop i) σ H) h0 (fun i σ H _ q => (hF _ _ _ q).seq h) (fun i v σ H hv q => ?_) (fun σ H q => hd σ H ?_))
  · obtain ⟨d, hd', ha⟩ := t.at_ hv
    rw [List.getElem?_map] at hd'
    cases ex : xs[i]? with
    | none => rw [ex] at hd'; cases hd'
    | some y =>
      rw [ex] at hd'
      cases hd'
      have hi : i < xs.length := by
        rcases Nat.lt_or_ge i xs.length with z | z
        · exact z
        · rw [List.getElem?_eq_none z] at ex; cases ex
      have q' : I (y :: xs.drop (i + 1)) σ H := by
        have e1 : xs[i] = y := by rw [List.getElem?_eq_getElem hi] at ex; exact Option.some.inj ex
        rw [← e1, List.getElem_cons_drop]
        exact q
      exact hs y _ v σ H ha q'
  · rw [hl, List.drop_length] at q
    exact q
theorem a_forT {α : Type} {e : α → D} {xs : List α} {g : TG} {tb : TS} (hx : At K F (.tup (xs.map e)) x) (hh : HH F H M) (I : List α → L2.St → Hp → Prop) (hF : ∀ r σ H, I r σ H → Same F H) (h0 : I xs σ H)
    (hs : ∀ y r w σ H, At K F (e y) w → I (y :: r) σ H → g w σ H fun σ2 H2 => tb ⟨I r, rt, nx, I r⟩ σ2 H2) (hd : ∀ σ H, I [] σ H → nx σ H) : OvT K (fun J H1 => LoopG J g tb ⟨nx, rt, bk, ct⟩ σ H1) x H := by
  obtain ⟨a, vs, rfl, h, t⟩ := hx.tup_
  have hl : vs.length = xs.length := by rw [t.len, List.length_map]
  refine v_ovT (Same.sqt hh.sub h) (l_tup (fun i σ H => I (xs.drop i) σ H) h0 (fun i σ H _ q => Same.sqt (hF _ _ _ q) h) (fun i v σ H hv q => ?_) (fun σ H q => hd σ H ?_))
  · obtain ⟨d, hd', ha⟩ := t.at_ hv
    rw [List.getElem?_map] at hd'
    cases ex : xs[i]? with
    | none => rw [ex] at hd'; cases hd'
    | some y =>
      rw [ex] at hd'
      cases hd'
      have hi : i < xs.length := by
        rcases Nat.lt_or_ge i xs.length with z | z
        · exact z
        · rw [List.getElem?_eq_none z] at ex; cases ex
      have q' : I (y :: xs.drop (i + 1)) σ H := by
        have e1 : xs[i] = y := by rw [List.getElem?_eq_getElem hi] at ex; exact Option.some.inj ex
        rw [← e1, List.getElem_cons_drop]
        exact q
      exact hs y _ v σ H ha q'
  · rw [hl, List.drop_length] at q
    exact q
def LcK (J : It) (g : TG) (tt : TT) (te : TE) (σ : L2.St) (ws : List Nat) (H1 : Hp) (Q : VK) : Prop := ∀ D, H1 D = Option.none → LcG J g tt te σ ws D H1 (Q (.ref D))
theorem g_lcK {wi : TI} {g : TG} {tt : TT} {te : TE} {ws : List Nat} (h : wi σ H fun J H1 => LcK J g tt te σ ws H1 Q) : tLc wi g tt te ws σ H Q := h
/-- a comprehension over such a list: what is put for each item is told by an optional value -/
theorem a_lcL {α β : Type} {e : α → D} {f : β → D} {xs : List α} {g : TG} {tt : TT} {te : TE} {vs : List Nat} (hx : At K F (.lst (xs.map e)) x) (hh : HH F H M) (hz : xs.length < sizeLine) (r : α → Option β)
    (hs : ∀ y (w : V) F' H' c (P : V → Hp → Prop) (N : Hp → Prop), y ∈ xs → At K F' (e y) w → Same F F' → HH F' H' (c :: M) → (∀ F4 H4 v z, Same F' F4 → HH F4 H4 (c :: M) → r y = some z → At K F4 (f z) v → P v H4) →
      (∀ F4 H4, Same F' F4 → HH F4 H4 (c :: M) → r y = none → N H4) → g w (wipe σ vs) H' fun σ2 H2 => wipe σ2 vs = wipe σ vs ∧ tt σ2 H2 fun b H3 => if b = true then te σ2 H3 (fun v H4 => P v H4) else N H3)
    (q : ∀ F' H' u, Same F F' → HH F' H' M → At K F' (.lst ((xs.filterMap r).map f)) u → Q u H') : OvL K (fun J H1 => LcK J g tt te σ vs H1 Q) x H := by
  obtain ⟨a, us, rfl, h, t⟩ := hx.lst_
  have hl : us.length = xs.length := by rw [t.len, List.length_map]
  refine v_ovL (hh.sub.seq h) fun D hD => ?_
  refine c_list (fun i H' => ∃ F' ws, Same F F' ∧ HH F' H' ((D, .lst ws) :: M) ∧ ws.length ≤ i ∧ AtA K F' (((xs.take i).filterMap r).map f) ws) ⟨F, [], Same.refl F, hh.new hD, Nat.zero_le _, AtA.nil⟩
    (fun i H' _ ⟨F', ws, s, h', _⟩ => h'.sub.seq (s.seq h)) (fun i v H' hv ⟨F', ws, s, h', hw, ha⟩ => ?_) (fun H' ⟨F', ws, s, h', hw, ha⟩ => ?_)
  · obtain ⟨d, hd', hat⟩ := t.at_ hv
    rw [List.getElem?_map] at hd'
    cases ex : xs[i]? with
    | none => rw [ex] at hd'; cases hd'
    | some y =>
      rw [ex] at hd'
      cases hd'
      have hi : i < xs.length := by
        rcases Nat.lt_or_ge i xs.length with z | z
        · exact z
        · rw [List.getElem?_eq_none z] at ex; cases ex
      have e1 : xs[i] = y := by rw [List.getElem?_eq_getElem hi] at ex; exact Option.some.inj ex
      have et : xs.take (i + 1) = xs.take i ++ [y] := by rw [← e1]; exact (List.take_append_getElem hi).symm
      refine hs y v F' H' _ _ _ (e1 ▸ List.getElem_mem hi) (hat.mono s) s h' (fun F4 H4 v z s4 h4 er hz => ?_) (fun F4 H4 s4 h4 er => ?_)
      · refine v_put (h4.get (i := 0) rfl) (by omega) ⟨F4, ws ++ [v], s.trans s4, h4.set0, by rw [List.length_append]; show _ + 1 ≤ _; omega, ?_⟩
        rw [et, List.filterMap_append, List.filterMap_cons, er]
        exact AtA.snocM (ha.mono s4) hz
      · refine ⟨F4, ws, s.trans s4, h4, by omega, ?_⟩
        rw [et, List.filterMap_append, List.filterMap_cons, er]
        show AtA K F4 ((_ ++ []).map f) ws
        rw [List.append_nil]
        exact ha.mono s4
  · rw [hl, List.take_length] at ha
    exact q _ _ _ (s.trans h'.frzS) h'.frz (frz_lst (h'.out (i := 0) rfl) ha)
/-- a while that carries what is left to be computed -/
def WTurn (I : Nat → L2.St → Hp → Prop) (m : Nat) (tb : TS) (rt : VK) (nx : L2.St → Hp → Prop) (σ : L2.St) (H : Hp) : Prop := ∃ N : L2.St → Hp → Prop, (∀ σ' H', N σ' H' → ∃ m', m' < m + 1 ∧ I m' σ' H') ∧ tb ⟨N, rt, nx, N⟩ σ H
theorem g_wt {I : Nat → L2.St → Hp → Prop} {m : Nat} {tb : TS} (h : tb ⟨I m, rt, nx, I m⟩ σ H) : WTurn I m tb rt nx σ H := ⟨I m, fun _ _ z => ⟨m, Nat.lt_succ_self m, z⟩, h⟩
theorem a_while {m : Nat} {tt : TT} {tb : TS} (I : Nat → L2.St → Hp → Prop) (h0 : I m σ H) (hz : ∀ σ H, I 0 σ H → False) (hs : ∀ m σ H, I (m + 1) σ H → tt σ H fun b H1 => if b = true then WTurn I m tb rt nx σ H1 else nx σ H1) :
    tWhile tt tb ⟨nx, rt, bk, ct⟩ σ H := by
  refine g_while ⟨fun m σ H => I m σ H, ⟨m, h0⟩, fun m σ H q => ?_⟩
  cases m with
  | zero => exact (hz _ _ q).elim
  | succ m => exact hs m σ H q
/-! texts as lists of codes -/
end
end G
namespace G
open PySem PySem.Spec PyProof.Rows L2
/-! ### pygen2: constants, properties, tables, the hook -/
abbrev svv (zs : List Nat) : V := .str ⟨zs.toArray⟩
theorem pe_strE {X : Cx} {x z : Str} {j pos} (h : x = z) : PE X (.Constant (.str x) j pos) (tC (.str z)) := by
  subst h
  exact pe_str
theorem tupE {K : PySem.W.Frag} {x : Str} {vs : List He.Dv} {us : List V} (e : vs.map (He.Dv.v K) = us) (h : He.tupB K x vs = true) : ∀ H, SqT K H (He.ga K x) us := fun H => by
  subst e
  exact He.tupB_ok h H
def rSplit : V → List V → Hp → VK → Prop := fun x xs H Q => ∃ a b, x = .str a ∧ xs = [.str b] ∧ (b.length == 0) = false ∧ a.length + 2 ≤ sizeLine ∧ rNewStrs (Txt.split a b) H Q
/-- the getter of a property -/
def pAd (K : PySem.W.Frag) (C m : Str) : Addr := match PySem.W.recIn K (He.ma K (He.ga K C) m) "property" with
  | some (.ref g :: _) => g
  | _ => 0
def recP (K : PySem.W.Frag) (a : Addr) : Bool := match PySem.W.recIn K a "property" with
  | some (.ref _ :: _) => true
  | _ => false
def propF (C m : Str) (K : PySem.W.Frag) : Bool := He.eqO (PySem.W.findIn K (.ref (He.ga K C)) m) (some (some (.ref (He.ma K (He.ga K C) m)))) &&
  (He.eqO (PySem.W.specialIn K (.ref (He.ma K (He.ga K C) m)) "__get__") (some (some (.builtin "property.__get__"))) && (decide (PySem.W.takesIn K (.ref (He.ma K (He.ga K C) m)) = some true) && recP K (He.ma K (He.ga K C) m)))
theorem propF_ok {C m : Str} {K : PySem.W.Frag} (h : propF C m K = true) : PropOf K (He.ga K C) m (He.ma K (He.ga K C) m) (pAd K C m) := by
  obtain ⟨h1, h2⟩ := He.ba h
  obtain ⟨h2, h3⟩ := He.ba h2
  obtain ⟨h3, h4⟩ := He.ba h3
  refine ⟨He.eqO_ok h1, He.eqO_ok h2, of_decide_eq_true h3, ?_⟩
  unfold recP at h4
  unfold pAd
  split at h4
  · rename_i g rest e
    exact ⟨rest, by rw [e]⟩
  · cases h4
structure DefP where
  cls : Str
  name : Str
  qual : Str
  params : Arguments
  body : List Stmt
  scope : Scope
def DefP.val (d : DefP) : He.FnW := some (d.name, d.qual, d.params, .stmts d.body, d.scope, mainGlobals, [], builtinsNs)
def fnA (K : PySem.W.Frag) (a : Addr) : He.FnW := match K.lookup a with
  | some ⟨_, _, .func fd, _⟩ => some (fd.name, fd.qualname, fd.params, fd.body, fd.scope, fd.globals, fd.closure, fd.builtins)
  | _ => none
def DefP.ok (K : PySem.W.Frag) (d : DefP) : Bool := PySem.W.keepIn K (.ref (pAd K d.cls d.name)) && (match K.lookup (pAd K d.cls d.name) with
  | some ⟨_, _, .func fd, _⟩ => PySem.W.codeIn K fd.code d.qual && (He.dflB K fd.defaults [] && He.kwdB K fd.kwdefaults [])
  | _ => false)
theorem DefP.funD {K : PySem.W.Frag} {d : DefP} (e : fnA K (pAd K d.cls d.name) = d.val) (c : d.ok K = true) : ∃ fd, FunD K d.name d.qual d.params d.body d.scope [] [] (pAd K d.cls d.name) fd := by
  obtain ⟨kp, c2⟩ := He.ba c
  unfold fnA at e
  cases q : K.lookup (pAd K d.cls d.name) with
  | none =>
    rw [q] at c2
    cases c2
  | some o =>
    obtain ⟨oc, od, dt, osl⟩ := o
    rw [q] at c2 e
    cases dt with
    | func fd =>
      obtain ⟨n1, n2, n3, n4, n5, n6, n7, n8, n9, n10, n11, n12, n13, n14, n15⟩ := fd
      have e2 : (some (n1, n2, n3, n4, n5, n6, n7, n15) : He.FnW) = some (d.name, d.qual, d.params, .stmts d.body, d.scope, mainGlobals, [], builtinsNs) := e
      simp only [Option.some.injEq, Prod.mk.injEq] at e2
      obtain ⟨h1, h2, h3, h4, h5, h6, h7, h8⟩ := e2
      subst h1 h2 h3 h4 h5 h6 h7 h8
      have c3 : (PySem.W.codeIn K n13 d.qual && (He.dflB K n8 [] && He.kwdB K n9 [])) = true := c2
      obtain ⟨k1, k2⟩ := He.ba c3
      obtain ⟨k3, k4⟩ := He.ba k2
      exact ⟨_, ⟨oc, od, n8, n9, n10, n11, n12, n13, n14, osl, rfl, q, k1, He.dflB_ok k3, He.kwdB_ok k4⟩, kp⟩
    | _ => cases c2
def SaysP (gs : List DefP) (K : PySem.W.Frag) : Prop := (gs.all fun d => d.ok K) = true ∧ (gs.map fun d => fnA K (pAd K d.cls d.name)) = gs.map DefP.val
theorem SaysP.def_ {gs : List DefP} {K : PySem.W.Frag} (c : SaysP gs K) (i : Nat) {d : DefP} (h : gs[i]? = some d := by rfl) : ∃ fd, FunD K d.name d.qual d.params d.body d.scope [] [] (pAd K d.cls d.name) fd := by
  have e2 : (gs.map fun d => fnA K (pAd K d.cls d.name))[i]? = (gs.map DefP.val)[i]? := by rw [c.2]
  rw [List.getElem?_map, List.getElem?_map, h] at e2
  exact DefP.funD (Option.some.inj e2) (List.all_eq_true.mp c.1 d (List.mem_of_getElem? h))
abbrev AlZ : Type := He.AlD × List He.FnW × FnC × Bool
def obsZ (n : Nat) (fa : List He.Fa) (fn : List He.DefD) (gs : List DefP) (ex : PySem.W.Frag → Bool) (fc : PySem.W.Frag → FnC) (fb : PySem.W.Frag → Bool) (g : Addr → Option Obj) : AlZ :=
  (He.obsD fa fn (He.frT g (asY g n)), (gs.map fun d => fnA (He.frT g (asY g n)) (pAd (He.frT g (asY g n)) d.cls d.name)), fc (He.frT g (asY g n)), ex (He.frT g (asY g n)) && (fb (He.frT g (asY g n)) && gs.all fun d => d.ok (He.frT g (asY g n))))
def valZ (fn : List He.DefD) (gs : List DefP) (fcv : FnC) : AlZ := (He.valD fn, gs.map DefP.val, fcv, true)
structure SaysZ (fa : List He.Fa) (fn : List He.DefD) (gs : List DefP) (ex : PySem.W.Frag → Bool) (fc : PySem.W.Frag → FnC) (fcv : FnC) (fb : PySem.W.Frag → Bool) (K : PySem.W.Frag) : Prop where
  d : He.SaysD fa fn K
  p : SaysP gs K
  f : fc K = fcv
  more : ex K = true
  b : fb K = true
def hookZ (n : Nat) (fa : List He.Fa) (fn : List He.DefD) (gs : List DefP) (ex : PySem.W.Frag → Bool) (fc : PySem.W.Frag → FnC) (fcv : FnC) (fb : PySem.W.Frag → Bool) : PySem.W.Hook where
  α := AlZ
  obs := fun s => obsZ n fa fn gs ex fc fb s.heap.get?
  val := fun _ => valZ fn gs fcv
  says := fun _ h => ∃ K : PySem.W.Frag, K.In h ∧ SaysZ fa fn gs ex fc fcv fb K
  of := fun _ _ e => by
    refine ⟨_, He.frT_in, congrArg (fun z : AlZ => z.1) e, ⟨?_, congrArg (fun z : AlZ => z.2.1) e⟩, congrArg (fun z : AlZ => z.2.2.1) e, ?_, ?_⟩
    · exact (He.ba (He.ba (congrArg (fun z : AlZ => z.2.2.2) e)).2).2
    · exact (He.ba (congrArg (fun z : AlZ => z.2.2.2) e)).1
    · exact (He.ba (He.ba (congrArg (fun z : AlZ => z.2.2.2) e)).2).1
  keeps := fun _ _ _ ⟨K, hK, c⟩ k => ⟨K, PySem.W.Frag.In.keeps hK k, c⟩
theorem obsZ_eq {n : Nat} {fa : List He.Fa} {fn : List He.DefD} {gs : List DefP} {ex : PySem.W.Frag → Bool} {fc : PySem.W.Frag → FnC} {fcv : FnC} {fb : PySem.W.Frag → Bool} {g : Addr → Option Obj} {s : Shared} (h : ∀ a, g a = s.heap.get? a) : obsZ n fa fn gs ex fc fb g = (hookZ n fa fn gs ex fc fcv fb).obs s := by
  have e : g = s.heap.get? := funext h
  rw [e] <;> rfl
theorem SaysZ.fau {fa : List He.Fa} {fn : List He.DefD} {gs : List DefP} {ex : PySem.W.Frag → Bool} {K : PySem.W.Frag} {h : Heap} {mg : Str → Option Value}
    (c : SaysZ fa fn gs ex (fun K => fnC K ("Fault", some "__init__")) fnF (fun K => (faBs "/claim/cut.py" K).all id) K) (X : K.In h) (Gm : h.Ns mainGlobals mg) : FaT K mg := fun P i => by
  refine faTxt_of X Gm c.f ?_ i.top
  rw [i.file]
  exact c.b
structure Pt (P : Program) (w : World) (K : PySem.W.Frag) (mg : Str → Option Value) (base : Heap) (k : Nat) (C : Addr) (m : Str) (sp : Sp) : Prop where
  ex : ∃ (p f : Addr) (fd : FuncData) (ps : List Str), Cls K C ∧ PropOf K C m p f ∧ FnOk P w K mg base (L2.CX P w) k f fd ps sp ∧ Binds K fd ps []
theorem pe_pr {X : Cx} {k j : Nat} {C : Addr} {f : Str} {sp : Sp} {e : Expr} {pos : Pos} {ta : TE} (c : Pt X.prog X.w X.K X.mg X.base k C f sp) (hr : Room j X.A) (hk : k + 1 ≤ j) (he : PE X e ta) (hab : attributeBase e f X.env (eval e X.env) = eval e X.env := by rfl) :
    PE X (.Attribute e f pos) (tProp C sp [] E0 ta) := by
  obtain ⟨p, f', fd, ps, cl, hp, F, b⟩ := c.ex
  exact pe_prop he cl hp F (hr.mono hk) b .nil (fun _ _ _ _ _ _ _ h => by
    obtain ⟨_, _, _, _, _, _, _, _, _, _, _, _, z⟩ := h
    exact z.elim) hab
section
variable {X : Cx} {k j : Nat} {C : Addr} {x m : Str} {sp : Sp} {dvs : List V} {p pos : Pos} {E : L2.St → XK}
theorem pe_cl0 (c : Cl X.prog X.w X.K X.mg X.base k x sp dvs) (hr : Room j X.A) (hk : k ≤ j) (hx : ∀ σ, PassesAt (L2.CX X.prog X.w) X σ (E σ)) (hg : Gl X x) (hdb : (x == ("__debug__" : Str)) = false := by decide) :
    PE X (.Call (.Name x p) [] [] pos) (tCallSD sp dvs E tNil) := by
  obtain ⟨f, fd, ps, ds, F, hm, kp, b, d⟩ := c.ex
  refine ⟨fun pins s σ H Q I h => ?_⟩
  refine wpAny_Call_Name_kw (ld_glob I hg hm ?_ hdb)
  exact PySem.W.callWith_K0 I.kIn kp (run_fnSD (us := []) F (hr.mono hk) b d (hx σ) I .nil h)
theorem pe_mq0 (c : Mq X.prog X.w X.K X.mg X.base k x C sp dvs) (hr : Room j X.A) (hk : k + 1 ≤ j) (hg : Gl X x) (hdb : (x == ("__debug__" : Str)) = false := by decide) :
    PE X (.Call (.Name x p) [] [] pos) (tMake C sp dvs E0 tNil) := by
  obtain ⟨f, fd, ps, ds, M, F, hm, b, d⟩ := c.ex
  exact pe_make0 M F (hr.mono hk) hg hm b d passL hdb
end
end G

namespace G
open PySem PySem.Spec PyProof.Rows L2
/-! ### texts by their codes -/
theorem len_svv (zs : List Nat) : (⟨zs.toArray⟩ : Str).length = zs.length := by show zs.toArray.size = _; simp
theorem app_svv (a b : List Nat) : (⟨a.toArray⟩ : Str) ++ ⟨b.toArray⟩ = ⟨(a ++ b).toArray⟩ := by
  show (⟨a.toArray ++ b.toArray⟩ : Str) = _
  simp
theorem svv_inj {a b : List Nat} (h : (⟨a.toArray⟩ : Str) = ⟨b.toArray⟩) : a = b := by
  have z := congrArg (fun s : Str => s.cps.toList) h
  simpa using z
theorem dT {a b : List Nat} : decide ((⟨a.toArray⟩ : Str) = ⟨b.toArray⟩) = decide (a = b) := decide_eq_decide.mpr ⟨svv_inj, fun h => by rw [h]⟩
theorem sl16 : sizeLine = 16777216 := sizeLine_eq
theorem drop_c {α : Type} {zs : List α} {i : Nat} {c : α} (h : zs[i]? = some c) : zs.drop i = c :: zs.drop (i + 1) := by
  obtain ⟨hi, e⟩ := List.getElem?_eq_some_iff.mp h
  rw [List.drop_eq_getElem_cons hi, e]
theorem of_drop {α : Type} {zs : List α} {i : Nat} {c : α} {r : List α} (h : zs.drop i = c :: r) : zs[i]? = some c ∧ zs.drop (i + 1) = r ∧ i < zs.length := by
  have h1 : i < zs.length := by
    rcases Nat.lt_or_ge i zs.length with z | z
    · exact z
    · rw [List.drop_eq_nil_of_le z] at h; cases h
  rw [List.drop_eq_getElem_cons h1] at h
  injection h with h2 h3
  exact ⟨by rw [List.getElem?_eq_getElem h1, h2], h3, h1⟩
theorem inV_t {t : List Nat} : ∀ {xs : List (List Nat)}, inV (svv t) (xs.map svv) = xs.contains t
  | [] => rfl
  | x :: xs => by
    have ih := inV_t (t := t) (xs := xs)
    unfold inV at ih ⊢
    rw [List.map_cons, List.any_cons, ih, List.contains_cons]
    congr 1
    show ((⟨x.toArray⟩ : Str) == ⟨t.toArray⟩) = _
    by_cases h : t = x
    · subst h; simp
    · have : ¬ (⟨x.toArray⟩ : Str) = ⟨t.toArray⟩ := fun z => h (svv_inj z).symm
      rw [beq_eq_false_iff_ne.mpr this, beq_eq_false_iff_ne.mpr h]
theorem flat_t : ∀ {xs : List (List Nat)}, (xs.map svv).all flatV = true
  | [] => rfl
  | x :: xs => by rw [List.map_cons, List.all_cons, flat_t (xs := xs)]; rfl
section
variable {K : PySem.W.Frag} {F F0 F' H H' : Hp} {x y w : V} {d : D} {ds es : List D} {us vs : List V} {M : List (Addr × HO)} {Q : VK} {S : Hp → Prop} {σ : L2.St} {a b zs : List Nat}
theorem v_eqT (q : Q (.bl (decide (a = b))) H) : rEqX K (.str ⟨a.toArray⟩) (.str ⟨b.toArray⟩) H Q := v_eqS (by rw [dT]; exact q)
theorem v_neT (q : Q (.bl (!decide (a = b))) H) : rNeX K (.str ⟨a.toArray⟩) (.str ⟨b.toArray⟩) H Q := v_neS (by rw [dT]; exact q)
theorem v_lenT' (h : zs.length ≤ 16777216) (q : Q (.int (zs.length : Int)) H) : rLen K [.str ⟨zs.toArray⟩] H Q := v_lenS (by rw [len_svv, sl16]; exact h) (by rw [len_svv]; exact q)
theorem v_ixT' {n : Int} {i c : Nat} (h : zs.length ≤ 16777216) (e : n = (i : Int)) (hc : zs[i]? = some c) (q : Q (.str ⟨[c].toArray⟩) H) : rIx K (.str ⟨zs.toArray⟩) (.int n) H Q :=
  v_ixS (c := c) (by rw [len_svv, sl16]; exact h) (atN (i := i) e (by simpa using hc)) q
theorem v_inC {c : Nat} (q : Q (.bl (decide (c ∈ zs))) H) : rInX K (.str ⟨[c].toArray⟩) (.str ⟨zs.toArray⟩) H Q := v_inS (c := c) (by simpa using q)
theorem v_notInC {c : Nat} (q : Q (.bl (!decide (c ∈ zs))) H) : rNotInX K (.str ⟨[c].toArray⟩) (.str ⟨zs.toArray⟩) H Q := v_notInS (c := c) (by simpa using q)
theorem v_addT (h : a.length + b.length ≤ 16777216) (q : Q (.str ⟨(a ++ b).toArray⟩) H) : rAddX K (.str ⟨a.toArray⟩) (.str ⟨b.toArray⟩) H Q :=
  v_addS (by rw [len_svv, len_svv, sl16]; exact h) (by rw [app_svv]; exact q)
theorem cut_svv {p n : Nat} (hp : p ≤ zs.length) : cutS ⟨zs.toArray⟩ (some (p : Int)) (some ((p + n : Nat) : Int)) = ⟨((zs.drop p).take n).toArray⟩ := by
  unfold cutS
  have h1 : HT.sIx (⟨zs.toArray⟩ : Str).length 0 (some (p : Int)) = p := by
    rw [len_svv]
    unfold HT.sIx
    simp only []
    rw [if_neg (by omega)]
    omega
  have h2 : HT.sIx (⟨zs.toArray⟩ : Str).length (⟨zs.toArray⟩ : Str).length (some ((p + n : Nat) : Int)) = min (p + n) zs.length := by
    rw [len_svv]
    unfold HT.sIx
    simp only []
    rw [if_neg (by omega)]
    omega
  rw [h1, h2]
  have e : ((zs.drop p).take (min (p + n) zs.length - p)) = (zs.drop p).take n := by
    rcases Nat.lt_or_ge (p + n) zs.length with z | z
    · rw [show min (p + n) zs.length - p = n by omega]
    · rw [List.take_of_length_le (i := n) (by rw [List.length_drop]; omega), List.take_of_length_le (by rw [List.length_drop]; omega)]
  show (⟨((zs.toArray.toList.drop p).take _).toArray⟩ : Str) = _
  rw [show zs.toArray.toList = zs by simp, e]
theorem v_slT {p n : Nat} {m1 m2 : Int} (h : zs.length ≤ 16777216) (hp : p ≤ zs.length) (e1 : m1 = (p : Int)) (e2 : m2 = ((p + n : Nat) : Int)) (q : Q (.str ⟨((zs.drop p).take n).toArray⟩) H) : rSlX K (.str ⟨zs.toArray⟩) (some m1) (some m2) H Q := by
  subst e1 e2
  exact v_slS (by rw [len_svv, sl16]; exact h) (by rw [cut_svv hp]; exact q)
theorem starts_svv {s : List Nat} {p : Nat} (hp : p ≤ zs.length) : Txt.startswith3 ⟨zs.toArray⟩ ⟨s.toArray⟩ (p : Int) = decide ((zs.drop p).take s.length = s) := by
  have e : (zs.toArray.extract p (p + s.length)).toList = (zs.drop p).take s.length := by
    rw [Array.toList_extract]
    simp [List.extract_eq_take_drop]
  unfold Txt.startswith3
  have f : ∀ n : Nat, fromIndex n (p : Int) = p := fun n => by unfold fromIndex; rw [if_neg (by omega)]; omega
  rw [f, len_svv, len_svv]
  have g : Builtin.Str.subAt ⟨zs.toArray⟩ ⟨s.toArray⟩ p = decide ((zs.drop p).take s.length = s) := by
    unfold Builtin.Str.subAt
    rw [len_svv, ← e, Bool.eq_iff_iff, decide_eq_true_iff, beq_iff_eq]
    constructor
    · intro h; rw [h]
    · intro h
      apply Array.toList_inj.mp
      exact h
  rw [g, Bool.eq_iff_iff, Bool.and_eq_true, decide_eq_true_iff, decide_eq_true_iff]
  refine ⟨fun h => h.2, fun h => ⟨?_, h⟩⟩
  have := congrArg List.length h
  rw [List.length_take, List.length_drop] at this
  omega
end
/-! ### what is computed: a value, a fault at a place, or nothing (never met) -/
inductive Rs (α : Type) where
  | ok (x : α)
  | bad (i : Nat) (z : List Nat)
  | stuck
def Rs.bind {α β : Type} (r : Rs α) (k : α → Rs β) : Rs β := match r with
  | .ok x => k x
  | .bad i z => .bad i z
  | .stuck => .stuck
def Rs.on {α : Type} (r : Rs α) (ok : α → Prop) (bad : Nat → List Nat → Prop) : Prop := match r with
  | .ok x => ok x
  | .bad i z => bad i z
  | .stuck => False
theorem Rs.on_bind {α β : Type} {r : Rs α} {k : α → Rs β} {ok : β → Prop} {bad : Nat → List Nat → Prop} : (r.bind k).on ok bad ↔ r.on (fun x => (k x).on ok bad) bad := by
  cases r <;> exact Iff.rfl
theorem Rs.on.imp {α : Type} {r : Rs α} {ok ok' : α → Prop} {bad bad' : Nat → List Nat → Prop} (h : r.on ok bad) (f : ∀ x, ok x → ok' x) (g : ∀ i z, bad i z → bad' i z) : r.on ok' bad' := by
  cases r with
  | ok x => exact f x h
  | bad i z => exact g i z h
  | stuck => exact h
/-- the next step of what is computed -/
theorem Rs.on.step {α β : Type} {r : Rs α} {k : α → Rs β} {ok : β → Prop} {bad bad' : Nat → List Nat → Prop} {ok' : α → Prop} (h : (r.bind k).on ok bad) (g : ∀ i z, bad i z → bad' i z) (f : ∀ x, (k x).on ok bad → ok' x) : r.on ok' bad' :=
  (Rs.on_bind.mp h).imp f g
/-- a Fault is let out -/
def Er (K : PySem.W.Frag) (E : XK) (F : Hp) (M : List (Addr × HO)) (i : Nat) (z : List Nat) : Prop :=
  ∀ F' H' d, Same F F' → HH F' H' ((d, .xd (faD (i : Int) ⟨z.toArray⟩)) :: M) → E (.ref (He.ga K "Fault")) (some d) H'
theorem Er.mono {K : PySem.W.Frag} {E : XK} {F F1 : Hp} {M : List (Addr × HO)} {i : Nat} {z : List Nat} (h : Er K E F M i z) (s : Same F F1) : Er K E F1 M i z := fun F' H' d s' hh => h F' H' d (s.trans s') hh
theorem Er.up {K : PySem.W.Frag} {E : XK} {F : Hp} {M : List (Addr × HO)} {i : Nat} {z : List Nat} {c : Addr × HO} (h : Er K E F M i z) : Er K E F (c :: M) i z := fun F' H' d s' hh => h F' H' d s' hh.drop1
theorem Er.raise {K : PySem.W.Frag} {E : XK} {F H : Hp} {M : List (Addr × HO)} {i : Nat} {n : Int} {z : List Nat} (h : Er K E F M i z) (hh : HH F H M) (e : n = (i : Int)) (hi : i < 1000000000) (hz : z.length ≤ 1000) :
    FauK (He.ga K "Fault") (fun cls d H => E cls d H) [.int n, .str ⟨z.toArray⟩] H := by
  subst e
  exact v_fau (by omega) (by rw [len_svv]; exact hz) fun d hd => h F _ d (Same.refl F) (hh.new hd)
section
variable {K : PySem.W.Frag} {F F0 F' H H' : Hp} {x y w : V} {d : D} {ds es : List D} {us vs : List V} {M : List (Addr × HO)} {Q : VK} {S : Hp → Prop} {σ : L2.St} {a b zs : List Nat} {nx bk ct : L2.St → Hp → Prop} {rt : VK}
/-! rules at data that stands in a part of the heap -/
theorem s_fld {c f : Str} {fs : List (Str × D)} (h : At K F0 (.obj c fs) x) (s : Same F0 H) (cl : Cls K (He.ga K c)) (n : NoAttr K (He.ga K c) f) (l : fs.lookup f = some d) (q : ∀ w, At K F0 d w → Q w H) : FldK K f x H Q := by
  obtain ⟨a, dx, vs, rfl, hF, hv⟩ := h.obj_
  obtain ⟨u, hu, ha⟩ := hv.get l
  exact v_fld (s _ _ hF) cl n hu (q u ha)
theorem s_isi {c c' : Str} {fs : List (Str × D)} {k : Bool} (h : At K F0 (.obj c fs) x) (s : Same F0 H) (cl : Cls K (He.ga K c)) (f : InsF K (He.ga K c)) (e : PySem.W.kitOne K (.ref (He.ga K c)) (.ref (He.ga K c')) = some k) (q : Q (.bl k) H) : rIsi K [x, .ref (He.ga K c')] H Q := by
  obtain ⟨a, dx, vs, rfl, hF, hv⟩ := h.obj_
  exact v_isiO (s _ _ hF) cl f e q
theorem s_lenL {α : Type} {e : α → D} {xs : List α} (hx : At K F0 (.lst (xs.map e)) x) (s : Same F0 H) (q : Q (.int (xs.length : Int)) H) : rLen K [x] H Q := by
  obtain ⟨a, vs, rfl, h, t⟩ := hx.lst_
  exact v_lenSq (s.seq h) (by rw [t.len, List.length_map]; exact q)
theorem s_ixL {α : Type} {e : α → D} {xs : List α} {y : α} {n : Int} {i : Nat} (hx : At K F0 (.lst (xs.map e)) x) (s : Same F0 H) (en : n = (i : Int)) (ey : xs[i]? = some y) (q : ∀ w, At K F0 (e y) w → Q w H) : rIx K x (.int n) H Q := by
  obtain ⟨a, vs, rfl, h, t⟩ := hx.lst_
  obtain ⟨u, hu, ha⟩ := t.get (i := i) (d := e y) (by rw [List.getElem?_map, ey]; rfl)
  exact v_ixSq (s.seq h) (atN en hu) (q u ha)
theorem s_ixT {n : Int} {i : Nat} (hx : At K F0 (.tup ds) x) (s : Same F0 H) (en : n = (i : Int)) (e : ds[i]? = some d) (q : ∀ w, At K F0 d w → Q w H) : rIx K x (.int n) H Q := by
  obtain ⟨a, vs, rfl, h, t⟩ := hx.tup_
  obtain ⟨u, hu, ha⟩ := t.get e
  exact .inr (.inl ⟨_, _, _, _, rfl, rfl, Same.sqt s h, atN en hu, q u ha⟩)
theorem s_inL {xs : List (List Nat)} (hx : At K F0 (.lst (xs.map D.t)) x) (s : Same F0 H) (q : Q (.bl (xs.contains a)) H) : rInX K (.str ⟨a.toArray⟩) x H Q := by
  obtain ⟨p, vs, rfl, h, t⟩ := hx.lst_
  have e := t.flat (g := svv)
  subst e
  exact v_inL (s.seq h) rfl flat_t (by rw [inV_t]; exact q)
theorem s_notInL {xs : List (List Nat)} (hx : At K F0 (.lst (xs.map D.t)) x) (s : Same F0 H) (q : Q (.bl (!xs.contains a)) H) : rNotInX K (.str ⟨a.toArray⟩) x H Q := by
  obtain ⟨p, vs, rfl, h, t⟩ := hx.lst_
  have e := t.flat (g := svv)
  subst e
  exact v_notInL (s.seq h) rfl flat_t (by rw [inV_t]; exact q)
theorem s_inT {xs : List (List Nat)} (hx : At K F0 (.tup (xs.map D.t)) x) (s : Same F0 H) (q : Q (.bl (xs.contains a)) H) : rInX K (.str ⟨a.toArray⟩) x H Q := by
  obtain ⟨p, vs, rfl, h, t⟩ := hx.tup_
  have e := t.flat (g := svv)
  subst e
  exact .inl ⟨p, _, rfl, .inr (Same.sqt s h), rfl, flat_t, by rw [inV_t]; exact q⟩
theorem s_notInT {xs : List (List Nat)} (hx : At K F0 (.tup (xs.map D.t)) x) (s : Same F0 H) (q : Q (.bl (!xs.contains a)) H) : rNotInX K (.str ⟨a.toArray⟩) x H Q := by
  obtain ⟨p, vs, rfl, h, t⟩ := hx.tup_
  have e := t.flat (g := svv)
  subst e
  exact .inl ⟨p, _, rfl, .inr (Same.sqt s h), rfl, flat_t, by rw [inV_t]; exact q⟩
theorem s_gtup {S : L2.St → Hp → Prop} {n : Nat} {t : TGs} (h : At K F0 (.tup ds) x) (s : Same F0 H) (l : ds.length = n) (q : ∀ us, AtA K F0 ds us → t us σ H S) : gTup K n t x σ H S := by
  obtain ⟨p, vs, rfl, hq, ht⟩ := h.tup_
  exact ⟨p, vs, rfl, Same.sqt s hq, by rw [ht.len, l], q vs ht⟩
/-- a list that is being filled -/
theorem o_append {i : Nat} {l : Addr} {o : HO} (hh : HH F H M) (e : M[i]? = some (l, .lst vs)) (hl : vs.length < 16777216) (q : Q .non (upd H l (.lst (vs ++ [x])))) : tyV K "list" (.ref l) H ∧ rAppend (.ref l) [x] H Q :=
  g_tyL (hh.get e) (v_append (hh.get e) (by rw [sl16]; exact hl) q)
/-! what a making, a tuple, a list wants -/
def MakeK (C : Addr) (sp : Sp) (vs : List V) (Q : VK) (H : Hp) (E : XK) : Prop := ∀ x dx, H x = none → H dx = none → dx ≠ x → sp (.ref x :: vs) (upd (upd H dx (.own x)) x (.ins C dx [])) (fun v H2 => v = .non ∧ Q (.ref x) H2) E
theorem g_makeK {C : Addr} {sp : Sp} {E : XK} {TA1 : TA} (h : TA1 σ H fun vs H1 => MakeK C sp vs Q H1 E) : tMake C sp [] E TA1 σ H Q := g_make h
theorem g_makeD {C : Addr} {sp : Sp} {E : XK} {TA1 : TA} {dvs : List V} (h : TA1 σ H fun vs H1 => MakeK C sp (vs ++ dvs) Q H1 E) : tMake C sp dvs E TA1 σ H Q := h
def TupK (xs : List V) (Q : VK) (H : Hp) : Prop := xs.length ≤ sizeLine ∧ ∀ p, H p = none → Q (.ref p) (upd H p (.tup xs))
def LstK (xs : List V) (Q : VK) (H : Hp) : Prop := xs.length ≤ sizeLine ∧ ∀ p, H p = none → Q (.ref p) (upd H p (.lst xs))
theorem g_tupK {TA1 : TA} (h : TA1 σ H fun xs H1 => TupK xs Q H1) : tTup TA1 σ H Q := h
theorem g_lstK {TA1 : TA} (h : TA1 σ H fun xs H1 => LstK xs Q H1) : tLst TA1 σ H Q := h
theorem s_tup {xs : List V} (hh : HH F H M) (h : AtA K F ds xs) (hl : xs.length ≤ 1000) (q : ∀ F' H' u, Same F F' → HH F' H' M → At K F' (.tup ds) u → Q u H') : TupK xs Q H := ⟨by rw [sl16]; omega, a_tup hh h q⟩
theorem s_lst {xs : List V} (hh : HH F H M) (h : AtA K F ds xs) (hl : xs.length ≤ 1000) (q : ∀ F' H' u, Same F F' → HH F' H' M → At K F' (.lst ds) u → Q u H') : LstK xs Q H := ⟨by rw [sl16]; omega, a_lst hh h q⟩
/-- a list that will be filled -/
theorem o_lst {xs : List V} (hh : HH F H M) (hl : xs.length ≤ 1000) (q : ∀ H' p, HH F H' ((p, .lst xs) :: M) → Q (.ref p) H') : LstK xs Q H := ⟨by rw [sl16]; omega, fun p hp => q _ p (hh.new hp)⟩
theorem o_tup {xs : List V} (hl : xs.length ≤ 1000) (q : ∀ p, H p = none → Q (.ref p) (upd H p (.tup xs))) : TupK xs Q H := ⟨by rw [sl16]; omega, q⟩
/-- a property is read -/
def PropK (C : Addr) (sp : Sp) (dvs : List V) (E : XK) (x : V) (H : Hp) (Q : VK) : Prop := ∃ a dx fs, x = .ref a ∧ H a = some (.ins C dx fs) ∧ sp (.ref a :: dvs) H Q E
theorem g_prop {C : Addr} {sp : Sp} {dvs : List V} {E : XK} {ta : TE} (h : ta σ H fun x H1 => PropK C sp dvs E x H1 Q) : tProp C sp dvs E ta σ H Q := h
theorem v_neg {f : Int → V} {j : Int} (q : Q (f j) H) : rU f (.int j) H Q := ⟨_, rfl, q⟩
/-! an instance is made field by field -/
theorem putF_new {f : Str} {v : V} : ∀ {fs : List (Str × V)}, (fs.map (·.1)).contains f = false → putF f v fs = fs ++ [(f, v)]
  | [], _ => rfl
  | (g, z) :: r, h => by
    rw [List.map_cons, List.contains_cons, Bool.or_eq_false_iff] at h
    have n : ¬ g = f := fun e => by rw [e, beq_self_eq_true] at h; cases h.1
    unfold putF
    rw [if_neg n, putF_new h.2]
    rfl
theorem mk_start {C : Addr} {sp : Sp} {E : XK} (hh : HH F H M) (h : ∀ F' H' v dx, Same F F' → HH F' H' ((v, .ins C dx []) :: M) → sp (.ref v :: vs) H' (fun w H2 => w = .non ∧ Q (.ref v) H2) E) : MakeK C sp vs Q H E := fun v dx hv hdx ne => by
  have hv1 : upd H dx (.own v) v = none := by rw [upd_ne (Ne.symm ne)]; exact hv
  exact h _ _ v dx (hh.grow (p := dx) (o := .own v) hdx) ((hh.newF (p := dx) (o := .own v) hdx).new (o := .ins C dx []) hv1)
theorem s_sfld {C a dx : Addr} {f : Str} {fs : List (Str × V)} (hh : HH F H ((a, .ins C dx fs) :: M)) (cl : Cls K C) (n : NoAttr K C f) (ks : List Str) (e : fs.map (·.1) = ks) (nf : ks.contains f = false) (l : fs.length < 999)
    (q : ∀ H', HH F H' ((a, .ins C dx (fs ++ [(f, y)])) :: M) → S H') : SfldK K f (.ref a) y H S := by
  refine v_sfld (hh.get (i := 0) rfl) cl n (by omega) (q _ ?_)
  rw [putF_new (by rw [e]; exact nf)]
  exact hh.set0
theorem mk_end {c : Str} {v dx : Addr} {fs : List (Str × D)} {gs : List (Str × V)} (hh : HH F H ((v, .ins (He.ga K c) dx gs) :: M)) (ha : AtF K F fs gs) (q : ∀ F' H' u, Same F F' → HH F' H' M → At K F' (.obj c fs) u → Q u H') : Q (.ref v) H :=
  q _ _ _ hh.frzS hh.frz (At.mkO upd_same (ha.mono hh.frzS))
theorem s_listL (hx : At K F0 (.lst ds) x) (hh : HH F H M) (s : Same F0 F) (q : ∀ F' H' u, Same F F' → HH F' H' M → At K F' (.lst ds) u → Q u H') : rListX K [x] H Q := by
  obtain ⟨a, vs, rfl, h, t⟩ := hx.lst_
  refine v_listL (hh.sub.seq (s.seq h)) fun l hl => q _ _ _ (hh.grow hl) (hh.newF hl) (At.mkL upd_same (t.mono (s.trans (hh.grow hl))))
theorem s_listT (hx : At K F0 (.tup ds) x) (hh : HH F H M) (s : Same F0 F) (q : ∀ F' H' u, Same F F' → HH F' H' M → At K F' (.lst ds) u → Q u H') : rListX K [x] H Q := by
  obtain ⟨a, vs, rfl, h, t⟩ := hx.tup_
  refine v_listT (Same.sqt hh.sub (Same.sqt s h)) fun l hl => q _ _ _ (hh.grow hl) (hh.newF hl) (At.mkL upd_same (t.mono (s.trans (hh.grow hl))))
/-- a field of a cell that may change is set anew -/
theorem o_sfld0 {C a dx : Addr} {f : Str} {fs : List (Str × V)} (hh : HH F H ((a, .ins C dx fs) :: M)) (cl : Cls K C) (n : NoAttr K C f) (l : fs.length < 1000) (q : ∀ H', HH F H' ((a, .ins C dx (putF f y fs)) :: M) → S H') : SfldK K f (.ref a) y H S :=
  v_sfld (hh.get (i := 0) rfl) cl n l (q _ hh.set0)
end
section
variable {K : PySem.W.Frag} {F F0 F' H H' : Hp} {x y w : V} {d : D} {ds es : List D} {us vs : List V} {M : List (Addr × HO)} {Q : VK} {S : Hp → Prop} {σ : L2.St} {a b zs : List Nat} {nx bk ct : L2.St → Hp → Prop} {rt : VK}
/-! a cell's list: walked, asked -/
theorem o_lcL {α β : Type} {e : α → D} {f : β → D} {xs : List α} {g : TG} {tt : TT} {te : TE} {ws : List Nat} {l : Addr} {i : Nat} (hh : HH F H M) (hm : M[i]? = some (l, .lst us)) (t : AtA K F (xs.map e) us) (hz : xs.length < 16777216) (r : α → Option β)
    (hs : ∀ y (w : V) F' H' c (P : V → Hp → Prop) (N : Hp → Prop), y ∈ xs → At K F' (e y) w → Same F F' → HH F' H' (c :: M) → (∀ F4 H4 v z, Same F' F4 → HH F4 H4 (c :: M) → r y = some z → At K F4 (f z) v → P v H4) →
      (∀ F4 H4, Same F' F4 → HH F4 H4 (c :: M) → r y = none → N H4) → g w (wipe σ ws) H' fun σ2 H2 => wipe σ2 ws = wipe σ ws ∧ tt σ2 H2 fun b H3 => if b = true then te σ2 H3 (fun v H4 => P v H4) else N H3)
    (q : ∀ F' H' u, Same F F' → HH F' H' M → At K F' (.lst ((xs.filterMap r).map f)) u → Q u H') : OvL K (fun J H1 => LcK J g tt te σ ws H1 Q) (.ref l) H := by
  have hl : us.length = xs.length := by rw [t.len, List.length_map]
  refine v_ovL (SqL.of (hh.get hm)) fun D hD => ?_
  refine c_list (xs := us) (fun i H' => ∃ F' ws, Same F F' ∧ HH F' H' ((D, .lst ws) :: M) ∧ ws.length ≤ i ∧ AtA K F' (((xs.take i).filterMap r).map f) ws) ⟨F, [], Same.refl F, hh.new hD, Nat.zero_le _, AtA.nil⟩
    (fun j H' _ ⟨F', ws, s, h', _⟩ => SqL.of (h'.get (i := i + 1) hm)) (fun i v H' hv ⟨F', ws, s, h', hw, ha⟩ => ?_) (fun H' ⟨F', ws, s, h', hw, ha⟩ => ?_)
  · obtain ⟨d, hd', hat⟩ := t.at_ hv
    rw [List.getElem?_map] at hd'
    cases ex : xs[i]? with
    | none => rw [ex] at hd'; cases hd'
    | some y =>
      rw [ex] at hd'
      cases hd'
      have hi : i < xs.length := by
        rcases Nat.lt_or_ge i xs.length with z | z
        · exact z
        · rw [List.getElem?_eq_none z] at ex; cases ex
      have e1 : xs[i] = y := by rw [List.getElem?_eq_getElem hi] at ex; exact Option.some.inj ex
      have et : xs.take (i + 1) = xs.take i ++ [y] := by rw [← e1]; exact (List.take_append_getElem hi).symm
      refine hs y v F' H' _ _ _ (e1 ▸ List.getElem_mem hi) (hat.mono s) s h' (fun F4 H4 v z s4 h4 er hz => ?_) (fun F4 H4 s4 h4 er => ?_)
      · refine v_put (h4.get (i := 0) rfl) (by rw [sl16]; omega) ⟨F4, ws ++ [v], s.trans s4, h4.set0, by rw [List.length_append]; show _ + 1 ≤ _; omega, ?_⟩
        rw [et, List.filterMap_append, List.filterMap_cons, er]
        exact AtA.snocM (ha.mono s4) hz
      · refine ⟨F4, ws, s.trans s4, h4, by omega, ?_⟩
        rw [et, List.filterMap_append, List.filterMap_cons, er]
        show AtA K F4 ((_ ++ []).map f) ws
        rw [List.append_nil]
        exact ha.mono s4
  · rw [hl, List.take_length] at ha
    exact q _ _ _ (s.trans h'.frzS) h'.frz (frz_lst (h'.out (i := 0) rfl) ha)
theorem o_forL {α : Type} {e : α → D} {xs : List α} {g : TG} {tb : TS} {l : Addr} {i : Nat} (hh : HH F H M) (hm : M[i]? = some (l, .lst us)) (t : AtA K F (xs.map e) us) (I : List α → L2.St → Hp → Prop) (hF : ∀ r σ H, I r σ H → SqL K H l us) (h0 : I xs σ H)
    (hs : ∀ y r w σ H, At K F (e y) w → I (y :: r) σ H → g w σ H fun σ2 H2 => tb ⟨I r, rt, nx, I r⟩ σ2 H2) (hd : ∀ σ H, I [] σ H → nx σ H) : OvL K (fun J H1 => LoopG J g tb ⟨nx, rt, bk, ct⟩ σ H1) (.ref l) H := by
  have hl : us.length = xs.length := by rw [t.len, List.length_map]
  refine v_ovL (SqL.of (hh.get hm)) (l_list (xs := us) (fun i σ H => I (xs.drop i) σ H) h0 (fun i σ H _ q => hF _ _ _ q) (fun i v σ H hv q => ?_) (fun σ H q => hd σ H ?_))
  · obtain ⟨d, hd', ha⟩ := t.at_ hv
    rw [List.getElem?_map] at hd'
    cases ex : xs[i]? with
    | none => rw [ex] at hd'; cases hd'
    | some y =>
      rw [ex] at hd'
      cases hd'
      exact hs y _ v σ H ha (by rw [drop_c ex] at q; exact q)
  · rw [hl, List.drop_length] at q
    exact q
theorem o_lenL {l : Addr} {i : Nat} (hh : HH F H M) (hm : M[i]? = some (l, .lst us)) (q : Q (.int (us.length : Int)) H) : rLen K [.ref l] H Q := v_lenL (hh.get hm) q
theorem o_inL {xs : List (List Nat)} {l : Addr} {i : Nat} (hh : HH F H M) (hm : M[i]? = some (l, .lst us)) (t : AtA K F (xs.map D.t) us) (q : Q (.bl (xs.contains a)) H) : rInX K (.str ⟨a.toArray⟩) (.ref l) H Q := by
  have e := t.flat (g := svv)
  subst e
  exact v_inL (SqL.of (hh.get hm)) rfl flat_t (by rw [inV_t]; exact q)
theorem o_notInL {xs : List (List Nat)} {l : Addr} {i : Nat} (hh : HH F H M) (hm : M[i]? = some (l, .lst us)) (t : AtA K F (xs.map D.t) us) (q : Q (.bl (!xs.contains a)) H) : rNotInX K (.str ⟨a.toArray⟩) (.ref l) H Q := by
  have e := t.flat (g := svv)
  subst e
  exact v_notInL (SqL.of (hh.get hm)) rfl flat_t (by rw [inV_t]; exact q)
/-- a list that will be filled, behind the first cell -/
theorem o_lst1 {xs : List V} {c : Addr × HO} (hh : HH F H (c :: M)) (hl : xs.length ≤ 1000) (q : ∀ H' p, HH F H' (c :: (p, .lst xs) :: M) → Q (.ref p) H') : LstK xs Q H := ⟨by rw [sl16]; omega, fun p hp => q _ p (hh.new1 hp)⟩
theorem o_app0 {l : Addr} (hh : HH F H ((l, .lst vs) :: M)) (hl : vs.length < 16777216) (q : ∀ H', HH F H' ((l, .lst (vs ++ [x])) :: M) → Q .non H') : rAppend (.ref l) [x] H Q := v_append (hh.get (i := 0) rfl) (by rw [sl16]; exact hl) (q _ hh.set0)
theorem o_app1 {l : Addr} {c : Addr × HO} (hh : HH F H (c :: (l, .lst vs) :: M)) (hl : vs.length < 16777216) (q : ∀ H', HH F H' (c :: (l, .lst (vs ++ [x])) :: M) → Q .non H') : rAppend (.ref l) [x] H Q := v_append (hh.get (i := 1) rfl) (by rw [sl16]; exact hl) (q _ hh.set1)
theorem o_app2 {l : Addr} {c c2 : Addr × HO} (hh : HH F H (c :: c2 :: (l, .lst vs) :: M)) (hl : vs.length < 16777216) (q : ∀ H', HH F H' (c :: c2 :: (l, .lst (vs ++ [x])) :: M) → Q .non H') : rAppend (.ref l) [x] H Q := v_append (hh.get (i := 2) rfl) (by rw [sl16]; exact hl) (q _ hh.set2)
theorem o_tyL {l : Addr} {i : Nat} {A : Prop} (hh : HH F H M) (hm : M[i]? = some (l, .lst us)) (q : A) : tyV K "list" (.ref l) H ∧ A := g_tyL (hh.get hm) q
end
section
variable {K : PySem.W.Frag} {F F0 F1 F' H H' : Hp} {x y w : V} {d : D} {ds es : List D} {us vs : List V} {M : List (Addr × HO)} {Q : VK} {S : Hp → Prop} {σ : L2.St} {a b zs : List Nat} {nx bk ct : L2.St → Hp → Prop} {rt : VK}
theorem s_cat (hx : At K F0 (.lst ds) x) (hy : At K F1 (.lst es) y) (hh : HH F H M) (s0 : Same F0 F) (s1 : Same F1 F) (hl : ds.length + es.length ≤ 16777216) (q : ∀ F' H' u, Same F F' → HH F' H' M → At K F' (.lst (ds ++ es)) u → Q u H') : rAddX K x y H Q := by
  obtain ⟨a, vs, rfl, h, t⟩ := hx.lstR
  obtain ⟨b, us, rfl, h2, t2⟩ := hy.lstR
  refine v_cat (hh.sub _ _ (s0 _ _ h)) (hh.sub _ _ (s1 _ _ h2)) (by rw [t.len, t2.len, sl16]; exact hl) fun p hp => q _ _ _ (hh.grow hp) (hh.newF hp) (At.mkL upd_same ((t.mono (s0.trans (hh.grow hp))).app (t2.mono (s1.trans (hh.grow hp)))))
/-- a fault at a token: its place must be small -/
def Rs.badT {α : Type} (p : Nat) (z : List Nat) : Rs α := if p < 1000000000 then .bad p z else .stuck
theorem Er.raiseT {α : Type} {E : XK} {ok : α → Prop} {p : Nat} (q : (Rs.badT p zs : Rs α).on ok (Er K E F0 M)) (s : Same F0 F) (hh : HH F H M) (hz : zs.length ≤ 1000) : FauK (He.ga K "Fault") (fun cls d H => E cls d H) [.int (p : Int), .str ⟨zs.toArray⟩] H := by
  unfold Rs.badT at q
  by_cases h : p < 1000000000
  · rw [if_pos h] at q
    exact Er.raise (Er.mono q s) hh rfl h hz
  · rw [if_neg h] at q
    exact q.elim
end
theorem putF_ne {f g : Str} {v y : V} {fs : List (Str × V)} (n : (g == f) = false) : putF f v ((g, y) :: fs) = (g, y) :: putF f v fs := by
  conv => lhs; unfold putF
  rw [if_neg (fun e => by rw [e, beq_self_eq_true] at n; cases n)]
theorem putF_eq {f : Str} {v y : V} {fs : List (Str × V)} : putF f v ((f, y) :: fs) = (f, v) :: fs := by
  unfold putF
  rw [if_pos rfl]
theorem lk1 {f g : Str} {α : Type} {a : α} {l : List (Str × α)} (h : f = g) : ((g, a) :: l).lookup f = some a := by subst h; rw [List.lookup_cons, beq_self_eq_true]
theorem lk2 {f g : Str} {α : Type} {a : α} {l : List (Str × α)} {r : Option α} (n : (f == g) = false) (h : l.lookup f = r) : ((g, a) :: l).lookup f = r := by rw [List.lookup_cons, n]; exact h
end G

namespace G
open PySem PySem.Spec PyProof.Rows L2
/-! ### f-strings, str of an int, replace -/
def decI (i : Int) : List Nat := ((toString i : String) : Str).cps.toList
theorem decI_str {i : Int} : (((toString i : String) : Str)) = ⟨(decI i).toArray⟩ := by
  unfold decI
  simp
def replL (y z x : List Nat) : List Nat := (Txt.replace ⟨x.toArray⟩ ⟨y.toArray⟩ ⟨z.toArray⟩).cps.toList
theorem replL_str {x y z : List Nat} : Txt.replace ⟨x.toArray⟩ ⟨y.toArray⟩ ⟨z.toArray⟩ = ⟨(replL y z x).toArray⟩ := by
  unfold replL
  simp
def tJoin (ts : List TE) : TE := fun σ H Q => tJs ts Str.empty σ H fun out H1 => Q (.str out) H1
theorem pe_joinE {X : Cx} {v1 v2 : Expr} {rest : List Expr} {ts : List TE} {pos : Pos} (h : PJ X (v1 :: v2 :: rest) ts) : PE X (.JoinedStr (v1 :: v2 :: rest) pos) (tJoin ts) := pe_joined h
def rStrI : List V → Hp → VK → Prop := fun xs H Q => ∃ i, xs = [.int i] ∧ i.natAbs.log2 < 1920 ∧ Q (.str (toString i)) H
def JsT (ts : List TE) (acc : List Nat) (σ : L2.St) (H : Hp) (Q : Str → Hp → Prop) : Prop := tJs ts ⟨acc.toArray⟩ σ H Q
def JsK (ts : List TE) (acc : List Nat) (x : V) (σ : L2.St) (H : Hp) (Q : Str → Hp → Prop) : Prop := ∃ y : List Nat, x = svv y ∧ acc.length + y.length ≤ 16777216 ∧ JsT ts (acc ++ y) σ H Q
def FmtK (x : V) (H : Hp) (Q : VK) : Prop := (∃ y : List Nat, x = svv y ∧ y.length ≤ 16777216 ∧ Q (svv y) H) ∨ ∃ i : Int, x = .int i ∧ i.natAbs.log2 < 1920 ∧ Q (svv (decI i)) H
theorem log2_60 {i : Int} (h : i.natAbs ≤ 1000000000000000000) : i.natAbs.log2 < 60 := by
  by_cases z : i.natAbs = 0
  · rw [z]; decide
  · exact (Nat.log2_lt z).mpr (Nat.lt_of_le_of_lt h (by decide))
theorem log2_small {i : Int} (h : i.natAbs ≤ 1000000000000000000) : i.natAbs.log2 < 1920 := Nat.lt_trans (log2_60 h) (by decide)
section
variable {σ : L2.St} {H : Hp} {Q : VK} {te : TE} {t : TE} {ts : List TE} {acc y : List Nat} {S : Str → Hp → Prop}
theorem g_joinE (h : JsT ts [] σ H fun out H1 => Q (.str out) H1) : tJoin ts σ H Q := h
theorem g_jsN (q : S ⟨acc.toArray⟩ H) : JsT [] acc σ H S := q
theorem g_jsC (h : t σ H fun x H1 => JsK ts acc x σ H1 S) : JsT (t :: ts) acc σ H S := by
  have e : (fun x H1 => JsK ts acc x σ H1 S) = fun x H1 => ∃ y : Str, x = .str y ∧ ((⟨acc.toArray⟩ : Str) ++ y).length ≤ sizeLine ∧ tJs ts ((⟨acc.toArray⟩ : Str) ++ y) σ H1 S := by
    funext x H1
    apply propext
    constructor
    · rintro ⟨y, rfl, hl, q⟩
      refine ⟨_, rfl, ?_, ?_⟩
      · rw [app_svv, len_svv, List.length_append, sl16]; exact hl
      · rw [app_svv]; exact q
    · rintro ⟨⟨ys⟩, rfl, hl, q⟩
      have ey : (⟨ys⟩ : Str) = ⟨ys.toList.toArray⟩ := by simp
      rw [ey, app_svv] at q hl
      rw [len_svv, List.length_append, sl16] at hl
      exact ⟨ys.toList, by rw [← ey], hl, q⟩
  rw [e] at h
  exact h
theorem v_js (hl : acc.length + y.length ≤ 16777216) (q : JsT ts (acc ++ y) σ H S) : JsK ts acc (.str ⟨y.toArray⟩) σ H S := ⟨y, rfl, hl, q⟩
theorem g_fmt (h : te σ H fun x H1 => FmtK x H1 Q) : tFmt te σ H Q := by
  have e : (fun x H1 => FmtK x H1 Q) = fun x H1 => (∃ y : Str, x = .str y ∧ y.length ≤ sizeLine ∧ Q (.str y) H1) ∨ ∃ i : Int, x = .int i ∧ i.natAbs.log2 < 1920 ∧ Q (.str (toString i)) H1 := by
    funext x H1
    apply propext
    constructor
    · rintro (⟨y, rfl, hl, q⟩ | ⟨i, rfl, hl, q⟩)
      · exact .inl ⟨_, rfl, by rw [len_svv, sl16]; exact hl, q⟩
      · exact .inr ⟨i, rfl, hl, by rw [decI_str]; exact q⟩
    · rintro (⟨⟨ys⟩, rfl, hl, q⟩ | ⟨i, rfl, hl, q⟩)
      · have ey : (⟨ys⟩ : Str) = ⟨ys.toList.toArray⟩ := by simp
        rw [ey] at q hl
        rw [len_svv, sl16] at hl
        exact .inl ⟨ys.toList, by rw [← ey], hl, q⟩
      · exact .inr ⟨i, rfl, hl, by rw [decI_str] at q; exact q⟩
  rw [e] at h
  exact h
theorem v_fmtT (hl : y.length ≤ 16777216) (q : Q (svv y) H) : FmtK (.str ⟨y.toArray⟩) H Q := .inl ⟨y, rfl, hl, q⟩
theorem v_fmtI {i : Int} (hl : i.natAbs ≤ 1000000000000000000) (q : Q (svv (decI i)) H) : FmtK (.int i) H Q := .inr ⟨i, rfl, log2_small hl, q⟩
theorem v_strI {i : Int} (hl : i.natAbs ≤ 1000000000000000000) (q : Q (svv (decI i)) H) : rStrI [.int i] H Q := ⟨i, rfl, log2_small hl, by rw [decI_str]; exact q⟩
end
theorem decI_len {i : Int} (hl : i.natAbs ≤ 1000000000000000000) : (decI i).length ≤ 1000 := by
  have e := int_text_length_le (k := 60) (by decide) (log2_60 hl)
  have e2 : (decI i).length = (((toString i : String) : Str)).length := by rw [decI_str, len_svv]
  rw [e2, PySem.ofString_length (toString i)]
  omega
/-! a token is out -/
def NbK (K : PySem.W.Frag) : Prop := PySem.W.nsOkIn K cStatics = true ∧ PySem.W.nsIn K cStatics sharingNotToldKey = some none
def nbF (K : PySem.W.Frag) : Bool := PySem.W.nsOkIn K cStatics && He.eqO (PySem.W.nsIn K cStatics sharingNotToldKey) (some none)
theorem nbF_ok {K : PySem.W.Frag} (h : nbF K = true) : NbK K := by
  obtain ⟨h1, h2⟩ := He.ba h
  exact ⟨h1, He.eqO_ok h2⟩
theorem NbK.none {K : PySem.W.Frag} {h : Heap} (n : NbK K) (X : K.In h) : NoneBooked h :=
  ⟨_, .of_isNs (PySem.W.isNs_of_in X n.1), PySem.W.ns_none_of X (.of_isNs (PySem.W.isNs_of_in X n.1)) n.2⟩
def PE1 (X : Cx) (e : Expr) (t : TE) : Prop :=
  ∀ (pins : List (Addr × Obj)) (s : Shared) (σ : L2.St) (H : Hp) (Q : VK), Inv X pins σ H s → t σ H Q → wpAny (model X.prog X.w) X.A (eval e X.env) (fun v s1 => 1 ≤ s1.toks ∧ EP X pins σ Q v s1) X.xe s
section
variable {X : Cx} {e f : Expr} {te tf : TE} {pos : Pos} {op : Operator}
theorem PE1.pe (h : PE1 X e te) : PE X e te := ⟨fun pins s σ H Q I q => wpAny_mono (h pins s σ H Q I q) (fun _ _ z => z.2) fun _ _ z => z⟩
theorem pe1_strE {x z : Str} {j : Nat} (h : x = z) : PE1 X (.Constant (.str x) j pos) (tC (.str z)) := by
  subst h
  exact fun pins s σ H Q I q => Calls.Constant_str ⟨by show 1 ≤ s.toks + 1; omega, .str x, H, I.tok _, ⟨_, rfl⟩, q⟩
theorem pe1_op {r : R2} (ho : OpR X (binaryOp op) r) (ha : PE1 X e te) (hb : PET X f tf) : PE1 X (.BinOp e op f pos) (tOp r te tf) := by
  intro pins s σ H Q I h
  refine wpAny_BinOp (wpAny_mono (ha pins s σ H _ I h) (fun v s1 q => ?_) fun _ _ z => z)
  obtain ⟨h1, x, H1, I1, r1, q1⟩ := q
  refine wpAny_mono (PySem.wpAny_toks (hb pins s1 σ H1 _ h1 I1 q1)) (fun u s2 q => ?_) fun _ _ z => z.2
  obtain ⟨h2, y, H2, I2, r2, q2⟩ := q
  refine wpAny_mono (PySem.wpAny_toks (ho pins s2 σ H2 x y v u Q I2 r1 r2 q2)) (fun w s3 q => ?_) fun _ _ z => z.2
  exact ⟨Nat.le_trans h1 (Nat.le_trans h2 q.1), q.2⟩
def tReplL (to : TE) (y z : List Nat) : TE := fun σ H Q => to σ H fun v H1 => ∃ x : List Nat, v = svv x ∧ x.length + (x.length + 1) * z.length ≤ 16777216 ∧ Q (svv (replL y z x)) H1
def tReplS (to : TE) (z : List Nat) : TE := fun σ H Q => to σ H fun v H1 => ∃ x : List Nat, v = svv x ∧ x.length + (x.length + 1) * z.length ≤ 16777216 ∧ Q (svv x) H1
theorem pet_replE {o : Expr} {to : TE} {y z : Str} {ys zs : List Nat} {j k : Nat} {c0 c1 apos : Pos} (ho : PET X o to) (ey : y = ⟨ys.toArray⟩) (ez : z = ⟨zs.toArray⟩) (hyz : (y == z) = false := by decide)
    (hst : starEach [.Constant (.str y) j c0, .Constant (.str z) k c1] X.env = [(false, eval (.Constant (.str y) j c0) X.env), (false, eval (.Constant (.str z) k c1) X.env)] := by rfl)
    (hbase : attributeBase o "replace" X.env (eval o X.env) = eval o X.env := by rfl) (hline : (apos.endLine == pos.line) = true := by rfl) :
    PET X (.Call (.Attribute o "replace" apos) [.Constant (.str y) j c0, .Constant (.str z) k c1] [] pos) (tReplL to ys zs) := by
  intro pins s σ H Q h0 I h
  refine CwR.pet_replT ho hyz hst hbase hline pins s σ H Q h0 I ?_
  show to σ H _
  have e : (fun v H1 => ∃ x : List Nat, v = svv x ∧ x.length + (x.length + 1) * zs.length ≤ 16777216 ∧ Q (svv (replL ys zs x)) H1) = fun v H1 => ∃ x, v = .str x ∧ x.length + (x.length + 1) * z.length ≤ 16777216 ∧ Q (.str (Txt.replace x y z)) H1 := by
    funext v H1
    apply propext
    subst ey ez
    rw [len_svv]
    constructor
    · rintro ⟨x, rfl, hl, q⟩
      exact ⟨_, rfl, by rw [len_svv]; exact hl, by rw [replL_str]; exact q⟩
    · rintro ⟨⟨xs⟩, rfl, hl, q⟩
      have ex : (⟨xs⟩ : Str) = ⟨xs.toList.toArray⟩ := by simp
      rw [ex] at q hl
      rw [len_svv] at hl
      rw [replL_str] at q
      exact ⟨xs.toList, by rw [← ex], hl, q⟩
  have h' : to σ H (fun v H1 => ∃ x : List Nat, v = svv x ∧ x.length + (x.length + 1) * zs.length ≤ 16777216 ∧ Q (svv (replL ys zs x)) H1) := h
  rw [e] at h'
  exact h'
theorem pet_replS {o : Expr} {to : TE} {y : Str} {ys : List Nat} {j k : Nat} {c0 c1 apos : Pos} (nb : NbK X.K) (ho : PET X o to) (ey : y = ⟨ys.toArray⟩)
    (hst : starEach [.Constant (.str y) j c0, .Constant (.str y) k c1] X.env = [(false, eval (.Constant (.str y) j c0) X.env), (false, eval (.Constant (.str y) k c1) X.env)] := by rfl)
    (hbase : attributeBase o "replace" X.env (eval o X.env) = eval o X.env := by rfl) (hline : (apos.endLine == pos.line) = true := by rfl) :
    PET X (.Call (.Attribute o "replace" apos) [.Constant (.str y) j c0, .Constant (.str y) k c1] [] pos) (tReplS to ys) := by
  intro pins s σ H Q h0 I h
  have h' : to σ H (fun v H1 => ∃ x : List Nat, v = svv x ∧ x.length + (x.length + 1) * ys.length ≤ 16777216 ∧ Q (svv x) H1) := h
  refine PySem.Call_method2 hbase hst hline (wpAny_mono (PySem.wpAny_toks (ho pins s σ H _ h0 I h')) (fun v s1 q => ?_) fun _ _ z => z.2)
  obtain ⟨hk, v', H1, I1, r1, x, e1, hb, q⟩ := q
  subst e1
  obtain ⟨tx, e2⟩ := r1
  subst e2
  have h1 : 1 ≤ s1.toks := Nat.le_trans h0 hk
  refine ⟨"str", _, PySem.F.plainAttrs_str, PySem.F.slot_str_replace, PySem.F.type_str_replace, typeIs_str _ _ _, (fun _ e => nomatch e), Calls.callWith_builtin rfl (Calls.evalArgs_plain (Calls.spliced_cons ?_))⟩
  refine Calls.Constant_str (Calls.spliced_cons (Calls.Constant_str (Calls.spliced_nil ?_)))
  refine PySem.SC.replaceA (by show s1.toks ≠ 0; omega) (by show s1.toks + 1 ≠ 0; omega) (by show s1.toks ≠ s1.toks + 1; omega) ?_ (fun t' k => ?_) (nb.none I1.kIn)
  · rw [ey, len_svv, len_svv]; exact hb
  · rw [Txt.replace_self]
    exact ⟨svv x, H1, I1.tok k, ⟨t', rfl⟩, q⟩
theorem pet_cmpR {a b : Expr} {ta tb : TE} {op : CmpOp} {r : R2} (ho : OpR X (compareOp op) r) (ha : PET X a ta) (hb : PET X b tb) (hm : behindInMarks op b = false) : PET X (.Compare a [op] [b] pos) (tOp r ta tb) := by
  intro pins s σ H Q h0 I h
  refine wpAny_Compare1 (wpAny_mono (PySem.wpAny_toks (ha pins s σ H _ h0 I h)) (fun v s1 q => ?_) fun _ _ z => z.2) hm
  obtain ⟨hk, x, H1, I1, r1, q1⟩ := q
  exact thn (hb pins s1 σ H1 _ (Nat.le_trans h0 hk) I1 q1) fun u s2 ⟨y, H2, I2, r2, q2⟩ => ho pins s2 σ H2 x y v u Q I2 r1 r2 q2
theorem pet_one {op} (h : PET X e te) : PET X (.BoolOp op [e] pos) te := fun pins s σ H Q h0 I hw => BoolOp_one (h pins s σ H Q h0 I hw)
theorem pet_and {a b : Expr} {rest : List Expr} {ta tb : TE} (ha : PET X a ta) (hb : PET X (.BoolOp .And (b :: rest) pos) tb) : PET X (.BoolOp .And (a :: b :: rest) pos) (tAndV ta tb) := by
  intro pins s σ H Q h0 I h
  refine BoolOp_and (wpAny_mono (PySem.wpAny_toks (ha pins s σ H _ h0 I h)) (fun v s1 q => ?_) fun _ _ z => z.2)
  obtain ⟨hk, x, H1, I1, r1, c, rfl, q1⟩ := q
  cases r1
  refine wpAny_truthy_bool ?_
  cases c with
  | true => exact hb pins s1 σ H1 Q (Nat.le_trans h0 hk) I1 q1
  | false => exact ⟨.bl false, H1, I1, rfl, q1⟩
theorem psst_cut {st : Stmt} {rest : List Stmt} {t u : TS} (h1 : PST X st t) (h2 : PSsT X rest u) : PSsT X (st :: rest) (C8.tCut t u) := by
  intro pins s σ H D h0 I h
  obtain ⟨Mid, ht, hu⟩ := h
  refine wpAny_execs_cons (wpAny_mono (PySem.wpAny_toks (h1 pins s σ H { D with nx := Mid } h0 I ht)) (fun f s1 q => ?_) fun _ _ x => x.2)
  obtain ⟨hk, q⟩ := q
  cases f with
  | next =>
    obtain ⟨σ', H', I', q⟩ := q
    exact h2 pins s1 σ' H' D (Nat.le_trans h0 hk) I' (hu σ' H' q)
  | ret v => exact q
  | brk => exact q
  | cont => exact q
/-- name = e, where e gives out a token; what stands behind may lean on it -/
theorem pss_set1 {i : Nat} {x : Str} {rest : List Stmt} {u : TS} {pos' : Pos} (hN : X.N.Nodup) (hi : X.N[i]? = some x) (hx : Loc X.env.scope x) (he : PE1 X e te) (h2 : PSsT X rest u) (hs : swapsWith e (some (.Name x pos')) pos.line X.env = pure false := by rfl)
    (hf : X.fn x = true ∨ X.env.scope.names.lookup x = some .local := by first | exact .inl rfl | exact .inr rfl | assumption) : PSs X (.Assign [.Name x pos'] e pos :: rest) (tSeq (tAsg te (gName i)) u) := by
  refine ⟨fun pins s σ H D I h => ?_⟩
  refine wpAny_execs_cons (wpAny_Assign_Name (wpAny_mono (he pins s σ H _ I h) (fun v s1 q => ?_) fun _ _ z => z) hs)
  obtain ⟨h1, y, H1, I1, r1, q1⟩ := q
  refine wpAny_mono (PySem.wpAny_toks (store_ok (v := y) (u := v) (Q := fun _ s2 => Inv X pins (σ.set i (some y)) H1 s2) I1 hN hi hx r1 (fun _ I2 => I2) hf)) (fun _ s2 q => ?_) fun _ _ z => z.2
  exact h2 pins s2 _ H1 D (Nat.le_trans h1 q.1) q.2 q1
/-- s.rstrip() -/
def rRstrip : V → List V → Hp → VK → Prop := fun x xs H Q => ∃ a : Str, x = .str a ∧ xs = [] ∧ a.length ≤ sizeLine ∧ Q (.str (Txt.rstrip a)) H
theorem mt_rstripQ : MtR X "str.rstrip" rRstrip := mt_rstrip
theorem v_rstrip {K : PySem.W.Frag} {H : Hp} {Q : VK} {a : Str} (h : a.length ≤ sizeLine) (q : Q (.str (Txt.rstrip a)) H) : tyV K "str" (.str a) H ∧ rRstrip (.str a) [] H Q := ⟨rfl, a, rfl, rfl, h, q⟩
end
end G

namespace GN
open PySem PySem.Spec PyProof.Rows PySem.Builtin
/-! ### != by an own __eq__ (object's __ne__ asks it) -/
section
variable {prog : Program} {w : World} {A : Around} {E : Value → Shared → Prop} {s : Shared} {K : PySem.W.Frag} {x y C f L : Addr} {h₀ : Heap} {m : Str → Option Value} {ox : Obj} {od : Option Obj} {tb : Value}
theorem entry_K (hu : A.units < cLine) (X : K.In s.heap) (I : PySem.W.InstAt s.heap x ox C od) (hs : PySem.W.findIn K (.ref C) "__eq__" = some (some (.ref f))) (hf : PySem.W.isFn K (.ref f) = true) {Q : Fin → Shared → Prop}
    (hcall : wpAny (model prog w) A (call (.ref f) [.ref x, .ref y]) (fun v s' => ∃ b, v = .bool b ∧ Q (.done (.ret (.bool (!b)))) s') E s) :
    wpAny (model prog w) A (Builtin.«object.__ne__» ⟨[.ref x, .ref y], []⟩) Q E s := by
  unfold Builtin.«object.__ne__»
  repeat (first
    | with_reducible refine wpAny_cRoomFor hu ?_
    | (refine wpAny_bind (m := callSpecialIfBound? (.ref x) (Str.ofString "__eq__") [.ref y])
        (PySem.W.ifBound_K X I hs hf (wpAny_mono hcall (fun r s' hr => by
          obtain ⟨b, rfl, hq⟩ := hr
          repeat (first | exact hq | exact wpAny_pure hq | exact wpAny_truthy_bool hq | (refine wpAny_bind (m := truthy (.bool _)) (wpAny_truthy_bool ?_)) | wp_step)) fun _ _ e => e)))
    | wp_step)
theorem ifBound_objNe {M : Model} {args : List Value} {Q : Option Value → Shared → Prop} (X : K.In s.heap) (I : PySem.W.InstAt s.heap x ox C od) (hs : PySem.W.findIn K (.ref C) "__ne__" = some (some (.builtin "object.__ne__")))
    (h : wpAny M A (call (.builtin "object.__ne__") (.ref x :: args)) (fun v => Q (some v)) E s) : wpAny M A (callSpecialIfBound? (.ref x) "__ne__" args) Q E s := by
  simp only [callSpecialIfBound?, bindSpecialIfBound?]
  refine wpAny_holding (wpAny_bind (wpAny_bind (wpAny_bind (I.type.here ((PySem.W.looks_findIn X hs).here ?_)))))
  refine wpAny_bind (wpAny_askSetting (wpAny_ite ?_))
  have fin : wpAny M A (call (.builtin "object.__ne__") ([.ref x] ++ args) >>= fun v => pure (some v)) Q E s := wpAny_bind (wpAny_mono h (fun v s' h' => wpAny_pure h') fun _ _ h' => h')
  split
  · exact wpAny_bind (wpAny_of_eq (F.cmp_object.ne.bind _) (wpAny_pure (by exact fin)))
  · exact wpAny_tryCatch (wpAny_bind (wpAny_of_eq (F.cmp_object.ne.bind _) (wpAny_pure (by exact fin))))
theorem rcNe_K {Q : Value → Shared → Prop} (hu : A.units + 1 < cLine) (X : K.In s.heap) (I : PySem.W.InstAt s.heap x ox C od) (hb : PySem.W.Looks (model prog w) s.heap (typeOf (.ref y)) tb) (hn : PySem.W.notFirst K C tb = true) (hm : PySem.W.mroIn K C (.type "object") = some true)
    (hne : PySem.W.findIn K (.ref C) "__ne__" = some (some (.builtin "object.__ne__"))) (hs : PySem.W.findIn K (.ref C) "__eq__" = some (some (.ref f))) (hf : PySem.W.isFn K (.ref f) = true)
    (h : wpAny (model prog w) A.in1 (call (.ref f) [.ref x, .ref y]) (fun v s' => ∃ b, v = .bool b ∧ Q (.bool (!b)) s') E s) : wpAny (model prog w) A (richCompare .NotEq (.ref x) (.ref y)) Q E s := by
  have one : wpAny (model prog w) A (tryCompare (.ref x) "__ne__" (.ref y)) (fun r s' => ∃ v, r = some v ∧ Q v s') E s := by
    unfold tryCompare
    refine wpAny_bind (ifBound_objNe X I hne (wpAny_call (codeAny_call_builtin F.cmp_object.ne.plain F.cmpEntry_ne (PySem.W.check_slot F.cmpKind_ne F.cmpSplit_ne (I.type.andThen (PySem.W.looks_mroIn X hm)) (F.cmpArgs_ne _ _)
      (entry_K (A := A.in1) hu X I hs hf (wpAny_mono h (fun v s' hv => ?_) fun _ _ e => e))))))
    obtain ⟨b, rfl, hq⟩ := hv
    first | exact ⟨b, rfl, wpAny_pure ⟨_, rfl, hq⟩⟩ | exact ⟨b, rfl, wpAny_pure (wpAny_pure ⟨_, rfl, hq⟩)⟩
  unfold richCompare
  simp only [oneThing_ref]
  refine wpAny_holding (wpAny_bind (wpAny_cRoomFor (Nat.lt_of_succ_lt hu) ?_))
  rw [cmpInfo_NotEq]
  dsimp only
  refine wpAny_bind (I.type.here (wpAny_bind (hb.here ?_)))
  split
  · rename_i q
    have e : PySem.W.subIn K tb (.ref C) = some false := by
      rcases Bool.or_eq_true_iff.mp hn with e | e
      · rw [beq_iff_eq.mp e] at q; simp at q
      · exact beq_iff_eq.mp e
    refine wpAny_bind ((PySem.W.looks_subIn X e).here ?_)
    simp only [Bool.false_eq_true, if_false]
    refine wpAny_bind (wpAny_mono one (fun r s' z => ?_) fun _ _ e => e)
    obtain ⟨v, rfl, hq⟩ := z
    exact wpAny_pure hq
  · refine wpAny_bind (wpAny_pure ?_)
    simp only [Bool.false_eq_true, if_false]
    refine wpAny_bind (wpAny_mono one (fun r s' z => ?_) fun _ _ e => e)
    obtain ⟨v, rfl, hq⟩ := z
    exact wpAny_pure hq
end
end GN
namespace L2
open PySem PySem.Spec PyProof.Rows
section
variable {X : Cx} {n : Nat}
/-- a != b: instances of the class at C (its own __eq__ promises sp), and of the class at D -/
def rNeO (K : PySem.W.Frag) (C : Addr) (sp : Sp) (E : XK) : R2 := fun x y H Q => ∃ a b dx fs D dy gs, x = .ref a ∧ y = .ref b ∧ H a = some (.ins C dx fs) ∧ H b = some (.ins D dy gs) ∧ PySem.W.notFirst K C (.ref D) = true ∧ sp [.ref a, .ref b] H (fun v H' => ∃ t, v = .bl t ∧ Q (.bl (!t)) H') E
theorem op_neO {CX : CXT} {C f : Addr} {fd : FuncData} {ps : List Str} {sp : Sp} {E : XK} (F : FnOk X.prog X.w X.K X.mg X.base CX n f fd ps sp) (hm : PySem.W.mroIn X.K C (.type "object") = some true)
    (hne : PySem.W.findIn X.K (.ref C) "__ne__" = some (some (.builtin "object.__ne__"))) (hs : PySem.W.findIn X.K (.ref C) "__eq__" = some (some (.ref f))) (hf : PySem.W.isFn X.K (.ref f) = true) (hb : Binds X.K fd ps []) (hx : Passes CX X E) (hr : Room (n + 1) X.A) :
    OpR X (compareOp .NotEq) (rNeO X.K C sp E) := by
  intro pins s σ H x y v u Q I rx ry hq
  obtain ⟨a, b, dx, fs, D, dy, gs, rfl, rfl, ha, hb', hnf, hsp⟩ := hq
  cases rx
  cases ry
  obtain ⟨mA, J, _⟩ := ins_get I.hok ha
  obtain ⟨mB, J', _⟩ := ins_get I.hok hb'
  obtain ⟨od, J, _⟩ := J.look
  obtain ⟨od', J', _⟩ := J'.look
  show wpAny (model X.prog X.w) X.A (richCompare .NotEq (.ref a) (.ref b)) (EP X pins σ Q) X.xe s
  refine GN.rcNe_K (tb := .ref D) hr.in1.units0 I.kIn J J'.type hnf hm hne hs hf ?_
  have hl := F.len _ _ _ _ hsp
  have r2 : Vals [V.ref a, V.ref b] [Value.ref a, Value.ref b] := .cons rfl (.cons rfl .nil)
  refine wpAny_call (codeAny_mono (F.run X.A.in1 X.stack s H ⟨[.ref a, .ref b], []⟩ [.ref a, .ref b] [.ref a, .ref b] _ E hr.in1 I.env0.in1 (by
    have := hb s [.ref a, .ref b] I.kIn (by simpa using hl)
    simpa using this) r2 hsp) fun r s' hq => ?_)
  cases r with
  | error e => exact hx pins σ H s e s' I hq
  | ok fl =>
    cases fl with
    | ret w =>
      obtain ⟨z, H', I', rz, t, ez, hQ⟩ := I.after hq
      subst ez
      cases rz
      exact ⟨t, rfl, .bl (!t), H', I', rfl, hQ⟩
    | next => exact False.elim hq
    | brk => exact False.elim hq
    | cont => exact False.elim hq
def NeF (K : PySem.W.Frag) (C : Addr) : Prop := PySem.W.mroIn K C (.type "object") = some true ∧ PySem.W.findIn K (.ref C) "__ne__" = some (some (.builtin "object.__ne__"))
def neFB (c : Str) (K : PySem.W.Frag) : Bool := (PySem.W.mroIn K (He.ga K c) (.type "object") == some true) && (PySem.W.findIn K (.ref (He.ga K c)) "__ne__" == some (some (.builtin "object.__ne__")))
theorem neF_ok {K : PySem.W.Frag} {c : Str} (h : neFB c K = true) : NeF K (He.ga K c) := by
  unfold neFB at h
  rw [Bool.and_eq_true] at h
  exact ⟨beq_iff_eq.mp h.1, beq_iff_eq.mp h.2⟩
def rOr2 (r r' : R2) : R2 := fun x y H Q => r x y H Q ∨ r' x y H Q
theorem op_or2 {f : Value → Value → Sem Value} {r r' : R2} (h : OpR X f r) (h' : OpR X f r') : OpR X f (rOr2 r r') := fun pins s σ H x y v u Q I rx ry q => q.elim (h pins s σ H x y v u Q I rx ry) (h' pins s σ H x y v u Q I rx ry)
theorem op_neMt {j : Nat} {C : Addr} {sp : Sp} (c : G.Mt X.prog X.w X.K X.mg X.base n C "__eq__" sp []) (nf : NeF X.K C) (hr : Room j X.A) (hk : n + 1 ≤ j) : OpR X (compareOp .NotEq) (rNeO X.K C sp E0) := by
  obtain ⟨f, fd, ps, ds, cl, hm, F, b, d⟩ := c.ex
  cases d
  exact op_neO F nf.1 nf.2 hm.at_ hm.fn b passL (hr.mono hk)
end
end L2

namespace Lw
open PySem PySem.Spec PyProof.Rows L2 G
def top (i : Nat) : Stmt := PySem.Challenge.pw_oneheap_k06_whole_schema_texts.main.body.getD i (.Pass ⟨0, 0, 0, 0⟩)
abbrev s__law_cells : Stmt := top 57
abbrev s__law_quote : Stmt := top 60
abbrev s__law_shape_text : Stmt := top 62
abbrev s__law_field_text : Stmt := top 65
abbrev s__law_kind_text : Stmt := top 66
abbrev s__law_text : Stmt := top 67
abbrev s__law_draw : Stmt := top 58
abbrev s__law_pick : Stmt := top 59
abbrev s__law_shape : Stmt := top 61
abbrev s__law_kind : Stmt := top 63
abbrev s__law_schema : Stmt := top 64
abbrev s__law_changed : Stmt := top 68
abbrev s_Reader_init : Stmt := inClass (top 33) 0
abbrev s_word_end : Stmt := top 14
abbrev s_Token_init : Stmt := inClass (top 13) 0
abbrev s_read_word : Stmt := top 16
abbrev s_digits_end : Stmt := top 15
abbrev s_read_number : Stmt := top 17
abbrev s_read_quoted : Stmt := top 18
abbrev s_read_sign : Stmt := top 19
abbrev s_tokens : Stmt := top 20
abbrev s_Reader_now : Stmt := inClass (top 33) 1
abbrev s_Reader_is_word : Stmt := inClass (top 33) 5
abbrev s_Reader_step : Stmt := inClass (top 33) 3
abbrev s_Reader_take_word : Stmt := inClass (top 33) 7
abbrev s_KindPlace_init : Stmt := inClass (top 42) 0
abbrev s_Reader_is_name : Stmt := inClass (top 33) 8
abbrev s_Reader_take_kind : Stmt := inClass (top 33) 9
abbrev s_Reader_is_sign : Stmt := inClass (top 33) 4
abbrev s_Reader_take_sign : Stmt := inClass (top 33) 6
abbrev s_Reader_take_field : Stmt := inClass (top 33) 10
abbrev s_read_key : Stmt := top 49
abbrev s_Reader_take_number : Stmt := inClass (top 33) 11
abbrev s_Reader_take_integer : Stmt := inClass (top 33) 12
abbrev s_IntSort_init : Stmt := inClass (top 25) 0
abbrev s_read_int : Stmt := top 43
abbrev s_TextSort_init : Stmt := inClass (top 26) 0
abbrev s_Reader_take_text : Stmt := inClass (top 33) 13
abbrev s_read_text_sort : Stmt := top 44
abbrev s_ChoiceSort_init : Stmt := inClass (top 27) 0
abbrev s_read_choices : Stmt := top 45
abbrev s_read_targets : Stmt := top 46
abbrev s_ListSort_init : Stmt := inClass (top 29) 0
abbrev s_RefSort_init : Stmt := inClass (top 28) 0
abbrev s_read_sort : Stmt := top 47
abbrev s_is_list : Stmt := top 30
abbrev s_Field_init : Stmt := inClass (top 5) 0
abbrev s_read_field : Stmt := top 48
abbrev s_read_kind : Stmt := top 50
abbrev s_Schema_init : Stmt := inClass (top 7) 0
abbrev s_check_key : Stmt := top 51
abbrev s_Kind_init : Stmt := inClass (top 6) 0
abbrev s_check_kind : Stmt := top 52
abbrev s_check_kinds : Stmt := top 53
abbrev s_read_schema : Stmt := top 54
abbrev s_IntSort_written : Stmt := inClass (top 25) 2
abbrev s_quoted : Stmt := top 21
abbrev s_TextSort_written : Stmt := inClass (top 26) 2
abbrev s_ChoiceSort_written : Stmt := inClass (top 27) 2
abbrev s_RefSort_written : Stmt := inClass (top 28) 2
abbrev s_ListSort_written : Stmt := inClass (top 29) 2
abbrev s_Field_written : Stmt := inClass (top 5) 1
abbrev s_Kind_written : Stmt := inClass (top 6) 3
abbrev s_Schema_written : Stmt := inClass (top 7) 4
abbrev s_write_schema : Stmt := top 55
abbrev s_Kind_names : Stmt := inClass (top 6) 2
abbrev s_Schema_names : Stmt := inClass (top 7) 2
abbrev s_IntSort_eq : Stmt := inClass (top 25) 3
abbrev s_TextSort_eq : Stmt := inClass (top 26) 3
abbrev s_ChoiceSort_eq : Stmt := inClass (top 27) 3
abbrev s_RefSort_eq : Stmt := inClass (top 28) 3
abbrev s_ListSort_eq : Stmt := inClass (top 29) 3
abbrev s__law_alike : Stmt := top 69
abbrev s_law : Stmt := top 70
/-- "abcdefghijklmnopqrstuvwxyzABCDEFGHIJKLMNOPQRSTUVWXYZ" -/
def q_c_LETTERS : List Nat := [97, 98, 99, 100, 101, 102, 103, 104, 105, 106, 107, 108, 109, 110, 111, 112, 113, 114, 115, 116, 117, 118, 119, 120, 121, 122, 65, 66, 67, 68, 69, 70, 71, 72, 73, 74, 75, 76, 77, 78, 79, 80, 81, 82, 83, 84, 85, 86, 87, 88, 89, 90]
theorem e_c_LETTERS : ("abcdefghijklmnopqrstuvwxyzABCDEFGHIJKLMNOPQRSTUVWXYZ" : Str) = ⟨q_c_LETTERS.toArray⟩ := by decide +kernel
/-- "0123456789" -/
def q_c_DIGITS : List Nat := [48, 49, 50, 51, 52, 53, 54, 55, 56, 57]
theorem e_c_DIGITS : ("0123456789" : Str) = ⟨q_c_DIGITS.toArray⟩ := by decide +kernel
/-- "ABCDEFGHIJKLMNOPQRSTUVWXYZ" -/
def q_c_GREAT : List Nat := [65, 66, 67, 68, 69, 70, 71, 72, 73, 74, 75, 76, 77, 78, 79, 80, 81, 82, 83, 84, 85, 86, 87, 88, 89, 90]
theorem e_c_GREAT : ("ABCDEFGHIJKLMNOPQRSTUVWXYZ" : Str) = ⟨q_c_GREAT.toArray⟩ := by decide +kernel
/-- "{" -/
def q_x7b : List Nat := [123]
theorem e_x7b : ("{" : Str) = ⟨q_x7b.toArray⟩ := by decide +kernel
/-- "}" -/
def q_x7d : List Nat := [125]
theorem e_x7d : ("}" : Str) = ⟨q_x7d.toArray⟩ := by decide +kernel
/-- ":" -/
def q_x3a : List Nat := [58]
theorem e_x3a : (":" : Str) = ⟨q_x3a.toArray⟩ := by decide +kernel
/-- ";" -/
def q_x3b : List Nat := [59]
theorem e_x3b : (";" : Str) = ⟨q_x3b.toArray⟩ := by decide +kernel
/-- "," -/
def q_x2c : List Nat := [44]
theorem e_x2c : ("," : Str) = ⟨q_x2c.toArray⟩ := by decide +kernel
/-- "-" -/
def q_x2d : List Nat := [45]
theorem e_x2d : ("-" : Str) = ⟨q_x2d.toArray⟩ := by decide +kernel
/-- ".." -/
def q_x2ex2e : List Nat := [46, 46]
theorem e_x2ex2e : (".." : Str) = ⟨q_x2ex2e.toArray⟩ := by decide +kernel
/-- "kind" -/
def q_kind : List Nat := [107, 105, 110, 100]
theorem e_kind : ("kind" : Str) = ⟨q_kind.toArray⟩ := by decide +kernel
/-- "key" -/
def q_key : List Nat := [107, 101, 121]
theorem e_key : ("key" : Str) = ⟨q_key.toArray⟩ := by decide +kernel
/-- "not" -/
def q_not : List Nat := [110, 111, 116]
theorem e_not : ("not" : Str) = ⟨q_not.toArray⟩ := by decide +kernel
/-- "null" -/
def q_null : List Nat := [110, 117, 108, 108]
theorem e_null : ("null" : Str) = ⟨q_null.toArray⟩ := by decide +kernel
/-- "int" -/
def q_int : List Nat := [105, 110, 116]
theorem e_int : ("int" : Str) = ⟨q_int.toArray⟩ := by decide +kernel
/-- "text" -/
def q_text : List Nat := [116, 101, 120, 116]
theorem e_text : ("text" : Str) = ⟨q_text.toArray⟩ := by decide +kernel
/-- "without" -/
def q_without : List Nat := [119, 105, 116, 104, 111, 117, 116]
theorem e_without : ("without" : Str) = ⟨q_without.toArray⟩ := by decide +kernel
/-- "one" -/
def q_one : List Nat := [111, 110, 101]
theorem e_one : ("one" : Str) = ⟨q_one.toArray⟩ := by decide +kernel
/-- "of" -/
def q_of : List Nat := [111, 102]
theorem e_of : ("of" : Str) = ⟨q_of.toArray⟩ := by decide +kernel
/-- "ref" -/
def q_ref : List Nat := [114, 101, 102]
theorem e_ref : ("ref" : Str) = ⟨q_ref.toArray⟩ := by decide +kernel
/-- "or" -/
def q_or : List Nat := [111, 114]
theorem e_or : ("or" : Str) = ⟨q_or.toArray⟩ := by decide +kernel
/-- "list" -/
def q_list : List Nat := [108, 105, 115, 116]
theorem e_list : ("list" : Str) = ⟨q_list.toArray⟩ := by decide +kernel
/-- "clears" -/
def q_clears : List Nat := [99, 108, 101, 97, 114, 115]
theorem e_clears : ("clears" : Str) = ⟨q_clears.toArray⟩ := by decide +kernel
/-- "refuses" -/
def q_refuses : List Nat := [114, 101, 102, 117, 115, 101, 115]
theorem e_refuses : ("refuses" : Str) = ⟨q_refuses.toArray⟩ := by decide +kernel
/-- "takes" -/
def q_takes : List Nat := [116, 97, 107, 101, 115]
theorem e_takes : ("takes" : Str) = ⟨q_takes.toArray⟩ := by decide +kernel
/-- "rename" -/
def q_rename : List Nat := [114, 101, 110, 97, 109, 101]
theorem e_rename : ("rename" : Str) = ⟨q_rename.toArray⟩ := by decide +kernel
/-- "new" -/
def q_new : List Nat := [110, 101, 119]
theorem e_new : ("new" : Str) = ⟨q_new.toArray⟩ := by decide +kernel
/-- "gone" -/
def q_gone : List Nat := [103, 111, 110, 101]
theorem e_gone : ("gone" : Str) = ⟨q_gone.toArray⟩ := by decide +kernel
/-- "change" -/
def q_change : List Nat := [99, 104, 97, 110, 103, 101]
theorem e_change : ("change" : Str) = ⟨q_change.toArray⟩ := by decide +kernel
/-- "else" -/
def q_else : List Nat := [101, 108, 115, 101]
theorem e_else : ("else" : Str) = ⟨q_else.toArray⟩ := by decide +kernel
/-- "back" -/
def q_back : List Nat := [98, 97, 99, 107]
theorem e_back : ("back" : Str) = ⟨q_back.toArray⟩ := by decide +kernel
/-- "replace" -/
def q_replace : List Nat := [114, 101, 112, 108, 97, 99, 101]
theorem e_replace : ("replace" : Str) = ⟨q_replace.toArray⟩ := by decide +kernel
/-- "by" -/
def q_by : List Nat := [98, 121]
theorem e_by : ("by" : Str) = ⟨q_by.toArray⟩ := by decide +kernel
/-- "as" -/
def q_as : List Nat := [97, 115]
theorem e_as : ("as" : Str) = ⟨q_as.toArray⟩ := by decide +kernel
/-- "table" -/
def q_table : List Nat := [116, 97, 98, 108, 101]
theorem e_table : ("table" : Str) = ⟨q_table.toArray⟩ := by decide +kernel
/-- "split" -/
def q_split : List Nat := [115, 112, 108, 105, 116]
theorem e_split : ("split" : Str) = ⟨q_split.toArray⟩ := by decide +kernel
/-- "join" -/
def q_join : List Nat := [106, 111, 105, 110]
theorem e_join : ("join" : Str) = ⟨q_join.toArray⟩ := by decide +kernel
/-- "into" -/
def q_into : List Nat := [105, 110, 116, 111]
theorem e_into : ("into" : Str) = ⟨q_into.toArray⟩ := by decide +kernel
/-- "needs" -/
def q_needs : List Nat := [110, 101, 101, 100, 115]
theorem e_needs : ("needs" : Str) = ⟨q_needs.toArray⟩ := by decide +kernel
/-- "drops" -/
def q_drops : List Nat := [100, 114, 111, 112, 115]
theorem e_drops : ("drops" : Str) = ⟨q_drops.toArray⟩ := by decide +kernel
/-- "deletes" -/
def q_deletes : List Nat := [100, 101, 108, 101, 116, 101, 115]
theorem e_deletes : ("deletes" : Str) = ⟨q_deletes.toArray⟩ := by decide +kernel
/-- "\"" -/
def q_x22 : List Nat := [34]
theorem e_x22 : ("\"" : Str) = ⟨q_x22.toArray⟩ := by decide +kernel
/-- "\\" -/
def q_x5c : List Nat := [92]
theorem e_x5c : ("\\" : Str) = ⟨q_x5c.toArray⟩ := by decide +kernel
/-- "\\\\" -/
def q_x5cx5c : List Nat := [92, 92]
theorem e_x5cx5c : ("\\\\" : Str) = ⟨q_x5cx5c.toArray⟩ := by decide +kernel
/-- "\\\"" -/
def q_x5cx22 : List Nat := [92, 34]
theorem e_x5cx22 : ("\\\"" : Str) = ⟨q_x5cx22.toArray⟩ := by decide +kernel
/-- "int " -/
def q_int_ : List Nat := [105, 110, 116, 32]
theorem e_int_ : ("int " : Str) = ⟨q_int_.toArray⟩ := by decide +kernel
/-- "text " -/
def q_text_ : List Nat := [116, 101, 120, 116, 32]
theorem e_text_ : ("text " : Str) = ⟨q_text_.toArray⟩ := by decide +kernel
/-- " without " -/
def q__without_ : List Nat := [32, 119, 105, 116, 104, 111, 117, 116, 32]
theorem e__without_ : (" without " : Str) = ⟨q__without_.toArray⟩ := by decide +kernel
/-- "one of " -/
def q_one_of_ : List Nat := [111, 110, 101, 32, 111, 102, 32]
theorem e_one_of_ : ("one of " : Str) = ⟨q_one_of_.toArray⟩ := by decide +kernel
/-- ", " -/
def q_x2c_ : List Nat := [44, 32]
theorem e_x2c_ : (", " : Str) = ⟨q_x2c_.toArray⟩ := by decide +kernel
/-- " " -/
def q__ : List Nat := [32]
theorem e__ : (" " : Str) = ⟨q__.toArray⟩ := by decide +kernel
/-- " or " -/
def q__or_ : List Nat := [32, 111, 114, 32]
theorem e__or_ : (" or " : Str) = ⟨q__or_.toArray⟩ := by decide +kernel
/-- ": " -/
def q_x3a_ : List Nat := [58, 32]
theorem e_x3a_ : (": " : Str) = ⟨q_x3a_.toArray⟩ := by decide +kernel
/-- " not null" -/
def q__not_null : List Nat := [32, 110, 111, 116, 32, 110, 117, 108, 108]
theorem e__not_null : (" not null" : Str) = ⟨q__not_null.toArray⟩ := by decide +kernel
/-- "key " -/
def q_key_ : List Nat := [107, 101, 121, 32]
theorem e_key_ : ("key " : Str) = ⟨q_key_.toArray⟩ := by decide +kernel
/-- "d\\" -/
def q_dx5c : List Nat := [100, 92]
theorem e_dx5c : ("d\\" : Str) = ⟨q_dx5c.toArray⟩ := by decide +kernel
/-- "b c" -/
def q_b_c : List Nat := [98, 32, 99]
theorem e_b_c : ("b c" : Str) = ⟨q_b_c.toArray⟩ := by decide +kernel
/-- "a" -/
def q_a : List Nat := [97]
theorem e_a : ("a" : Str) = ⟨q_a.toArray⟩ := by decide +kernel
/-- "d" -/
def q_d : List Nat := [100]
theorem e_d : ("d" : Str) = ⟨q_d.toArray⟩ := by decide +kernel
/-- "cC" -/
def q_cC : List Nat := [99, 67]
theorem e_cC : ("cC" : Str) = ⟨q_cC.toArray⟩ := by decide +kernel
/-- "b_1" -/
def q_bx5f1 : List Nat := [98, 95, 49]
theorem e_bx5f1 : ("b_1" : Str) = ⟨q_bx5f1.toArray⟩ := by decide +kernel
/-- "M_2" -/
def q_Mx5f2 : List Nat := [77, 95, 50]
theorem e_Mx5f2 : ("M_2" : Str) = ⟨q_Mx5f2.toArray⟩ := by decide +kernel
/-- "Ll" -/
def q_Ll : List Nat := [76, 108]
theorem e_Ll : ("Ll" : Str) = ⟨q_Ll.toArray⟩ := by decide +kernel
/-- "K" -/
def q_K : List Nat := [75]
theorem e_K : ("K" : Str) = ⟨q_K.toArray⟩ := by decide +kernel
/-- "aK0-.;:,{}\" \\19_x=or" -/
def q_aK0x2dx2ex3bx3ax2cx7bx7dx22_x5c19x5fxx3dor : List Nat := [97, 75, 48, 45, 46, 59, 58, 44, 123, 125, 34, 32, 92, 49, 57, 95, 120, 61, 111, 114]
theorem e_aK0x2dx2ex3bx3ax2cx7bx7dx22_x5c19x5fxx3dor : ("aK0-.;:,{}\" \\19_x=or" : Str) = ⟨q_aK0x2dx2ex3bx3ax2cx7bx7dx22_x5c19x5fxx3dor.toArray⟩ := by decide +kernel
/-- "_" -/
def q_x5f : List Nat := [95]
theorem e_x5f : ("_" : Str) = ⟨q_x5f.toArray⟩ := by decide +kernel
/-- "word too long" -/
def q_word_too_long : List Nat := [119, 111, 114, 100, 32, 116, 111, 111, 32, 108, 111, 110, 103]
theorem e_word_too_long : ("word too long" : Str) = ⟨q_word_too_long.toArray⟩ := by decide +kernel
/-- "word" -/
def q_word : List Nat := [119, 111, 114, 100]
theorem e_word : ("word" : Str) = ⟨q_word.toArray⟩ := by decide +kernel
/-- "0" -/
def q_0 : List Nat := [48]
theorem e_0 : ("0" : Str) = ⟨q_0.toArray⟩ := by decide +kernel
/-- "needless zero" -/
def q_needless_zero : List Nat := [110, 101, 101, 100, 108, 101, 115, 115, 32, 122, 101, 114, 111]
theorem e_needless_zero : ("needless zero" : Str) = ⟨q_needless_zero.toArray⟩ := by decide +kernel
/-- "number too long" -/
def q_number_too_long : List Nat := [110, 117, 109, 98, 101, 114, 32, 116, 111, 111, 32, 108, 111, 110, 103]
theorem e_number_too_long : ("number too long" : Str) = ⟨q_number_too_long.toArray⟩ := by decide +kernel
/-- "unexpected sign" -/
def q_unexpected_sign : List Nat := [117, 110, 101, 120, 112, 101, 99, 116, 101, 100, 32, 115, 105, 103, 110]
theorem e_unexpected_sign : ("unexpected sign" : Str) = ⟨q_unexpected_sign.toArray⟩ := by decide +kernel
/-- "number" -/
def q_number : List Nat := [110, 117, 109, 98, 101, 114]
theorem e_number : ("number" : Str) = ⟨q_number.toArray⟩ := by decide +kernel
/-- "" -/
def q_empty : List Nat := []
theorem e_empty : ("" : Str) = ⟨q_empty.toArray⟩ := by decide +kernel
/-- "text is not closed" -/
def q_text_is_not_closed : List Nat := [116, 101, 120, 116, 32, 105, 115, 32, 110, 111, 116, 32, 99, 108, 111, 115, 101, 100]
theorem e_text_is_not_closed : ("text is not closed" : Str) = ⟨q_text_is_not_closed.toArray⟩ := by decide +kernel
/-- "sign" -/
def q_sign : List Nat := [115, 105, 103, 110]
theorem e_sign : ("sign" : Str) = ⟨q_sign.toArray⟩ := by decide +kernel
/-- "text too long" -/
def q_text_too_long : List Nat := [116, 101, 120, 116, 32, 116, 111, 111, 32, 108, 111, 110, 103]
theorem e_text_too_long : ("text too long" : Str) = ⟨q_text_too_long.toArray⟩ := by decide +kernel
/-- "end" -/
def q_end : List Nat := [101, 110, 100]
theorem e_end : ("end" : Str) = ⟨q_end.toArray⟩ := by decide +kernel
/-- "expected " -/
def q_expected_ : List Nat := [101, 120, 112, 101, 99, 116, 101, 100, 32]
theorem e_expected_ : ("expected " : Str) = ⟨q_expected_.toArray⟩ := by decide +kernel
/-- "expected a kind" -/
def q_expected_a_kind : List Nat := [101, 120, 112, 101, 99, 116, 101, 100, 32, 97, 32, 107, 105, 110, 100]
theorem e_expected_a_kind : ("expected a kind" : Str) = ⟨q_expected_a_kind.toArray⟩ := by decide +kernel
/-- "expected a field" -/
def q_expected_a_field : List Nat := [101, 120, 112, 101, 99, 116, 101, 100, 32, 97, 32, 102, 105, 101, 108, 100]
theorem e_expected_a_field : ("expected a field" : Str) = ⟨q_expected_a_field.toArray⟩ := by decide +kernel
/-- "expected a number" -/
def q_expected_a_number : List Nat := [101, 120, 112, 101, 99, 116, 101, 100, 32, 97, 32, 110, 117, 109, 98, 101, 114]
theorem e_expected_a_number : ("expected a number" : Str) = ⟨q_expected_a_number.toArray⟩ := by decide +kernel
/-- "bad bounds" -/
def q_bad_bounds : List Nat := [98, 97, 100, 32, 98, 111, 117, 110, 100, 115]
theorem e_bad_bounds : ("bad bounds" : Str) = ⟨q_bad_bounds.toArray⟩ := by decide +kernel
/-- "expected a text" -/
def q_expected_a_text : List Nat := [101, 120, 112, 101, 99, 116, 101, 100, 32, 97, 32, 116, 101, 120, 116]
theorem e_expected_a_text : ("expected a text" : Str) = ⟨q_expected_a_text.toArray⟩ := by decide +kernel
/-- "bad length" -/
def q_bad_length : List Nat := [98, 97, 100, 32, 108, 101, 110, 103, 116, 104]
theorem e_bad_length : ("bad length" : Str) = ⟨q_bad_length.toArray⟩ := by decide +kernel
/-- "bad sign" -/
def q_bad_sign : List Nat := [98, 97, 100, 32, 115, 105, 103, 110]
theorem e_bad_sign : ("bad sign" : Str) = ⟨q_bad_sign.toArray⟩ := by decide +kernel
/-- "choice twice" -/
def q_choice_twice : List Nat := [99, 104, 111, 105, 99, 101, 32, 116, 119, 105, 99, 101]
theorem e_choice_twice : ("choice twice" : Str) = ⟨q_choice_twice.toArray⟩ := by decide +kernel
/-- "too many choices" -/
def q_too_many_choices : List Nat := [116, 111, 111, 32, 109, 97, 110, 121, 32, 99, 104, 111, 105, 99, 101, 115]
theorem e_too_many_choices : ("too many choices" : Str) = ⟨q_too_many_choices.toArray⟩ := by decide +kernel
/-- "kind twice" -/
def q_kind_twice : List Nat := [107, 105, 110, 100, 32, 116, 119, 105, 99, 101]
theorem e_kind_twice : ("kind twice" : Str) = ⟨q_kind_twice.toArray⟩ := by decide +kernel
/-- "expected a sort" -/
def q_expected_a_sort : List Nat := [101, 120, 112, 101, 99, 116, 101, 100, 32, 97, 32, 115, 111, 114, 116]
theorem e_expected_a_sort : ("expected a sort" : Str) = ⟨q_expected_a_sort.toArray⟩ := by decide +kernel
/-- "list not null" -/
def q_list_not_null : List Nat := [108, 105, 115, 116, 32, 110, 111, 116, 32, 110, 117, 108, 108]
theorem e_list_not_null : ("list not null" : Str) = ⟨q_list_not_null.toArray⟩ := by decide +kernel
/-- "no such field" -/
def q_no_such_field : List Nat := [110, 111, 32, 115, 117, 99, 104, 32, 102, 105, 101, 108, 100]
theorem e_no_such_field : ("no such field" : Str) = ⟨q_no_such_field.toArray⟩ := by decide +kernel
/-- "list in a key" -/
def q_list_in_a_key : List Nat := [108, 105, 115, 116, 32, 105, 110, 32, 97, 32, 107, 101, 121]
theorem e_list_in_a_key : ("list in a key" : Str) = ⟨q_list_in_a_key.toArray⟩ := by decide +kernel
/-- "field twice" -/
def q_field_twice : List Nat := [102, 105, 101, 108, 100, 32, 116, 119, 105, 99, 101]
theorem e_field_twice : ("field twice" : Str) = ⟨q_field_twice.toArray⟩ := by decide +kernel
/-- "too many fields" -/
def q_too_many_fields : List Nat := [116, 111, 111, 32, 109, 97, 110, 121, 32, 102, 105, 101, 108, 100, 115]
theorem e_too_many_fields : ("too many fields" : Str) = ⟨q_too_many_fields.toArray⟩ := by decide +kernel
/-- "no such kind" -/
def q_no_such_kind : List Nat := [110, 111, 32, 115, 117, 99, 104, 32, 107, 105, 110, 100]
theorem e_no_such_kind : ("no such kind" : Str) = ⟨q_no_such_kind.toArray⟩ := by decide +kernel
/-- "too many keys" -/
def q_too_many_keys : List Nat := [116, 111, 111, 32, 109, 97, 110, 121, 32, 107, 101, 121, 115]
theorem e_too_many_keys : ("too many keys" : Str) = ⟨q_too_many_keys.toArray⟩ := by decide +kernel
/-- "field in two keys" -/
def q_field_in_two_keys : List Nat := [102, 105, 101, 108, 100, 32, 105, 110, 32, 116, 119, 111, 32, 107, 101, 121, 115]
theorem e_field_in_two_keys : ("field in two keys" : Str) = ⟨q_field_in_two_keys.toArray⟩ := by decide +kernel
/-- "too many kinds" -/
def q_too_many_kinds : List Nat := [116, 111, 111, 32, 109, 97, 110, 121, 32, 107, 105, 110, 100, 115]
theorem e_too_many_kinds : ("too many kinds" : Str) = ⟨q_too_many_kinds.toArray⟩ := by decide +kernel
/-- "ref " -/
def q_ref_ : List Nat := [114, 101, 102, 32]
theorem e_ref_ : ("ref " : Str) = ⟨q_ref_.toArray⟩ := by decide +kernel
/-- "list " -/
def q_list_ : List Nat := [108, 105, 115, 116, 32]
theorem e_list_ : ("list " : Str) = ⟨q_list_.toArray⟩ := by decide +kernel
/-- "kind " -/
def q_kind_ : List Nat := [107, 105, 110, 100, 32]
theorem e_kind_ : ("kind " : Str) = ⟨q_kind_.toArray⟩ := by decide +kernel
/-- " {" -/
def q__x7b : List Nat := [32, 123]
theorem e__x7b : (" {" : Str) = ⟨q__x7b.toArray⟩ := by decide +kernel
def k_DIGITS : V := (.str ⟨q_c_DIGITS.toArray⟩)
def k_GREAT : V := (.str ⟨q_c_GREAT.toArray⟩)
def k_LARGEST : V := (.int 1000000000)
def k_LETTERS : V := (.str ⟨q_c_LETTERS.toArray⟩)
def k_LONGEST_SCHEMA : V := (.int 1000)
def k_LONGEST_TEXT : V := (.int 40)
def k_MOST_CHOICES : V := (.int 8)
def k_MOST_FIELDS : V := (.int 8)
def k_MOST_KEYS : V := (.int 3)
def k_MOST_KINDS : V := (.int 8)
def k_NUMBER_LENGTH : V := (.int 18)
def k_WORD_LENGTH : V := (.int 12)
def ts_RESERVED : List (List Nat) := [q_kind, q_key, q_not, q_null, q_int, q_text, q_without, q_one, q_of, q_ref, q_or, q_list, q_clears, q_refuses, q_takes, q_rename, q_new, q_gone, q_change, q_else, q_back, q_replace, q_by, q_as, q_table, q_split, q_join, q_into, q_needs, q_drops, q_deletes]
def ts_SIGNS : List (List Nat) := [q_x7b, q_x7d, q_x3a, q_x3b, q_x2c, q_x2d, q_x2ex2e]
abbrev PR : Program := (PySem.Challenge.rw_oneheap_k06_whole_schema_texts).prog
instance : PI PR := ⟨by kernel_rfl, by kernel_rfl⟩
/-! ### readings -/
/-- _law_cells: 0 _law_script, 1 _law_count, 2 _law_cells_here, 3 _law_k, 4 _law_cell -/
def t__law_cells (K : PySem.W.Frag) : TS :=
  (tSeq (tAsg (tLst tNil) (gName 2)) (tSeq (tFor (iRng1 (tCons (tVar 1) tNil)) (gName 3) (tSeq (tAsg (tOp (rAddX K) (tOp rMulX (tC (.int 7)) (tVar 3)) (tC (.int 3))) (gName 4)) (C8.tCut (tIfS (tTest (tOp (rLtX K) (tVar 3) (tCB (rLen K) (tCons (tVar 0) tNil)))) (tSeq (tAsg (tCB rIntX (tCons (tOp (rIx K) (tVar 0) (tVar 3)) tNil)) (gName 4)) (tIfS (tTest (tOp (rLtX K) (tVar 4) (tC (.int 0)))) (tAsg (tOp rSubX (tC (.int 1)) (tOp rMulX (tC (.int 2)) (tVar 4))) (gName 4)) tNext)) tNext) (C8.tCut (tIfS (tTest (tOp (rLtX K) (tVar 4) (tC (.int 1000000000)))) (tSeq (tAsg (tOp rModX (tOp (rAddX K) (tOp (rAddX K) (tOp rMulX (tCB rIntX (tCons (tVar 4) tNil)) (tC (.int 1103515245))) (tC (.int 12345))) (tOp rMulX (tC (.int 131)) (tVar 3))) (tC (.int 2147483647))) (gName 4)) (tAsg (tOp rModX (tOp (rAddX K) (tOp rMulX (tCB rIntX (tCons (tVar 4) tNil)) (tC (.int 6364136223846793005))) (tC (.int 1442695040888963407))) (tC (.int 18446744073709551557))) (gName 4))) tNext) (tDrop (tBM K "list" rAppend (tVar 2) (tCons (tVar 4) tNil))))))) (tRet (tVar 2))))
def sp__law_cells (K : PySem.W.Frag) : Sp := fun vs H Q E => vs.length = 2 ∧ t__law_cells K ⟨fun _ H' => Q .non H', Q, fun _ _ => False, fun _ _ => False⟩ (start ["_law_script", "_law_count", "_law_cells_here", "_law_k", "_law_cell"] vs) H
/-- _law_quote: 0 _law_text_here -/
def t__law_quote (K : PySem.W.Frag) : TS :=
  (tRet (tOp (rAddX K) (tOp (rAddX K) (tC (.str ⟨q_x22.toArray⟩)) (tReplL (tReplL (tVar 0) q_x5c q_x5cx5c) q_x22 q_x5cx22)) (tC (.str ⟨q_x22.toArray⟩))))
def sp__law_quote (K : PySem.W.Frag) : Sp := fun vs H Q E => vs.length = 1 ∧ t__law_quote K ⟨fun _ H' => Q .non H', Q, fun _ _ => False, fun _ _ => False⟩ (start ["_law_text_here"] vs) H
/-- _law_shape_text: 0 _law_shape_here, 1 _law_text_here -/
def t__law_shape_text (K : PySem.W.Frag) : TS :=
  (tSeq (tIfS (tTest (tOp (rEqX K) (tOp (rIx K) (tVar 0) (tC (.int 0))) (tC (.str ⟨q_int.toArray⟩)))) (tRet (tOp (rAddX K) (tOp (rAddX K) (tOp (rAddX K) (tC (.str ⟨q_int_.toArray⟩)) (tCB rStrI (tCons (tOp (rIx K) (tVar 0) (tC (.int 1))) tNil))) (tC (.str ⟨q_x2ex2e.toArray⟩))) (tCB rStrI (tCons (tOp (rIx K) (tVar 0) (tC (.int 2))) tNil)))) tNext) (tSeq (tIfS (tTest (tOp (rEqX K) (tOp (rIx K) (tVar 0) (tC (.int 0))) (tC (.str ⟨q_text.toArray⟩)))) (tSeq (tIfS (tTest (tOp rIsX (tOp (rIx K) (tVar 0) (tC (.int 2))) (tC .non))) (tRet (tOp (rAddX K) (tC (.str ⟨q_text_.toArray⟩)) (tCB rStrI (tCons (tOp (rIx K) (tVar 0) (tC (.int 1))) tNil)))) tNext) (tRet (tOp (rAddX K) (tOp (rAddX K) (tOp (rAddX K) (tC (.str ⟨q_text_.toArray⟩)) (tCB rStrI (tCons (tOp (rIx K) (tVar 0) (tC (.int 1))) tNil))) (tC (.str ⟨q__without_.toArray⟩))) (tCallSD (sp__law_quote K) [] Ez (tCons (tOp (rIx K) (tVar 0) (tC (.int 2))) tNil))))) tNext) (tSeq (tIfS (tTest (tOp (rEqX K) (tOp (rIx K) (tVar 0) (tC (.int 0))) (tC (.str ⟨q_one.toArray⟩)))) (tRet (tOp (rAddX K) (tC (.str ⟨q_one_of_.toArray⟩)) (tM1 (rJoin K) (tC (.str ⟨q_x2c_.toArray⟩)) (tLc (iAny K (tOp (rIx K) (tVar 0) (tC (.int 1)))) (gName 1) tYes (tCallSD (sp__law_quote K) [] Ez (tCons (tVar 1) tNil)) [1])))) tNext) (tSeq (tAsg (tOp (rAddX K) (tOp (rAddX K) (tOp (rIx K) (tVar 0) (tC (.int 0))) (tC (.str ⟨q__.toArray⟩))) (tM1 (rJoin K) (tC (.str ⟨q__or_.toArray⟩)) (tOp (rIx K) (tVar 0) (tC (.int 1))))) (gName 1)) (C8.tCut (tIfS (tAnd (tTest (tOp (rEqX K) (tOp (rIx K) (tVar 0) (tC (.int 0))) (tC (.str ⟨q_ref.toArray⟩)))) (tTest (tOp (rNeX K) (tOp (rIx K) (tVar 0) (tC (.int 2))) (tC (.str ⟨q_clears.toArray⟩))))) (tAsg (tOp (rAddX K) (tOp (rAddX K) (tVar 1) (tC (.str ⟨q__.toArray⟩))) (tOp (rIx K) (tVar 0) (tC (.int 2)))) (gName 1)) tNext) (tRet (tVar 1)))))))
def sp__law_shape_text (K : PySem.W.Frag) : Sp := fun vs H Q E => vs.length = 1 ∧ t__law_shape_text K ⟨fun _ H' => Q .non H', Q, fun _ _ => False, fun _ _ => False⟩ (start ["_law_shape_here", "_law_text_here"] vs) H
/-- _law_field_text: 0 _law_field, 1 _law_text_here -/
def t__law_field_text (K : PySem.W.Frag) : TS :=
  (tSeq (tAsg (tOp (rAddX K) (tOp (rAddX K) (tOp (rIx K) (tVar 0) (tC (.int 0))) (tC (.str ⟨q_x3a_.toArray⟩))) (tCallSD (sp__law_shape_text K) [] Ez (tCons (tOp (rIx K) (tVar 0) (tC (.int 1))) tNil))) (gName 1)) (C8.tCut (tIfS (tTru K (tOp (rIx K) (tVar 0) (tC (.int 2)))) (tAsg (tOp (rAddX K) (tVar 1) (tC (.str ⟨q__not_null.toArray⟩))) (gName 1)) tNext) (tRet (tOp (rAddX K) (tVar 1) (tC (.str ⟨q_x3b.toArray⟩))))))
def sp__law_field_text (K : PySem.W.Frag) : Sp := fun vs H Q E => vs.length = 1 ∧ t__law_field_text K ⟨fun _ H' => Q .non H', Q, fun _ _ => False, fun _ _ => False⟩ (start ["_law_field", "_law_text_here"] vs) H
/-- _law_kind_text: 0 _law_kind_here, 1 _law_parts, 2 _law_field, 3 _law_row -/
def t__law_kind_text (K : PySem.W.Frag) : TS :=
  (tSeq (tAsg (tOp (rAddX K) (tLst (tCons (tC (.str ⟨q_kind.toArray⟩)) (tCons (tOp (rIx K) (tVar 0) (tC (.int 0))) (tCons (tC (.str ⟨q_x7b.toArray⟩)) tNil)))) (tLc (iAny K (tOp (rIx K) (tVar 0) (tC (.int 1)))) (gName 2) tYes (tCallSD (sp__law_field_text K) [] Ez (tCons (tVar 2) tNil)) [2])) (gName 1)) (tSeq (tAsg (tOp (rAddX K) (tOp (rAddX K) (tVar 1) (tLc (iAny K (tOp (rIx K) (tVar 0) (tC (.int 2)))) (gName 3) tYes (tOp (rAddX K) (tOp (rAddX K) (tC (.str ⟨q_key_.toArray⟩)) (tM1 (rJoin K) (tC (.str ⟨q_x2c_.toArray⟩)) (tVar 3))) (tC (.str ⟨q_x3b.toArray⟩))) [3])) (tLst (tCons (tC (.str ⟨q_x7d.toArray⟩)) tNil))) (gName 1)) (tRet (tM1 (rJoin K) (tC (.str ⟨q__.toArray⟩)) (tVar 1)))))
def sp__law_kind_text (K : PySem.W.Frag) : Sp := fun vs H Q E => vs.length = 1 ∧ t__law_kind_text K ⟨fun _ H' => Q .non H', Q, fun _ _ => False, fun _ _ => False⟩ (start ["_law_kind_here", "_law_parts", "_law_field", "_law_row"] vs) H
/-- _law_text: 0 _law_kinds, 1 _law_kind_here -/
def t__law_text (K : PySem.W.Frag) : TS :=
  (tRet (tM1 (rJoin K) (tC (.str ⟨q__.toArray⟩)) (tLc (iAny K (tVar 0)) (gName 1) tYes (tCallSD (sp__law_kind_text K) [] Ez (tCons (tVar 1) tNil)) [1])))
def sp__law_text (K : PySem.W.Frag) : Sp := fun vs H Q E => vs.length = 1 ∧ t__law_text K ⟨fun _ H' => Q .non H', Q, fun _ _ => False, fun _ _ => False⟩ (start ["_law_kinds", "_law_kind_here"] vs) H
/-- _law_draw: 0 _law_draws, 1 _law_bound, 2 _law_value -/
def t__law_draw (K : PySem.W.Frag) : TS :=
  (C8.tCut (tIfS (tAnd (tTest (tOp (rEqX K) (tOp (rIx K) (tVar 0) (tC (.int 0))) (tC (.int 0)))) (tTest (tOp rGtX (tCB (rLen K) (tCons (tVar 0) tNil)) (tC (.int 1))))) (tDrop (tBM K "list" (fun x vs H Q => rPop x vs H Q ∨ rPopAt x vs H Q) (tVar 0) (tCons (tC (.int 0)) tNil))) tNext) (tSeq (tAsg (tOp rModX (tCB rIntX (tCons (tOp (rIx K) (tVar 0) (tC (.int 0))) tNil)) (tVar 1)) (gName 2)) (tSeq (tAsg (tOp rDivX (tOp (rIx K) (tVar 0) (tC (.int 0))) (tVar 1)) (gSub (tVar 0) (tC (.int 0)) rSetL)) (tRet (tVar 2)))))
def sp__law_draw (K : PySem.W.Frag) : Sp := fun vs H Q E => vs.length = 2 ∧ t__law_draw K ⟨fun _ H' => Q .non H', Q, fun _ _ => False, fun _ _ => False⟩ (start ["_law_draws", "_law_bound", "_law_value"] vs) H
/-- _law_pick: 0 _law_draws, 1 _law_row -/
def t__law_pick (K : PySem.W.Frag) : TS :=
  (tRet (tOp (rIx K) (tVar 1) (tCallSD (sp__law_draw K) [] Ez (tCons (tVar 0) (tCons (tCB (rLen K) (tCons (tVar 1) tNil)) tNil)))))
def sp__law_pick (K : PySem.W.Frag) : Sp := fun vs H Q E => vs.length = 2 ∧ t__law_pick K ⟨fun _ H' => Q .non H', Q, fun _ _ => False, fun _ _ => False⟩ (start ["_law_draws", "_law_row"] vs) H
/-- _law_shape: 0 _law_draws, 1 _law_names, 2 _law_choice, 3 _law_low, 4 _law_start, 5 _law_told -/
def t__law_shape (K : PySem.W.Frag) : TS :=
  (tSeq (tAsg (tCallSD (sp__law_draw K) [] Ez (tCons (tVar 0) (tCons (tC (.int 6)) tNil))) (gName 2)) (tSeq (tIfS (tTest (tOp (rEqX K) (tVar 2) (tC (.int 0)))) (tSeq (tAsg (tOp rSubX (tCallSD (sp__law_draw K) [] Ez (tCons (tVar 0) (tCons (tC (.int 7)) tNil))) (tC (.int 3))) (gName 3)) (tRet (tTup (tCons (tC (.str ⟨q_int.toArray⟩)) (tCons (tVar 3) (tCons (tOp (rAddX K) (tVar 3) (tCallSD (sp__law_draw K) [] Ez (tCons (tVar 0) (tCons (tC (.int 5)) tNil)))) tNil)))))) tNext) (tSeq (tIfS (tTest (tOp (rEqX K) (tVar 2) (tC (.int 1)))) (tRet (tTup (tCons (tC (.str ⟨q_text.toArray⟩)) (tCons (tOp (rAddX K) (tC (.int 1)) (tCallSD (sp__law_draw K) [] Ez (tCons (tVar 0) (tCons (tC (.int 6)) tNil)))) (tCons (tCallSD (sp__law_pick K) [] Ez (tCons (tVar 0) (tCons (tLst (tCons (tC .non) (tCons (tC .non) (tCons (tC (.str ⟨q_x2c.toArray⟩)) (tCons (tC (.str ⟨q_x22.toArray⟩)) tNil))))) tNil))) tNil))))) tNext) (tSeq (tIfS (tTest (tOp (rEqX K) (tVar 2) (tC (.int 2)))) (tRet (tTup (tCons (tC (.str ⟨q_one.toArray⟩)) (tCons (tSl (rSlX K) (tLst (tCons (tC (.str ⟨q_a.toArray⟩)) (tCons (tC (.str ⟨q_b_c.toArray⟩)) (tCons (tC (.str ⟨q_x22.toArray⟩)) (tCons (tC (.str ⟨q_dx5c.toArray⟩)) tNil))))) tNoPart (tPart (tOp (rAddX K) (tC (.int 1)) (tCallSD (sp__law_draw K) [] Ez (tCons (tVar 0) (tCons (tC (.int 4)) tNil)))))) tNil)))) tNext) (tSeq (tAsg (tCallSD (sp__law_draw K) [] Ez (tCons (tVar 0) (tCons (tCB (rLen K) (tCons (tVar 1) tNil)) tNil))) (gName 4)) (tSeq (tAsg (tSl (rSlX K) (tOp (rAddX K) (tVar 1) (tVar 1)) (tPart (tVar 4)) (tPart (tOp (rAddX K) (tOp (rAddX K) (tVar 4) (tC (.int 1))) (tCallSD (sp__law_draw K) [] Ez (tCons (tVar 0) (tCons (tCB (rLen K) (tCons (tVar 1) tNil)) tNil)))))) (gName 5)) (tSeq (tIfS (tTest (tOp (rEqX K) (tVar 2) (tC (.int 3)))) (tRet (tTup (tCons (tC (.str ⟨q_list.toArray⟩)) (tCons (tVar 5) tNil)))) tNext) (tRet (tTup (tCons (tC (.str ⟨q_ref.toArray⟩)) (tCons (tVar 5) (tCons (tCallSD (sp__law_pick K) [] Ez (tCons (tVar 0) (tCons (tLst (tCons (tC (.str ⟨q_clears.toArray⟩)) (tCons (tC (.str ⟨q_refuses.toArray⟩)) (tCons (tC (.str ⟨q_takes.toArray⟩)) tNil)))) tNil))) tNil))))))))))))
def sp__law_shape (K : PySem.W.Frag) : Sp := fun vs H Q E => vs.length = 2 ∧ t__law_shape K ⟨fun _ H' => Q .non H', Q, fun _ _ => False, fun _ _ => False⟩ (start ["_law_draws", "_law_names", "_law_choice", "_law_low", "_law_start", "_law_told"] vs) H
/-- _law_kind: 0 _law_draws, 1 _law_name, 2 _law_names, 3 _law_fields, 4 _law_field, 5 _law_shape_here, 6 _law_free, 7 _law_rows, 8 _law_cut -/
def t__law_kind (K : PySem.W.Frag) : TS :=
  (tSeq (tAsg (tLst tNil) (gName 3)) (tSeq (tFor (iAny K (tSl (rSlX K) (tLst (tCons (tC (.str ⟨q_a.toArray⟩)) (tCons (tC (.str ⟨q_bx5f1.toArray⟩)) (tCons (tC (.str ⟨q_cC.toArray⟩)) (tCons (tC (.str ⟨q_d.toArray⟩)) tNil))))) tNoPart (tPart (tCallSD (sp__law_draw K) [] Ez (tCons (tVar 0) (tCons (tC (.int 5)) tNil)))))) (gName 4) (tSeq (tAsg (tCallSD (sp__law_shape K) [] Ez (tCons (tVar 0) (tCons (tVar 2) tNil))) (gName 5)) (tDrop (tBM K "list" rAppend (tVar 3) (tCons (tTup (tCons (tVar 4) (tCons (tVar 5) (tCons (tAndV (tOp (rNeX K) (tOp (rIx K) (tVar 5) (tC (.int 0))) (tC (.str ⟨q_list.toArray⟩))) (tOp (rEqX K) (tCallSD (sp__law_draw K) [] Ez (tCons (tVar 0) (tCons (tC (.int 3)) tNil))) (tC (.int 0)))) tNil)))) tNil))))) (tSeq (tAsg (tLc (iAny K (tVar 3)) (gName 4) (tTest (tOp (rNeX K) (tOp (rIx K) (tOp (rIx K) (tVar 4) (tC (.int 1))) (tC (.int 0))) (tC (.str ⟨q_list.toArray⟩)))) (tOp (rIx K) (tVar 4) (tC (.int 0))) [4]) (gName 6)) (tSeq (tAsg (tLst tNil) (gName 7)) (C8.tCut (tIfS (tAnd (tTest (tOp rGtX (tCB (rLen K) (tCons (tVar 6) tNil)) (tC (.int 0)))) (tTest (tOp (rEqX K) (tCallSD (sp__law_draw K) [] Ez (tCons (tVar 0) (tCons (tC (.int 2)) tNil))) (tC (.int 0))))) (tSeq (tAsg (tOp (rAddX K) (tC (.int 1)) (tCallSD (sp__law_draw K) [] Ez (tCons (tVar 0) (tCons (tCB (rLen K) (tCons (tVar 6) tNil)) tNil)))) (gName 8)) (tSeq (tDrop (tBM K "list" rAppend (tVar 7) (tCons (tSl (rSlX K) (tVar 6) tNoPart (tPart (tVar 8))) tNil))) (tIfS (tAnd (tTest (tOp (rLtX K) (tVar 8) (tCB (rLen K) (tCons (tVar 6) tNil)))) (tTest (tOp (rEqX K) (tCallSD (sp__law_draw K) [] Ez (tCons (tVar 0) (tCons (tC (.int 2)) tNil))) (tC (.int 0))))) (tDrop (tBM K "list" rAppend (tVar 7) (tCons (tSl (rSlX K) (tVar 6) (tPart (tVar 8)) tNoPart) tNil))) tNext))) tNext) (tRet (tTup (tCons (tVar 1) (tCons (tVar 3) (tCons (tVar 7) tNil))))))))))
def sp__law_kind (K : PySem.W.Frag) : Sp := fun vs H Q E => vs.length = 3 ∧ t__law_kind K ⟨fun _ H' => Q .non H', Q, fun _ _ => False, fun _ _ => False⟩ (start ["_law_draws", "_law_name", "_law_names", "_law_fields", "_law_field", "_law_shape_here", "_law_free", "_law_rows", "_law_cut"] vs) H
/-- _law_schema: 0 _law_draws, 1 _law_names, 2 _law_name -/
def t__law_schema (K : PySem.W.Frag) : TS :=
  (tSeq (tAsg (tSl (rSlX K) (tLst (tCons (tC (.str ⟨q_K.toArray⟩)) (tCons (tC (.str ⟨q_Ll.toArray⟩)) (tCons (tC (.str ⟨q_Mx5f2.toArray⟩)) tNil)))) tNoPart (tPart (tOp (rAddX K) (tC (.int 1)) (tCallSD (sp__law_draw K) [] Ez (tCons (tVar 0) (tCons (tC (.int 3)) tNil)))))) (gName 1)) (tRet (tLc (iAny K (tVar 1)) (gName 2) tYes (tCallSD (sp__law_kind K) [] Ez (tCons (tVar 0) (tCons (tVar 2) (tCons (tVar 1) tNil)))) [2])))
def sp__law_schema (K : PySem.W.Frag) : Sp := fun vs H Q E => vs.length = 1 ∧ t__law_schema K ⟨fun _ H' => Q .non H', Q, fun _ _ => False, fun _ _ => False⟩ (start ["_law_draws", "_law_names", "_law_name"] vs) H
/-- _law_changed: 0 _law_draws, 1 _law_text_here, 2 _law_at, 3 _law_size, 4 _law_choice -/
def t__law_changed (K : PySem.W.Frag) : TS :=
  (tSeq (tAsg (tCallSD (sp__law_draw K) [] Ez (tCons (tVar 0) (tCons (tOp (rAddX K) (tCB (rLen K) (tCons (tVar 1) tNil)) (tC (.int 1))) tNil))) (gName 2)) (tSeq (tAsg (tCallSD (sp__law_draw K) [] Ez (tCons (tVar 0) (tCons (tC (.int 4)) tNil))) (gName 3)) (tSeq (tAsg (tCallSD (sp__law_draw K) [] Ez (tCons (tVar 0) (tCons (tC (.int 3)) tNil))) (gName 4)) (tSeq (tIfS (tTest (tOp (rEqX K) (tVar 4) (tC (.int 0)))) (tRet (tOp (rAddX K) (tSl (rSlX K) (tVar 1) tNoPart (tPart (tVar 2))) (tSl (rSlX K) (tVar 1) (tPart (tOp (rAddX K) (tVar 2) (tVar 3))) tNoPart))) tNext) (tSeq (tIfS (tTest (tOp (rEqX K) (tVar 4) (tC (.int 1)))) (tRet (tOp (rAddX K) (tOp (rAddX K) (tSl (rSlX K) (tVar 1) tNoPart (tPart (tVar 2))) (tSl (rSlX K) (tVar 1) (tPart (tVar 2)) (tPart (tOp (rAddX K) (tVar 2) (tVar 3))))) (tSl (rSlX K) (tVar 1) (tPart (tVar 2)) tNoPart))) tNext) (tRet (tOp (rAddX K) (tOp (rAddX K) (tSl (rSlX K) (tVar 1) tNoPart (tPart (tVar 2))) (tOp (rIx K) (tC (.str ⟨q_aK0x2dx2ex3bx3ax2cx7bx7dx22_x5c19x5fxx3dor.toArray⟩)) (tCallSD (sp__law_draw K) [] Ez (tCons (tVar 0) (tCons (tC (.int 20)) tNil))))) (tSl (rSlX K) (tVar 1) (tPart (tOp (rAddX K) (tVar 2) (tC (.int 1)))) tNoPart))))))))
def sp__law_changed (K : PySem.W.Frag) : Sp := fun vs H Q E => vs.length = 2 ∧ t__law_changed K ⟨fun _ H' => Q .non H', Q, fun _ _ => False, fun _ _ => False⟩ (start ["_law_draws", "_law_text_here", "_law_at", "_law_size", "_law_choice"] vs) H
/-- Reader.__init__: 0 self, 1 row, 2 reserved -/
def t_Reader_init (K : PySem.W.Frag) : TS :=
  (tSeq (sFld K (tVar 0) (tVar 1) ("row" : Str)) (tSeq (sFld K (tVar 0) (tC (.int 0)) ("at" : Str)) (sFld K (tVar 0) (tVar 2) ("reserved" : Str))))
def sp_Reader_init (K : PySem.W.Frag) : Sp := fun vs H Q E => vs.length = 3 ∧ t_Reader_init K ⟨fun _ H' => Q .non H', Q, fun _ _ => False, fun _ _ => False⟩ (start ["self", "row", "reserved"] vs) H
/-- word_end: 0 text, 1 place -/
def t_word_end (K : PySem.W.Frag) : TS :=
  (tSeq (tWhile (tAnd (tTest (tOp (rLtX K) (tVar 1) (tCB (rLen K) (tCons (tVar 0) tNil)))) (tOr (tTest (tOp (rInX K) (tOp (rIx K) (tVar 0) (tVar 1)) (tC k_LETTERS))) (tOr (tTest (tOp (rInX K) (tOp (rIx K) (tVar 0) (tVar 1)) (tC k_DIGITS))) (tTest (tOp (rEqX K) (tOp (rIx K) (tVar 0) (tVar 1)) (tC (.str ⟨q_x5f.toArray⟩))))))) (tAsg (tOp (rAddX K) (tVar 1) (tC (.int 1))) (gName 1))) (tRet (tVar 1)))
def sp_word_end (K : PySem.W.Frag) : Sp := fun vs H Q E => vs.length = 2 ∧ t_word_end K ⟨fun _ H' => Q .non H', Q, fun _ _ => False, fun _ _ => False⟩ (start ["text", "place"] vs) H
/-- Token.__init__: 0 self, 1 role, 2 text, 3 place -/
def t_Token_init (K : PySem.W.Frag) : TS :=
  (tSeq (sFld K (tVar 0) (tVar 1) ("role" : Str)) (tSeq (sFld K (tVar 0) (tVar 2) ("text" : Str)) (sFld K (tVar 0) (tVar 3) ("place" : Str))))
def sp_Token_init (K : PySem.W.Frag) : Sp := fun vs H Q E => vs.length = 4 ∧ t_Token_init K ⟨fun _ H' => Q .non H', Q, fun _ _ => False, fun _ _ => False⟩ (start ["self", "role", "text", "place"] vs) H
/-- read_word: 0 text, 1 place, 2 stop -/
def t_read_word (K : PySem.W.Frag) (W : WX) : TS :=
  (tSeq (tAsg (tCallSD (sp_word_end K) [] Ez (tCons (tVar 0) (tCons (tVar 1) tNil))) (gName 2)) (tSeq (tIfS (tTest (tOp rGtX (tOp rSubX (tVar 2) (tVar 1)) (tC k_WORD_LENGTH))) (tRaiseF (He.ga K "Fault") W (tCons (tVar 1) (tCons (tC (.str ⟨q_word_too_long.toArray⟩)) tNil))) tNext) (tRet (tMake (He.ga K ("Token" : Str)) (sp_Token_init K) [] E0 (tCons (tC (.str ⟨q_word.toArray⟩)) (tCons (tSl (rSlX K) (tVar 0) (tPart (tVar 1)) (tPart (tVar 2))) (tCons (tVar 1) tNil)))))))
def sp_read_word (K : PySem.W.Frag) : Sp := fun vs H Q E => vs.length = 2 ∧ t_read_word K (fun cls d _ H => E cls d H) ⟨fun _ H' => Q .non H', Q, fun _ _ => False, fun _ _ => False⟩ (start ["text", "place", "stop"] vs) H
/-- digits_end: 0 text, 1 place -/
def t_digits_end (K : PySem.W.Frag) : TS :=
  (tSeq (tWhile (tAnd (tTest (tOp (rLtX K) (tVar 1) (tCB (rLen K) (tCons (tVar 0) tNil)))) (tTest (tOp (rInX K) (tOp (rIx K) (tVar 0) (tVar 1)) (tC k_DIGITS)))) (tAsg (tOp (rAddX K) (tVar 1) (tC (.int 1))) (gName 1))) (tRet (tVar 1)))
def sp_digits_end (K : PySem.W.Frag) : Sp := fun vs H Q E => vs.length = 2 ∧ t_digits_end K ⟨fun _ H' => Q .non H', Q, fun _ _ => False, fun _ _ => False⟩ (start ["text", "place"] vs) H
/-- read_number: 0 text, 1 place, 2 stop -/
def t_read_number (K : PySem.W.Frag) (W : WX) : TS :=
  (tSeq (tAsg (tCallSD (sp_digits_end K) [] Ez (tCons (tVar 0) (tCons (tVar 1) tNil))) (gName 2)) (tSeq (tIfS (tAnd (tTest (tOp rGtX (tOp rSubX (tVar 2) (tVar 1)) (tC (.int 1)))) (tTest (tOp (rEqX K) (tOp (rIx K) (tVar 0) (tVar 1)) (tC (.str ⟨q_0.toArray⟩))))) (tRaiseF (He.ga K "Fault") W (tCons (tVar 1) (tCons (tC (.str ⟨q_needless_zero.toArray⟩)) tNil))) tNext) (tSeq (tIfS (tTest (tOp rGtX (tOp rSubX (tVar 2) (tVar 1)) (tC k_NUMBER_LENGTH))) (tRaiseF (He.ga K "Fault") W (tCons (tVar 1) (tCons (tC (.str ⟨q_number_too_long.toArray⟩)) tNil))) tNext) (tSeq (tIfS (tTest (tOp rGtX (tCallSD (sp_word_end K) [] Ez (tCons (tVar 0) (tCons (tVar 2) tNil))) (tVar 2))) (tRaiseF (He.ga K "Fault") W (tCons (tVar 2) (tCons (tC (.str ⟨q_unexpected_sign.toArray⟩)) tNil))) tNext) (tRet (tMake (He.ga K ("Token" : Str)) (sp_Token_init K) [] E0 (tCons (tC (.str ⟨q_number.toArray⟩)) (tCons (tSl (rSlX K) (tVar 0) (tPart (tVar 1)) (tPart (tVar 2))) (tCons (tVar 1) tNil)))))))))
def sp_read_number (K : PySem.W.Frag) : Sp := fun vs H Q E => vs.length = 2 ∧ t_read_number K (fun cls d _ H => E cls d H) ⟨fun _ H' => Q .non H', Q, fun _ _ => False, fun _ _ => False⟩ (start ["text", "place", "stop"] vs) H
/-- read_quoted: 0 text, 1 place, 2 signs, 3 at, 4 sign -/
def t_read_quoted (K : PySem.W.Frag) (W : WX) : TS :=
  (tSeq (tAsg (tLst tNil) (gName 2)) (tSeq (tAsg (tOp (rAddX K) (tVar 1) (tC (.int 1))) (gName 3)) (tSeq (tWhile (tTest (tOp (rLtX K) (tVar 3) (tCB (rLen K) (tCons (tVar 0) tNil)))) (tSeq (tAsg (tOp (rIx K) (tVar 0) (tVar 3)) (gName 4)) (tSeq (tIfS (tTest (tOp (rEqX K) (tVar 4) (tC (.str ⟨q_x22.toArray⟩)))) (tRet (tTup (tCons (tMake (He.ga K ("Token" : Str)) (sp_Token_init K) [] E0 (tCons (tC (.str ⟨q_text.toArray⟩)) (tCons (tM1 (rJoin K) (tC (.str ⟨q_empty.toArray⟩)) (tVar 2)) (tCons (tVar 1) tNil)))) (tCons (tOp (rAddX K) (tVar 3) (tC (.int 1))) tNil)))) tNext) (C8.tCut (tIfS (tTest (tOp (rEqX K) (tVar 4) (tC (.str ⟨q_x5c.toArray⟩)))) (tSeq (tAsg (tOp (rAddX K) (tVar 3) (tC (.int 1))) (gName 3)) (tSeq (tIfS (tTest (tOp (rEqX K) (tVar 3) (tCB (rLen K) (tCons (tVar 0) tNil)))) tBreak tNext) (tSeq (tAsg (tOp (rIx K) (tVar 0) (tVar 3)) (gName 4)) (tIfS (tTest (tOp (rNotInX K) (tVar 4) (tTup (tCons (tC (.str ⟨q_x22.toArray⟩)) (tCons (tC (.str ⟨q_x5c.toArray⟩)) tNil))))) (tRaiseF (He.ga K "Fault") W (tCons (tVar 3) (tCons (tC (.str ⟨q_unexpected_sign.toArray⟩)) tNil))) tNext)))) tNext) (tSeq (tDrop (tBM K "list" rAppend (tVar 2) (tCons (tVar 4) tNil))) (tAsg (tOp (rAddX K) (tVar 3) (tC (.int 1))) (gName 3))))))) (tRaiseF (He.ga K "Fault") W (tCons (tVar 1) (tCons (tC (.str ⟨q_text_is_not_closed.toArray⟩)) tNil))))))
def sp_read_quoted (K : PySem.W.Frag) : Sp := fun vs H Q E => vs.length = 2 ∧ t_read_quoted K (fun cls d _ H => E cls d H) ⟨fun _ H' => Q .non H', Q, fun _ _ => False, fun _ _ => False⟩ (start ["text", "place", "signs", "at", "sign"] vs) H
/-- read_sign: 0 text, 1 place, 2 signs, 3 found, 4 sign -/
def t_read_sign (K : PySem.W.Frag) (W : WX) : TS :=
  (tSeq (tAsg (tC (.str ⟨q_empty.toArray⟩)) (gName 3)) (tSeq (tFor (iAny K (tVar 2)) (gName 4) (tIfS (tAnd (tTru K (tBM K "str" rStarts3 (tVar 0) (tCons (tVar 4) (tCons (tVar 1) tNil)))) (tTest (tOp rGtX (tCB (rLen K) (tCons (tVar 4) tNil)) (tCB (rLen K) (tCons (tVar 3) tNil))))) (tAsg (tVar 4) (gName 3)) tNext)) (tSeq (tIfS (tTest (tOp (rEqX K) (tVar 3) (tC (.str ⟨q_empty.toArray⟩)))) (tRaiseF (He.ga K "Fault") W (tCons (tVar 1) (tCons (tC (.str ⟨q_unexpected_sign.toArray⟩)) tNil))) tNext) (tRet (tMake (He.ga K ("Token" : Str)) (sp_Token_init K) [] E0 (tCons (tC (.str ⟨q_sign.toArray⟩)) (tCons (tVar 3) (tCons (tVar 1) tNil))))))))
def sp_read_sign (K : PySem.W.Frag) : Sp := fun vs H Q E => vs.length = 3 ∧ t_read_sign K (fun cls d _ H => E cls d H) ⟨fun _ H' => Q .non H', Q, fun _ _ => False, fun _ _ => False⟩ (start ["text", "place", "signs", "found", "sign"] vs) H
/-- tokens: 0 text, 1 signs, 2 longest, 3 row, 4 place, 5 sign, 6 token -/
def t_tokens (K : PySem.W.Frag) (W : WX) : TS :=
  (tSeq (tIfS (tTest (tOp rGtX (tCB (rLen K) (tCons (tVar 0) tNil)) (tVar 2))) (tRaiseF (He.ga K "Fault") W (tCons (tC (.int 0)) (tCons (tC (.str ⟨q_text_too_long.toArray⟩)) tNil))) tNext) (tSeq (tAsg (tLst tNil) (gName 3)) (tSeq (tAsg (tC (.int 0)) (gName 4)) (tSeq (tWhile (tTest (tOp (rLtX K) (tVar 4) (tCB (rLen K) (tCons (tVar 0) tNil)))) (tSeq (tAsg (tOp (rIx K) (tVar 0) (tVar 4)) (gName 5)) (tIfS (tTest (tOp (rEqX K) (tVar 5) (tC (.str ⟨q__.toArray⟩)))) (tAsg (tOp (rAddX K) (tVar 4) (tC (.int 1))) (gName 4)) (tIfS (tTest (tOp (rInX K) (tVar 5) (tC k_LETTERS))) (tSeq (tAsg (tCallSD (sp_read_word K) [] (WE W) (tCons (tVar 0) (tCons (tVar 4) tNil))) (gName 6)) (tSeq (tDrop (tBM K "list" rAppend (tVar 3) (tCons (tVar 6) tNil))) (tAsg (tOp (rAddX K) (tVar 4) (tCB (rLen K) (tCons (tFld K (tVar 6) ("text" : Str)) tNil))) (gName 4)))) (tIfS (tTest (tOp (rInX K) (tVar 5) (tC k_DIGITS))) (tSeq (tAsg (tCallSD (sp_read_number K) [] (WE W) (tCons (tVar 0) (tCons (tVar 4) tNil))) (gName 6)) (tSeq (tDrop (tBM K "list" rAppend (tVar 3) (tCons (tVar 6) tNil))) (tAsg (tOp (rAddX K) (tVar 4) (tCB (rLen K) (tCons (tFld K (tVar 6) ("text" : Str)) tNil))) (gName 4)))) (tIfS (tTest (tOp (rEqX K) (tVar 5) (tC (.str ⟨q_x22.toArray⟩)))) (tSeq (tAsg (tCallSD (sp_read_quoted K) [] (WE W) (tCons (tVar 0) (tCons (tVar 4) tNil))) (gTup K 2 (gCons (gName 6) (gCons (gName 4) gNil)))) (tDrop (tBM K "list" rAppend (tVar 3) (tCons (tVar 6) tNil)))) (tSeq (tAsg (tCallSD (sp_read_sign K) [] (WE W) (tCons (tVar 0) (tCons (tVar 4) (tCons (tVar 1) tNil)))) (gName 6)) (tSeq (tDrop (tBM K "list" rAppend (tVar 3) (tCons (tVar 6) tNil))) (tAsg (tOp (rAddX K) (tVar 4) (tCB (rLen K) (tCons (tFld K (tVar 6) ("text" : Str)) tNil))) (gName 4)))))))))) (tSeq (tDrop (tBM K "list" rAppend (tVar 3) (tCons (tMake (He.ga K ("Token" : Str)) (sp_Token_init K) [] E0 (tCons (tC (.str ⟨q_end.toArray⟩)) (tCons (tC (.str ⟨q_empty.toArray⟩)) (tCons (tCB (rLen K) (tCons (tVar 0) tNil)) tNil)))) tNil))) (tRet (tVar 3)))))))
def sp_tokens (K : PySem.W.Frag) : Sp := fun vs H Q E => vs.length = 3 ∧ t_tokens K (fun cls d _ H => E cls d H) ⟨fun _ H' => Q .non H', Q, fun _ _ => False, fun _ _ => False⟩ (start ["text", "signs", "longest", "row", "place", "sign", "token"] vs) H
/-- Reader.now: 0 self -/
def t_Reader_now (K : PySem.W.Frag) : TS :=
  (tRet (tOp (rIx K) (tFld K (tVar 0) ("row" : Str)) (tFld K (tVar 0) ("at" : Str))))
def sp_Reader_now (K : PySem.W.Frag) : Sp := fun vs H Q E => vs.length = 1 ∧ t_Reader_now K ⟨fun _ H' => Q .non H', Q, fun _ _ => False, fun _ _ => False⟩ (start ["self"] vs) H
/-- Reader.is_word: 0 self, 1 text -/
def t_Reader_is_word (K : PySem.W.Frag) : TS :=
  (tRet (tAndV (tOp (rEqX K) (tFld K (tProp (He.ga K ("Reader" : Str)) (sp_Reader_now K) [] E0 (tVar 0)) ("role" : Str)) (tC (.str ⟨q_word.toArray⟩))) (tOp (rEqX K) (tFld K (tProp (He.ga K ("Reader" : Str)) (sp_Reader_now K) [] E0 (tVar 0)) ("text" : Str)) (tVar 1))))
def sp_Reader_is_word (K : PySem.W.Frag) : Sp := fun vs H Q E => vs.length = 2 ∧ t_Reader_is_word K ⟨fun _ H' => Q .non H', Q, fun _ _ => False, fun _ _ => False⟩ (start ["self", "text"] vs) H
/-- Reader.step: 0 self, 1 token -/
def t_Reader_step (K : PySem.W.Frag) : TS :=
  (tSeq (tAsg (tOp (rIx K) (tFld K (tVar 0) ("row" : Str)) (tFld K (tVar 0) ("at" : Str))) (gName 1)) (C8.tCut (tIfS (tTest (tOp (rLtX K) (tFld K (tVar 0) ("at" : Str)) (tOp rSubX (tCB (rLen K) (tCons (tFld K (tVar 0) ("row" : Str)) tNil)) (tC (.int 1))))) (sFld K (tVar 0) (tOp (rAddX K) (tFld K (tVar 0) ("at" : Str)) (tC (.int 1))) ("at" : Str)) tNext) (tRet (tVar 1))))
def sp_Reader_step (K : PySem.W.Frag) : Sp := fun vs H Q E => vs.length = 1 ∧ t_Reader_step K ⟨fun _ H' => Q .non H', Q, fun _ _ => False, fun _ _ => False⟩ (start ["self", "token"] vs) H
/-- Reader.take_word: 0 self, 1 text -/
def t_Reader_take_word (K : PySem.W.Frag) (W : WX) : TS :=
  (tSeq (tIfS (tNot (tTru K (tMethD (He.ga K ("Reader" : Str)) ("is_word" : Str) (sp_Reader_is_word K) [] Ez (tVar 0) (tCons (tVar 1) tNil)))) (tRaiseF (He.ga K "Fault") W (tCons (tFld K (tProp (He.ga K ("Reader" : Str)) (sp_Reader_now K) [] E0 (tVar 0)) ("place" : Str)) (tCons (tOp (rAddX K) (tC (.str ⟨q_expected_.toArray⟩)) (tVar 1)) tNil))) tNext) (tRet (tMethD (He.ga K ("Reader" : Str)) ("step" : Str) (sp_Reader_step K) [] Ez (tVar 0) tNil)))
def sp_Reader_take_word (K : PySem.W.Frag) : Sp := fun vs H Q E => vs.length = 2 ∧ t_Reader_take_word K (fun cls d _ H => E cls d H) ⟨fun _ H' => Q .non H', Q, fun _ _ => False, fun _ _ => False⟩ (start ["self", "text"] vs) H
/-- KindPlace.__init__: 0 self, 1 token -/
def t_KindPlace_init (K : PySem.W.Frag) : TS :=
  (tSeq (sFld K (tVar 0) (tVar 1) ("token" : Str)) (tSeq (sFld K (tVar 0) (tLst tNil) ("fields" : Str)) (sFld K (tVar 0) (tLst tNil) ("keys_read" : Str))))
def sp_KindPlace_init (K : PySem.W.Frag) : Sp := fun vs H Q E => vs.length = 2 ∧ t_KindPlace_init K ⟨fun _ H' => Q .non H', Q, fun _ _ => False, fun _ _ => False⟩ (start ["self", "token"] vs) H
/-- Reader.is_name: 0 self -/
def t_Reader_is_name (K : PySem.W.Frag) : TS :=
  (tRet (tAndV (tOp (rEqX K) (tFld K (tProp (He.ga K ("Reader" : Str)) (sp_Reader_now K) [] E0 (tVar 0)) ("role" : Str)) (tC (.str ⟨q_word.toArray⟩))) (tOp (rNotInX K) (tFld K (tProp (He.ga K ("Reader" : Str)) (sp_Reader_now K) [] E0 (tVar 0)) ("text" : Str)) (tFld K (tVar 0) ("reserved" : Str)))))
def sp_Reader_is_name (K : PySem.W.Frag) : Sp := fun vs H Q E => vs.length = 1 ∧ t_Reader_is_name K ⟨fun _ H' => Q .non H', Q, fun _ _ => False, fun _ _ => False⟩ (start ["self"] vs) H
/-- Reader.take_kind: 0 self -/
def t_Reader_take_kind (K : PySem.W.Frag) (W : WX) : TS :=
  (tSeq (tIfS (tOr (tNot (tTru K (tMethD (He.ga K ("Reader" : Str)) ("is_name" : Str) (sp_Reader_is_name K) [] Ez (tVar 0) tNil))) (tTest (tOp (rNotInX K) (tOp (rIx K) (tFld K (tProp (He.ga K ("Reader" : Str)) (sp_Reader_now K) [] E0 (tVar 0)) ("text" : Str)) (tC (.int 0))) (tC k_GREAT)))) (tRaiseF (He.ga K "Fault") W (tCons (tFld K (tProp (He.ga K ("Reader" : Str)) (sp_Reader_now K) [] E0 (tVar 0)) ("place" : Str)) (tCons (tC (.str ⟨q_expected_a_kind.toArray⟩)) tNil))) tNext) (tRet (tMethD (He.ga K ("Reader" : Str)) ("step" : Str) (sp_Reader_step K) [] Ez (tVar 0) tNil)))
def sp_Reader_take_kind (K : PySem.W.Frag) : Sp := fun vs H Q E => vs.length = 1 ∧ t_Reader_take_kind K (fun cls d _ H => E cls d H) ⟨fun _ H' => Q .non H', Q, fun _ _ => False, fun _ _ => False⟩ (start ["self"] vs) H
/-- Reader.is_sign: 0 self, 1 text -/
def t_Reader_is_sign (K : PySem.W.Frag) : TS :=
  (tRet (tAndV (tOp (rEqX K) (tFld K (tProp (He.ga K ("Reader" : Str)) (sp_Reader_now K) [] E0 (tVar 0)) ("role" : Str)) (tC (.str ⟨q_sign.toArray⟩))) (tOp (rEqX K) (tFld K (tProp (He.ga K ("Reader" : Str)) (sp_Reader_now K) [] E0 (tVar 0)) ("text" : Str)) (tVar 1))))
def sp_Reader_is_sign (K : PySem.W.Frag) : Sp := fun vs H Q E => vs.length = 2 ∧ t_Reader_is_sign K ⟨fun _ H' => Q .non H', Q, fun _ _ => False, fun _ _ => False⟩ (start ["self", "text"] vs) H
/-- Reader.take_sign: 0 self, 1 text -/
def t_Reader_take_sign (K : PySem.W.Frag) (W : WX) : TS :=
  (tSeq (tIfS (tNot (tTru K (tMethD (He.ga K ("Reader" : Str)) ("is_sign" : Str) (sp_Reader_is_sign K) [] Ez (tVar 0) (tCons (tVar 1) tNil)))) (tRaiseF (He.ga K "Fault") W (tCons (tFld K (tProp (He.ga K ("Reader" : Str)) (sp_Reader_now K) [] E0 (tVar 0)) ("place" : Str)) (tCons (tOp (rAddX K) (tC (.str ⟨q_expected_.toArray⟩)) (tVar 1)) tNil))) tNext) (tRet (tMethD (He.ga K ("Reader" : Str)) ("step" : Str) (sp_Reader_step K) [] Ez (tVar 0) tNil)))
def sp_Reader_take_sign (K : PySem.W.Frag) : Sp := fun vs H Q E => vs.length = 2 ∧ t_Reader_take_sign K (fun cls d _ H => E cls d H) ⟨fun _ H' => Q .non H', Q, fun _ _ => False, fun _ _ => False⟩ (start ["self", "text"] vs) H
/-- Reader.take_field: 0 self -/
def t_Reader_take_field (K : PySem.W.Frag) (W : WX) : TS :=
  (tSeq (tIfS (tOr (tNot (tTru K (tMethD (He.ga K ("Reader" : Str)) ("is_name" : Str) (sp_Reader_is_name K) [] Ez (tVar 0) tNil))) (tTest (tOp (rInX K) (tOp (rIx K) (tFld K (tProp (He.ga K ("Reader" : Str)) (sp_Reader_now K) [] E0 (tVar 0)) ("text" : Str)) (tC (.int 0))) (tC k_GREAT)))) (tRaiseF (He.ga K "Fault") W (tCons (tFld K (tProp (He.ga K ("Reader" : Str)) (sp_Reader_now K) [] E0 (tVar 0)) ("place" : Str)) (tCons (tC (.str ⟨q_expected_a_field.toArray⟩)) tNil))) tNext) (tRet (tMethD (He.ga K ("Reader" : Str)) ("step" : Str) (sp_Reader_step K) [] Ez (tVar 0) tNil)))
def sp_Reader_take_field (K : PySem.W.Frag) : Sp := fun vs H Q E => vs.length = 1 ∧ t_Reader_take_field K (fun cls d _ H => E cls d H) ⟨fun _ H' => Q .non H', Q, fun _ _ => False, fun _ _ => False⟩ (start ["self"] vs) H
/-- read_key: 0 reader, 1 row -/
def t_read_key (K : PySem.W.Frag) (W : WX) : TS :=
  (tSeq (tAsg (tLst (tCons (tMethD (He.ga K ("Reader" : Str)) ("take_field" : Str) (sp_Reader_take_field K) [] (WE W) (tVar 0) tNil) tNil)) (gName 1)) (tSeq (tWhile (tTru K (tMethD (He.ga K ("Reader" : Str)) ("is_sign" : Str) (sp_Reader_is_sign K) [] Ez (tVar 0) (tCons (tC (.str ⟨q_x2c.toArray⟩)) tNil))) (tSeq (tDrop (tMethD (He.ga K ("Reader" : Str)) ("step" : Str) (sp_Reader_step K) [] Ez (tVar 0) tNil)) (tDrop (tBM K "list" rAppend (tVar 1) (tCons (tMethD (He.ga K ("Reader" : Str)) ("take_field" : Str) (sp_Reader_take_field K) [] (WE W) (tVar 0) tNil) tNil))))) (tSeq (tDrop (tMethD (He.ga K ("Reader" : Str)) ("take_sign" : Str) (sp_Reader_take_sign K) [] (WE W) (tVar 0) (tCons (tC (.str ⟨q_x3b.toArray⟩)) tNil))) (tRet (tVar 1)))))
def sp_read_key (K : PySem.W.Frag) : Sp := fun vs H Q E => vs.length = 1 ∧ t_read_key K (fun cls d _ H => E cls d H) ⟨fun _ H' => Q .non H', Q, fun _ _ => False, fun _ _ => False⟩ (start ["reader", "row"] vs) H
/-- Reader.take_number: 0 self -/
def t_Reader_take_number (K : PySem.W.Frag) (W : WX) : TS :=
  (tSeq (tIfS (tTest (tOp (rNeX K) (tFld K (tProp (He.ga K ("Reader" : Str)) (sp_Reader_now K) [] E0 (tVar 0)) ("role" : Str)) (tC (.str ⟨q_number.toArray⟩)))) (tRaiseF (He.ga K "Fault") W (tCons (tFld K (tProp (He.ga K ("Reader" : Str)) (sp_Reader_now K) [] E0 (tVar 0)) ("place" : Str)) (tCons (tC (.str ⟨q_expected_a_number.toArray⟩)) tNil))) tNext) (tRet (tMethD (He.ga K ("Reader" : Str)) ("step" : Str) (sp_Reader_step K) [] Ez (tVar 0) tNil)))
def sp_Reader_take_number (K : PySem.W.Frag) : Sp := fun vs H Q E => vs.length = 1 ∧ t_Reader_take_number K (fun cls d _ H => E cls d H) ⟨fun _ H' => Q .non H', Q, fun _ _ => False, fun _ _ => False⟩ (start ["self"] vs) H
/-- Reader.take_integer: 0 self, 1 sign -/
def t_Reader_take_integer (K : PySem.W.Frag) (W : WX) : TS :=
  (tSeq (tAsg (tC (.int 1)) (gName 1)) (C8.tCut (tIfS (tTru K (tMethD (He.ga K ("Reader" : Str)) ("is_sign" : Str) (sp_Reader_is_sign K) [] Ez (tVar 0) (tCons (tC (.str ⟨q_x2d.toArray⟩)) tNil))) (tSeq (tDrop (tMethD (He.ga K ("Reader" : Str)) ("step" : Str) (sp_Reader_step K) [] Ez (tVar 0) tNil)) (tAsg (tUn (rU fun i => .int (-i)) (tC (.int 1))) (gName 1))) tNext) (tRet (tOp rMulX (tVar 1) (tCB rIntX (tCons (tFld K (tMethD (He.ga K ("Reader" : Str)) ("take_number" : Str) (sp_Reader_take_number K) [] (WE W) (tVar 0) tNil) ("text" : Str)) tNil))))))
def sp_Reader_take_integer (K : PySem.W.Frag) : Sp := fun vs H Q E => vs.length = 1 ∧ t_Reader_take_integer K (fun cls d _ H => E cls d H) ⟨fun _ H' => Q .non H', Q, fun _ _ => False, fun _ _ => False⟩ (start ["self", "sign"] vs) H
/-- IntSort.__init__: 0 self, 1 low, 2 high -/
def t_IntSort_init (K : PySem.W.Frag) : TS :=
  (tSeq (sFld K (tVar 0) (tVar 1) ("low" : Str)) (sFld K (tVar 0) (tVar 2) ("high" : Str)))
def sp_IntSort_init (K : PySem.W.Frag) : Sp := fun vs H Q E => vs.length = 3 ∧ t_IntSort_init K ⟨fun _ H' => Q .non H', Q, fun _ _ => False, fun _ _ => False⟩ (start ["self", "low", "high"] vs) H
/-- read_int: 0 reader, 1 place, 2 low, 3 high -/
def t_read_int (K : PySem.W.Frag) (W : WX) : TS :=
  (tSeq (tAsg (tFld K (tProp (He.ga K ("Reader" : Str)) (sp_Reader_now K) [] E0 (tVar 0)) ("place" : Str)) (gName 1)) (tSeq (tAsg (tMethD (He.ga K ("Reader" : Str)) ("take_integer" : Str) (sp_Reader_take_integer K) [] (WE W) (tVar 0) tNil) (gName 2)) (tSeq (tDrop (tMethD (He.ga K ("Reader" : Str)) ("take_sign" : Str) (sp_Reader_take_sign K) [] (WE W) (tVar 0) (tCons (tC (.str ⟨q_x2ex2e.toArray⟩)) tNil))) (tSeq (tAsg (tMethD (He.ga K ("Reader" : Str)) ("take_integer" : Str) (sp_Reader_take_integer K) [] (WE W) (tVar 0) tNil) (gName 3)) (tSeq (tIfS (tOr (tTest (tOp rGtX (tVar 2) (tVar 3))) (tOr (tTest (tOp (rLtX K) (tVar 2) (tUn (rU fun i => .int (-i)) (tC k_LARGEST)))) (tTest (tOp rGtX (tVar 3) (tC k_LARGEST))))) (tRaiseF (He.ga K "Fault") W (tCons (tVar 1) (tCons (tC (.str ⟨q_bad_bounds.toArray⟩)) tNil))) tNext) (tRet (tMake (He.ga K ("IntSort" : Str)) (sp_IntSort_init K) [] E0 (tCons (tVar 2) (tCons (tVar 3) tNil)))))))))
def sp_read_int (K : PySem.W.Frag) : Sp := fun vs H Q E => vs.length = 1 ∧ t_read_int K (fun cls d _ H => E cls d H) ⟨fun _ H' => Q .non H', Q, fun _ _ => False, fun _ _ => False⟩ (start ["reader", "place", "low", "high"] vs) H
/-- TextSort.__init__: 0 self, 1 longest, 2 without -/
def t_TextSort_init (K : PySem.W.Frag) : TS :=
  (tSeq (sFld K (tVar 0) (tVar 1) ("longest" : Str)) (sFld K (tVar 0) (tVar 2) ("without" : Str)))
def sp_TextSort_init (K : PySem.W.Frag) : Sp := fun vs H Q E => vs.length = 3 ∧ t_TextSort_init K ⟨fun _ H' => Q .non H', Q, fun _ _ => False, fun _ _ => False⟩ (start ["self", "longest", "without"] vs) H
/-- Reader.take_text: 0 self -/
def t_Reader_take_text (K : PySem.W.Frag) (W : WX) : TS :=
  (tSeq (tIfS (tTest (tOp (rNeX K) (tFld K (tProp (He.ga K ("Reader" : Str)) (sp_Reader_now K) [] E0 (tVar 0)) ("role" : Str)) (tC (.str ⟨q_text.toArray⟩)))) (tRaiseF (He.ga K "Fault") W (tCons (tFld K (tProp (He.ga K ("Reader" : Str)) (sp_Reader_now K) [] E0 (tVar 0)) ("place" : Str)) (tCons (tC (.str ⟨q_expected_a_text.toArray⟩)) tNil))) tNext) (tRet (tMethD (He.ga K ("Reader" : Str)) ("step" : Str) (sp_Reader_step K) [] Ez (tVar 0) tNil)))
def sp_Reader_take_text (K : PySem.W.Frag) : Sp := fun vs H Q E => vs.length = 1 ∧ t_Reader_take_text K (fun cls d _ H => E cls d H) ⟨fun _ H' => Q .non H', Q, fun _ _ => False, fun _ _ => False⟩ (start ["self"] vs) H
/-- read_text_sort: 0 reader, 1 token, 2 longest -/
def t_read_text_sort (K : PySem.W.Frag) (W : WX) : TS :=
  (tSeq (tAsg (tMethD (He.ga K ("Reader" : Str)) ("take_number" : Str) (sp_Reader_take_number K) [] (WE W) (tVar 0) tNil) (gName 1)) (tSeq (tAsg (tCB rIntX (tCons (tFld K (tVar 1) ("text" : Str)) tNil)) (gName 2)) (tSeq (tIfS (tOr (tTest (tOp (rLtX K) (tVar 2) (tC (.int 1)))) (tTest (tOp rGtX (tVar 2) (tC k_LONGEST_TEXT)))) (tRaiseF (He.ga K "Fault") W (tCons (tFld K (tVar 1) ("place" : Str)) (tCons (tC (.str ⟨q_bad_length.toArray⟩)) tNil))) tNext) (tSeq (tIfS (tNot (tTru K (tMethD (He.ga K ("Reader" : Str)) ("is_word" : Str) (sp_Reader_is_word K) [] Ez (tVar 0) (tCons (tC (.str ⟨q_without.toArray⟩)) tNil)))) (tRet (tMake (He.ga K ("TextSort" : Str)) (sp_TextSort_init K) [.non] E0 (tCons (tVar 2) tNil))) tNext) (tSeq (tDrop (tMethD (He.ga K ("Reader" : Str)) ("step" : Str) (sp_Reader_step K) [] Ez (tVar 0) tNil)) (tSeq (tAsg (tMethD (He.ga K ("Reader" : Str)) ("take_text" : Str) (sp_Reader_take_text K) [] (WE W) (tVar 0) tNil) (gName 1)) (tSeq (tIfS (tTest (tOp (rNeX K) (tCB (rLen K) (tCons (tFld K (tVar 1) ("text" : Str)) tNil)) (tC (.int 1)))) (tRaiseF (He.ga K "Fault") W (tCons (tFld K (tVar 1) ("place" : Str)) (tCons (tC (.str ⟨q_bad_sign.toArray⟩)) tNil))) tNext) (tRet (tMake (He.ga K ("TextSort" : Str)) (sp_TextSort_init K) [] E0 (tCons (tVar 2) (tCons (tFld K (tVar 1) ("text" : Str)) tNil)))))))))))
def sp_read_text_sort (K : PySem.W.Frag) : Sp := fun vs H Q E => vs.length = 1 ∧ t_read_text_sort K (fun cls d _ H => E cls d H) ⟨fun _ H' => Q .non H', Q, fun _ _ => False, fun _ _ => False⟩ (start ["reader", "token", "longest"] vs) H
/-- ChoiceSort.__init__: 0 self, 1 choices -/
def t_ChoiceSort_init (K : PySem.W.Frag) : TS :=
  (sFld K (tVar 0) (tCB (rListX K) (tCons (tVar 1) tNil)) ("choices" : Str))
def sp_ChoiceSort_init (K : PySem.W.Frag) : Sp := fun vs H Q E => vs.length = 2 ∧ t_ChoiceSort_init K ⟨fun _ H' => Q .non H', Q, fun _ _ => False, fun _ _ => False⟩ (start ["self", "choices"] vs) H
/-- read_choices: 0 reader, 1 choices, 2 token -/
def t_read_choices (K : PySem.W.Frag) (W : WX) : TS :=
  (tSeq (tDrop (tMethD (He.ga K ("Reader" : Str)) ("take_word" : Str) (sp_Reader_take_word K) [] (WE W) (tVar 0) (tCons (tC (.str ⟨q_of.toArray⟩)) tNil))) (tSeq (tAsg (tLst tNil) (gName 1)) (tWhile (tTru K (tC (.bl true))) (tSeq (tAsg (tMethD (He.ga K ("Reader" : Str)) ("take_text" : Str) (sp_Reader_take_text K) [] (WE W) (tVar 0) tNil) (gName 2)) (tSeq (tIfS (tTest (tOp rGtX (tCB (rLen K) (tCons (tFld K (tVar 2) ("text" : Str)) tNil)) (tC k_LONGEST_TEXT))) (tRaiseF (He.ga K "Fault") W (tCons (tFld K (tVar 2) ("place" : Str)) (tCons (tC (.str ⟨q_bad_length.toArray⟩)) tNil))) tNext) (tSeq (tIfS (tTest (tOp (rInX K) (tFld K (tVar 2) ("text" : Str)) (tVar 1))) (tRaiseF (He.ga K "Fault") W (tCons (tFld K (tVar 2) ("place" : Str)) (tCons (tC (.str ⟨q_choice_twice.toArray⟩)) tNil))) tNext) (tSeq (tIfS (tTest (tOp (rEqX K) (tCB (rLen K) (tCons (tVar 1) tNil)) (tC k_MOST_CHOICES))) (tRaiseF (He.ga K "Fault") W (tCons (tFld K (tVar 2) ("place" : Str)) (tCons (tC (.str ⟨q_too_many_choices.toArray⟩)) tNil))) tNext) (tSeq (tDrop (tBM K "list" rAppend (tVar 1) (tCons (tFld K (tVar 2) ("text" : Str)) tNil))) (tSeq (tIfS (tNot (tTru K (tMethD (He.ga K ("Reader" : Str)) ("is_sign" : Str) (sp_Reader_is_sign K) [] Ez (tVar 0) (tCons (tC (.str ⟨q_x2c.toArray⟩)) tNil)))) (tRet (tMake (He.ga K ("ChoiceSort" : Str)) (sp_ChoiceSort_init K) [] E0 (tCons (tVar 1) tNil))) tNext) (tDrop (tMethD (He.ga K ("Reader" : Str)) ("step" : Str) (sp_Reader_step K) [] Ez (tVar 0) tNil)))))))))))
def sp_read_choices (K : PySem.W.Frag) : Sp := fun vs H Q E => vs.length = 1 ∧ t_read_choices K (fun cls d _ H => E cls d H) ⟨fun _ H' => Q .non H', Q, fun _ _ => False, fun _ _ => False⟩ (start ["reader", "choices", "token"] vs) H
/-- read_targets: 0 reader, 1 targets, 2 token, 3 known -/
def t_read_targets (K : PySem.W.Frag) (W : WX) : TS :=
  (tSeq (tAsg (tLst (tCons (tMethD (He.ga K ("Reader" : Str)) ("take_kind" : Str) (sp_Reader_take_kind K) [] (WE W) (tVar 0) tNil) tNil)) (gName 1)) (tSeq (tWhile (tTru K (tMethD (He.ga K ("Reader" : Str)) ("is_word" : Str) (sp_Reader_is_word K) [] Ez (tVar 0) (tCons (tC (.str ⟨q_or.toArray⟩)) tNil))) (tSeq (tDrop (tMethD (He.ga K ("Reader" : Str)) ("step" : Str) (sp_Reader_step K) [] Ez (tVar 0) tNil)) (tSeq (tAsg (tMethD (He.ga K ("Reader" : Str)) ("take_kind" : Str) (sp_Reader_take_kind K) [] (WE W) (tVar 0) tNil) (gName 2)) (tSeq (tIfS (tTest (tOp (rInX K) (tFld K (tVar 2) ("text" : Str)) (tLc (iAny K (tVar 1)) (gName 3) tYes (tFld K (tVar 3) ("text" : Str)) [3]))) (tRaiseF (He.ga K "Fault") W (tCons (tFld K (tVar 2) ("place" : Str)) (tCons (tC (.str ⟨q_kind_twice.toArray⟩)) tNil))) tNext) (tDrop (tBM K "list" rAppend (tVar 1) (tCons (tVar 2) tNil))))))) (tRet (tVar 1))))
def sp_read_targets (K : PySem.W.Frag) : Sp := fun vs H Q E => vs.length = 1 ∧ t_read_targets K (fun cls d _ H => E cls d H) ⟨fun _ H' => Q .non H', Q, fun _ _ => False, fun _ _ => False⟩ (start ["reader", "targets", "token", "known"] vs) H
/-- ListSort.__init__: 0 self, 1 kinds -/
def t_ListSort_init (K : PySem.W.Frag) : TS :=
  (sFld K (tVar 0) (tCB (rListX K) (tCons (tVar 1) tNil)) ("kinds" : Str))
def sp_ListSort_init (K : PySem.W.Frag) : Sp := fun vs H Q E => vs.length = 2 ∧ t_ListSort_init K ⟨fun _ H' => Q .non H', Q, fun _ _ => False, fun _ _ => False⟩ (start ["self", "kinds"] vs) H
/-- RefSort.__init__: 0 self, 1 kinds, 2 rule -/
def t_RefSort_init (K : PySem.W.Frag) : TS :=
  (tSeq (sFld K (tVar 0) (tCB (rListX K) (tCons (tVar 1) tNil)) ("kinds" : Str)) (sFld K (tVar 0) (tVar 2) ("rule" : Str)))
def sp_RefSort_init (K : PySem.W.Frag) : Sp := fun vs H Q E => vs.length = 3 ∧ t_RefSort_init K ⟨fun _ H' => Q .non H', Q, fun _ _ => False, fun _ _ => False⟩ (start ["self", "kinds", "rule"] vs) H
/-- read_sort: 0 reader, 1 word, 2 targets, 3 names, 4 token, 5 rule, 6 known -/
def t_read_sort (K : PySem.W.Frag) (W : WX) : TS :=
  (tSeq (tFor (iAny K (tTup (tCons (tC (.str ⟨q_int.toArray⟩)) (tCons (tC (.str ⟨q_text.toArray⟩)) (tCons (tC (.str ⟨q_one.toArray⟩)) (tCons (tC (.str ⟨q_ref.toArray⟩)) (tCons (tC (.str ⟨q_list.toArray⟩)) tNil))))))) (gName 1) (tIfS (tTru K (tMethD (He.ga K ("Reader" : Str)) ("is_word" : Str) (sp_Reader_is_word K) [] Ez (tVar 0) (tCons (tVar 1) tNil))) (tSeq (tDrop (tMethD (He.ga K ("Reader" : Str)) ("step" : Str) (sp_Reader_step K) [] Ez (tVar 0) tNil)) (tSeq (tIfS (tTest (tOp (rEqX K) (tVar 1) (tC (.str ⟨q_int.toArray⟩)))) (tRet (tTup (tCons (tCallSD (sp_read_int K) [] (WE W) (tCons (tVar 0) tNil)) (tCons (tLst tNil) tNil)))) tNext) (tSeq (tIfS (tTest (tOp (rEqX K) (tVar 1) (tC (.str ⟨q_text.toArray⟩)))) (tRet (tTup (tCons (tCallSD (sp_read_text_sort K) [] (WE W) (tCons (tVar 0) tNil)) (tCons (tLst tNil) tNil)))) tNext) (tSeq (tIfS (tTest (tOp (rEqX K) (tVar 1) (tC (.str ⟨q_one.toArray⟩)))) (tRet (tTup (tCons (tCallSD (sp_read_choices K) [] (WE W) (tCons (tVar 0) tNil)) (tCons (tLst tNil) tNil)))) tNext) (tSeq (tAsg (tCallSD (sp_read_targets K) [] (WE W) (tCons (tVar 0) tNil)) (gName 2)) (tSeq (tAsg (tLc (iAny K (tVar 2)) (gName 4) tYes (tFld K (tVar 4) ("text" : Str)) [4]) (gName 3)) (tSeq (tIfS (tTest (tOp (rEqX K) (tVar 1) (tC (.str ⟨q_list.toArray⟩)))) (tRet (tTup (tCons (tMake (He.ga K ("ListSort" : Str)) (sp_ListSort_init K) [] E0 (tCons (tVar 3) tNil)) (tCons (tVar 2) tNil)))) tNext) (tSeq (tAsg (tC (.str ⟨q_clears.toArray⟩)) (gName 5)) (tSeq (tFor (iAny K (tTup (tCons (tC (.str ⟨q_clears.toArray⟩)) (tCons (tC (.str ⟨q_refuses.toArray⟩)) (tCons (tC (.str ⟨q_takes.toArray⟩)) tNil))))) (gName 6) (tIfS (tTru K (tMethD (He.ga K ("Reader" : Str)) ("is_word" : Str) (sp_Reader_is_word K) [] Ez (tVar 0) (tCons (tVar 6) tNil))) (tSeq (tAsg (tFld K (tMethD (He.ga K ("Reader" : Str)) ("step" : Str) (sp_Reader_step K) [] Ez (tVar 0) tNil) ("text" : Str)) (gName 5)) tBreak) tNext)) (tRet (tTup (tCons (tMake (He.ga K ("RefSort" : Str)) (sp_RefSort_init K) [] E0 (tCons (tVar 3) (tCons (tVar 5) tNil))) (tCons (tVar 2) tNil))))))))))))) tNext)) (tRaiseF (He.ga K "Fault") W (tCons (tFld K (tProp (He.ga K ("Reader" : Str)) (sp_Reader_now K) [] E0 (tVar 0)) ("place" : Str)) (tCons (tC (.str ⟨q_expected_a_sort.toArray⟩)) tNil))))
def sp_read_sort (K : PySem.W.Frag) : Sp := fun vs H Q E => vs.length = 1 ∧ t_read_sort K (fun cls d _ H => E cls d H) ⟨fun _ H' => Q .non H', Q, fun _ _ => False, fun _ _ => False⟩ (start ["reader", "word", "targets", "names", "token", "rule", "known"] vs) H
/-- is_list: 0 sort -/
def t_is_list (K : PySem.W.Frag) : TS :=
  (tRet (tCB (rIsi K) (tCons (tVar 0) (tCons (tC (.ref (He.ga K ("ListSort" : Str)))) tNil))))
def sp_is_list (K : PySem.W.Frag) : Sp := fun vs H Q E => vs.length = 1 ∧ t_is_list K ⟨fun _ H' => Q .non H', Q, fun _ _ => False, fun _ _ => False⟩ (start ["sort"] vs) H
/-- Field.__init__: 0 self, 1 name, 2 shape, 3 needed -/
def t_Field_init (K : PySem.W.Frag) : TS :=
  (tSeq (sFld K (tVar 0) (tVar 1) ("name" : Str)) (tSeq (sFld K (tVar 0) (tVar 2) ("shape" : Str)) (sFld K (tVar 0) (tVar 3) ("needed" : Str))))
def sp_Field_init (K : PySem.W.Frag) : Sp := fun vs H Q E => vs.length = 4 ∧ t_Field_init K ⟨fun _ H' => Q .non H', Q, fun _ _ => False, fun _ _ => False⟩ (start ["self", "name", "shape", "needed"] vs) H
/-- read_field: 0 reader, 1 token, 2 sort, 3 targets, 4 needed, 5 place -/
def t_read_field (K : PySem.W.Frag) (W : WX) : TS :=
  (tSeq (tAsg (tMethD (He.ga K ("Reader" : Str)) ("take_field" : Str) (sp_Reader_take_field K) [] (WE W) (tVar 0) tNil) (gName 1)) (tSeq (tDrop (tMethD (He.ga K ("Reader" : Str)) ("take_sign" : Str) (sp_Reader_take_sign K) [] (WE W) (tVar 0) (tCons (tC (.str ⟨q_x3a.toArray⟩)) tNil))) (tSeq (tAsg (tCallSD (sp_read_sort K) [] (WE W) (tCons (tVar 0) tNil)) (gTup K 2 (gCons (gName 2) (gCons (gName 3) gNil)))) (tSeq (tAsg (tC (.bl false)) (gName 4)) (C8.tCut (tIfS (tTru K (tMethD (He.ga K ("Reader" : Str)) ("is_word" : Str) (sp_Reader_is_word K) [] Ez (tVar 0) (tCons (tC (.str ⟨q_not.toArray⟩)) tNil))) (tSeq (tAsg (tFld K (tMethD (He.ga K ("Reader" : Str)) ("step" : Str) (sp_Reader_step K) [] Ez (tVar 0) tNil) ("place" : Str)) (gName 5)) (tSeq (tDrop (tMethD (He.ga K ("Reader" : Str)) ("take_word" : Str) (sp_Reader_take_word K) [] (WE W) (tVar 0) (tCons (tC (.str ⟨q_null.toArray⟩)) tNil))) (tSeq (tIfS (tTru K (tCallSD (sp_is_list K) [] Ez (tCons (tVar 2) tNil))) (tRaiseF (He.ga K "Fault") W (tCons (tVar 5) (tCons (tC (.str ⟨q_list_not_null.toArray⟩)) tNil))) tNext) (tAsg (tC (.bl true)) (gName 4))))) tNext) (tSeq (tDrop (tMethD (He.ga K ("Reader" : Str)) ("take_sign" : Str) (sp_Reader_take_sign K) [] (WE W) (tVar 0) (tCons (tC (.str ⟨q_x3b.toArray⟩)) tNil))) (tRet (tTup (tCons (tMake (He.ga K ("Field" : Str)) (sp_Field_init K) [] E0 (tCons (tFld K (tVar 1) ("text" : Str)) (tCons (tVar 2) (tCons (tVar 4) tNil)))) (tCons (tVar 1) (tCons (tVar 3) tNil)))))))))))
def sp_read_field (K : PySem.W.Frag) : Sp := fun vs H Q E => vs.length = 1 ∧ t_read_field K (fun cls d _ H => E cls d H) ⟨fun _ H' => Q .non H', Q, fun _ _ => False, fun _ _ => False⟩ (start ["reader", "token", "sort", "targets", "needed", "place"] vs) H
/-- read_kind: 0 reader, 1 found -/
def t_read_kind (K : PySem.W.Frag) (W : WX) : TS :=
  (tSeq (tDrop (tMethD (He.ga K ("Reader" : Str)) ("take_word" : Str) (sp_Reader_take_word K) [] (WE W) (tVar 0) (tCons (tC (.str ⟨q_kind.toArray⟩)) tNil))) (tSeq (tAsg (tMake (He.ga K ("KindPlace" : Str)) (sp_KindPlace_init K) [] E0 (tCons (tMethD (He.ga K ("Reader" : Str)) ("take_kind" : Str) (sp_Reader_take_kind K) [] (WE W) (tVar 0) tNil) tNil)) (gName 1)) (tSeq (tDrop (tMethD (He.ga K ("Reader" : Str)) ("take_sign" : Str) (sp_Reader_take_sign K) [] (WE W) (tVar 0) (tCons (tC (.str ⟨q_x7b.toArray⟩)) tNil))) (tSeq (tWhile (tNot (tTru K (tMethD (He.ga K ("Reader" : Str)) ("is_sign" : Str) (sp_Reader_is_sign K) [] Ez (tVar 0) (tCons (tC (.str ⟨q_x7d.toArray⟩)) tNil)))) (tIfS (tTru K (tMethD (He.ga K ("Reader" : Str)) ("is_word" : Str) (sp_Reader_is_word K) [] Ez (tVar 0) (tCons (tC (.str ⟨q_key.toArray⟩)) tNil))) (tSeq (tDrop (tMethD (He.ga K ("Reader" : Str)) ("step" : Str) (sp_Reader_step K) [] Ez (tVar 0) tNil)) (tDrop (tBM K "list" rAppend (tFld K (tVar 1) ("keys_read" : Str)) (tCons (tCallSD (sp_read_key K) [] (WE W) (tCons (tVar 0) tNil)) tNil)))) (tDrop (tBM K "list" rAppend (tFld K (tVar 1) ("fields" : Str)) (tCons (tCallSD (sp_read_field K) [] (WE W) (tCons (tVar 0) tNil)) tNil))))) (tSeq (tDrop (tMethD (He.ga K ("Reader" : Str)) ("step" : Str) (sp_Reader_step K) [] Ez (tVar 0) tNil)) (tRet (tVar 1)))))))
def sp_read_kind (K : PySem.W.Frag) : Sp := fun vs H Q E => vs.length = 1 ∧ t_read_kind K (fun cls d _ H => E cls d H) ⟨fun _ H' => Q .non H', Q, fun _ _ => False, fun _ _ => False⟩ (start ["reader", "found"] vs) H
/-- Schema.__init__: 0 self, 1 kinds -/
def t_Schema_init (K : PySem.W.Frag) : TS :=
  (sFld K (tVar 0) (tCB (rListX K) (tCons (tVar 1) tNil)) ("kinds" : Str))
def sp_Schema_init (K : PySem.W.Frag) : Sp := fun vs H Q E => vs.length = 2 ∧ t_Schema_init K ⟨fun _ H' => Q .non H', Q, fun _ _ => False, fun _ _ => False⟩ (start ["self", "kinds"] vs) H
/-- check_key: 0 fields, 1 row, 2 seen, 3 token, 4 field, 5 known -/
def t_check_key (K : PySem.W.Frag) (W : WX) : TS :=
  (tSeq (tAsg (tLst tNil) (gName 2)) (tSeq (tFor (iAny K (tVar 1)) (gName 3) (tSeq (tAsg (tC .non) (gName 4)) (tSeq (tFor (iAny K (tVar 0)) (gName 5) (tIfS (tTest (tOp (rEqX K) (tFld K (tVar 5) ("name" : Str)) (tFld K (tVar 3) ("text" : Str)))) (tAsg (tVar 5) (gName 4)) tNext)) (tSeq (tIfS (tTest (tOp rIsX (tVar 4) (tC .non))) (tRaiseF (He.ga K "Fault") W (tCons (tFld K (tVar 3) ("place" : Str)) (tCons (tC (.str ⟨q_no_such_field.toArray⟩)) tNil))) tNext) (tSeq (tIfS (tTru K (tCallSD (sp_is_list K) [] Ez (tCons (tFld K (tVar 4) ("shape" : Str)) tNil))) (tRaiseF (He.ga K "Fault") W (tCons (tFld K (tVar 3) ("place" : Str)) (tCons (tC (.str ⟨q_list_in_a_key.toArray⟩)) tNil))) tNext) (tSeq (tIfS (tTest (tOp (rInX K) (tFld K (tVar 3) ("text" : Str)) (tVar 2))) (tRaiseF (He.ga K "Fault") W (tCons (tFld K (tVar 3) ("place" : Str)) (tCons (tC (.str ⟨q_field_twice.toArray⟩)) tNil))) tNext) (tDrop (tBM K "list" rAppend (tVar 2) (tCons (tFld K (tVar 3) ("text" : Str)) tNil))))))))) (tRet (tVar 2))))
def sp_check_key (K : PySem.W.Frag) : Sp := fun vs H Q E => vs.length = 2 ∧ t_check_key K (fun cls d _ H => E cls d H) ⟨fun _ H' => Q .non H', Q, fun _ _ => False, fun _ _ => False⟩ (start ["fields", "row", "seen", "token", "field", "known"] vs) H
/-- Kind.__init__: 0 self, 1 name, 2 fields, 3 key_rows, 4 names -/
def t_Kind_init (K : PySem.W.Frag) : TS :=
  (tSeq (sFld K (tVar 0) (tVar 1) ("name" : Str)) (tSeq (sFld K (tVar 0) (tCB (rListX K) (tCons (tVar 2) tNil)) ("fields" : Str)) (sFld K (tVar 0) (tLc (iAny K (tVar 3)) (gName 4) tYes (tCB (rListX K) (tCons (tVar 4) tNil)) [4]) ("key_rows" : Str))))
def sp_Kind_init (K : PySem.W.Frag) : Sp := fun vs H Q E => vs.length = 4 ∧ t_Kind_init K ⟨fun _ H' => Q .non H', Q, fun _ _ => False, fun _ _ => False⟩ (start ["self", "name", "fields", "key_rows", "names"] vs) H
/-- check_kind: 0 found, 1 names, 2 fields, 3 field, 4 token, 5 targets, 6 known, 7 target, 8 used, 9 keys, 10 row, 11 key -/
def t_check_kind (K : PySem.W.Frag) (W : WX) : TS :=
  (tSeq (tAsg (tLst tNil) (gName 2)) (tSeq (tFor (iAny K (tFld K (tVar 0) ("fields" : Str))) (gTup K 3 (gCons (gName 3) (gCons (gName 4) (gCons (gName 5) gNil)))) (tSeq (tIfS (tTest (tOp (rInX K) (tFld K (tVar 3) ("name" : Str)) (tLc (iAny K (tVar 2)) (gName 6) tYes (tFld K (tVar 6) ("name" : Str)) [6]))) (tRaiseF (He.ga K "Fault") W (tCons (tFld K (tVar 4) ("place" : Str)) (tCons (tC (.str ⟨q_field_twice.toArray⟩)) tNil))) tNext) (tSeq (tIfS (tTest (tOp (rEqX K) (tCB (rLen K) (tCons (tVar 2) tNil)) (tC k_MOST_FIELDS))) (tRaiseF (He.ga K "Fault") W (tCons (tFld K (tVar 4) ("place" : Str)) (tCons (tC (.str ⟨q_too_many_fields.toArray⟩)) tNil))) tNext) (tSeq (tFor (iAny K (tVar 5)) (gName 7) (tIfS (tTest (tOp (rNotInX K) (tFld K (tVar 7) ("text" : Str)) (tVar 1))) (tRaiseF (He.ga K "Fault") W (tCons (tFld K (tVar 7) ("place" : Str)) (tCons (tC (.str ⟨q_no_such_kind.toArray⟩)) tNil))) tNext)) (tDrop (tBM K "list" rAppend (tVar 2) (tCons (tVar 3) tNil))))))) (tSeq (tAsg (tLst tNil) (gName 8)) (tSeq (tAsg (tLst tNil) (gName 9)) (tSeq (tFor (iAny K (tFld K (tVar 0) ("keys_read" : Str))) (gName 10) (tSeq (tIfS (tTest (tOp (rEqX K) (tCB (rLen K) (tCons (tVar 9) tNil)) (tC k_MOST_KEYS))) (tRaiseF (He.ga K "Fault") W (tCons (tFld K (tOp (rIx K) (tVar 10) (tC (.int 0))) ("place" : Str)) (tCons (tC (.str ⟨q_too_many_keys.toArray⟩)) tNil))) tNext) (tSeq (tAsg (tCallSD (sp_check_key K) [] (WE W) (tCons (tVar 2) (tCons (tVar 10) tNil))) (gName 11)) (tSeq (tFor (iAny K (tVar 10)) (gName 4) (tIfS (tTest (tOp (rInX K) (tFld K (tVar 4) ("text" : Str)) (tVar 8))) (tRaiseF (He.ga K "Fault") W (tCons (tFld K (tVar 4) ("place" : Str)) (tCons (tC (.str ⟨q_field_in_two_keys.toArray⟩)) tNil))) tNext)) (tSeq (tAsg (tOp (rAddX K) (tVar 8) (tVar 11)) (gName 8)) (tDrop (tBM K "list" rAppend (tVar 9) (tCons (tVar 11) tNil)))))))) (tRet (tMake (He.ga K ("Kind" : Str)) (sp_Kind_init K) [] E0 (tCons (tFld K (tFld K (tVar 0) ("token" : Str)) ("text" : Str)) (tCons (tVar 2) (tCons (tVar 9) tNil))))))))))
def sp_check_kind (K : PySem.W.Frag) : Sp := fun vs H Q E => vs.length = 2 ∧ t_check_kind K (fun cls d _ H => E cls d H) ⟨fun _ H' => Q .non H', Q, fun _ _ => False, fun _ _ => False⟩ (start ["found", "names", "fields", "field", "token", "targets", "known", "target", "used", "keys", "row", "key"] vs) H
/-- check_kinds: 0 row, 1 names, 2 found, 3 kinds, 4 kind -/
def t_check_kinds (K : PySem.W.Frag) (W : WX) : TS :=
  (tSeq (tAsg (tLc (iAny K (tVar 0)) (gName 2) tYes (tFld K (tFld K (tVar 2) ("token" : Str)) ("text" : Str)) [2]) (gName 1)) (tSeq (tAsg (tLst tNil) (gName 3)) (tSeq (tFor (iAny K (tVar 0)) (gName 2) (tSeq (tIfS (tTest (tOp (rInX K) (tFld K (tFld K (tVar 2) ("token" : Str)) ("text" : Str)) (tLc (iAny K (tVar 3)) (gName 4) tYes (tFld K (tVar 4) ("name" : Str)) [4]))) (tRaiseF (He.ga K "Fault") W (tCons (tFld K (tFld K (tVar 2) ("token" : Str)) ("place" : Str)) (tCons (tC (.str ⟨q_kind_twice.toArray⟩)) tNil))) tNext) (tSeq (tIfS (tTest (tOp (rEqX K) (tCB (rLen K) (tCons (tVar 3) tNil)) (tC k_MOST_KINDS))) (tRaiseF (He.ga K "Fault") W (tCons (tFld K (tFld K (tVar 2) ("token" : Str)) ("place" : Str)) (tCons (tC (.str ⟨q_too_many_kinds.toArray⟩)) tNil))) tNext) (tDrop (tBM K "list" rAppend (tVar 3) (tCons (tCallSD (sp_check_kind K) [] (WE W) (tCons (tVar 2) (tCons (tVar 1) tNil))) tNil)))))) (tRet (tVar 3)))))
def sp_check_kinds (K : PySem.W.Frag) : Sp := fun vs H Q E => vs.length = 1 ∧ t_check_kinds K (fun cls d _ H => E cls d H) ⟨fun _ H' => Q .non H', Q, fun _ _ => False, fun _ _ => False⟩ (start ["row", "names", "found", "kinds", "kind"] vs) H
/-- read_schema: 0 text, 1 reader, 2 row -/
def t_read_schema (K : PySem.W.Frag) (W : WX) : TS :=
  (tSeq (tAsg (tMake (He.ga K ("Reader" : Str)) (sp_Reader_init K) [] E0 (tCons (tCallSD (sp_tokens K) [] (WE W) (tCons (tVar 0) (tCons (tC (.ref (He.ga K ("SIGNS" : Str)))) (tCons (tC k_LONGEST_SCHEMA) tNil)))) (tCons (tC (.ref (He.ga K ("RESERVED" : Str)))) tNil))) (gName 1)) (tSeq (tAsg (tLst (tCons (tCallSD (sp_read_kind K) [] (WE W) (tCons (tVar 1) tNil)) tNil)) (gName 2)) (tSeq (tWhile (tTest (tOp (rNeX K) (tFld K (tProp (He.ga K ("Reader" : Str)) (sp_Reader_now K) [] E0 (tVar 1)) ("role" : Str)) (tC (.str ⟨q_end.toArray⟩)))) (tDrop (tBM K "list" rAppend (tVar 2) (tCons (tCallSD (sp_read_kind K) [] (WE W) (tCons (tVar 1) tNil)) tNil)))) (tRet (tMake (He.ga K ("Schema" : Str)) (sp_Schema_init K) [] E0 (tCons (tCallSD (sp_check_kinds K) [] (WE W) (tCons (tVar 2) tNil)) tNil))))))
def sp_read_schema (K : PySem.W.Frag) : Sp := fun vs H Q E => vs.length = 1 ∧ t_read_schema K (fun cls d _ H => E cls d H) ⟨fun _ H' => Q .non H', Q, fun _ _ => False, fun _ _ => False⟩ (start ["text", "reader", "row"] vs) H
/-- IntSort.written: 0 self -/
def t_IntSort_written (K : PySem.W.Frag) : TS :=
  (tRet (tJoin [(tC (.str ⟨q_int_.toArray⟩)), (tFmt (tFld K (tVar 0) ("low" : Str))), (tC (.str ⟨q_x2ex2e.toArray⟩)), (tFmt (tFld K (tVar 0) ("high" : Str)))]))
def sp_IntSort_written (K : PySem.W.Frag) : Sp := fun vs H Q E => vs.length = 1 ∧ t_IntSort_written K ⟨fun _ H' => Q .non H', Q, fun _ _ => False, fun _ _ => False⟩ (start ["self"] vs) H
/-- quoted: 0 text, 1 signs, 2 sign -/
def t_quoted (K : PySem.W.Frag) : TS :=
  (tSeq (tAsg (tLst (tCons (tC (.str ⟨q_x22.toArray⟩)) tNil)) (gName 1)) (tSeq (tFor (iAny K (tVar 0)) (gName 2) (C8.tCut (tIfS (tTest (tOp (rInX K) (tVar 2) (tTup (tCons (tC (.str ⟨q_x22.toArray⟩)) (tCons (tC (.str ⟨q_x5c.toArray⟩)) tNil))))) (tDrop (tBM K "list" rAppend (tVar 1) (tCons (tC (.str ⟨q_x5c.toArray⟩)) tNil))) tNext) (tDrop (tBM K "list" rAppend (tVar 1) (tCons (tVar 2) tNil))))) (tSeq (tDrop (tBM K "list" rAppend (tVar 1) (tCons (tC (.str ⟨q_x22.toArray⟩)) tNil))) (tRet (tM1 (rJoin K) (tC (.str ⟨q_empty.toArray⟩)) (tVar 1))))))
def sp_quoted (K : PySem.W.Frag) : Sp := fun vs H Q E => vs.length = 1 ∧ t_quoted K ⟨fun _ H' => Q .non H', Q, fun _ _ => False, fun _ _ => False⟩ (start ["text", "signs", "sign"] vs) H
/-- TextSort.written: 0 self -/
def t_TextSort_written (K : PySem.W.Frag) : TS :=
  (tSeq (tIfS (tTest (tOp rIsX (tFld K (tVar 0) ("without" : Str)) (tC .non))) (tRet (tJoin [(tC (.str ⟨q_text_.toArray⟩)), (tFmt (tFld K (tVar 0) ("longest" : Str)))])) tNext) (tRet (tJoin [(tC (.str ⟨q_text_.toArray⟩)), (tFmt (tFld K (tVar 0) ("longest" : Str))), (tC (.str ⟨q__without_.toArray⟩)), (tFmt (tCallSD (sp_quoted K) [] Ez (tCons (tFld K (tVar 0) ("without" : Str)) tNil)))])))
def sp_TextSort_written (K : PySem.W.Frag) : Sp := fun vs H Q E => vs.length = 1 ∧ t_TextSort_written K ⟨fun _ H' => Q .non H', Q, fun _ _ => False, fun _ _ => False⟩ (start ["self"] vs) H
/-- ChoiceSort.written: 0 self, 1 choice -/
def t_ChoiceSort_written (K : PySem.W.Frag) : TS :=
  (tRet (tOp (rAddX K) (tC (.str ⟨q_one_of_.toArray⟩)) (tM1 (rJoin K) (tC (.str ⟨q_x2c_.toArray⟩)) (tLc (iAny K (tFld K (tVar 0) ("choices" : Str))) (gName 1) tYes (tCallSD (sp_quoted K) [] Ez (tCons (tVar 1) tNil)) [1]))))
def sp_ChoiceSort_written (K : PySem.W.Frag) : Sp := fun vs H Q E => vs.length = 1 ∧ t_ChoiceSort_written K ⟨fun _ H' => Q .non H', Q, fun _ _ => False, fun _ _ => False⟩ (start ["self", "choice"] vs) H
/-- RefSort.written: 0 self, 1 text -/
def t_RefSort_written (K : PySem.W.Frag) : TS :=
  (tSeq (tAsg (tOp (rAddX K) (tC (.str ⟨q_ref_.toArray⟩)) (tM1 (rJoin K) (tC (.str ⟨q__or_.toArray⟩)) (tFld K (tVar 0) ("kinds" : Str)))) (gName 1)) (tSeq (tIfS (tTest (tOp (rEqX K) (tFld K (tVar 0) ("rule" : Str)) (tC (.str ⟨q_clears.toArray⟩)))) (tRet (tVar 1)) tNext) (tRet (tOp (rAddX K) (tOp (rAddX K) (tVar 1) (tC (.str ⟨q__.toArray⟩))) (tFld K (tVar 0) ("rule" : Str))))))
def sp_RefSort_written (K : PySem.W.Frag) : Sp := fun vs H Q E => vs.length = 1 ∧ t_RefSort_written K ⟨fun _ H' => Q .non H', Q, fun _ _ => False, fun _ _ => False⟩ (start ["self", "text"] vs) H
/-- ListSort.written: 0 self -/
def t_ListSort_written (K : PySem.W.Frag) : TS :=
  (tRet (tOp (rAddX K) (tC (.str ⟨q_list_.toArray⟩)) (tM1 (rJoin K) (tC (.str ⟨q__or_.toArray⟩)) (tFld K (tVar 0) ("kinds" : Str)))))
def sp_ListSort_written (K : PySem.W.Frag) : Sp := fun vs H Q E => vs.length = 1 ∧ t_ListSort_written K ⟨fun _ H' => Q .non H', Q, fun _ _ => False, fun _ _ => False⟩ (start ["self"] vs) H
/-- Field.written: 0 self, 1 text -/
def t_Field_written (K : PySem.W.Frag) : TS :=
  (tSeq (tAsg (tOp (rAddX K) (tOp (rAddX K) (tFld K (tVar 0) ("name" : Str)) (tC (.str ⟨q_x3a_.toArray⟩))) (tEor (tEor (tEor (tEor (tMethD (He.ga K ("IntSort" : Str)) ("written" : Str) (sp_IntSort_written K) [] Ez (tFld K (tVar 0) ("shape" : Str)) tNil) (tMethD (He.ga K ("TextSort" : Str)) ("written" : Str) (sp_TextSort_written K) [] Ez (tFld K (tVar 0) ("shape" : Str)) tNil)) (tMethD (He.ga K ("ChoiceSort" : Str)) ("written" : Str) (sp_ChoiceSort_written K) [] Ez (tFld K (tVar 0) ("shape" : Str)) tNil)) (tMethD (He.ga K ("RefSort" : Str)) ("written" : Str) (sp_RefSort_written K) [] Ez (tFld K (tVar 0) ("shape" : Str)) tNil)) (tMethD (He.ga K ("ListSort" : Str)) ("written" : Str) (sp_ListSort_written K) [] Ez (tFld K (tVar 0) ("shape" : Str)) tNil))) (gName 1)) (C8.tCut (tIfS (tTru K (tFld K (tVar 0) ("needed" : Str))) (tAsg (tOp (rAddX K) (tVar 1) (tC (.str ⟨q__not_null.toArray⟩))) (gName 1)) tNext) (tRet (tOp (rAddX K) (tVar 1) (tC (.str ⟨q_x3b.toArray⟩))))))
def sp_Field_written (K : PySem.W.Frag) : Sp := fun vs H Q E => vs.length = 1 ∧ t_Field_written K ⟨fun _ H' => Q .non H', Q, fun _ _ => False, fun _ _ => False⟩ (start ["self", "text"] vs) H
/-- Kind.written: 0 self, 1 parts, 2 field, 3 names -/
def t_Kind_written (K : PySem.W.Frag) : TS :=
  (tSeq (tAsg (tLc (iAny K (tFld K (tVar 0) ("fields" : Str))) (gName 2) tYes (tMethD (He.ga K ("Field" : Str)) ("written" : Str) (sp_Field_written K) [] Ez (tVar 2) tNil) [2]) (gName 1)) (tSeq (tFor (iAny K (tFld K (tVar 0) ("key_rows" : Str))) (gName 3) (tDrop (tBM K "list" rAppend (tVar 1) (tCons (tOp (rAddX K) (tOp (rAddX K) (tC (.str ⟨q_key_.toArray⟩)) (tM1 (rJoin K) (tC (.str ⟨q_x2c_.toArray⟩)) (tVar 3))) (tC (.str ⟨q_x3b.toArray⟩))) tNil)))) (tRet (tM1 (rJoin K) (tC (.str ⟨q__.toArray⟩)) (tOp (rAddX K) (tOp (rAddX K) (tLst (tCons (tOp (rAddX K) (tOp (rAddX K) (tC (.str ⟨q_kind_.toArray⟩)) (tFld K (tVar 0) ("name" : Str))) (tC (.str ⟨q__x7b.toArray⟩))) tNil)) (tVar 1)) (tLst (tCons (tC (.str ⟨q_x7d.toArray⟩)) tNil)))))))
def sp_Kind_written (K : PySem.W.Frag) : Sp := fun vs H Q E => vs.length = 1 ∧ t_Kind_written K ⟨fun _ H' => Q .non H', Q, fun _ _ => False, fun _ _ => False⟩ (start ["self", "parts", "field", "names"] vs) H
/-- Schema.written: 0 self, 1 kind -/
def t_Schema_written (K : PySem.W.Frag) : TS :=
  (tRet (tM1 (rJoin K) (tC (.str ⟨q__.toArray⟩)) (tLc (iAny K (tFld K (tVar 0) ("kinds" : Str))) (gName 1) tYes (tMethD (He.ga K ("Kind" : Str)) ("written" : Str) (sp_Kind_written K) [] Ez (tVar 1) tNil) [1])))
def sp_Schema_written (K : PySem.W.Frag) : Sp := fun vs H Q E => vs.length = 1 ∧ t_Schema_written K ⟨fun _ H' => Q .non H', Q, fun _ _ => False, fun _ _ => False⟩ (start ["self", "kind"] vs) H
/-- write_schema: 0 schema -/
def t_write_schema (K : PySem.W.Frag) : TS :=
  (tRet (tMethD (He.ga K ("Schema" : Str)) ("written" : Str) (sp_Schema_written K) [] Ez (tVar 0) tNil))
def sp_write_schema (K : PySem.W.Frag) : Sp := fun vs H Q E => vs.length = 1 ∧ t_write_schema K ⟨fun _ H' => Q .non H', Q, fun _ _ => False, fun _ _ => False⟩ (start ["schema"] vs) H
/-- Kind.names: 0 self, 1 field -/
def t_Kind_names (K : PySem.W.Frag) : TS :=
  (tRet (tLc (iAny K (tFld K (tVar 0) ("fields" : Str))) (gName 1) tYes (tFld K (tVar 1) ("name" : Str)) [1]))
def sp_Kind_names (K : PySem.W.Frag) : Sp := fun vs H Q E => vs.length = 1 ∧ t_Kind_names K ⟨fun _ H' => Q .non H', Q, fun _ _ => False, fun _ _ => False⟩ (start ["self", "field"] vs) H
/-- Schema.names: 0 self, 1 kind -/
def t_Schema_names (K : PySem.W.Frag) : TS :=
  (tRet (tLc (iAny K (tFld K (tVar 0) ("kinds" : Str))) (gName 1) tYes (tFld K (tVar 1) ("name" : Str)) [1]))
def sp_Schema_names (K : PySem.W.Frag) : Sp := fun vs H Q E => vs.length = 1 ∧ t_Schema_names K ⟨fun _ H' => Q .non H', Q, fun _ _ => False, fun _ _ => False⟩ (start ["self", "kind"] vs) H
/-- IntSort.__eq__: 0 self, 1 other -/
def t_IntSort_eq (K : PySem.W.Frag) : TS :=
  (tSeq (tIfS (tNot (tTru K (tCB (rIsi K) (tCons (tVar 1) (tCons (tC (.ref (He.ga K ("IntSort" : Str)))) tNil))))) (tRet (tC (.bl false))) tNext) (tRet (tAndV (tOp (rEqX K) (tFld K (tVar 0) ("low" : Str)) (tFld K (tVar 1) ("low" : Str))) (tOp (rEqX K) (tFld K (tVar 0) ("high" : Str)) (tFld K (tVar 1) ("high" : Str))))))
def sp_IntSort_eq (K : PySem.W.Frag) : Sp := fun vs H Q E => vs.length = 2 ∧ t_IntSort_eq K ⟨fun _ H' => Q .non H', Q, fun _ _ => False, fun _ _ => False⟩ (start ["self", "other"] vs) H
/-- TextSort.__eq__: 0 self, 1 other -/
def t_TextSort_eq (K : PySem.W.Frag) : TS :=
  (tSeq (tIfS (tNot (tTru K (tCB (rIsi K) (tCons (tVar 1) (tCons (tC (.ref (He.ga K ("TextSort" : Str)))) tNil))))) (tRet (tC (.bl false))) tNext) (tRet (tAndV (tOp (rEqX K) (tFld K (tVar 0) ("longest" : Str)) (tFld K (tVar 1) ("longest" : Str))) (tOp (rEqX K) (tFld K (tVar 0) ("without" : Str)) (tFld K (tVar 1) ("without" : Str))))))
def sp_TextSort_eq (K : PySem.W.Frag) : Sp := fun vs H Q E => vs.length = 2 ∧ t_TextSort_eq K ⟨fun _ H' => Q .non H', Q, fun _ _ => False, fun _ _ => False⟩ (start ["self", "other"] vs) H
/-- ChoiceSort.__eq__: 0 self, 1 other -/
def t_ChoiceSort_eq (K : PySem.W.Frag) : TS :=
  (tSeq (tIfS (tNot (tTru K (tCB (rIsi K) (tCons (tVar 1) (tCons (tC (.ref (He.ga K ("ChoiceSort" : Str)))) tNil))))) (tRet (tC (.bl false))) tNext) (tRet (tOp (rEqX K) (tFld K (tVar 0) ("choices" : Str)) (tFld K (tVar 1) ("choices" : Str)))))
def sp_ChoiceSort_eq (K : PySem.W.Frag) : Sp := fun vs H Q E => vs.length = 2 ∧ t_ChoiceSort_eq K ⟨fun _ H' => Q .non H', Q, fun _ _ => False, fun _ _ => False⟩ (start ["self", "other"] vs) H
/-- RefSort.__eq__: 0 self, 1 other -/
def t_RefSort_eq (K : PySem.W.Frag) : TS :=
  (tSeq (tIfS (tNot (tTru K (tCB (rIsi K) (tCons (tVar 1) (tCons (tC (.ref (He.ga K ("RefSort" : Str)))) tNil))))) (tRet (tC (.bl false))) tNext) (tRet (tAndV (tOp (rEqX K) (tFld K (tVar 0) ("kinds" : Str)) (tFld K (tVar 1) ("kinds" : Str))) (tOp (rEqX K) (tFld K (tVar 0) ("rule" : Str)) (tFld K (tVar 1) ("rule" : Str))))))
def sp_RefSort_eq (K : PySem.W.Frag) : Sp := fun vs H Q E => vs.length = 2 ∧ t_RefSort_eq K ⟨fun _ H' => Q .non H', Q, fun _ _ => False, fun _ _ => False⟩ (start ["self", "other"] vs) H
/-- ListSort.__eq__: 0 self, 1 other -/
def t_ListSort_eq (K : PySem.W.Frag) : TS :=
  (tSeq (tIfS (tNot (tTru K (tCB (rIsi K) (tCons (tVar 1) (tCons (tC (.ref (He.ga K ("ListSort" : Str)))) tNil))))) (tRet (tC (.bl false))) tNext) (tRet (tOp (rEqX K) (tFld K (tVar 0) ("kinds" : Str)) (tFld K (tVar 1) ("kinds" : Str)))))
def sp_ListSort_eq (K : PySem.W.Frag) : Sp := fun vs H Q E => vs.length = 2 ∧ t_ListSort_eq K ⟨fun _ H' => Q .non H', Q, fun _ _ => False, fun _ _ => False⟩ (start ["self", "other"] vs) H
/-- _law_alike: 0 _law_one, 1 _law_two, 2 _law_k, 3 _law_j -/
def t__law_alike (K : PySem.W.Frag) : TS :=
  (tSeq (tIfS (tTest (tOp (rNeX K) (tEor (tMethD (He.ga K ("Kind" : Str)) ("names" : Str) (sp_Kind_names K) [] Ez (tVar 0) tNil) (tMethD (He.ga K ("Schema" : Str)) ("names" : Str) (sp_Schema_names K) [] Ez (tVar 0) tNil)) (tEor (tMethD (He.ga K ("Kind" : Str)) ("names" : Str) (sp_Kind_names K) [] Ez (tVar 1) tNil) (tMethD (He.ga K ("Schema" : Str)) ("names" : Str) (sp_Schema_names K) [] Ez (tVar 1) tNil)))) (tRet (tC (.bl false))) tNext) (tSeq (tFor (iRng1 (tCons (tCB (rLen K) (tCons (tFld K (tVar 0) ("kinds" : Str)) tNil)) tNil)) (gName 2) (tSeq (tIfS (tOr (tTest (tOp (rNeX K) (tEor (tMethD (He.ga K ("Kind" : Str)) ("names" : Str) (sp_Kind_names K) [] Ez (tOp (rIx K) (tFld K (tVar 0) ("kinds" : Str)) (tVar 2)) tNil) (tMethD (He.ga K ("Schema" : Str)) ("names" : Str) (sp_Schema_names K) [] Ez (tOp (rIx K) (tFld K (tVar 0) ("kinds" : Str)) (tVar 2)) tNil)) (tEor (tMethD (He.ga K ("Kind" : Str)) ("names" : Str) (sp_Kind_names K) [] Ez (tOp (rIx K) (tFld K (tVar 1) ("kinds" : Str)) (tVar 2)) tNil) (tMethD (He.ga K ("Schema" : Str)) ("names" : Str) (sp_Schema_names K) [] Ez (tOp (rIx K) (tFld K (tVar 1) ("kinds" : Str)) (tVar 2)) tNil)))) (tTest (tOp (rNeX K) (tFld K (tOp (rIx K) (tFld K (tVar 0) ("kinds" : Str)) (tVar 2)) ("key_rows" : Str)) (tFld K (tOp (rIx K) (tFld K (tVar 1) ("kinds" : Str)) (tVar 2)) ("key_rows" : Str))))) (tRet (tC (.bl false))) tNext) (tFor (iRng1 (tCons (tCB (rLen K) (tCons (tFld K (tOp (rIx K) (tFld K (tVar 0) ("kinds" : Str)) (tVar 2)) ("fields" : Str)) tNil)) tNil)) (gName 3) (tSeq (tIfS (tTest (tOp (rOr2 (rNeO K (He.ga K ("IntSort" : Str)) (sp_IntSort_eq K) E0) (rOr2 (rNeO K (He.ga K ("TextSort" : Str)) (sp_TextSort_eq K) E0) (rOr2 (rNeO K (He.ga K ("ChoiceSort" : Str)) (sp_ChoiceSort_eq K) E0) (rOr2 (rNeO K (He.ga K ("RefSort" : Str)) (sp_RefSort_eq K) E0) (rNeO K (He.ga K ("ListSort" : Str)) (sp_ListSort_eq K) E0))))) (tFld K (tOp (rIx K) (tFld K (tOp (rIx K) (tFld K (tVar 0) ("kinds" : Str)) (tVar 2)) ("fields" : Str)) (tVar 3)) ("shape" : Str)) (tFld K (tOp (rIx K) (tFld K (tOp (rIx K) (tFld K (tVar 1) ("kinds" : Str)) (tVar 2)) ("fields" : Str)) (tVar 3)) ("shape" : Str)))) (tRet (tC (.bl false))) tNext) (tIfS (tTest (tOp (rNeX K) (tFld K (tOp (rIx K) (tFld K (tOp (rIx K) (tFld K (tVar 0) ("kinds" : Str)) (tVar 2)) ("fields" : Str)) (tVar 3)) ("needed" : Str)) (tFld K (tOp (rIx K) (tFld K (tOp (rIx K) (tFld K (tVar 1) ("kinds" : Str)) (tVar 2)) ("fields" : Str)) (tVar 3)) ("needed" : Str)))) (tRet (tC (.bl false))) tNext))))) (tRet (tC (.bl true)))))
def sp__law_alike (K : PySem.W.Frag) : Sp := fun vs H Q E => vs.length = 2 ∧ t__law_alike K ⟨fun _ H' => Q .non H', Q, fun _ _ => False, fun _ _ => False⟩ (start ["_law_one", "_law_two", "_law_k", "_law_j"] vs) H
/-- law: 0 _law_script, 1 _law_draws, 2 _law_text_here, 3 _law_turn, 4 _law_found, 5 e, 6 _law_told, 7 _law_again -/
def t_law (K : PySem.W.Frag) (W : WX) : TS :=
  (tSeq (tAsg (tCallSD (sp__law_cells K) [] Ez (tCons (tVar 0) (tCons (tC (.int 16)) tNil))) (gName 1)) (tSeq (tAsg (tCallSD (sp__law_text K) [] Ez (tCons (tCallSD (sp__law_schema K) [] Ez (tCons (tVar 1) tNil)) tNil)) (gName 2)) (tSeq (tFor (iRng1 (tCons (tCallSD (sp__law_draw K) [] Ez (tCons (tVar 1) (tCons (tC (.int 4)) tNil))) tNil)) (gName 3) (tAsg (tCallSD (sp__law_changed K) [] Ez (tCons (tVar 1) (tCons (tVar 2) tNil))) (gName 2))) (C8.tCut (tTryAs K (.ref (He.ga K "Fault")) 5 (fun W => (tAsg (tCallSD (sp_read_schema K) [] (WE W) (tCons (tVar 2) tNil)) (gName 4))) (fun a cls d => (tRet (tAndV (tCB (rIsF K (He.ga K "Fault") a cls d) (tCons (tVar 5) (tCons (tC (.ref (He.ga K ("HeapError" : Str)))) tNil))) (tAndV (tChain rLeX rLeX (tC (.int 0)) (tXf a cls d (He.ga K "Fault") ("place" : Str) (tVar 5)) (tCB (rLen K) (tCons (tVar 2) tNil))) (tCB (rIsi K) (tCons (tXf a cls d (He.ga K "Fault") ("reason" : Str) (tVar 5)) (tCons (tC (.ty "str")) tNil))))))) W) (tSeq (tAsg (tCallSD (sp_write_schema K) [] Ez (tCons (tVar 4) tNil)) (gName 6)) (tSeq (tIfS (tOr (tTest (tOp rGtX (tCB (rLen K) (tCons (tVar 2) tNil)) (tC (.int 1000)))) (tTest (tOp rGtX (tCB (rLen K) (tCons (tVar 6) tNil)) (tC (.int 1000))))) (tRet (tOp rLeX (tCB (rLen K) (tCons (tVar 2) tNil)) (tC (.int 1000)))) tNext) (tSeq (tAsg (tCallSD (sp_read_schema K) [] (WE W) (tCons (tVar 6) tNil)) (gName 7)) (tRet (tAndV (tOp (rEqX K) (tCallSD (sp_write_schema K) [] Ez (tCons (tVar 7) tNil)) (tVar 6)) (tCallSD (sp__law_alike K) [] Ez (tCons (tVar 4) (tCons (tVar 7) tNil))))))))))))
def sp_law (K : PySem.W.Frag) : Sp := fun vs H Q E => vs.length = 1 ∧ t_law K (fun cls d _ H => E cls d H) ⟨fun _ H' => Q .non H', Q, fun _ _ => False, fun _ _ => False⟩ (start ["_law_script", "_law_draws", "_law_text_here", "_law_turn", "_law_found", "e", "_law_told", "_law_again"] vs) H
/-! ### the scopes -/
theorem sc__law_cells : FnScope ["_law_script", "_law_count", "_law_cells_here", "_law_k", "_law_cell"] ["_law_script", "_law_count"] (defScope s__law_cells) := ⟨rfl, rfl, rfl, by decide +kernel, rfl, by decide +kernel, by decide +kernel⟩
theorem sc__law_quote : FnScope ["_law_text_here"] ["_law_text_here"] (defScope s__law_quote) := ⟨rfl, rfl, rfl, by decide +kernel, rfl, by decide +kernel, by decide +kernel⟩
theorem sc__law_shape_text : FnScope ["_law_shape_here", "_law_text_here"] ["_law_shape_here"] (defScope s__law_shape_text) := ⟨rfl, rfl, rfl, by decide +kernel, rfl, by decide +kernel, by decide +kernel⟩
theorem sc__law_field_text : FnScope ["_law_field", "_law_text_here"] ["_law_field"] (defScope s__law_field_text) := ⟨rfl, rfl, rfl, by decide +kernel, rfl, by decide +kernel, by decide +kernel⟩
theorem sc__law_kind_text : FnScope ["_law_kind_here", "_law_parts", "_law_field", "_law_row"] ["_law_kind_here"] (defScope s__law_kind_text) := ⟨rfl, rfl, rfl, by decide +kernel, rfl, by decide +kernel, by decide +kernel⟩
theorem sc__law_text : FnScope ["_law_kinds", "_law_kind_here"] ["_law_kinds"] (defScope s__law_text) := ⟨rfl, rfl, rfl, by decide +kernel, rfl, by decide +kernel, by decide +kernel⟩
theorem sc__law_draw : FnScope ["_law_draws", "_law_bound", "_law_value"] ["_law_draws", "_law_bound"] (defScope s__law_draw) := ⟨rfl, rfl, rfl, by decide +kernel, rfl, by decide +kernel, by decide +kernel⟩
theorem sc__law_pick : FnScope ["_law_draws", "_law_row"] ["_law_draws", "_law_row"] (defScope s__law_pick) := ⟨rfl, rfl, rfl, by decide +kernel, rfl, by decide +kernel, by decide +kernel⟩
theorem sc__law_shape : FnScope ["_law_draws", "_law_names", "_law_choice", "_law_low", "_law_start", "_law_told"] ["_law_draws", "_law_names"] (defScope s__law_shape) := ⟨rfl, rfl, rfl, by decide +kernel, rfl, by decide +kernel, by decide +kernel⟩
theorem sc__law_kind : FnScope ["_law_draws", "_law_name", "_law_names", "_law_fields", "_law_field", "_law_shape_here", "_law_free", "_law_rows", "_law_cut"] ["_law_draws", "_law_name", "_law_names"] (defScope s__law_kind) := ⟨rfl, rfl, rfl, by decide +kernel, rfl, by decide +kernel, by decide +kernel⟩
theorem sc__law_schema : FnScope ["_law_draws", "_law_names", "_law_name"] ["_law_draws"] (defScope s__law_schema) := ⟨rfl, rfl, rfl, by decide +kernel, rfl, by decide +kernel, by decide +kernel⟩
theorem sc__law_changed : FnScope ["_law_draws", "_law_text_here", "_law_at", "_law_size", "_law_choice"] ["_law_draws", "_law_text_here"] (defScope s__law_changed) := ⟨rfl, rfl, rfl, by decide +kernel, rfl, by decide +kernel, by decide +kernel⟩
theorem sc_Reader_init : FnScope ["self", "row", "reserved"] ["self", "row", "reserved"] (defScope s_Reader_init) := ⟨rfl, rfl, rfl, by decide +kernel, rfl, by decide +kernel, by decide +kernel⟩
theorem sc_word_end : FnScope ["text", "place"] ["text", "place"] (defScope s_word_end) := ⟨rfl, rfl, rfl, by decide +kernel, rfl, by decide +kernel, by decide +kernel⟩
theorem sc_Token_init : FnScope ["self", "role", "text", "place"] ["self", "role", "text", "place"] (defScope s_Token_init) := ⟨rfl, rfl, rfl, by decide +kernel, rfl, by decide +kernel, by decide +kernel⟩
theorem sc_read_word : FnScope ["text", "place", "stop"] ["text", "place"] (defScope s_read_word) := ⟨rfl, rfl, rfl, by decide +kernel, rfl, by decide +kernel, by decide +kernel⟩
theorem sc_digits_end : FnScope ["text", "place"] ["text", "place"] (defScope s_digits_end) := ⟨rfl, rfl, rfl, by decide +kernel, rfl, by decide +kernel, by decide +kernel⟩
theorem sc_read_number : FnScope ["text", "place", "stop"] ["text", "place"] (defScope s_read_number) := ⟨rfl, rfl, rfl, by decide +kernel, rfl, by decide +kernel, by decide +kernel⟩
theorem sc_read_quoted : FnScope ["text", "place", "signs", "at", "sign"] ["text", "place"] (defScope s_read_quoted) := ⟨rfl, rfl, rfl, by decide +kernel, rfl, by decide +kernel, by decide +kernel⟩
theorem sc_read_sign : FnScope ["text", "place", "signs", "found", "sign"] ["text", "place", "signs"] (defScope s_read_sign) := ⟨rfl, rfl, rfl, by decide +kernel, rfl, by decide +kernel, by decide +kernel⟩
theorem sc_tokens : FnScope ["text", "signs", "longest", "row", "place", "sign", "token"] ["text", "signs", "longest"] (defScope s_tokens) := ⟨rfl, rfl, rfl, by decide +kernel, rfl, by decide +kernel, by decide +kernel⟩
theorem sc_Reader_now : FnScope ["self"] ["self"] (defScope s_Reader_now) := ⟨rfl, rfl, rfl, by decide +kernel, rfl, by decide +kernel, by decide +kernel⟩
theorem sc_Reader_is_word : FnScope ["self", "text"] ["self", "text"] (defScope s_Reader_is_word) := ⟨rfl, rfl, rfl, by decide +kernel, rfl, by decide +kernel, by decide +kernel⟩
theorem sc_Reader_step : FnScope ["self", "token"] ["self"] (defScope s_Reader_step) := ⟨rfl, rfl, rfl, by decide +kernel, rfl, by decide +kernel, by decide +kernel⟩
theorem sc_Reader_take_word : FnScope ["self", "text"] ["self", "text"] (defScope s_Reader_take_word) := ⟨rfl, rfl, rfl, by decide +kernel, rfl, by decide +kernel, by decide +kernel⟩
theorem sc_KindPlace_init : FnScope ["self", "token"] ["self", "token"] (defScope s_KindPlace_init) := ⟨rfl, rfl, rfl, by decide +kernel, rfl, by decide +kernel, by decide +kernel⟩
theorem sc_Reader_is_name : FnScope ["self"] ["self"] (defScope s_Reader_is_name) := ⟨rfl, rfl, rfl, by decide +kernel, rfl, by decide +kernel, by decide +kernel⟩
theorem sc_Reader_take_kind : FnScope ["self"] ["self"] (defScope s_Reader_take_kind) := ⟨rfl, rfl, rfl, by decide +kernel, rfl, by decide +kernel, by decide +kernel⟩
theorem sc_Reader_is_sign : FnScope ["self", "text"] ["self", "text"] (defScope s_Reader_is_sign) := ⟨rfl, rfl, rfl, by decide +kernel, rfl, by decide +kernel, by decide +kernel⟩
theorem sc_Reader_take_sign : FnScope ["self", "text"] ["self", "text"] (defScope s_Reader_take_sign) := ⟨rfl, rfl, rfl, by decide +kernel, rfl, by decide +kernel, by decide +kernel⟩
theorem sc_Reader_take_field : FnScope ["self"] ["self"] (defScope s_Reader_take_field) := ⟨rfl, rfl, rfl, by decide +kernel, rfl, by decide +kernel, by decide +kernel⟩
theorem sc_read_key : FnScope ["reader", "row"] ["reader"] (defScope s_read_key) := ⟨rfl, rfl, rfl, by decide +kernel, rfl, by decide +kernel, by decide +kernel⟩
theorem sc_Reader_take_number : FnScope ["self"] ["self"] (defScope s_Reader_take_number) := ⟨rfl, rfl, rfl, by decide +kernel, rfl, by decide +kernel, by decide +kernel⟩
theorem sc_Reader_take_integer : FnScope ["self", "sign"] ["self"] (defScope s_Reader_take_integer) := ⟨rfl, rfl, rfl, by decide +kernel, rfl, by decide +kernel, by decide +kernel⟩
theorem sc_IntSort_init : FnScope ["self", "low", "high"] ["self", "low", "high"] (defScope s_IntSort_init) := ⟨rfl, rfl, rfl, by decide +kernel, rfl, by decide +kernel, by decide +kernel⟩
theorem sc_read_int : FnScope ["reader", "place", "low", "high"] ["reader"] (defScope s_read_int) := ⟨rfl, rfl, rfl, by decide +kernel, rfl, by decide +kernel, by decide +kernel⟩
theorem sc_TextSort_init : FnScope ["self", "longest", "without"] ["self", "longest", "without"] (defScope s_TextSort_init) := ⟨rfl, rfl, rfl, by decide +kernel, rfl, by decide +kernel, by decide +kernel⟩
theorem sc_Reader_take_text : FnScope ["self"] ["self"] (defScope s_Reader_take_text) := ⟨rfl, rfl, rfl, by decide +kernel, rfl, by decide +kernel, by decide +kernel⟩
theorem sc_read_text_sort : FnScope ["reader", "token", "longest"] ["reader"] (defScope s_read_text_sort) := ⟨rfl, rfl, rfl, by decide +kernel, rfl, by decide +kernel, by decide +kernel⟩
theorem sc_ChoiceSort_init : FnScope ["self", "choices"] ["self", "choices"] (defScope s_ChoiceSort_init) := ⟨rfl, rfl, rfl, by decide +kernel, rfl, by decide +kernel, by decide +kernel⟩
theorem sc_read_choices : FnScope ["reader", "choices", "token"] ["reader"] (defScope s_read_choices) := ⟨rfl, rfl, rfl, by decide +kernel, rfl, by decide +kernel, by decide +kernel⟩
theorem sc_read_targets : FnScope ["reader", "targets", "token", "known"] ["reader"] (defScope s_read_targets) := ⟨rfl, rfl, rfl, by decide +kernel, rfl, by decide +kernel, by decide +kernel⟩
theorem sc_ListSort_init : FnScope ["self", "kinds"] ["self", "kinds"] (defScope s_ListSort_init) := ⟨rfl, rfl, rfl, by decide +kernel, rfl, by decide +kernel, by decide +kernel⟩
theorem sc_RefSort_init : FnScope ["self", "kinds", "rule"] ["self", "kinds", "rule"] (defScope s_RefSort_init) := ⟨rfl, rfl, rfl, by decide +kernel, rfl, by decide +kernel, by decide +kernel⟩
theorem sc_read_sort : FnScope ["reader", "word", "targets", "names", "token", "rule", "known"] ["reader"] (defScope s_read_sort) := ⟨rfl, rfl, rfl, by decide +kernel, rfl, by decide +kernel, by decide +kernel⟩
theorem sc_is_list : FnScope ["sort"] ["sort"] (defScope s_is_list) := ⟨rfl, rfl, rfl, by decide +kernel, rfl, by decide +kernel, by decide +kernel⟩
theorem sc_Field_init : FnScope ["self", "name", "shape", "needed"] ["self", "name", "shape", "needed"] (defScope s_Field_init) := ⟨rfl, rfl, rfl, by decide +kernel, rfl, by decide +kernel, by decide +kernel⟩
theorem sc_read_field : FnScope ["reader", "token", "sort", "targets", "needed", "place"] ["reader"] (defScope s_read_field) := ⟨rfl, rfl, rfl, by decide +kernel, rfl, by decide +kernel, by decide +kernel⟩
theorem sc_read_kind : FnScope ["reader", "found"] ["reader"] (defScope s_read_kind) := ⟨rfl, rfl, rfl, by decide +kernel, rfl, by decide +kernel, by decide +kernel⟩
theorem sc_Schema_init : FnScope ["self", "kinds"] ["self", "kinds"] (defScope s_Schema_init) := ⟨rfl, rfl, rfl, by decide +kernel, rfl, by decide +kernel, by decide +kernel⟩
theorem sc_check_key : FnScope ["fields", "row", "seen", "token", "field", "known"] ["fields", "row"] (defScope s_check_key) := ⟨rfl, rfl, rfl, by decide +kernel, rfl, by decide +kernel, by decide +kernel⟩
theorem sc_Kind_init : FnScope ["self", "name", "fields", "key_rows", "names"] ["self", "name", "fields", "key_rows"] (defScope s_Kind_init) := ⟨rfl, rfl, rfl, by decide +kernel, rfl, by decide +kernel, by decide +kernel⟩
theorem sc_check_kind : FnScope ["found", "names", "fields", "field", "token", "targets", "known", "target", "used", "keys", "row", "key"] ["found", "names"] (defScope s_check_kind) := ⟨rfl, rfl, rfl, by decide +kernel, rfl, by decide +kernel, by decide +kernel⟩
theorem sc_check_kinds : FnScope ["row", "names", "found", "kinds", "kind"] ["row"] (defScope s_check_kinds) := ⟨rfl, rfl, rfl, by decide +kernel, rfl, by decide +kernel, by decide +kernel⟩
theorem sc_read_schema : FnScope ["text", "reader", "row"] ["text"] (defScope s_read_schema) := ⟨rfl, rfl, rfl, by decide +kernel, rfl, by decide +kernel, by decide +kernel⟩
theorem sc_IntSort_written : FnScope ["self"] ["self"] (defScope s_IntSort_written) := ⟨rfl, rfl, rfl, by decide +kernel, rfl, by decide +kernel, by decide +kernel⟩
theorem sc_quoted : FnScope ["text", "signs", "sign"] ["text"] (defScope s_quoted) := ⟨rfl, rfl, rfl, by decide +kernel, rfl, by decide +kernel, by decide +kernel⟩
theorem sc_TextSort_written : FnScope ["self"] ["self"] (defScope s_TextSort_written) := ⟨rfl, rfl, rfl, by decide +kernel, rfl, by decide +kernel, by decide +kernel⟩
theorem sc_ChoiceSort_written : FnScope ["self", "choice"] ["self"] (defScope s_ChoiceSort_written) := ⟨rfl, rfl, rfl, by decide +kernel, rfl, by decide +kernel, by decide +kernel⟩
theorem sc_RefSort_written : FnScope ["self", "text"] ["self"] (defScope s_RefSort_written) := ⟨rfl, rfl, rfl, by decide +kernel, rfl, by decide +kernel, by decide +kernel⟩
theorem sc_ListSort_written : FnScope ["self"] ["self"] (defScope s_ListSort_written) := ⟨rfl, rfl, rfl, by decide +kernel, rfl, by decide +kernel, by decide +kernel⟩
theorem sc_Field_written : FnScope ["self", "text"] ["self"] (defScope s_Field_written) := ⟨rfl, rfl, rfl, by decide +kernel, rfl, by decide +kernel, by decide +kernel⟩
theorem sc_Kind_written : FnScope ["self", "parts", "field", "names"] ["self"] (defScope s_Kind_written) := ⟨rfl, rfl, rfl, by decide +kernel, rfl, by decide +kernel, by decide +kernel⟩
theorem sc_Schema_written : FnScope ["self", "kind"] ["self"] (defScope s_Schema_written) := ⟨rfl, rfl, rfl, by decide +kernel, rfl, by decide +kernel, by decide +kernel⟩
theorem sc_write_schema : FnScope ["schema"] ["schema"] (defScope s_write_schema) := ⟨rfl, rfl, rfl, by decide +kernel, rfl, by decide +kernel, by decide +kernel⟩
theorem sc_Kind_names : FnScope ["self", "field"] ["self"] (defScope s_Kind_names) := ⟨rfl, rfl, rfl, by decide +kernel, rfl, by decide +kernel, by decide +kernel⟩
theorem sc_Schema_names : FnScope ["self", "kind"] ["self"] (defScope s_Schema_names) := ⟨rfl, rfl, rfl, by decide +kernel, rfl, by decide +kernel, by decide +kernel⟩
theorem sc_IntSort_eq : FnScope ["self", "other"] ["self", "other"] (defScope s_IntSort_eq) := ⟨rfl, rfl, rfl, by decide +kernel, rfl, by decide +kernel, by decide +kernel⟩
theorem sc_TextSort_eq : FnScope ["self", "other"] ["self", "other"] (defScope s_TextSort_eq) := ⟨rfl, rfl, rfl, by decide +kernel, rfl, by decide +kernel, by decide +kernel⟩
theorem sc_ChoiceSort_eq : FnScope ["self", "other"] ["self", "other"] (defScope s_ChoiceSort_eq) := ⟨rfl, rfl, rfl, by decide +kernel, rfl, by decide +kernel, by decide +kernel⟩
theorem sc_RefSort_eq : FnScope ["self", "other"] ["self", "other"] (defScope s_RefSort_eq) := ⟨rfl, rfl, rfl, by decide +kernel, rfl, by decide +kernel, by decide +kernel⟩
theorem sc_ListSort_eq : FnScope ["self", "other"] ["self", "other"] (defScope s_ListSort_eq) := ⟨rfl, rfl, rfl, by decide +kernel, rfl, by decide +kernel, by decide +kernel⟩
theorem sc__law_alike : FnScope ["_law_one", "_law_two", "_law_k", "_law_j"] ["_law_one", "_law_two"] (defScope s__law_alike) := ⟨rfl, rfl, rfl, by decide +kernel, rfl, by decide +kernel, by decide +kernel⟩
theorem sc_law : FnScope ["_law_script", "_law_draws", "_law_text_here", "_law_turn", "_law_found", "e", "_law_told", "_law_again"] ["_law_script"] (defScope s_law) := ⟨rfl, rfl, rfl, by decide +kernel, rfl, by decide +kernel, by decide +kernel⟩
/-! ### what the top left -/
structure Tx (K : PySem.W.Frag) (mg : Str → Option Value) : Prop where
  d__law_cells : ∃ fd, FunD K "_law_cells" "_law_cells" (defArgs s__law_cells) (defBody s__law_cells) (defScope s__law_cells) [] [] (He.fAd K ("_law_cells", none)) fd
  d__law_quote : ∃ fd, FunD K "_law_quote" "_law_quote" (defArgs s__law_quote) (defBody s__law_quote) (defScope s__law_quote) [] [] (He.fAd K ("_law_quote", none)) fd
  d__law_shape_text : ∃ fd, FunD K "_law_shape_text" "_law_shape_text" (defArgs s__law_shape_text) (defBody s__law_shape_text) (defScope s__law_shape_text) [] [] (He.fAd K ("_law_shape_text", none)) fd
  d__law_field_text : ∃ fd, FunD K "_law_field_text" "_law_field_text" (defArgs s__law_field_text) (defBody s__law_field_text) (defScope s__law_field_text) [] [] (He.fAd K ("_law_field_text", none)) fd
  d__law_kind_text : ∃ fd, FunD K "_law_kind_text" "_law_kind_text" (defArgs s__law_kind_text) (defBody s__law_kind_text) (defScope s__law_kind_text) [] [] (He.fAd K ("_law_kind_text", none)) fd
  d__law_text : ∃ fd, FunD K "_law_text" "_law_text" (defArgs s__law_text) (defBody s__law_text) (defScope s__law_text) [] [] (He.fAd K ("_law_text", none)) fd
  d__law_draw : ∃ fd, FunD K "_law_draw" "_law_draw" (defArgs s__law_draw) (defBody s__law_draw) (defScope s__law_draw) [] [] (He.fAd K ("_law_draw", none)) fd
  d__law_pick : ∃ fd, FunD K "_law_pick" "_law_pick" (defArgs s__law_pick) (defBody s__law_pick) (defScope s__law_pick) [] [] (He.fAd K ("_law_pick", none)) fd
  d__law_shape : ∃ fd, FunD K "_law_shape" "_law_shape" (defArgs s__law_shape) (defBody s__law_shape) (defScope s__law_shape) [] [] (He.fAd K ("_law_shape", none)) fd
  d__law_kind : ∃ fd, FunD K "_law_kind" "_law_kind" (defArgs s__law_kind) (defBody s__law_kind) (defScope s__law_kind) [] [] (He.fAd K ("_law_kind", none)) fd
  d__law_schema : ∃ fd, FunD K "_law_schema" "_law_schema" (defArgs s__law_schema) (defBody s__law_schema) (defScope s__law_schema) [] [] (He.fAd K ("_law_schema", none)) fd
  d__law_changed : ∃ fd, FunD K "_law_changed" "_law_changed" (defArgs s__law_changed) (defBody s__law_changed) (defScope s__law_changed) [] [] (He.fAd K ("_law_changed", none)) fd
  d_Reader_init : ∃ fd, FunD K "__init__" "Reader.__init__" (defArgs s_Reader_init) (defBody s_Reader_init) (defScope s_Reader_init) [] [] (He.fAd K ("Reader", some "__init__")) fd
  d_word_end : ∃ fd, FunD K "word_end" "word_end" (defArgs s_word_end) (defBody s_word_end) (defScope s_word_end) [] [] (He.fAd K ("word_end", none)) fd
  d_Token_init : ∃ fd, FunD K "__init__" "Token.__init__" (defArgs s_Token_init) (defBody s_Token_init) (defScope s_Token_init) [] [] (He.fAd K ("Token", some "__init__")) fd
  d_read_word : ∃ fd, FunD K "read_word" "read_word" (defArgs s_read_word) (defBody s_read_word) (defScope s_read_word) [] [] (He.fAd K ("read_word", none)) fd
  d_digits_end : ∃ fd, FunD K "digits_end" "digits_end" (defArgs s_digits_end) (defBody s_digits_end) (defScope s_digits_end) [] [] (He.fAd K ("digits_end", none)) fd
  d_read_number : ∃ fd, FunD K "read_number" "read_number" (defArgs s_read_number) (defBody s_read_number) (defScope s_read_number) [] [] (He.fAd K ("read_number", none)) fd
  d_read_quoted : ∃ fd, FunD K "read_quoted" "read_quoted" (defArgs s_read_quoted) (defBody s_read_quoted) (defScope s_read_quoted) [] [] (He.fAd K ("read_quoted", none)) fd
  d_read_sign : ∃ fd, FunD K "read_sign" "read_sign" (defArgs s_read_sign) (defBody s_read_sign) (defScope s_read_sign) [] [] (He.fAd K ("read_sign", none)) fd
  d_tokens : ∃ fd, FunD K "tokens" "tokens" (defArgs s_tokens) (defBody s_tokens) (defScope s_tokens) [] [] (He.fAd K ("tokens", none)) fd
  d_Reader_now : ∃ fd, FunD K "now" "Reader.now" (defArgs s_Reader_now) (defBody s_Reader_now) (defScope s_Reader_now) [] [] (pAd K "Reader" "now") fd
  d_Reader_is_word : ∃ fd, FunD K "is_word" "Reader.is_word" (defArgs s_Reader_is_word) (defBody s_Reader_is_word) (defScope s_Reader_is_word) [] [] (He.fAd K ("Reader", some "is_word")) fd
  d_Reader_step : ∃ fd, FunD K "step" "Reader.step" (defArgs s_Reader_step) (defBody s_Reader_step) (defScope s_Reader_step) [] [] (He.fAd K ("Reader", some "step")) fd
  d_Reader_take_word : ∃ fd, FunD K "take_word" "Reader.take_word" (defArgs s_Reader_take_word) (defBody s_Reader_take_word) (defScope s_Reader_take_word) [] [] (He.fAd K ("Reader", some "take_word")) fd
  d_KindPlace_init : ∃ fd, FunD K "__init__" "KindPlace.__init__" (defArgs s_KindPlace_init) (defBody s_KindPlace_init) (defScope s_KindPlace_init) [] [] (He.fAd K ("KindPlace", some "__init__")) fd
  d_Reader_is_name : ∃ fd, FunD K "is_name" "Reader.is_name" (defArgs s_Reader_is_name) (defBody s_Reader_is_name) (defScope s_Reader_is_name) [] [] (He.fAd K ("Reader", some "is_name")) fd
  d_Reader_take_kind : ∃ fd, FunD K "take_kind" "Reader.take_kind" (defArgs s_Reader_take_kind) (defBody s_Reader_take_kind) (defScope s_Reader_take_kind) [] [] (He.fAd K ("Reader", some "take_kind")) fd
  d_Reader_is_sign : ∃ fd, FunD K "is_sign" "Reader.is_sign" (defArgs s_Reader_is_sign) (defBody s_Reader_is_sign) (defScope s_Reader_is_sign) [] [] (He.fAd K ("Reader", some "is_sign")) fd
  d_Reader_take_sign : ∃ fd, FunD K "take_sign" "Reader.take_sign" (defArgs s_Reader_take_sign) (defBody s_Reader_take_sign) (defScope s_Reader_take_sign) [] [] (He.fAd K ("Reader", some "take_sign")) fd
  d_Reader_take_field : ∃ fd, FunD K "take_field" "Reader.take_field" (defArgs s_Reader_take_field) (defBody s_Reader_take_field) (defScope s_Reader_take_field) [] [] (He.fAd K ("Reader", some "take_field")) fd
  d_read_key : ∃ fd, FunD K "read_key" "read_key" (defArgs s_read_key) (defBody s_read_key) (defScope s_read_key) [] [] (He.fAd K ("read_key", none)) fd
  d_Reader_take_number : ∃ fd, FunD K "take_number" "Reader.take_number" (defArgs s_Reader_take_number) (defBody s_Reader_take_number) (defScope s_Reader_take_number) [] [] (He.fAd K ("Reader", some "take_number")) fd
  d_Reader_take_integer : ∃ fd, FunD K "take_integer" "Reader.take_integer" (defArgs s_Reader_take_integer) (defBody s_Reader_take_integer) (defScope s_Reader_take_integer) [] [] (He.fAd K ("Reader", some "take_integer")) fd
  d_IntSort_init : ∃ fd, FunD K "__init__" "IntSort.__init__" (defArgs s_IntSort_init) (defBody s_IntSort_init) (defScope s_IntSort_init) [] [] (He.fAd K ("IntSort", some "__init__")) fd
  d_read_int : ∃ fd, FunD K "read_int" "read_int" (defArgs s_read_int) (defBody s_read_int) (defScope s_read_int) [] [] (He.fAd K ("read_int", none)) fd
  d_TextSort_init : ∃ fd, FunD K "__init__" "TextSort.__init__" (defArgs s_TextSort_init) (defBody s_TextSort_init) (defScope s_TextSort_init) [.non] [] (He.fAd K ("TextSort", some "__init__")) fd
  d_Reader_take_text : ∃ fd, FunD K "take_text" "Reader.take_text" (defArgs s_Reader_take_text) (defBody s_Reader_take_text) (defScope s_Reader_take_text) [] [] (He.fAd K ("Reader", some "take_text")) fd
  d_read_text_sort : ∃ fd, FunD K "read_text_sort" "read_text_sort" (defArgs s_read_text_sort) (defBody s_read_text_sort) (defScope s_read_text_sort) [] [] (He.fAd K ("read_text_sort", none)) fd
  d_ChoiceSort_init : ∃ fd, FunD K "__init__" "ChoiceSort.__init__" (defArgs s_ChoiceSort_init) (defBody s_ChoiceSort_init) (defScope s_ChoiceSort_init) [] [] (He.fAd K ("ChoiceSort", some "__init__")) fd
  d_read_choices : ∃ fd, FunD K "read_choices" "read_choices" (defArgs s_read_choices) (defBody s_read_choices) (defScope s_read_choices) [] [] (He.fAd K ("read_choices", none)) fd
  d_read_targets : ∃ fd, FunD K "read_targets" "read_targets" (defArgs s_read_targets) (defBody s_read_targets) (defScope s_read_targets) [] [] (He.fAd K ("read_targets", none)) fd
  d_ListSort_init : ∃ fd, FunD K "__init__" "ListSort.__init__" (defArgs s_ListSort_init) (defBody s_ListSort_init) (defScope s_ListSort_init) [] [] (He.fAd K ("ListSort", some "__init__")) fd
  d_RefSort_init : ∃ fd, FunD K "__init__" "RefSort.__init__" (defArgs s_RefSort_init) (defBody s_RefSort_init) (defScope s_RefSort_init) [] [] (He.fAd K ("RefSort", some "__init__")) fd
  d_read_sort : ∃ fd, FunD K "read_sort" "read_sort" (defArgs s_read_sort) (defBody s_read_sort) (defScope s_read_sort) [] [] (He.fAd K ("read_sort", none)) fd
  d_is_list : ∃ fd, FunD K "is_list" "is_list" (defArgs s_is_list) (defBody s_is_list) (defScope s_is_list) [] [] (He.fAd K ("is_list", none)) fd
  d_Field_init : ∃ fd, FunD K "__init__" "Field.__init__" (defArgs s_Field_init) (defBody s_Field_init) (defScope s_Field_init) [(.bl false)] [] (He.fAd K ("Field", some "__init__")) fd
  d_read_field : ∃ fd, FunD K "read_field" "read_field" (defArgs s_read_field) (defBody s_read_field) (defScope s_read_field) [] [] (He.fAd K ("read_field", none)) fd
  d_read_kind : ∃ fd, FunD K "read_kind" "read_kind" (defArgs s_read_kind) (defBody s_read_kind) (defScope s_read_kind) [] [] (He.fAd K ("read_kind", none)) fd
  d_Schema_init : ∃ fd, FunD K "__init__" "Schema.__init__" (defArgs s_Schema_init) (defBody s_Schema_init) (defScope s_Schema_init) [] [] (He.fAd K ("Schema", some "__init__")) fd
  d_check_key : ∃ fd, FunD K "check_key" "check_key" (defArgs s_check_key) (defBody s_check_key) (defScope s_check_key) [] [] (He.fAd K ("check_key", none)) fd
  d_Kind_init : ∃ fd, FunD K "__init__" "Kind.__init__" (defArgs s_Kind_init) (defBody s_Kind_init) (defScope s_Kind_init) [] [] (He.fAd K ("Kind", some "__init__")) fd
  d_check_kind : ∃ fd, FunD K "check_kind" "check_kind" (defArgs s_check_kind) (defBody s_check_kind) (defScope s_check_kind) [] [] (He.fAd K ("check_kind", none)) fd
  d_check_kinds : ∃ fd, FunD K "check_kinds" "check_kinds" (defArgs s_check_kinds) (defBody s_check_kinds) (defScope s_check_kinds) [] [] (He.fAd K ("check_kinds", none)) fd
  d_read_schema : ∃ fd, FunD K "read_schema" "read_schema" (defArgs s_read_schema) (defBody s_read_schema) (defScope s_read_schema) [] [] (He.fAd K ("read_schema", none)) fd
  d_IntSort_written : ∃ fd, FunD K "written" "IntSort.written" (defArgs s_IntSort_written) (defBody s_IntSort_written) (defScope s_IntSort_written) [] [] (He.fAd K ("IntSort", some "written")) fd
  d_quoted : ∃ fd, FunD K "quoted" "quoted" (defArgs s_quoted) (defBody s_quoted) (defScope s_quoted) [] [] (He.fAd K ("quoted", none)) fd
  d_TextSort_written : ∃ fd, FunD K "written" "TextSort.written" (defArgs s_TextSort_written) (defBody s_TextSort_written) (defScope s_TextSort_written) [] [] (He.fAd K ("TextSort", some "written")) fd
  d_ChoiceSort_written : ∃ fd, FunD K "written" "ChoiceSort.written" (defArgs s_ChoiceSort_written) (defBody s_ChoiceSort_written) (defScope s_ChoiceSort_written) [] [] (He.fAd K ("ChoiceSort", some "written")) fd
  d_RefSort_written : ∃ fd, FunD K "written" "RefSort.written" (defArgs s_RefSort_written) (defBody s_RefSort_written) (defScope s_RefSort_written) [] [] (He.fAd K ("RefSort", some "written")) fd
  d_ListSort_written : ∃ fd, FunD K "written" "ListSort.written" (defArgs s_ListSort_written) (defBody s_ListSort_written) (defScope s_ListSort_written) [] [] (He.fAd K ("ListSort", some "written")) fd
  d_Field_written : ∃ fd, FunD K "written" "Field.written" (defArgs s_Field_written) (defBody s_Field_written) (defScope s_Field_written) [] [] (He.fAd K ("Field", some "written")) fd
  d_Kind_written : ∃ fd, FunD K "written" "Kind.written" (defArgs s_Kind_written) (defBody s_Kind_written) (defScope s_Kind_written) [] [] (He.fAd K ("Kind", some "written")) fd
  d_Schema_written : ∃ fd, FunD K "written" "Schema.written" (defArgs s_Schema_written) (defBody s_Schema_written) (defScope s_Schema_written) [] [] (He.fAd K ("Schema", some "written")) fd
  d_write_schema : ∃ fd, FunD K "write_schema" "write_schema" (defArgs s_write_schema) (defBody s_write_schema) (defScope s_write_schema) [] [] (He.fAd K ("write_schema", none)) fd
  d_Kind_names : ∃ fd, FunD K "names" "Kind.names" (defArgs s_Kind_names) (defBody s_Kind_names) (defScope s_Kind_names) [] [] (He.fAd K ("Kind", some "names")) fd
  d_Schema_names : ∃ fd, FunD K "names" "Schema.names" (defArgs s_Schema_names) (defBody s_Schema_names) (defScope s_Schema_names) [] [] (He.fAd K ("Schema", some "names")) fd
  d_IntSort_eq : ∃ fd, FunD K "__eq__" "IntSort.__eq__" (defArgs s_IntSort_eq) (defBody s_IntSort_eq) (defScope s_IntSort_eq) [] [] (He.fAd K ("IntSort", some "__eq__")) fd
  d_TextSort_eq : ∃ fd, FunD K "__eq__" "TextSort.__eq__" (defArgs s_TextSort_eq) (defBody s_TextSort_eq) (defScope s_TextSort_eq) [] [] (He.fAd K ("TextSort", some "__eq__")) fd
  d_ChoiceSort_eq : ∃ fd, FunD K "__eq__" "ChoiceSort.__eq__" (defArgs s_ChoiceSort_eq) (defBody s_ChoiceSort_eq) (defScope s_ChoiceSort_eq) [] [] (He.fAd K ("ChoiceSort", some "__eq__")) fd
  d_RefSort_eq : ∃ fd, FunD K "__eq__" "RefSort.__eq__" (defArgs s_RefSort_eq) (defBody s_RefSort_eq) (defScope s_RefSort_eq) [] [] (He.fAd K ("RefSort", some "__eq__")) fd
  d_ListSort_eq : ∃ fd, FunD K "__eq__" "ListSort.__eq__" (defArgs s_ListSort_eq) (defBody s_ListSort_eq) (defScope s_ListSort_eq) [] [] (He.fAd K ("ListSort", some "__eq__")) fd
  d__law_alike : ∃ fd, FunD K "_law_alike" "_law_alike" (defArgs s__law_alike) (defBody s__law_alike) (defScope s__law_alike) [] [] (He.fAd K ("_law_alike", none)) fd
  d_law : ∃ fd, FunD K "law" "law" (defArgs s_law) (defBody s_law) (defScope s_law) [] [] (He.fAd K ("law", none)) fd
  g__law_cells : mg "_law_cells" = some (.ref (He.ga K "_law_cells"))
  g__law_quote : mg "_law_quote" = some (.ref (He.ga K "_law_quote"))
  g__law_shape_text : mg "_law_shape_text" = some (.ref (He.ga K "_law_shape_text"))
  g__law_field_text : mg "_law_field_text" = some (.ref (He.ga K "_law_field_text"))
  g__law_kind_text : mg "_law_kind_text" = some (.ref (He.ga K "_law_kind_text"))
  g__law_text : mg "_law_text" = some (.ref (He.ga K "_law_text"))
  g__law_draw : mg "_law_draw" = some (.ref (He.ga K "_law_draw"))
  g__law_pick : mg "_law_pick" = some (.ref (He.ga K "_law_pick"))
  g__law_shape : mg "_law_shape" = some (.ref (He.ga K "_law_shape"))
  g__law_kind : mg "_law_kind" = some (.ref (He.ga K "_law_kind"))
  g__law_schema : mg "_law_schema" = some (.ref (He.ga K "_law_schema"))
  g__law_changed : mg "_law_changed" = some (.ref (He.ga K "_law_changed"))
  g_word_end : mg "word_end" = some (.ref (He.ga K "word_end"))
  g_read_word : mg "read_word" = some (.ref (He.ga K "read_word"))
  g_digits_end : mg "digits_end" = some (.ref (He.ga K "digits_end"))
  g_read_number : mg "read_number" = some (.ref (He.ga K "read_number"))
  g_read_quoted : mg "read_quoted" = some (.ref (He.ga K "read_quoted"))
  g_read_sign : mg "read_sign" = some (.ref (He.ga K "read_sign"))
  g_tokens : mg "tokens" = some (.ref (He.ga K "tokens"))
  g_read_key : mg "read_key" = some (.ref (He.ga K "read_key"))
  g_read_int : mg "read_int" = some (.ref (He.ga K "read_int"))
  g_read_text_sort : mg "read_text_sort" = some (.ref (He.ga K "read_text_sort"))
  g_read_choices : mg "read_choices" = some (.ref (He.ga K "read_choices"))
  g_read_targets : mg "read_targets" = some (.ref (He.ga K "read_targets"))
  g_read_sort : mg "read_sort" = some (.ref (He.ga K "read_sort"))
  g_is_list : mg "is_list" = some (.ref (He.ga K "is_list"))
  g_read_field : mg "read_field" = some (.ref (He.ga K "read_field"))
  g_read_kind : mg "read_kind" = some (.ref (He.ga K "read_kind"))
  g_check_key : mg "check_key" = some (.ref (He.ga K "check_key"))
  g_check_kind : mg "check_kind" = some (.ref (He.ga K "check_kind"))
  g_check_kinds : mg "check_kinds" = some (.ref (He.ga K "check_kinds"))
  g_read_schema : mg "read_schema" = some (.ref (He.ga K "read_schema"))
  g_quoted : mg "quoted" = some (.ref (He.ga K "quoted"))
  g_write_schema : mg "write_schema" = some (.ref (He.ga K "write_schema"))
  g__law_alike : mg "_law_alike" = some (.ref (He.ga K "_law_alike"))
  g_law : mg "law" = some (.ref (He.ga K "law"))
  b_int : mg "int" = none
  b_isinstance : mg "isinstance" = none
  b_len : mg "len" = none
  b_list : mg "list" = none
  b_range : mg "range" = none
  b_str : mg "str" = none
  k_DIGITS : ∃ u, mg "DIGITS" = some u ∧ RelV k_DIGITS u
  k_GREAT : ∃ u, mg "GREAT" = some u ∧ RelV k_GREAT u
  k_LARGEST : ∃ u, mg "LARGEST" = some u ∧ RelV k_LARGEST u
  k_LETTERS : ∃ u, mg "LETTERS" = some u ∧ RelV k_LETTERS u
  k_LONGEST_SCHEMA : ∃ u, mg "LONGEST_SCHEMA" = some u ∧ RelV k_LONGEST_SCHEMA u
  k_LONGEST_TEXT : ∃ u, mg "LONGEST_TEXT" = some u ∧ RelV k_LONGEST_TEXT u
  k_MOST_CHOICES : ∃ u, mg "MOST_CHOICES" = some u ∧ RelV k_MOST_CHOICES u
  k_MOST_FIELDS : ∃ u, mg "MOST_FIELDS" = some u ∧ RelV k_MOST_FIELDS u
  k_MOST_KEYS : ∃ u, mg "MOST_KEYS" = some u ∧ RelV k_MOST_KEYS u
  k_MOST_KINDS : ∃ u, mg "MOST_KINDS" = some u ∧ RelV k_MOST_KINDS u
  k_NUMBER_LENGTH : ∃ u, mg "NUMBER_LENGTH" = some u ∧ RelV k_NUMBER_LENGTH u
  k_WORD_LENGTH : ∃ u, mg "WORD_LENGTH" = some u ∧ RelV k_WORD_LENGTH u
  gc_Field : mg "Field" = some (.ref (He.ga K "Field"))
  cl_Field : Cls K (He.ga K "Field")
  me_Field_written : Meth K (He.ga K "Field") "written" (He.fAd K ("Field", some "written"))
  mk_Field : Mk K (He.ga K "Field") (He.fAd K ("Field", some "__init__"))
  no_Field_name : NoAttr K (He.ga K "Field") "name"
  no_Field_needed : NoAttr K (He.ga K "Field") "needed"
  no_Field_shape : NoAttr K (He.ga K "Field") "shape"
  gc_Kind : mg "Kind" = some (.ref (He.ga K "Kind"))
  cl_Kind : Cls K (He.ga K "Kind")
  me_Kind_names : Meth K (He.ga K "Kind") "names" (He.fAd K ("Kind", some "names"))
  me_Kind_written : Meth K (He.ga K "Kind") "written" (He.fAd K ("Kind", some "written"))
  mk_Kind : Mk K (He.ga K "Kind") (He.fAd K ("Kind", some "__init__"))
  no_Kind_fields : NoAttr K (He.ga K "Kind") "fields"
  no_Kind_key_rows : NoAttr K (He.ga K "Kind") "key_rows"
  no_Kind_name : NoAttr K (He.ga K "Kind") "name"
  gc_Schema : mg "Schema" = some (.ref (He.ga K "Schema"))
  cl_Schema : Cls K (He.ga K "Schema")
  me_Schema_names : Meth K (He.ga K "Schema") "names" (He.fAd K ("Schema", some "names"))
  me_Schema_written : Meth K (He.ga K "Schema") "written" (He.fAd K ("Schema", some "written"))
  mk_Schema : Mk K (He.ga K "Schema") (He.fAd K ("Schema", some "__init__"))
  no_Schema_kinds : NoAttr K (He.ga K "Schema") "kinds"
  gc_Token : mg "Token" = some (.ref (He.ga K "Token"))
  cl_Token : Cls K (He.ga K "Token")
  mk_Token : Mk K (He.ga K "Token") (He.fAd K ("Token", some "__init__"))
  no_Token_place : NoAttr K (He.ga K "Token") "place"
  no_Token_role : NoAttr K (He.ga K "Token") "role"
  no_Token_text : NoAttr K (He.ga K "Token") "text"
  gc_IntSort : mg "IntSort" = some (.ref (He.ga K "IntSort"))
  cl_IntSort : Cls K (He.ga K "IntSort")
  me_IntSort_eq : Meth K (He.ga K "IntSort") "__eq__" (He.fAd K ("IntSort", some "__eq__"))
  me_IntSort_written : Meth K (He.ga K "IntSort") "written" (He.fAd K ("IntSort", some "written"))
  mk_IntSort : Mk K (He.ga K "IntSort") (He.fAd K ("IntSort", some "__init__"))
  no_IntSort_high : NoAttr K (He.ga K "IntSort") "high"
  no_IntSort_low : NoAttr K (He.ga K "IntSort") "low"
  gc_TextSort : mg "TextSort" = some (.ref (He.ga K "TextSort"))
  cl_TextSort : Cls K (He.ga K "TextSort")
  me_TextSort_eq : Meth K (He.ga K "TextSort") "__eq__" (He.fAd K ("TextSort", some "__eq__"))
  me_TextSort_written : Meth K (He.ga K "TextSort") "written" (He.fAd K ("TextSort", some "written"))
  mk_TextSort : Mk K (He.ga K "TextSort") (He.fAd K ("TextSort", some "__init__"))
  no_TextSort_longest : NoAttr K (He.ga K "TextSort") "longest"
  no_TextSort_without : NoAttr K (He.ga K "TextSort") "without"
  gc_ChoiceSort : mg "ChoiceSort" = some (.ref (He.ga K "ChoiceSort"))
  cl_ChoiceSort : Cls K (He.ga K "ChoiceSort")
  me_ChoiceSort_eq : Meth K (He.ga K "ChoiceSort") "__eq__" (He.fAd K ("ChoiceSort", some "__eq__"))
  me_ChoiceSort_written : Meth K (He.ga K "ChoiceSort") "written" (He.fAd K ("ChoiceSort", some "written"))
  mk_ChoiceSort : Mk K (He.ga K "ChoiceSort") (He.fAd K ("ChoiceSort", some "__init__"))
  no_ChoiceSort_choices : NoAttr K (He.ga K "ChoiceSort") "choices"
  gc_RefSort : mg "RefSort" = some (.ref (He.ga K "RefSort"))
  cl_RefSort : Cls K (He.ga K "RefSort")
  me_RefSort_eq : Meth K (He.ga K "RefSort") "__eq__" (He.fAd K ("RefSort", some "__eq__"))
  me_RefSort_written : Meth K (He.ga K "RefSort") "written" (He.fAd K ("RefSort", some "written"))
  mk_RefSort : Mk K (He.ga K "RefSort") (He.fAd K ("RefSort", some "__init__"))
  no_RefSort_kinds : NoAttr K (He.ga K "RefSort") "kinds"
  no_RefSort_rule : NoAttr K (He.ga K "RefSort") "rule"
  gc_ListSort : mg "ListSort" = some (.ref (He.ga K "ListSort"))
  cl_ListSort : Cls K (He.ga K "ListSort")
  me_ListSort_eq : Meth K (He.ga K "ListSort") "__eq__" (He.fAd K ("ListSort", some "__eq__"))
  me_ListSort_written : Meth K (He.ga K "ListSort") "written" (He.fAd K ("ListSort", some "written"))
  mk_ListSort : Mk K (He.ga K "ListSort") (He.fAd K ("ListSort", some "__init__"))
  no_ListSort_kinds : NoAttr K (He.ga K "ListSort") "kinds"
  gc_Reader : mg "Reader" = some (.ref (He.ga K "Reader"))
  cl_Reader : Cls K (He.ga K "Reader")
  me_Reader_is_name : Meth K (He.ga K "Reader") "is_name" (He.fAd K ("Reader", some "is_name"))
  me_Reader_is_sign : Meth K (He.ga K "Reader") "is_sign" (He.fAd K ("Reader", some "is_sign"))
  me_Reader_is_word : Meth K (He.ga K "Reader") "is_word" (He.fAd K ("Reader", some "is_word"))
  pr_Reader_now : PropOf K (He.ga K "Reader") "now" (He.ma K (He.ga K "Reader") "now") (pAd K "Reader" "now")
  me_Reader_step : Meth K (He.ga K "Reader") "step" (He.fAd K ("Reader", some "step"))
  me_Reader_take_field : Meth K (He.ga K "Reader") "take_field" (He.fAd K ("Reader", some "take_field"))
  me_Reader_take_integer : Meth K (He.ga K "Reader") "take_integer" (He.fAd K ("Reader", some "take_integer"))
  me_Reader_take_kind : Meth K (He.ga K "Reader") "take_kind" (He.fAd K ("Reader", some "take_kind"))
  me_Reader_take_number : Meth K (He.ga K "Reader") "take_number" (He.fAd K ("Reader", some "take_number"))
  me_Reader_take_sign : Meth K (He.ga K "Reader") "take_sign" (He.fAd K ("Reader", some "take_sign"))
  me_Reader_take_text : Meth K (He.ga K "Reader") "take_text" (He.fAd K ("Reader", some "take_text"))
  me_Reader_take_word : Meth K (He.ga K "Reader") "take_word" (He.fAd K ("Reader", some "take_word"))
  mk_Reader : Mk K (He.ga K "Reader") (He.fAd K ("Reader", some "__init__"))
  no_Reader_at : NoAttr K (He.ga K "Reader") "at"
  no_Reader_reserved : NoAttr K (He.ga K "Reader") "reserved"
  no_Reader_row : NoAttr K (He.ga K "Reader") "row"
  gc_KindPlace : mg "KindPlace" = some (.ref (He.ga K "KindPlace"))
  cl_KindPlace : Cls K (He.ga K "KindPlace")
  mk_KindPlace : Mk K (He.ga K "KindPlace") (He.fAd K ("KindPlace", some "__init__"))
  no_KindPlace_fields : NoAttr K (He.ga K "KindPlace") "fields"
  no_KindPlace_keys_read : NoAttr K (He.ga K "KindPlace") "keys_read"
  no_KindPlace_token : NoAttr K (He.ga K "KindPlace") "token"
  gc_RESERVED : mg "RESERVED" = some (.ref (He.ga K "RESERVED"))
  tu_RESERVED : ∀ H, SqT K H (He.ga K "RESERVED") (ts_RESERVED.map svv)
  gc_SIGNS : mg "SIGNS" = some (.ref (He.ga K "SIGNS"))
  tu_SIGNS : ∀ H, SqT K H (He.ga K "SIGNS") (ts_SIGNS.map svv)
  gc_HeapError : mg "HeapError" = some (.ref (He.ga K "HeapError"))
  if_Field : InsF K (He.ga K "Field")
  it_Field_str : PySem.W.kitOne K (.ref (He.ga K "Field")) (.type "str") = some false
  is_Field_ChoiceSort : PySem.W.kitOne K (.ref (He.ga K "Field")) (.ref (He.ga K "ChoiceSort")) = some false
  is_Field_HeapError : PySem.W.kitOne K (.ref (He.ga K "Field")) (.ref (He.ga K "HeapError")) = some false
  is_Field_IntSort : PySem.W.kitOne K (.ref (He.ga K "Field")) (.ref (He.ga K "IntSort")) = some false
  is_Field_ListSort : PySem.W.kitOne K (.ref (He.ga K "Field")) (.ref (He.ga K "ListSort")) = some false
  is_Field_RefSort : PySem.W.kitOne K (.ref (He.ga K "Field")) (.ref (He.ga K "RefSort")) = some false
  is_Field_TextSort : PySem.W.kitOne K (.ref (He.ga K "Field")) (.ref (He.ga K "TextSort")) = some false
  if_Kind : InsF K (He.ga K "Kind")
  it_Kind_str : PySem.W.kitOne K (.ref (He.ga K "Kind")) (.type "str") = some false
  is_Kind_ChoiceSort : PySem.W.kitOne K (.ref (He.ga K "Kind")) (.ref (He.ga K "ChoiceSort")) = some false
  is_Kind_HeapError : PySem.W.kitOne K (.ref (He.ga K "Kind")) (.ref (He.ga K "HeapError")) = some false
  is_Kind_IntSort : PySem.W.kitOne K (.ref (He.ga K "Kind")) (.ref (He.ga K "IntSort")) = some false
  is_Kind_ListSort : PySem.W.kitOne K (.ref (He.ga K "Kind")) (.ref (He.ga K "ListSort")) = some false
  is_Kind_RefSort : PySem.W.kitOne K (.ref (He.ga K "Kind")) (.ref (He.ga K "RefSort")) = some false
  is_Kind_TextSort : PySem.W.kitOne K (.ref (He.ga K "Kind")) (.ref (He.ga K "TextSort")) = some false
  if_Schema : InsF K (He.ga K "Schema")
  it_Schema_str : PySem.W.kitOne K (.ref (He.ga K "Schema")) (.type "str") = some false
  is_Schema_ChoiceSort : PySem.W.kitOne K (.ref (He.ga K "Schema")) (.ref (He.ga K "ChoiceSort")) = some false
  is_Schema_HeapError : PySem.W.kitOne K (.ref (He.ga K "Schema")) (.ref (He.ga K "HeapError")) = some false
  is_Schema_IntSort : PySem.W.kitOne K (.ref (He.ga K "Schema")) (.ref (He.ga K "IntSort")) = some false
  is_Schema_ListSort : PySem.W.kitOne K (.ref (He.ga K "Schema")) (.ref (He.ga K "ListSort")) = some false
  is_Schema_RefSort : PySem.W.kitOne K (.ref (He.ga K "Schema")) (.ref (He.ga K "RefSort")) = some false
  is_Schema_TextSort : PySem.W.kitOne K (.ref (He.ga K "Schema")) (.ref (He.ga K "TextSort")) = some false
  if_Token : InsF K (He.ga K "Token")
  it_Token_str : PySem.W.kitOne K (.ref (He.ga K "Token")) (.type "str") = some false
  is_Token_ChoiceSort : PySem.W.kitOne K (.ref (He.ga K "Token")) (.ref (He.ga K "ChoiceSort")) = some false
  is_Token_HeapError : PySem.W.kitOne K (.ref (He.ga K "Token")) (.ref (He.ga K "HeapError")) = some false
  is_Token_IntSort : PySem.W.kitOne K (.ref (He.ga K "Token")) (.ref (He.ga K "IntSort")) = some false
  is_Token_ListSort : PySem.W.kitOne K (.ref (He.ga K "Token")) (.ref (He.ga K "ListSort")) = some false
  is_Token_RefSort : PySem.W.kitOne K (.ref (He.ga K "Token")) (.ref (He.ga K "RefSort")) = some false
  is_Token_TextSort : PySem.W.kitOne K (.ref (He.ga K "Token")) (.ref (He.ga K "TextSort")) = some false
  if_IntSort : InsF K (He.ga K "IntSort")
  it_IntSort_str : PySem.W.kitOne K (.ref (He.ga K "IntSort")) (.type "str") = some false
  is_IntSort_ChoiceSort : PySem.W.kitOne K (.ref (He.ga K "IntSort")) (.ref (He.ga K "ChoiceSort")) = some false
  is_IntSort_HeapError : PySem.W.kitOne K (.ref (He.ga K "IntSort")) (.ref (He.ga K "HeapError")) = some false
  is_IntSort_IntSort : PySem.W.kitOne K (.ref (He.ga K "IntSort")) (.ref (He.ga K "IntSort")) = some true
  is_IntSort_ListSort : PySem.W.kitOne K (.ref (He.ga K "IntSort")) (.ref (He.ga K "ListSort")) = some false
  is_IntSort_RefSort : PySem.W.kitOne K (.ref (He.ga K "IntSort")) (.ref (He.ga K "RefSort")) = some false
  is_IntSort_TextSort : PySem.W.kitOne K (.ref (He.ga K "IntSort")) (.ref (He.ga K "TextSort")) = some false
  if_TextSort : InsF K (He.ga K "TextSort")
  it_TextSort_str : PySem.W.kitOne K (.ref (He.ga K "TextSort")) (.type "str") = some false
  is_TextSort_ChoiceSort : PySem.W.kitOne K (.ref (He.ga K "TextSort")) (.ref (He.ga K "ChoiceSort")) = some false
  is_TextSort_HeapError : PySem.W.kitOne K (.ref (He.ga K "TextSort")) (.ref (He.ga K "HeapError")) = some false
  is_TextSort_IntSort : PySem.W.kitOne K (.ref (He.ga K "TextSort")) (.ref (He.ga K "IntSort")) = some false
  is_TextSort_ListSort : PySem.W.kitOne K (.ref (He.ga K "TextSort")) (.ref (He.ga K "ListSort")) = some false
  is_TextSort_RefSort : PySem.W.kitOne K (.ref (He.ga K "TextSort")) (.ref (He.ga K "RefSort")) = some false
  is_TextSort_TextSort : PySem.W.kitOne K (.ref (He.ga K "TextSort")) (.ref (He.ga K "TextSort")) = some true
  if_ChoiceSort : InsF K (He.ga K "ChoiceSort")
  it_ChoiceSort_str : PySem.W.kitOne K (.ref (He.ga K "ChoiceSort")) (.type "str") = some false
  is_ChoiceSort_ChoiceSort : PySem.W.kitOne K (.ref (He.ga K "ChoiceSort")) (.ref (He.ga K "ChoiceSort")) = some true
  is_ChoiceSort_HeapError : PySem.W.kitOne K (.ref (He.ga K "ChoiceSort")) (.ref (He.ga K "HeapError")) = some false
  is_ChoiceSort_IntSort : PySem.W.kitOne K (.ref (He.ga K "ChoiceSort")) (.ref (He.ga K "IntSort")) = some false
  is_ChoiceSort_ListSort : PySem.W.kitOne K (.ref (He.ga K "ChoiceSort")) (.ref (He.ga K "ListSort")) = some false
  is_ChoiceSort_RefSort : PySem.W.kitOne K (.ref (He.ga K "ChoiceSort")) (.ref (He.ga K "RefSort")) = some false
  is_ChoiceSort_TextSort : PySem.W.kitOne K (.ref (He.ga K "ChoiceSort")) (.ref (He.ga K "TextSort")) = some false
  if_RefSort : InsF K (He.ga K "RefSort")
  it_RefSort_str : PySem.W.kitOne K (.ref (He.ga K "RefSort")) (.type "str") = some false
  is_RefSort_ChoiceSort : PySem.W.kitOne K (.ref (He.ga K "RefSort")) (.ref (He.ga K "ChoiceSort")) = some false
  is_RefSort_HeapError : PySem.W.kitOne K (.ref (He.ga K "RefSort")) (.ref (He.ga K "HeapError")) = some false
  is_RefSort_IntSort : PySem.W.kitOne K (.ref (He.ga K "RefSort")) (.ref (He.ga K "IntSort")) = some false
  is_RefSort_ListSort : PySem.W.kitOne K (.ref (He.ga K "RefSort")) (.ref (He.ga K "ListSort")) = some false
  is_RefSort_RefSort : PySem.W.kitOne K (.ref (He.ga K "RefSort")) (.ref (He.ga K "RefSort")) = some true
  is_RefSort_TextSort : PySem.W.kitOne K (.ref (He.ga K "RefSort")) (.ref (He.ga K "TextSort")) = some false
  if_ListSort : InsF K (He.ga K "ListSort")
  it_ListSort_str : PySem.W.kitOne K (.ref (He.ga K "ListSort")) (.type "str") = some false
  is_ListSort_ChoiceSort : PySem.W.kitOne K (.ref (He.ga K "ListSort")) (.ref (He.ga K "ChoiceSort")) = some false
  is_ListSort_HeapError : PySem.W.kitOne K (.ref (He.ga K "ListSort")) (.ref (He.ga K "HeapError")) = some false
  is_ListSort_IntSort : PySem.W.kitOne K (.ref (He.ga K "ListSort")) (.ref (He.ga K "IntSort")) = some false
  is_ListSort_ListSort : PySem.W.kitOne K (.ref (He.ga K "ListSort")) (.ref (He.ga K "ListSort")) = some true
  is_ListSort_RefSort : PySem.W.kitOne K (.ref (He.ga K "ListSort")) (.ref (He.ga K "RefSort")) = some false
  is_ListSort_TextSort : PySem.W.kitOne K (.ref (He.ga K "ListSort")) (.ref (He.ga K "TextSort")) = some false
  if_Reader : InsF K (He.ga K "Reader")
  it_Reader_str : PySem.W.kitOne K (.ref (He.ga K "Reader")) (.type "str") = some false
  is_Reader_ChoiceSort : PySem.W.kitOne K (.ref (He.ga K "Reader")) (.ref (He.ga K "ChoiceSort")) = some false
  is_Reader_HeapError : PySem.W.kitOne K (.ref (He.ga K "Reader")) (.ref (He.ga K "HeapError")) = some false
  is_Reader_IntSort : PySem.W.kitOne K (.ref (He.ga K "Reader")) (.ref (He.ga K "IntSort")) = some false
  is_Reader_ListSort : PySem.W.kitOne K (.ref (He.ga K "Reader")) (.ref (He.ga K "ListSort")) = some false
  is_Reader_RefSort : PySem.W.kitOne K (.ref (He.ga K "Reader")) (.ref (He.ga K "RefSort")) = some false
  is_Reader_TextSort : PySem.W.kitOne K (.ref (He.ga K "Reader")) (.ref (He.ga K "TextSort")) = some false
  if_KindPlace : InsF K (He.ga K "KindPlace")
  it_KindPlace_str : PySem.W.kitOne K (.ref (He.ga K "KindPlace")) (.type "str") = some false
  is_KindPlace_ChoiceSort : PySem.W.kitOne K (.ref (He.ga K "KindPlace")) (.ref (He.ga K "ChoiceSort")) = some false
  is_KindPlace_HeapError : PySem.W.kitOne K (.ref (He.ga K "KindPlace")) (.ref (He.ga K "HeapError")) = some false
  is_KindPlace_IntSort : PySem.W.kitOne K (.ref (He.ga K "KindPlace")) (.ref (He.ga K "IntSort")) = some false
  is_KindPlace_ListSort : PySem.W.kitOne K (.ref (He.ga K "KindPlace")) (.ref (He.ga K "ListSort")) = some false
  is_KindPlace_RefSort : PySem.W.kitOne K (.ref (He.ga K "KindPlace")) (.ref (He.ga K "RefSort")) = some false
  is_KindPlace_TextSort : PySem.W.kitOne K (.ref (He.ga K "KindPlace")) (.ref (He.ga K "TextSort")) = some false
  ti_NoneType_ChoiceSort : PySem.W.kitOne K (.type "NoneType") (.ref (He.ga K "ChoiceSort")) = some false
  ti_bool_ChoiceSort : PySem.W.kitOne K (.type "bool") (.ref (He.ga K "ChoiceSort")) = some false
  ti_int_ChoiceSort : PySem.W.kitOne K (.type "int") (.ref (He.ga K "ChoiceSort")) = some false
  ti_str_ChoiceSort : PySem.W.kitOne K (.type "str") (.ref (He.ga K "ChoiceSort")) = some false
  ti_list_ChoiceSort : PySem.W.kitOne K (.type "list") (.ref (He.ga K "ChoiceSort")) = some false
  ti_tuple_ChoiceSort : PySem.W.kitOne K (.type "tuple") (.ref (He.ga K "ChoiceSort")) = some false
  ti_dict_ChoiceSort : PySem.W.kitOne K (.type "dict") (.ref (He.ga K "ChoiceSort")) = some false
  ti_NoneType_HeapError : PySem.W.kitOne K (.type "NoneType") (.ref (He.ga K "HeapError")) = some false
  ti_bool_HeapError : PySem.W.kitOne K (.type "bool") (.ref (He.ga K "HeapError")) = some false
  ti_int_HeapError : PySem.W.kitOne K (.type "int") (.ref (He.ga K "HeapError")) = some false
  ti_str_HeapError : PySem.W.kitOne K (.type "str") (.ref (He.ga K "HeapError")) = some false
  ti_list_HeapError : PySem.W.kitOne K (.type "list") (.ref (He.ga K "HeapError")) = some false
  ti_tuple_HeapError : PySem.W.kitOne K (.type "tuple") (.ref (He.ga K "HeapError")) = some false
  ti_dict_HeapError : PySem.W.kitOne K (.type "dict") (.ref (He.ga K "HeapError")) = some false
  ti_NoneType_IntSort : PySem.W.kitOne K (.type "NoneType") (.ref (He.ga K "IntSort")) = some false
  ti_bool_IntSort : PySem.W.kitOne K (.type "bool") (.ref (He.ga K "IntSort")) = some false
  ti_int_IntSort : PySem.W.kitOne K (.type "int") (.ref (He.ga K "IntSort")) = some false
  ti_str_IntSort : PySem.W.kitOne K (.type "str") (.ref (He.ga K "IntSort")) = some false
  ti_list_IntSort : PySem.W.kitOne K (.type "list") (.ref (He.ga K "IntSort")) = some false
  ti_tuple_IntSort : PySem.W.kitOne K (.type "tuple") (.ref (He.ga K "IntSort")) = some false
  ti_dict_IntSort : PySem.W.kitOne K (.type "dict") (.ref (He.ga K "IntSort")) = some false
  ti_NoneType_ListSort : PySem.W.kitOne K (.type "NoneType") (.ref (He.ga K "ListSort")) = some false
  ti_bool_ListSort : PySem.W.kitOne K (.type "bool") (.ref (He.ga K "ListSort")) = some false
  ti_int_ListSort : PySem.W.kitOne K (.type "int") (.ref (He.ga K "ListSort")) = some false
  ti_str_ListSort : PySem.W.kitOne K (.type "str") (.ref (He.ga K "ListSort")) = some false
  ti_list_ListSort : PySem.W.kitOne K (.type "list") (.ref (He.ga K "ListSort")) = some false
  ti_tuple_ListSort : PySem.W.kitOne K (.type "tuple") (.ref (He.ga K "ListSort")) = some false
  ti_dict_ListSort : PySem.W.kitOne K (.type "dict") (.ref (He.ga K "ListSort")) = some false
  ti_NoneType_RefSort : PySem.W.kitOne K (.type "NoneType") (.ref (He.ga K "RefSort")) = some false
  ti_bool_RefSort : PySem.W.kitOne K (.type "bool") (.ref (He.ga K "RefSort")) = some false
  ti_int_RefSort : PySem.W.kitOne K (.type "int") (.ref (He.ga K "RefSort")) = some false
  ti_str_RefSort : PySem.W.kitOne K (.type "str") (.ref (He.ga K "RefSort")) = some false
  ti_list_RefSort : PySem.W.kitOne K (.type "list") (.ref (He.ga K "RefSort")) = some false
  ti_tuple_RefSort : PySem.W.kitOne K (.type "tuple") (.ref (He.ga K "RefSort")) = some false
  ti_dict_RefSort : PySem.W.kitOne K (.type "dict") (.ref (He.ga K "RefSort")) = some false
  ti_NoneType_TextSort : PySem.W.kitOne K (.type "NoneType") (.ref (He.ga K "TextSort")) = some false
  ti_bool_TextSort : PySem.W.kitOne K (.type "bool") (.ref (He.ga K "TextSort")) = some false
  ti_int_TextSort : PySem.W.kitOne K (.type "int") (.ref (He.ga K "TextSort")) = some false
  ti_str_TextSort : PySem.W.kitOne K (.type "str") (.ref (He.ga K "TextSort")) = some false
  ti_list_TextSort : PySem.W.kitOne K (.type "list") (.ref (He.ga K "TextSort")) = some false
  ti_tuple_TextSort : PySem.W.kitOne K (.type "tuple") (.ref (He.ga K "TextSort")) = some false
  ti_dict_TextSort : PySem.W.kitOne K (.type "dict") (.ref (He.ga K "TextSort")) = some false
  fau : FaT K mg
  if_Fault : InsF K (He.ga K "Fault")
  is_Fault_HeapError : PySem.W.kitOne K (.ref (He.ga K "Fault")) (.ref (He.ga K "HeapError")) = some true
  ne_IntSort : NeF K (He.ga K "IntSort")
  ne_TextSort : NeF K (He.ga K "TextSort")
  ne_ChoiceSort : NeF K (He.ga K "ChoiceSort")
  ne_RefSort : NeF K (He.ga K "RefSort")
  ne_ListSort : NeF K (He.ga K "ListSort")
/-! ### each def keeps its reading -/
section
variable {P : Program} [PI P] {w : World} {K : PySem.W.Frag} {mg : Str → Option Value} {base : Heap}
theorem fn__law_cells (T : Tx K mg) {fd : FuncData} (F : FunD K "_law_cells" "_law_cells" (defArgs s__law_cells) (defBody s__law_cells) (defScope s__law_cells) [] [] (He.fAd K ("_law_cells", none)) fd) : FnOk P w K mg base (L2.CX P w) 1 (He.fAd K ("_law_cells", none)) fd ["_law_script", "_law_count"] (sp__law_cells K) := by
  refine F.ok sc__law_cells (fun vs H Q E h => h.1) (fun cdv A outer s H vs Q E hr h => ⟨_, ?_, h.2⟩)
  refine PSs.nox ?_
  exact (pss_cons (ps_set (i := 2) sc__law_cells.nd rfl (by first | exact Or.inl rfl | exact Or.inr rfl) (pe_lst pa_nil))
        (pss_cons (ps_for PassesOwn.never rfl (pi_range1 rfl T.b_range (pa_cons (pv 1) pa_nil)) (pg_name (i := 3) sc__law_cells.nd rfl (by first | exact Or.inl rfl | exact Or.inr rfl))
        (pss_cons (ps_set (i := 4) sc__law_cells.nd rfl (by first | exact Or.inl rfl | exact Or.inr rfl) (pe_op op_addX (pe_op op_mulX pe_int (pv 3)) pe_int))
        (C8.pss_cut (ps_if (pt_cmpR (op_ltX hr.units) (pv 3) (pe_callB call_len (by rfl) T.b_len boot_len (pa_cons (pv 0) pa_nil)) (nomark _))
        (pss_cons (ps_set (i := 4) sc__law_cells.nd rfl (by first | exact Or.inl rfl | exact Or.inr rfl) (pe_callTy (CallR.or call_int1 call_int_str) (by rfl) T.b_int (by decide +kernel) (pa_cons (pe_ix ix_seq (pv 0) (pv 3) fun _ _ => rfl) pa_nil)))
        (pss_one (ps_if (pt_cmpR (op_ltX hr.units) (pv 4) pe_int (nomark _))
        (pss_one (ps_set (i := 4) sc__law_cells.nd rfl (by first | exact Or.inl rfl | exact Or.inr rfl) (pe_op op_subX pe_int (pe_op op_mulX pe_int (pv 4)))))
        pss_nil)))
        pss_nil)
        (C8.pss_cut (ps_if (pt_cmpR (op_ltX hr.units) (pv 4) pe_int (nomark _))
        (pss_cons (ps_set (i := 4) sc__law_cells.nd rfl (by first | exact Or.inl rfl | exact Or.inr rfl) (pe_op op_modX (pe_op op_addX (pe_op op_addX (pe_op op_mulX (pe_callTy (CallR.or call_int1 call_int_str) (by rfl) T.b_int (by decide +kernel) (pa_cons (pv 4) pa_nil)) pe_int) pe_int) (pe_op op_mulX pe_int (pv 3))) pe_int))
        (pss_one (ps_set (i := 4) sc__law_cells.nd rfl (by first | exact Or.inl rfl | exact Or.inr rfl) (pe_op op_modX (pe_op op_addX (pe_op op_mulX (pe_callTy (CallR.or call_int1 call_int_str) (by rfl) T.b_int (by decide +kernel) (pa_cons (pv 4) pa_nil)) pe_int) pe_int) pe_int))))
        pss_nil)
        (pss_one (ps_expr (pe_bm PySem.F.plainAttrs_list PySem.F.slot_list_append PySem.F.type_list_append mt_append (pv 2) (pa_cons (pv 4) pa_nil))))))))
        (pss_one (ps_ret (pv 2)))))
theorem Tx.ok__law_cells (T : Tx K mg) : Cl P w K mg base 1 "_law_cells" (sp__law_cells K) [] := by
  obtain ⟨fd, F⟩ := T.d__law_cells
  have ok := fn__law_cells (P := P) (w := w) (base := base) T F
  exact ⟨_, fd, _, [], ok, T.g__law_cells, F.kp, (FunD.bindsN F fun _ _ _ _ _ _ us hl => match us, hl with | [_, _], _ => rfl), .nil⟩
theorem fn__law_quote (T : Tx K mg) {fd : FuncData} (F : FunD K "_law_quote" "_law_quote" (defArgs s__law_quote) (defBody s__law_quote) (defScope s__law_quote) [] [] (He.fAd K ("_law_quote", none)) fd) : FnOk P w K mg base (L2.CX P w) 1 (He.fAd K ("_law_quote", none)) fd ["_law_text_here"] (sp__law_quote K) := by
  refine F.ok sc__law_quote (fun vs H Q E h => h.1) (fun cdv A outer s H vs Q E hr h => ⟨_, ?_, h.2⟩)
  refine PSs.nox ?_
  exact (pss_one (ps_ret (PE1.pe (pe1_op op_addX (pe1_op op_addX (pe1_strE e_x22) (pet_replE (pet_replE (CwR.PET.of (pv 0)) e_x5c e_x5cx5c) e_x22 e_x5cx22)) (CwR.PET.of (pe_strE e_x22))))))
theorem Tx.ok__law_quote (T : Tx K mg) : Cl P w K mg base 1 "_law_quote" (sp__law_quote K) [] := by
  obtain ⟨fd, F⟩ := T.d__law_quote
  have ok := fn__law_quote (P := P) (w := w) (base := base) T F
  exact ⟨_, fd, _, [], ok, T.g__law_quote, F.kp, (FunD.bindsN F fun _ _ _ _ _ _ us hl => match us, hl with | [_], _ => rfl), .nil⟩
theorem fn__law_shape_text (T : Tx K mg) {fd : FuncData} (F : FunD K "_law_shape_text" "_law_shape_text" (defArgs s__law_shape_text) (defBody s__law_shape_text) (defScope s__law_shape_text) [] [] (He.fAd K ("_law_shape_text", none)) fd) : FnOk P w K mg base (L2.CX P w) 2 (He.fAd K ("_law_shape_text", none)) fd ["_law_shape_here"] (sp__law_shape_text K) := by
  refine F.ok sc__law_shape_text (fun vs H Q E h => h.1) (fun cdv A outer s H vs Q E hr h => ⟨_, ?_, h.2⟩)
  refine PSs.nox ?_
  exact (pss_cons (ps_if (pt_cmpR (op_eqX hr.units) (pe_ix ix_seq (pv 0) pe_int fun _ _ => rfl) (pe_strE e_int) (nomark _))
        (pss_one (ps_ret (pe_op op_addX (pe_op op_addX (pe_op op_addX (pe_strE e_int_) (pe_callTy call_str_int (by rfl) T.b_str (by decide +kernel) (pa_cons (pe_ix ix_seq (pv 0) pe_int fun _ _ => rfl) pa_nil))) (pe_strE e_x2ex2e)) (pe_callTy call_str_int (by rfl) T.b_str (by decide +kernel) (pa_cons (pe_ix ix_seq (pv 0) pe_int fun _ _ => rfl) pa_nil)))))
        pss_nil)
        (pss_cons (ps_if (pt_cmpR (op_eqX hr.units) (pe_ix ix_seq (pv 0) pe_int fun _ _ => rfl) (pe_strE e_text) (nomark _))
        (pss_cons (ps_if (pt_cmpR op_isX (pe_ix ix_seq (pv 0) pe_int fun _ _ => rfl) pe_non (nomark _))
        (pss_one (ps_ret (pe_op op_addX (pe_strE e_text_) (pe_callTy call_str_int (by rfl) T.b_str (by decide +kernel) (pa_cons (pe_ix ix_seq (pv 0) pe_int fun _ _ => rfl) pa_nil)))))
        pss_nil)
        (pss_one (ps_ret (pe_op op_addX (pe_op op_addX (pe_op op_addX (pe_strE e_text_) (pe_callTy call_str_int (by rfl) T.b_str (by decide +kernel) (pa_cons (pe_ix ix_seq (pv 0) pe_int fun _ _ => rfl) pa_nil))) (pe_strE e__without_)) (pe_cl (T.ok__law_quote (P := P)) hr (by decide) (fun _ => pz) rfl (pa_cons (pe_ix ix_seq (pv 0) pe_int fun _ _ => rfl) pa_nil))))))
        pss_nil)
        (pss_cons (ps_if (pt_cmpR (op_eqX hr.units) (pe_ix ix_seq (pv 0) pe_int fun _ _ => rfl) (pe_strE e_one) (nomark _))
        (pss_one (ps_ret (pe_op op_addX (pe_strE e_one_of_) (pe_join (pe_strE e_x2c_) (pe_lc (own := [("_law_text_here", 1)]) rfl sc__law_shape_text.nd (pi_any (pe_ix ix_seq (pv 0) pe_int fun _ _ => rfl)) (blkOk_by (N := ["_law_shape_here", "_law_text_here"]) (sc := defScope s__law_shape_text) (own := [("_law_text_here", 1)]) (by decide +kernel)) (fun _ _ _ _ _ => (pg_name (i := 1) sc__law_shape_text.nd rfl (by first | exact Or.inl rfl | exact Or.inr rfl))) (fun _ _ _ _ _ => pts_nil) (fun _ _ _ _ _ => (pe_cl (T.ok__law_quote (P := P)) hr (by decide) (fun _ => pz) rfl (pa_cons (pv 1) pa_nil))))))))
        pss_nil)
        (pss_cons (ps_set (i := 1) sc__law_shape_text.nd rfl (by first | exact Or.inl rfl | exact Or.inr rfl) (pe_op op_addX (pe_op op_addX (pe_ix ix_seq (pv 0) pe_int fun _ _ => rfl) (pe_strE e__)) (pe_join (pe_strE e__or_) (pe_ix ix_seq (pv 0) pe_int fun _ _ => rfl))))
        (C8.pss_cut (ps_if (PW.pt (pw_and (pt_cmpR (op_eqX hr.units) (pe_ix ix_seq (pv 0) pe_int fun _ _ => rfl) (pe_strE e_ref) (nomark _)) (pw_and1 (pt_cmpR (op_neX hr.units) (pe_ix ix_seq (pv 0) pe_int fun _ _ => rfl) (pe_strE e_clears) (nomark _)))))
        (pss_one (ps_set (i := 1) sc__law_shape_text.nd rfl (by first | exact Or.inl rfl | exact Or.inr rfl) (pe_op op_addX (pe_op op_addX (pv 1) (pe_strE e__)) (pe_ix ix_seq (pv 0) pe_int fun _ _ => rfl))))
        pss_nil)
        (pss_one (ps_ret (pv 1))))))))
theorem Tx.ok__law_shape_text (T : Tx K mg) : Cl P w K mg base 2 "_law_shape_text" (sp__law_shape_text K) [] := by
  obtain ⟨fd, F⟩ := T.d__law_shape_text
  have ok := fn__law_shape_text (P := P) (w := w) (base := base) T F
  exact ⟨_, fd, _, [], ok, T.g__law_shape_text, F.kp, (FunD.bindsN F fun _ _ _ _ _ _ us hl => match us, hl with | [_], _ => rfl), .nil⟩
theorem fn__law_field_text (T : Tx K mg) {fd : FuncData} (F : FunD K "_law_field_text" "_law_field_text" (defArgs s__law_field_text) (defBody s__law_field_text) (defScope s__law_field_text) [] [] (He.fAd K ("_law_field_text", none)) fd) : FnOk P w K mg base (L2.CX P w) 3 (He.fAd K ("_law_field_text", none)) fd ["_law_field"] (sp__law_field_text K) := by
  refine F.ok sc__law_field_text (fun vs H Q E h => h.1) (fun cdv A outer s H vs Q E hr h => ⟨_, ?_, h.2⟩)
  refine PSs.nox ?_
  exact (pss_cons (ps_set (i := 1) sc__law_field_text.nd rfl (by first | exact Or.inl rfl | exact Or.inr rfl) (pe_op op_addX (pe_op op_addX (pe_ix ix_seq (pv 0) pe_int fun _ _ => rfl) (pe_strE e_x3a_)) (pe_cl (T.ok__law_shape_text (P := P)) hr (by decide) (fun _ => pz) rfl (pa_cons (pe_ix ix_seq (pv 0) pe_int fun _ _ => rfl) pa_nil))))
        (C8.pss_cut (ps_if (pt_truth (pe_ix ix_seq (pv 0) pe_int fun _ _ => rfl) fun _ => rfl)
        (pss_one (ps_set (i := 1) sc__law_field_text.nd rfl (by first | exact Or.inl rfl | exact Or.inr rfl) (pe_op op_addX (pv 1) (pe_strE e__not_null))))
        pss_nil)
        (pss_one (ps_ret (pe_op op_addX (pv 1) (pe_strE e_x3b))))))
theorem Tx.ok__law_field_text (T : Tx K mg) : Cl P w K mg base 3 "_law_field_text" (sp__law_field_text K) [] := by
  obtain ⟨fd, F⟩ := T.d__law_field_text
  have ok := fn__law_field_text (P := P) (w := w) (base := base) T F
  exact ⟨_, fd, _, [], ok, T.g__law_field_text, F.kp, (FunD.bindsN F fun _ _ _ _ _ _ us hl => match us, hl with | [_], _ => rfl), .nil⟩
theorem fn__law_kind_text (T : Tx K mg) {fd : FuncData} (F : FunD K "_law_kind_text" "_law_kind_text" (defArgs s__law_kind_text) (defBody s__law_kind_text) (defScope s__law_kind_text) [] [] (He.fAd K ("_law_kind_text", none)) fd) : FnOk P w K mg base (L2.CX P w) 4 (He.fAd K ("_law_kind_text", none)) fd ["_law_kind_here"] (sp__law_kind_text K) := by
  refine F.ok sc__law_kind_text (fun vs H Q E h => h.1) (fun cdv A outer s H vs Q E hr h => ⟨_, ?_, h.2⟩)
  refine PSs.nox ?_
  exact (pss_cons (ps_set (i := 1) sc__law_kind_text.nd rfl (by first | exact Or.inl rfl | exact Or.inr rfl) (pe_op op_addX (pe_lst (pa_cons (pe_strE e_kind) (pa_cons (pe_ix ix_seq (pv 0) pe_int fun _ _ => rfl) (pa_cons (pe_strE e_x7b) pa_nil)))) (pe_lc (own := [("_law_field", 2)]) rfl sc__law_kind_text.nd (pi_any (pe_ix ix_seq (pv 0) pe_int fun _ _ => rfl)) (blkOk_by (N := ["_law_kind_here", "_law_parts", "_law_field", "_law_row"]) (sc := defScope s__law_kind_text) (own := [("_law_field", 2)]) (by decide +kernel)) (fun _ _ _ _ _ => (pg_name (i := 2) sc__law_kind_text.nd rfl (by first | exact Or.inl rfl | exact Or.inr rfl))) (fun _ _ _ _ _ => pts_nil) (fun _ _ _ _ _ => (pe_cl (T.ok__law_field_text (P := P)) hr (by decide) (fun _ => pz) rfl (pa_cons (pv 2) pa_nil))))))
        (pss_cons (ps_set (i := 1) sc__law_kind_text.nd rfl (by first | exact Or.inl rfl | exact Or.inr rfl) (pe_op op_addX (pe_op op_addX (pv 1) (pe_lc (own := [("_law_row", 3)]) rfl sc__law_kind_text.nd (pi_any (pe_ix ix_seq (pv 0) pe_int fun _ _ => rfl)) (blkOk_by (N := ["_law_kind_here", "_law_parts", "_law_field", "_law_row"]) (sc := defScope s__law_kind_text) (own := [("_law_row", 3)]) (by decide +kernel)) (fun _ _ _ _ _ => (pg_name (i := 3) sc__law_kind_text.nd rfl (by first | exact Or.inl rfl | exact Or.inr rfl))) (fun _ _ _ _ _ => pts_nil) (fun _ _ _ _ _ => (pe_op op_addX (pe_op op_addX (pe_strE e_key_) (pe_join (pe_strE e_x2c_) (pv 3))) (pe_strE e_x3b))))) (pe_lst (pa_cons (pe_strE e_x7d) pa_nil))))
        (pss_one (ps_ret (pe_join (pe_strE e__) (pv 1))))))
theorem Tx.ok__law_kind_text (T : Tx K mg) : Cl P w K mg base 4 "_law_kind_text" (sp__law_kind_text K) [] := by
  obtain ⟨fd, F⟩ := T.d__law_kind_text
  have ok := fn__law_kind_text (P := P) (w := w) (base := base) T F
  exact ⟨_, fd, _, [], ok, T.g__law_kind_text, F.kp, (FunD.bindsN F fun _ _ _ _ _ _ us hl => match us, hl with | [_], _ => rfl), .nil⟩
theorem fn__law_text (T : Tx K mg) {fd : FuncData} (F : FunD K "_law_text" "_law_text" (defArgs s__law_text) (defBody s__law_text) (defScope s__law_text) [] [] (He.fAd K ("_law_text", none)) fd) : FnOk P w K mg base (L2.CX P w) 5 (He.fAd K ("_law_text", none)) fd ["_law_kinds"] (sp__law_text K) := by
  refine F.ok sc__law_text (fun vs H Q E h => h.1) (fun cdv A outer s H vs Q E hr h => ⟨_, ?_, h.2⟩)
  refine PSs.nox ?_
  exact (pss_one (ps_ret (pe_join (pe_strE e__) (pe_lc (own := [("_law_kind_here", 1)]) rfl sc__law_text.nd (pi_any (pv 0)) (blkOk_by (N := ["_law_kinds", "_law_kind_here"]) (sc := defScope s__law_text) (own := [("_law_kind_here", 1)]) (by decide +kernel)) (fun _ _ _ _ _ => (pg_name (i := 1) sc__law_text.nd rfl (by first | exact Or.inl rfl | exact Or.inr rfl))) (fun _ _ _ _ _ => pts_nil) (fun _ _ _ _ _ => (pe_cl (T.ok__law_kind_text (P := P)) hr (by decide) (fun _ => pz) rfl (pa_cons (pv 1) pa_nil)))))))
theorem Tx.ok__law_text (T : Tx K mg) : Cl P w K mg base 5 "_law_text" (sp__law_text K) [] := by
  obtain ⟨fd, F⟩ := T.d__law_text
  have ok := fn__law_text (P := P) (w := w) (base := base) T F
  exact ⟨_, fd, _, [], ok, T.g__law_text, F.kp, (FunD.bindsN F fun _ _ _ _ _ _ us hl => match us, hl with | [_], _ => rfl), .nil⟩
theorem fn__law_draw (T : Tx K mg) {fd : FuncData} (F : FunD K "_law_draw" "_law_draw" (defArgs s__law_draw) (defBody s__law_draw) (defScope s__law_draw) [] [] (He.fAd K ("_law_draw", none)) fd) : FnOk P w K mg base (L2.CX P w) 1 (He.fAd K ("_law_draw", none)) fd ["_law_draws", "_law_bound"] (sp__law_draw K) := by
  refine F.ok sc__law_draw (fun vs H Q E h => h.1) (fun cdv A outer s H vs Q E hr h => ⟨_, ?_, h.2⟩)
  refine PSs.nox ?_
  exact (C8.pss_cut (ps_if (PW.pt (pw_and (pt_cmpR (op_eqX hr.units) (pe_ix ix_seq (pv 0) pe_int fun _ _ => rfl) pe_int (nomark _)) (pw_and1 (pt_cmpR op_gtX (pe_callB call_len (by rfl) T.b_len boot_len (pa_cons (pv 0) pa_nil)) pe_int (nomark _)))))
        (pss_one (ps_expr (pe_bm PySem.F.plainAttrs_list PySem.F.slot_list_pop PySem.F.type_list_pop (MtR.or mt_pop mt_popAt) (pv 0) (pa_cons pe_int pa_nil))))
        pss_nil)
        (pss_cons (ps_set (i := 2) sc__law_draw.nd rfl (by first | exact Or.inl rfl | exact Or.inr rfl) (pe_op op_modX (pe_callTy (CallR.or call_int1 call_int_str) (by rfl) T.b_int (by decide +kernel) (pa_cons (pe_ix ix_seq (pv 0) pe_int fun _ _ => rfl) pa_nil)) (pv 1)))
        (pss_cons (ps_asg (pe_op op_divX (pe_ix ix_seq (pv 0) pe_int fun _ _ => rfl) (pv 1)) (pg_sub (pv 0) pe_int set_list))
        (pss_one (ps_ret (pv 2))))))
theorem Tx.ok__law_draw (T : Tx K mg) : Cl P w K mg base 1 "_law_draw" (sp__law_draw K) [] := by
  obtain ⟨fd, F⟩ := T.d__law_draw
  have ok := fn__law_draw (P := P) (w := w) (base := base) T F
  exact ⟨_, fd, _, [], ok, T.g__law_draw, F.kp, (FunD.bindsN F fun _ _ _ _ _ _ us hl => match us, hl with | [_, _], _ => rfl), .nil⟩
theorem fn__law_pick (T : Tx K mg) {fd : FuncData} (F : FunD K "_law_pick" "_law_pick" (defArgs s__law_pick) (defBody s__law_pick) (defScope s__law_pick) [] [] (He.fAd K ("_law_pick", none)) fd) : FnOk P w K mg base (L2.CX P w) 2 (He.fAd K ("_law_pick", none)) fd ["_law_draws", "_law_row"] (sp__law_pick K) := by
  refine F.ok sc__law_pick (fun vs H Q E h => h.1) (fun cdv A outer s H vs Q E hr h => ⟨_, ?_, h.2⟩)
  refine PSs.nox ?_
  exact (pss_one (ps_ret (pe_ix ix_seq (pv 1) (pe_cl (T.ok__law_draw (P := P)) hr (by decide) (fun _ => pz) rfl (pa_cons (pv 0) (pa_cons (pe_callB call_len (by rfl) T.b_len boot_len (pa_cons (pv 1) pa_nil)) pa_nil))) fun _ _ => rfl)))
theorem Tx.ok__law_pick (T : Tx K mg) : Cl P w K mg base 2 "_law_pick" (sp__law_pick K) [] := by
  obtain ⟨fd, F⟩ := T.d__law_pick
  have ok := fn__law_pick (P := P) (w := w) (base := base) T F
  exact ⟨_, fd, _, [], ok, T.g__law_pick, F.kp, (FunD.bindsN F fun _ _ _ _ _ _ us hl => match us, hl with | [_, _], _ => rfl), .nil⟩
theorem fn__law_shape (T : Tx K mg) {fd : FuncData} (F : FunD K "_law_shape" "_law_shape" (defArgs s__law_shape) (defBody s__law_shape) (defScope s__law_shape) [] [] (He.fAd K ("_law_shape", none)) fd) : FnOk P w K mg base (L2.CX P w) 3 (He.fAd K ("_law_shape", none)) fd ["_law_draws", "_law_names"] (sp__law_shape K) := by
  refine F.ok sc__law_shape (fun vs H Q E h => h.1) (fun cdv A outer s H vs Q E hr h => ⟨_, ?_, h.2⟩)
  refine PSs.nox ?_
  exact (pss_cons (ps_set (i := 2) sc__law_shape.nd rfl (by first | exact Or.inl rfl | exact Or.inr rfl) (pe_cl (T.ok__law_draw (P := P)) hr (by decide) (fun _ => pz) rfl (pa_cons (pv 0) (pa_cons pe_int pa_nil))))
        (pss_cons (ps_if (pt_cmpR (op_eqX hr.units) (pv 2) pe_int (nomark _))
        (pss_cons (ps_set (i := 3) sc__law_shape.nd rfl (by first | exact Or.inl rfl | exact Or.inr rfl) (pe_op op_subX (pe_cl (T.ok__law_draw (P := P)) hr (by decide) (fun _ => pz) rfl (pa_cons (pv 0) (pa_cons pe_int pa_nil))) pe_int))
        (pss_one (ps_ret (pe_tup (pa_cons (pe_strE e_int) (pa_cons (pv 3) (pa_cons (pe_op op_addX (pv 3) (pe_cl (T.ok__law_draw (P := P)) hr (by decide) (fun _ => pz) rfl (pa_cons (pv 0) (pa_cons pe_int pa_nil)))) pa_nil)))))))
        pss_nil)
        (pss_cons (ps_if (pt_cmpR (op_eqX hr.units) (pv 2) pe_int (nomark _))
        (pss_one (ps_ret (pe_tup (pa_cons (pe_strE e_text) (pa_cons (pe_op op_addX pe_int (pe_cl (T.ok__law_draw (P := P)) hr (by decide) (fun _ => pz) rfl (pa_cons (pv 0) (pa_cons pe_int pa_nil)))) (pa_cons (pe_cl (T.ok__law_pick (P := P)) hr (by decide) (fun _ => pz) rfl (pa_cons (pv 0) (pa_cons (pe_lst (pa_cons pe_non (pa_cons pe_non (pa_cons (pe_strE e_x2c) (pa_cons (pe_strE e_x22) pa_nil))))) pa_nil))) pa_nil))))))
        pss_nil)
        (pss_cons (ps_if (pt_cmpR (op_eqX hr.units) (pv 2) pe_int (nomark _))
        (pss_one (ps_ret (pe_tup (pa_cons (pe_strE e_one) (pa_cons (pe_slice sl_X (pe_lst (pa_cons (pe_strE e_a) (pa_cons (pe_strE e_b_c) (pa_cons (pe_strE e_x22) (pa_cons (pe_strE e_dx5c) pa_nil))))) po_none (po_some (pe_op op_addX pe_int (pe_cl (T.ok__law_draw (P := P)) hr (by decide) (fun _ => pz) rfl (pa_cons (pv 0) (pa_cons pe_int pa_nil)))))) pa_nil)))))
        pss_nil)
        (pss_cons (ps_set (i := 4) sc__law_shape.nd rfl (by first | exact Or.inl rfl | exact Or.inr rfl) (pe_cl (T.ok__law_draw (P := P)) hr (by decide) (fun _ => pz) rfl (pa_cons (pv 0) (pa_cons (pe_callB call_len (by rfl) T.b_len boot_len (pa_cons (pv 1) pa_nil)) pa_nil))))
        (pss_cons (ps_set (i := 5) sc__law_shape.nd rfl (by first | exact Or.inl rfl | exact Or.inr rfl) (pe_slice sl_X (pe_op op_addX (pv 1) (pv 1)) (po_some (pv 4)) (po_some (pe_op op_addX (pe_op op_addX (pv 4) pe_int) (pe_cl (T.ok__law_draw (P := P)) hr (by decide) (fun _ => pz) rfl (pa_cons (pv 0) (pa_cons (pe_callB call_len (by rfl) T.b_len boot_len (pa_cons (pv 1) pa_nil)) pa_nil)))))))
        (pss_cons (ps_if (pt_cmpR (op_eqX hr.units) (pv 2) pe_int (nomark _))
        (pss_one (ps_ret (pe_tup (pa_cons (pe_strE e_list) (pa_cons (pv 5) pa_nil)))))
        pss_nil)
        (pss_one (ps_ret (pe_tup (pa_cons (pe_strE e_ref) (pa_cons (pv 5) (pa_cons (pe_cl (T.ok__law_pick (P := P)) hr (by decide) (fun _ => pz) rfl (pa_cons (pv 0) (pa_cons (pe_lst (pa_cons (pe_strE e_clears) (pa_cons (pe_strE e_refuses) (pa_cons (pe_strE e_takes) pa_nil)))) pa_nil))) pa_nil)))))))))))))
theorem Tx.ok__law_shape (T : Tx K mg) : Cl P w K mg base 3 "_law_shape" (sp__law_shape K) [] := by
  obtain ⟨fd, F⟩ := T.d__law_shape
  have ok := fn__law_shape (P := P) (w := w) (base := base) T F
  exact ⟨_, fd, _, [], ok, T.g__law_shape, F.kp, (FunD.bindsN F fun _ _ _ _ _ _ us hl => match us, hl with | [_, _], _ => rfl), .nil⟩
theorem fn__law_kind (T : Tx K mg) {fd : FuncData} (F : FunD K "_law_kind" "_law_kind" (defArgs s__law_kind) (defBody s__law_kind) (defScope s__law_kind) [] [] (He.fAd K ("_law_kind", none)) fd) : FnOk P w K mg base (L2.CX P w) 4 (He.fAd K ("_law_kind", none)) fd ["_law_draws", "_law_name", "_law_names"] (sp__law_kind K) := by
  refine F.ok sc__law_kind (fun vs H Q E h => h.1) (fun cdv A outer s H vs Q E hr h => ⟨_, ?_, h.2⟩)
  refine PSs.nox ?_
  exact (pss_cons (ps_set (i := 3) sc__law_kind.nd rfl (by first | exact Or.inl rfl | exact Or.inr rfl) (pe_lst pa_nil))
        (pss_cons (ps_for PassesOwn.never rfl (pi_any (pe_slice sl_X (pe_lst (pa_cons (pe_strE e_a) (pa_cons (pe_strE e_bx5f1) (pa_cons (pe_strE e_cC) (pa_cons (pe_strE e_d) pa_nil))))) po_none (po_some (pe_cl (T.ok__law_draw (P := P)) hr (by decide) (fun _ => pz) rfl (pa_cons (pv 0) (pa_cons pe_int pa_nil)))))) (pg_name (i := 4) sc__law_kind.nd rfl (by first | exact Or.inl rfl | exact Or.inr rfl))
        (pss_cons (ps_set (i := 5) sc__law_kind.nd rfl (by first | exact Or.inl rfl | exact Or.inr rfl) (pe_cl (T.ok__law_shape (P := P)) hr (by decide) (fun _ => pz) rfl (pa_cons (pv 0) (pa_cons (pv 2) pa_nil))))
        (pss_one (ps_expr (pe_bm PySem.F.plainAttrs_list PySem.F.slot_list_append PySem.F.type_list_append mt_append (pv 3) (pa_cons (pe_tup (pa_cons (pv 4) (pa_cons (pv 5) (pa_cons (pe_and (pe_cmpR (op_neX hr.units) (pe_ix ix_seq (pv 5) pe_int fun _ _ => rfl) (pe_strE e_list) (nomark _)) (pe_one (pe_cmpR (op_eqX hr.units) (pe_cl (T.ok__law_draw (P := P)) hr (by decide) (fun _ => pz) rfl (pa_cons (pv 0) (pa_cons pe_int pa_nil))) pe_int (nomark _)))) pa_nil)))) pa_nil))))))
        (pss_cons (ps_setLc (i := 6) (own := [("_law_field", 4)]) rfl sc__law_kind.nd rfl rfl (sw_true rfl rfl rfl (by decide +kernel)) (pi_any (pv 3)) (blkOk_by (N := ["_law_draws", "_law_name", "_law_names", "_law_fields", "_law_field", "_law_shape_here", "_law_free", "_law_rows", "_law_cut"]) (sc := defScope s__law_kind) (own := [("_law_field", 4)]) (by decide +kernel)) (fun _ _ _ _ _ => (pg_name (i := 4) sc__law_kind.nd rfl (by first | exact Or.inl rfl | exact Or.inr rfl))) (fun _ _ _ _ _ => pts_one (pt_cmpR (op_neX hr.units) (pe_ix ix_seq (pe_ix ix_seq (pv 4) pe_int fun _ _ => rfl) pe_int fun _ _ => rfl) (pe_strE e_list) (nomark _))) (fun _ _ _ _ _ => (pe_ix ix_seq (pv 4) pe_int fun _ _ => rfl)))
        (pss_cons (ps_set (i := 7) sc__law_kind.nd rfl (by first | exact Or.inl rfl | exact Or.inr rfl) (pe_lst pa_nil))
        (C8.pss_cut (ps_if (PW.pt (pw_and (pt_cmpR op_gtX (pe_callB call_len (by rfl) T.b_len boot_len (pa_cons (pv 6) pa_nil)) pe_int (nomark _)) (pw_and1 (pt_cmpR (op_eqX hr.units) (pe_cl (T.ok__law_draw (P := P)) hr (by decide) (fun _ => pz) rfl (pa_cons (pv 0) (pa_cons pe_int pa_nil))) pe_int (nomark _)))))
        (pss_cons (ps_set (i := 8) sc__law_kind.nd rfl (by first | exact Or.inl rfl | exact Or.inr rfl) (pe_op op_addX pe_int (pe_cl (T.ok__law_draw (P := P)) hr (by decide) (fun _ => pz) rfl (pa_cons (pv 0) (pa_cons (pe_callB call_len (by rfl) T.b_len boot_len (pa_cons (pv 6) pa_nil)) pa_nil)))))
        (pss_cons (ps_expr (pe_bm PySem.F.plainAttrs_list PySem.F.slot_list_append PySem.F.type_list_append mt_append (pv 7) (pa_cons (pe_slice sl_X (pv 6) po_none (po_some (pv 8))) pa_nil)))
        (pss_one (ps_if (PW.pt (pw_and (pt_cmpR (op_ltX hr.units) (pv 8) (pe_callB call_len (by rfl) T.b_len boot_len (pa_cons (pv 6) pa_nil)) (nomark _)) (pw_and1 (pt_cmpR (op_eqX hr.units) (pe_cl (T.ok__law_draw (P := P)) hr (by decide) (fun _ => pz) rfl (pa_cons (pv 0) (pa_cons pe_int pa_nil))) pe_int (nomark _)))))
        (pss_one (ps_expr (pe_bm PySem.F.plainAttrs_list PySem.F.slot_list_append PySem.F.type_list_append mt_append (pv 7) (pa_cons (pe_slice sl_X (pv 6) (po_some (pv 8)) po_none) pa_nil))))
        pss_nil))))
        pss_nil)
        (pss_one (ps_ret (pe_tup (pa_cons (pv 1) (pa_cons (pv 3) (pa_cons (pv 7) pa_nil)))))))))))
theorem Tx.ok__law_kind (T : Tx K mg) : Cl P w K mg base 4 "_law_kind" (sp__law_kind K) [] := by
  obtain ⟨fd, F⟩ := T.d__law_kind
  have ok := fn__law_kind (P := P) (w := w) (base := base) T F
  exact ⟨_, fd, _, [], ok, T.g__law_kind, F.kp, (FunD.bindsN F fun _ _ _ _ _ _ us hl => match us, hl with | [_, _, _], _ => rfl), .nil⟩
theorem fn__law_schema (T : Tx K mg) {fd : FuncData} (F : FunD K "_law_schema" "_law_schema" (defArgs s__law_schema) (defBody s__law_schema) (defScope s__law_schema) [] [] (He.fAd K ("_law_schema", none)) fd) : FnOk P w K mg base (L2.CX P w) 5 (He.fAd K ("_law_schema", none)) fd ["_law_draws"] (sp__law_schema K) := by
  refine F.ok sc__law_schema (fun vs H Q E h => h.1) (fun cdv A outer s H vs Q E hr h => ⟨_, ?_, h.2⟩)
  refine PSs.nox ?_
  exact (pss_cons (ps_set (i := 1) sc__law_schema.nd rfl (by first | exact Or.inl rfl | exact Or.inr rfl) (pe_slice sl_X (pe_lst (pa_cons (pe_strE e_K) (pa_cons (pe_strE e_Ll) (pa_cons (pe_strE e_Mx5f2) pa_nil)))) po_none (po_some (pe_op op_addX pe_int (pe_cl (T.ok__law_draw (P := P)) hr (by decide) (fun _ => pz) rfl (pa_cons (pv 0) (pa_cons pe_int pa_nil)))))))
        (pss_one (ps_ret (pe_lc (own := [("_law_name", 2)]) rfl sc__law_schema.nd (pi_any (pv 1)) (blkOk_by (N := ["_law_draws", "_law_names", "_law_name"]) (sc := defScope s__law_schema) (own := [("_law_name", 2)]) (by decide +kernel)) (fun _ _ _ _ _ => (pg_name (i := 2) sc__law_schema.nd rfl (by first | exact Or.inl rfl | exact Or.inr rfl))) (fun _ _ _ _ _ => pts_nil) (fun _ _ _ _ _ => (pe_cl (T.ok__law_kind (P := P)) hr (by decide) (fun _ => pz) rfl (pa_cons (pv 0) (pa_cons (pv 2) (pa_cons (pv 1) pa_nil)))))))))
theorem Tx.ok__law_schema (T : Tx K mg) : Cl P w K mg base 5 "_law_schema" (sp__law_schema K) [] := by
  obtain ⟨fd, F⟩ := T.d__law_schema
  have ok := fn__law_schema (P := P) (w := w) (base := base) T F
  exact ⟨_, fd, _, [], ok, T.g__law_schema, F.kp, (FunD.bindsN F fun _ _ _ _ _ _ us hl => match us, hl with | [_], _ => rfl), .nil⟩
theorem fn__law_changed (T : Tx K mg) {fd : FuncData} (F : FunD K "_law_changed" "_law_changed" (defArgs s__law_changed) (defBody s__law_changed) (defScope s__law_changed) [] [] (He.fAd K ("_law_changed", none)) fd) : FnOk P w K mg base (L2.CX P w) 2 (He.fAd K ("_law_changed", none)) fd ["_law_draws", "_law_text_here"] (sp__law_changed K) := by
  refine F.ok sc__law_changed (fun vs H Q E h => h.1) (fun cdv A outer s H vs Q E hr h => ⟨_, ?_, h.2⟩)
  refine PSs.nox ?_
  exact (pss_cons (ps_set (i := 2) sc__law_changed.nd rfl (by first | exact Or.inl rfl | exact Or.inr rfl) (pe_cl (T.ok__law_draw (P := P)) hr (by decide) (fun _ => pz) rfl (pa_cons (pv 0) (pa_cons (pe_op op_addX (pe_callB call_len (by rfl) T.b_len boot_len (pa_cons (pv 1) pa_nil)) pe_int) pa_nil))))
        (pss_cons (ps_set (i := 3) sc__law_changed.nd rfl (by first | exact Or.inl rfl | exact Or.inr rfl) (pe_cl (T.ok__law_draw (P := P)) hr (by decide) (fun _ => pz) rfl (pa_cons (pv 0) (pa_cons pe_int pa_nil))))
        (pss_cons (ps_set (i := 4) sc__law_changed.nd rfl (by first | exact Or.inl rfl | exact Or.inr rfl) (pe_cl (T.ok__law_draw (P := P)) hr (by decide) (fun _ => pz) rfl (pa_cons (pv 0) (pa_cons pe_int pa_nil))))
        (pss_cons (ps_if (pt_cmpR (op_eqX hr.units) (pv 4) pe_int (nomark _))
        (pss_one (ps_ret (pe_op op_addX (pe_slice sl_X (pv 1) po_none (po_some (pv 2))) (pe_slice sl_X (pv 1) (po_some (pe_op op_addX (pv 2) (pv 3))) po_none))))
        pss_nil)
        (pss_cons (ps_if (pt_cmpR (op_eqX hr.units) (pv 4) pe_int (nomark _))
        (pss_one (ps_ret (pe_op op_addX (pe_op op_addX (pe_slice sl_X (pv 1) po_none (po_some (pv 2))) (pe_slice sl_X (pv 1) (po_some (pv 2)) (po_some (pe_op op_addX (pv 2) (pv 3))))) (pe_slice sl_X (pv 1) (po_some (pv 2)) po_none))))
        pss_nil)
        (pss_one (ps_ret (pe_op op_addX (pe_op op_addX (pe_slice sl_X (pv 1) po_none (po_some (pv 2))) (pe_ix ix_seq (pe_strE e_aK0x2dx2ex3bx3ax2cx7bx7dx22_x5c19x5fxx3dor) (pe_cl (T.ok__law_draw (P := P)) hr (by decide) (fun _ => pz) rfl (pa_cons (pv 0) (pa_cons pe_int pa_nil))) fun _ _ => rfl)) (pe_slice sl_X (pv 1) (po_some (pe_op op_addX (pv 2) pe_int)) po_none)))))))))
theorem Tx.ok__law_changed (T : Tx K mg) : Cl P w K mg base 2 "_law_changed" (sp__law_changed K) [] := by
  obtain ⟨fd, F⟩ := T.d__law_changed
  have ok := fn__law_changed (P := P) (w := w) (base := base) T F
  exact ⟨_, fd, _, [], ok, T.g__law_changed, F.kp, (FunD.bindsN F fun _ _ _ _ _ _ us hl => match us, hl with | [_, _], _ => rfl), .nil⟩
theorem fn_Reader_init (T : Tx K mg) {fd : FuncData} (F : FunD K "__init__" "Reader.__init__" (defArgs s_Reader_init) (defBody s_Reader_init) (defScope s_Reader_init) [] [] (He.fAd K ("Reader", some "__init__")) fd) : FnOk P w K mg base (L2.CX P w) 1 (He.fAd K ("Reader", some "__init__")) fd ["self", "row", "reserved"] (sp_Reader_init K) := by
  refine F.ok sc_Reader_init (fun vs H Q E h => h.1) (fun cdv A outer s H vs Q E hr h => ⟨_, ?_, h.2⟩)
  refine PSs.nox ?_
  exact (pss_cons (ps_fld (pv 0) (pv 1) rfl)
        (pss_cons (ps_fld (pv 0) pe_int rfl)
        (pss_one (ps_fld (pv 0) (pv 2) rfl))))
theorem Tx.ok_Reader_init (T : Tx K mg) : Mq P w K mg base 1 "Reader" (He.ga K ("Reader" : Str)) (sp_Reader_init K) [] := by
  obtain ⟨fd, F⟩ := T.d_Reader_init
  have ok := fn_Reader_init (P := P) (w := w) (base := base) T F
  exact ⟨_, fd, _, [], T.mk_Reader, ok, T.gc_Reader, (FunD.bindsN F fun _ _ _ _ _ _ us hl => match us, hl with | [_, _, _], _ => rfl), .nil⟩
theorem fn_word_end (T : Tx K mg) {fd : FuncData} (F : FunD K "word_end" "word_end" (defArgs s_word_end) (defBody s_word_end) (defScope s_word_end) [] [] (He.fAd K ("word_end", none)) fd) : FnOk P w K mg base (L2.CX P w) 1 (He.fAd K ("word_end", none)) fd ["text", "place"] (sp_word_end K) := by
  refine F.ok sc_word_end (fun vs H Q E h => h.1) (fun cdv A outer s H vs Q E hr h => ⟨_, ?_, h.2⟩)
  refine PSs.nox ?_
  exact (pss_cons (ps_while PassesOwn.never (PW.pt (pw_and (pt_cmpR (op_ltX hr.units) (pv 1) (pe_callB call_len (by rfl) T.b_len boot_len (pa_cons (pv 0) pa_nil)) (nomark _)) (pw_and1 (PW.pt (pw_or (pt_cmpR op_inX (pe_ix ix_seq (pv 0) (pv 1) fun _ _ => rfl) (pe_gc rfl T.k_LETTERS) (by rfl)) (pw_or (pt_cmpR op_inX (pe_ix ix_seq (pv 0) (pv 1) fun _ _ => rfl) (pe_gc rfl T.k_DIGITS) (by rfl)) (pw_or1 (pt_cmpR (op_eqX hr.units) (pe_ix ix_seq (pv 0) (pv 1) fun _ _ => rfl) (pe_strE e_x5f) (nomark _)))))))))
        (pss_one (ps_set (i := 1) sc_word_end.nd rfl (by first | exact Or.inl rfl | exact Or.inr rfl) (pe_op op_addX (pv 1) pe_int))))
        (pss_one (ps_ret (pv 1))))
theorem Tx.ok_word_end (T : Tx K mg) : Cl P w K mg base 1 "word_end" (sp_word_end K) [] := by
  obtain ⟨fd, F⟩ := T.d_word_end
  have ok := fn_word_end (P := P) (w := w) (base := base) T F
  exact ⟨_, fd, _, [], ok, T.g_word_end, F.kp, (FunD.bindsN F fun _ _ _ _ _ _ us hl => match us, hl with | [_, _], _ => rfl), .nil⟩
theorem fn_Token_init (T : Tx K mg) {fd : FuncData} (F : FunD K "__init__" "Token.__init__" (defArgs s_Token_init) (defBody s_Token_init) (defScope s_Token_init) [] [] (He.fAd K ("Token", some "__init__")) fd) : FnOk P w K mg base (L2.CX P w) 1 (He.fAd K ("Token", some "__init__")) fd ["self", "role", "text", "place"] (sp_Token_init K) := by
  refine F.ok sc_Token_init (fun vs H Q E h => h.1) (fun cdv A outer s H vs Q E hr h => ⟨_, ?_, h.2⟩)
  refine PSs.nox ?_
  exact (pss_cons (ps_fld (pv 0) (pv 1) rfl)
        (pss_cons (ps_fld (pv 0) (pv 2) rfl)
        (pss_one (ps_fld (pv 0) (pv 3) rfl))))
theorem Tx.ok_Token_init (T : Tx K mg) : Mq P w K mg base 1 "Token" (He.ga K ("Token" : Str)) (sp_Token_init K) [] := by
  obtain ⟨fd, F⟩ := T.d_Token_init
  have ok := fn_Token_init (P := P) (w := w) (base := base) T F
  exact ⟨_, fd, _, [], T.mk_Token, ok, T.gc_Token, (FunD.bindsN F fun _ _ _ _ _ _ us hl => match us, hl with | [_, _, _, _], _ => rfl), .nil⟩
theorem fn_read_word (T : Tx K mg) {fd : FuncData} (F : FunD K "read_word" "read_word" (defArgs s_read_word) (defBody s_read_word) (defScope s_read_word) [] [] (He.fAd K ("read_word", none)) fd) : FnOk P w K mg base (L2.CX P w) 3 (He.fAd K ("read_word", none)) fd ["text", "place"] (sp_read_word K) := by
  refine F.ok sc_read_word (fun vs H Q E h => h.1) (fun cdv A outer s H vs Q E hr h => ⟨_, ?_, h.2⟩)
  have tk : Takes (cxOf (L2.CX P w) P w K mg base ["text", "place", "stop"] "read_word" (defScope s_read_word) (He.fAd K ("read_word", none)) cdv A outer s H E) (fun cls d _ H => E cls d H) := takes_of rfl rfl rfl rfl
  have po : PassesOwn (model _ _) _ _ (cxOf (L2.CX P w) P w K mg base ["text", "place", "stop"] "read_word" (defScope s_read_word) (He.fAd K ("read_word", none)) cdv A outer s H E).xe := passes_of rfl
  exact (pss_cons (ps_set (i := 2) sc_read_word.nd rfl (by first | exact Or.inl rfl | exact Or.inr rfl) (pe_cl (T.ok_word_end (P := P)) hr (by decide) (fun _ => pz) rfl (pa_cons (pv 0) (pa_cons (pv 1) pa_nil))))
        (pss_cons (ps_if (pt_cmpR op_gtX (pe_op op_subX (pv 2) (pv 1)) (pe_gc rfl T.k_WORD_LENGTH) (nomark _))
        (pss_one (ps_raiseF rfl tk (T.fau.txt P) hr (by decide) (pa_cons (pv 1) (pa_cons (pe_strE e_word_too_long) pa_nil))))
        pss_nil)
        (pss_one (ps_ret (pe_mq (T.ok_Token_init (P := P)) hr (by decide) rfl (pa_cons (pe_strE e_word) (pa_cons (pe_slice sl_X (pv 0) (po_some (pv 1)) (po_some (pv 2))) (pa_cons (pv 1) pa_nil))))))))
theorem Tx.ok_read_word (T : Tx K mg) : Cl P w K mg base 3 "read_word" (sp_read_word K) [] := by
  obtain ⟨fd, F⟩ := T.d_read_word
  have ok := fn_read_word (P := P) (w := w) (base := base) T F
  exact ⟨_, fd, _, [], ok, T.g_read_word, F.kp, (FunD.bindsN F fun _ _ _ _ _ _ us hl => match us, hl with | [_, _], _ => rfl), .nil⟩
theorem fn_digits_end (T : Tx K mg) {fd : FuncData} (F : FunD K "digits_end" "digits_end" (defArgs s_digits_end) (defBody s_digits_end) (defScope s_digits_end) [] [] (He.fAd K ("digits_end", none)) fd) : FnOk P w K mg base (L2.CX P w) 1 (He.fAd K ("digits_end", none)) fd ["text", "place"] (sp_digits_end K) := by
  refine F.ok sc_digits_end (fun vs H Q E h => h.1) (fun cdv A outer s H vs Q E hr h => ⟨_, ?_, h.2⟩)
  refine PSs.nox ?_
  exact (pss_cons (ps_while PassesOwn.never (PW.pt (pw_and (pt_cmpR (op_ltX hr.units) (pv 1) (pe_callB call_len (by rfl) T.b_len boot_len (pa_cons (pv 0) pa_nil)) (nomark _)) (pw_and1 (pt_cmpR op_inX (pe_ix ix_seq (pv 0) (pv 1) fun _ _ => rfl) (pe_gc rfl T.k_DIGITS) (by rfl)))))
        (pss_one (ps_set (i := 1) sc_digits_end.nd rfl (by first | exact Or.inl rfl | exact Or.inr rfl) (pe_op op_addX (pv 1) pe_int))))
        (pss_one (ps_ret (pv 1))))
theorem Tx.ok_digits_end (T : Tx K mg) : Cl P w K mg base 1 "digits_end" (sp_digits_end K) [] := by
  obtain ⟨fd, F⟩ := T.d_digits_end
  have ok := fn_digits_end (P := P) (w := w) (base := base) T F
  exact ⟨_, fd, _, [], ok, T.g_digits_end, F.kp, (FunD.bindsN F fun _ _ _ _ _ _ us hl => match us, hl with | [_, _], _ => rfl), .nil⟩
theorem fn_read_number (T : Tx K mg) {fd : FuncData} (F : FunD K "read_number" "read_number" (defArgs s_read_number) (defBody s_read_number) (defScope s_read_number) [] [] (He.fAd K ("read_number", none)) fd) : FnOk P w K mg base (L2.CX P w) 3 (He.fAd K ("read_number", none)) fd ["text", "place"] (sp_read_number K) := by
  refine F.ok sc_read_number (fun vs H Q E h => h.1) (fun cdv A outer s H vs Q E hr h => ⟨_, ?_, h.2⟩)
  have tk : Takes (cxOf (L2.CX P w) P w K mg base ["text", "place", "stop"] "read_number" (defScope s_read_number) (He.fAd K ("read_number", none)) cdv A outer s H E) (fun cls d _ H => E cls d H) := takes_of rfl rfl rfl rfl
  have po : PassesOwn (model _ _) _ _ (cxOf (L2.CX P w) P w K mg base ["text", "place", "stop"] "read_number" (defScope s_read_number) (He.fAd K ("read_number", none)) cdv A outer s H E).xe := passes_of rfl
  exact (pss_cons (ps_set (i := 2) sc_read_number.nd rfl (by first | exact Or.inl rfl | exact Or.inr rfl) (pe_cl (T.ok_digits_end (P := P)) hr (by decide) (fun _ => pz) rfl (pa_cons (pv 0) (pa_cons (pv 1) pa_nil))))
        (pss_cons (ps_if (PW.pt (pw_and (pt_cmpR op_gtX (pe_op op_subX (pv 2) (pv 1)) pe_int (nomark _)) (pw_and1 (pt_cmpR (op_eqX hr.units) (pe_ix ix_seq (pv 0) (pv 1) fun _ _ => rfl) (pe_strE e_0) (nomark _)))))
        (pss_one (ps_raiseF rfl tk (T.fau.txt P) hr (by decide) (pa_cons (pv 1) (pa_cons (pe_strE e_needless_zero) pa_nil))))
        pss_nil)
        (pss_cons (ps_if (pt_cmpR op_gtX (pe_op op_subX (pv 2) (pv 1)) (pe_gc rfl T.k_NUMBER_LENGTH) (nomark _))
        (pss_one (ps_raiseF rfl tk (T.fau.txt P) hr (by decide) (pa_cons (pv 1) (pa_cons (pe_strE e_number_too_long) pa_nil))))
        pss_nil)
        (pss_cons (ps_if (pt_cmpR op_gtX (pe_cl (T.ok_word_end (P := P)) hr (by decide) (fun _ => pz) rfl (pa_cons (pv 0) (pa_cons (pv 2) pa_nil))) (pv 2) (nomark _))
        (pss_one (ps_raiseF rfl tk (T.fau.txt P) hr (by decide) (pa_cons (pv 2) (pa_cons (pe_strE e_unexpected_sign) pa_nil))))
        pss_nil)
        (pss_one (ps_ret (pe_mq (T.ok_Token_init (P := P)) hr (by decide) rfl (pa_cons (pe_strE e_number) (pa_cons (pe_slice sl_X (pv 0) (po_some (pv 1)) (po_some (pv 2))) (pa_cons (pv 1) pa_nil))))))))))
theorem Tx.ok_read_number (T : Tx K mg) : Cl P w K mg base 3 "read_number" (sp_read_number K) [] := by
  obtain ⟨fd, F⟩ := T.d_read_number
  have ok := fn_read_number (P := P) (w := w) (base := base) T F
  exact ⟨_, fd, _, [], ok, T.g_read_number, F.kp, (FunD.bindsN F fun _ _ _ _ _ _ us hl => match us, hl with | [_, _], _ => rfl), .nil⟩
theorem fn_read_quoted (T : Tx K mg) {fd : FuncData} (F : FunD K "read_quoted" "read_quoted" (defArgs s_read_quoted) (defBody s_read_quoted) (defScope s_read_quoted) [] [] (He.fAd K ("read_quoted", none)) fd) : FnOk P w K mg base (L2.CX P w) 3 (He.fAd K ("read_quoted", none)) fd ["text", "place"] (sp_read_quoted K) := by
  refine F.ok sc_read_quoted (fun vs H Q E h => h.1) (fun cdv A outer s H vs Q E hr h => ⟨_, ?_, h.2⟩)
  have tk : Takes (cxOf (L2.CX P w) P w K mg base ["text", "place", "signs", "at", "sign"] "read_quoted" (defScope s_read_quoted) (He.fAd K ("read_quoted", none)) cdv A outer s H E) (fun cls d _ H => E cls d H) := takes_of rfl rfl rfl rfl
  have po : PassesOwn (model _ _) _ _ (cxOf (L2.CX P w) P w K mg base ["text", "place", "signs", "at", "sign"] "read_quoted" (defScope s_read_quoted) (He.fAd K ("read_quoted", none)) cdv A outer s H E).xe := passes_of rfl
  exact (pss_cons (ps_set (i := 2) sc_read_quoted.nd rfl (by first | exact Or.inl rfl | exact Or.inr rfl) (pe_lst pa_nil))
        (pss_cons (ps_set (i := 3) sc_read_quoted.nd rfl (by first | exact Or.inl rfl | exact Or.inr rfl) (pe_op op_addX (pv 1) pe_int))
        (pss_cons (ps_while po (pt_cmpR (op_ltX hr.units) (pv 3) (pe_callB call_len (by rfl) T.b_len boot_len (pa_cons (pv 0) pa_nil)) (nomark _))
        (pss_cons (ps_set (i := 4) sc_read_quoted.nd rfl (by first | exact Or.inl rfl | exact Or.inr rfl) (pe_ix ix_seq (pv 0) (pv 3) fun _ _ => rfl))
        (pss_cons (ps_if (pt_cmpR (op_eqX hr.units) (pv 4) (pe_strE e_x22) (nomark _))
        (pss_one (ps_ret (pe_tup (pa_cons (pe_mq (T.ok_Token_init (P := P)) hr (by decide) rfl (pa_cons (pe_strE e_text) (pa_cons (pe_join (pe_strE e_empty) (pv 2)) (pa_cons (pv 1) pa_nil)))) (pa_cons (pe_op op_addX (pv 3) pe_int) pa_nil)))))
        pss_nil)
        (C8.pss_cut (ps_if (pt_cmpR (op_eqX hr.units) (pv 4) (pe_strE e_x5c) (nomark _))
        (pss_cons (ps_set (i := 3) sc_read_quoted.nd rfl (by first | exact Or.inl rfl | exact Or.inr rfl) (pe_op op_addX (pv 3) pe_int))
        (pss_cons (ps_if (pt_cmpR (op_eqX hr.units) (pv 3) (pe_callB call_len (by rfl) T.b_len boot_len (pa_cons (pv 0) pa_nil)) (nomark _))
        (pss_one ps_break)
        pss_nil)
        (pss_cons (ps_set (i := 4) sc_read_quoted.nd rfl (by first | exact Or.inl rfl | exact Or.inr rfl) (pe_ix ix_seq (pv 0) (pv 3) fun _ _ => rfl))
        (pss_one (ps_if (pt_cmpR op_notInX (pv 4) (pe_tup (pa_cons (pe_strE e_x22) (pa_cons (pe_strE e_x5c) pa_nil))) (by rfl))
        (pss_one (ps_raiseF rfl tk (T.fau.txt P) hr (by decide) (pa_cons (pv 3) (pa_cons (pe_strE e_unexpected_sign) pa_nil))))
        pss_nil)))))
        pss_nil)
        (pss_cons (ps_expr (pe_bm PySem.F.plainAttrs_list PySem.F.slot_list_append PySem.F.type_list_append mt_append (pv 2) (pa_cons (pv 4) pa_nil)))
        (pss_one (ps_set (i := 3) sc_read_quoted.nd rfl (by first | exact Or.inl rfl | exact Or.inr rfl) (pe_op op_addX (pv 3) pe_int))))))))
        (pss_one (ps_raiseF rfl tk (T.fau.txt P) hr (by decide) (pa_cons (pv 1) (pa_cons (pe_strE e_text_is_not_closed) pa_nil)))))))
theorem Tx.ok_read_quoted (T : Tx K mg) : Cl P w K mg base 3 "read_quoted" (sp_read_quoted K) [] := by
  obtain ⟨fd, F⟩ := T.d_read_quoted
  have ok := fn_read_quoted (P := P) (w := w) (base := base) T F
  exact ⟨_, fd, _, [], ok, T.g_read_quoted, F.kp, (FunD.bindsN F fun _ _ _ _ _ _ us hl => match us, hl with | [_, _], _ => rfl), .nil⟩
theorem fn_read_sign (T : Tx K mg) {fd : FuncData} (F : FunD K "read_sign" "read_sign" (defArgs s_read_sign) (defBody s_read_sign) (defScope s_read_sign) [] [] (He.fAd K ("read_sign", none)) fd) : FnOk P w K mg base (L2.CX P w) 3 (He.fAd K ("read_sign", none)) fd ["text", "place", "signs"] (sp_read_sign K) := by
  refine F.ok sc_read_sign (fun vs H Q E h => h.1) (fun cdv A outer s H vs Q E hr h => ⟨_, ?_, h.2⟩)
  have tk : Takes (cxOf (L2.CX P w) P w K mg base ["text", "place", "signs", "found", "sign"] "read_sign" (defScope s_read_sign) (He.fAd K ("read_sign", none)) cdv A outer s H E) (fun cls d _ H => E cls d H) := takes_of rfl rfl rfl rfl
  have po : PassesOwn (model _ _) _ _ (cxOf (L2.CX P w) P w K mg base ["text", "place", "signs", "found", "sign"] "read_sign" (defScope s_read_sign) (He.fAd K ("read_sign", none)) cdv A outer s H E).xe := passes_of rfl
  exact (pss_cons (ps_set (i := 3) sc_read_sign.nd rfl (by first | exact Or.inl rfl | exact Or.inr rfl) (pe_strE e_empty))
        (pss_cons (ps_for po rfl (pi_any (pv 2)) (pg_name (i := 4) sc_read_sign.nd rfl (by first | exact Or.inl rfl | exact Or.inr rfl))
        (pss_one (ps_if (PW.pt (pw_and (pt_truth (pe_bm PySem.F.plainAttrs_str PySem.F.slot_str_startswith PySem.F.type_str_startswith mt_startswith3 (pv 0) (pa_cons (pv 4) (pa_cons (pv 1) pa_nil))) fun _ => rfl) (pw_and1 (pt_cmpR op_gtX (pe_callB call_len (by rfl) T.b_len boot_len (pa_cons (pv 4) pa_nil)) (pe_callB call_len (by rfl) T.b_len boot_len (pa_cons (pv 3) pa_nil)) (nomark _)))))
        (pss_one (ps_set (i := 3) sc_read_sign.nd rfl (by first | exact Or.inl rfl | exact Or.inr rfl) (pv 4)))
        pss_nil)))
        (pss_cons (ps_if (pt_cmpR (op_eqX hr.units) (pv 3) (pe_strE e_empty) (nomark _))
        (pss_one (ps_raiseF rfl tk (T.fau.txt P) hr (by decide) (pa_cons (pv 1) (pa_cons (pe_strE e_unexpected_sign) pa_nil))))
        pss_nil)
        (pss_one (ps_ret (pe_mq (T.ok_Token_init (P := P)) hr (by decide) rfl (pa_cons (pe_strE e_sign) (pa_cons (pv 3) (pa_cons (pv 1) pa_nil)))))))))
theorem Tx.ok_read_sign (T : Tx K mg) : Cl P w K mg base 3 "read_sign" (sp_read_sign K) [] := by
  obtain ⟨fd, F⟩ := T.d_read_sign
  have ok := fn_read_sign (P := P) (w := w) (base := base) T F
  exact ⟨_, fd, _, [], ok, T.g_read_sign, F.kp, (FunD.bindsN F fun _ _ _ _ _ _ us hl => match us, hl with | [_, _, _], _ => rfl), .nil⟩
theorem fn_tokens (T : Tx K mg) {fd : FuncData} (F : FunD K "tokens" "tokens" (defArgs s_tokens) (defBody s_tokens) (defScope s_tokens) [] [] (He.fAd K ("tokens", none)) fd) : FnOk P w K mg base (L2.CX P w) 4 (He.fAd K ("tokens", none)) fd ["text", "signs", "longest"] (sp_tokens K) := by
  refine F.ok sc_tokens (fun vs H Q E h => h.1) (fun cdv A outer s H vs Q E hr h => ⟨_, ?_, h.2⟩)
  have tk : Takes (cxOf (L2.CX P w) P w K mg base ["text", "signs", "longest", "row", "place", "sign", "token"] "tokens" (defScope s_tokens) (He.fAd K ("tokens", none)) cdv A outer s H E) (fun cls d _ H => E cls d H) := takes_of rfl rfl rfl rfl
  have po : PassesOwn (model _ _) _ _ (cxOf (L2.CX P w) P w K mg base ["text", "signs", "longest", "row", "place", "sign", "token"] "tokens" (defScope s_tokens) (He.fAd K ("tokens", none)) cdv A outer s H E).xe := passes_of rfl
  exact (pss_cons (ps_if (pt_cmpR op_gtX (pe_callB call_len (by rfl) T.b_len boot_len (pa_cons (pv 0) pa_nil)) (pv 2) (nomark _))
        (pss_one (ps_raiseF rfl tk (T.fau.txt P) hr (by decide) (pa_cons pe_int (pa_cons (pe_strE e_text_too_long) pa_nil))))
        pss_nil)
        (pss_cons (ps_set (i := 3) sc_tokens.nd rfl (by first | exact Or.inl rfl | exact Or.inr rfl) (pe_lst pa_nil))
        (pss_cons (ps_set (i := 4) sc_tokens.nd rfl (by first | exact Or.inl rfl | exact Or.inr rfl) pe_int)
        (pss_cons (ps_while po (pt_cmpR (op_ltX hr.units) (pv 4) (pe_callB call_len (by rfl) T.b_len boot_len (pa_cons (pv 0) pa_nil)) (nomark _))
        (pss_cons (ps_set (i := 5) sc_tokens.nd rfl (by first | exact Or.inl rfl | exact Or.inr rfl) (pe_ix ix_seq (pv 0) (pv 4) fun _ _ => rfl))
        (pss_one (ps_if (pt_cmpR (op_eqX hr.units) (pv 5) (pe_strE e__) (nomark _))
        (pss_one (ps_set (i := 4) sc_tokens.nd rfl (by first | exact Or.inl rfl | exact Or.inr rfl) (pe_op op_addX (pv 4) pe_int)))
        (pss_one (ps_if (pt_cmpR op_inX (pv 5) (pe_gc rfl T.k_LETTERS) (by rfl))
        (pss_cons (ps_set (i := 6) sc_tokens.nd rfl (by first | exact Or.inl rfl | exact Or.inr rfl) (pe_cl (T.ok_read_word (P := P)) hr (by decide) (fun σ => passAt tk σ) rfl (pa_cons (pv 0) (pa_cons (pv 4) pa_nil))))
        (pss_cons (ps_expr (pe_bm PySem.F.plainAttrs_list PySem.F.slot_list_append PySem.F.type_list_append mt_append (pv 3) (pa_cons (pv 6) pa_nil)))
        (pss_one (ps_set (i := 4) sc_tokens.nd rfl (by first | exact Or.inl rfl | exact Or.inr rfl) (pe_op op_addX (pv 4) (pe_callB call_len (by rfl) T.b_len boot_len (pa_cons (pe_fld (pv 6) rfl) pa_nil)))))))
        (pss_one (ps_if (pt_cmpR op_inX (pv 5) (pe_gc rfl T.k_DIGITS) (by rfl))
        (pss_cons (ps_set (i := 6) sc_tokens.nd rfl (by first | exact Or.inl rfl | exact Or.inr rfl) (pe_cl (T.ok_read_number (P := P)) hr (by decide) (fun σ => passAt tk σ) rfl (pa_cons (pv 0) (pa_cons (pv 4) pa_nil))))
        (pss_cons (ps_expr (pe_bm PySem.F.plainAttrs_list PySem.F.slot_list_append PySem.F.type_list_append mt_append (pv 3) (pa_cons (pv 6) pa_nil)))
        (pss_one (ps_set (i := 4) sc_tokens.nd rfl (by first | exact Or.inl rfl | exact Or.inr rfl) (pe_op op_addX (pv 4) (pe_callB call_len (by rfl) T.b_len boot_len (pa_cons (pe_fld (pv 6) rfl) pa_nil)))))))
        (pss_one (ps_if (pt_cmpR (op_eqX hr.units) (pv 5) (pe_strE e_x22) (nomark _))
        (pss_cons (ps_asg (pe_cl (T.ok_read_quoted (P := P)) hr (by decide) (fun σ => passAt tk σ) rfl (pa_cons (pv 0) (pa_cons (pv 4) pa_nil))) (pg_tup rfl (pgs_cons (pg_name (i := 6) sc_tokens.nd rfl (by first | exact Or.inl rfl | exact Or.inr rfl)) (pgs_cons (pg_name (i := 4) sc_tokens.nd rfl (by first | exact Or.inl rfl | exact Or.inr rfl)) pgs_nil))))
        (pss_one (ps_expr (pe_bm PySem.F.plainAttrs_list PySem.F.slot_list_append PySem.F.type_list_append mt_append (pv 3) (pa_cons (pv 6) pa_nil)))))
        (pss_cons (ps_set (i := 6) sc_tokens.nd rfl (by first | exact Or.inl rfl | exact Or.inr rfl) (pe_cl (T.ok_read_sign (P := P)) hr (by decide) (fun σ => passAt tk σ) rfl (pa_cons (pv 0) (pa_cons (pv 4) (pa_cons (pv 1) pa_nil)))))
        (pss_cons (ps_expr (pe_bm PySem.F.plainAttrs_list PySem.F.slot_list_append PySem.F.type_list_append mt_append (pv 3) (pa_cons (pv 6) pa_nil)))
        (pss_one (ps_set (i := 4) sc_tokens.nd rfl (by first | exact Or.inl rfl | exact Or.inr rfl) (pe_op op_addX (pv 4) (pe_callB call_len (by rfl) T.b_len boot_len (pa_cons (pe_fld (pv 6) rfl) pa_nil)))))))))))))))))
        (pss_cons (ps_expr (pe_bm PySem.F.plainAttrs_list PySem.F.slot_list_append PySem.F.type_list_append mt_append (pv 3) (pa_cons (pe_mq (T.ok_Token_init (P := P)) hr (by decide) rfl (pa_cons (pe_strE e_end) (pa_cons (pe_strE e_empty) (pa_cons (pe_callB call_len (by rfl) T.b_len boot_len (pa_cons (pv 0) pa_nil)) pa_nil)))) pa_nil)))
        (pss_one (ps_ret (pv 3))))))))
theorem Tx.ok_tokens (T : Tx K mg) : Cl P w K mg base 4 "tokens" (sp_tokens K) [] := by
  obtain ⟨fd, F⟩ := T.d_tokens
  have ok := fn_tokens (P := P) (w := w) (base := base) T F
  exact ⟨_, fd, _, [], ok, T.g_tokens, F.kp, (FunD.bindsN F fun _ _ _ _ _ _ us hl => match us, hl with | [_, _, _], _ => rfl), .nil⟩
theorem fn_Reader_now (T : Tx K mg) {fd : FuncData} (F : FunD K "now" "Reader.now" (defArgs s_Reader_now) (defBody s_Reader_now) (defScope s_Reader_now) [] [] (pAd K "Reader" "now") fd) : FnOk P w K mg base (L2.CX P w) 1 (pAd K "Reader" "now") fd ["self"] (sp_Reader_now K) := by
  refine F.ok sc_Reader_now (fun vs H Q E h => h.1) (fun cdv A outer s H vs Q E hr h => ⟨_, ?_, h.2⟩)
  refine PSs.nox ?_
  exact (pss_one (ps_ret (pe_ix ix_seq (pe_fld (pv 0) rfl) (pe_fld (pv 0) rfl) fun _ _ => rfl)))
theorem Tx.ok_Reader_now (T : Tx K mg) : Pt P w K mg base 1 (He.ga K ("Reader" : Str)) "now" (sp_Reader_now K) := by
  obtain ⟨fd, F⟩ := T.d_Reader_now
  have ok := fn_Reader_now (P := P) (w := w) (base := base) T F
  exact ⟨_, _, fd, _, T.cl_Reader, T.pr_Reader_now, ok, (FunD.bindsN F fun _ _ _ _ _ _ us hl => match us, hl with | [_], _ => rfl)⟩
theorem fn_Reader_is_word (T : Tx K mg) {fd : FuncData} (F : FunD K "is_word" "Reader.is_word" (defArgs s_Reader_is_word) (defBody s_Reader_is_word) (defScope s_Reader_is_word) [] [] (He.fAd K ("Reader", some "is_word")) fd) : FnOk P w K mg base (L2.CX P w) 3 (He.fAd K ("Reader", some "is_word")) fd ["self", "text"] (sp_Reader_is_word K) := by
  refine F.ok sc_Reader_is_word (fun vs H Q E h => h.1) (fun cdv A outer s H vs Q E hr h => ⟨_, ?_, h.2⟩)
  refine PSs.nox ?_
  exact (pss_one (ps_ret (pe_and (pe_cmpR (op_eqX hr.units) (pe_fld (pe_pr (T.ok_Reader_now (P := P)) hr (by decide) (pv 0)) rfl) (pe_strE e_word) (nomark _)) (pe_one (pe_cmpR (op_eqX hr.units) (pe_fld (pe_pr (T.ok_Reader_now (P := P)) hr (by decide) (pv 0)) rfl) (pv 1) (nomark _))))))
theorem Tx.ok_Reader_is_word (T : Tx K mg) : Mt P w K mg base 3 (He.ga K ("Reader" : Str)) "is_word" (sp_Reader_is_word K) [] := by
  obtain ⟨fd, F⟩ := T.d_Reader_is_word
  have ok := fn_Reader_is_word (P := P) (w := w) (base := base) T F
  exact ⟨_, fd, _, [], T.cl_Reader, T.me_Reader_is_word, ok, (FunD.bindsN F fun _ _ _ _ _ _ us hl => match us, hl with | [_, _], _ => rfl), .nil⟩
theorem fn_Reader_step (T : Tx K mg) {fd : FuncData} (F : FunD K "step" "Reader.step" (defArgs s_Reader_step) (defBody s_Reader_step) (defScope s_Reader_step) [] [] (He.fAd K ("Reader", some "step")) fd) : FnOk P w K mg base (L2.CX P w) 1 (He.fAd K ("Reader", some "step")) fd ["self"] (sp_Reader_step K) := by
  refine F.ok sc_Reader_step (fun vs H Q E h => h.1) (fun cdv A outer s H vs Q E hr h => ⟨_, ?_, h.2⟩)
  refine PSs.nox ?_
  exact (pss_cons (ps_set (i := 1) sc_Reader_step.nd rfl (by first | exact Or.inl rfl | exact Or.inr rfl) (pe_ix ix_seq (pe_fld (pv 0) rfl) (pe_fld (pv 0) rfl) fun _ _ => rfl))
        (C8.pss_cut (ps_if (pt_cmpR (op_ltX hr.units) (pe_fld (pv 0) rfl) (pe_op op_subX (pe_callB call_len (by rfl) T.b_len boot_len (pa_cons (pe_fld (pv 0) rfl) pa_nil)) pe_int) (nomark _))
        (pss_one (ps_fld (pv 0) (pe_op op_addX (pe_fld (pv 0) rfl) pe_int) rfl))
        pss_nil)
        (pss_one (ps_ret (pv 1)))))
theorem Tx.ok_Reader_step (T : Tx K mg) : Mt P w K mg base 1 (He.ga K ("Reader" : Str)) "step" (sp_Reader_step K) [] := by
  obtain ⟨fd, F⟩ := T.d_Reader_step
  have ok := fn_Reader_step (P := P) (w := w) (base := base) T F
  exact ⟨_, fd, _, [], T.cl_Reader, T.me_Reader_step, ok, (FunD.bindsN F fun _ _ _ _ _ _ us hl => match us, hl with | [_], _ => rfl), .nil⟩
theorem fn_Reader_take_word (T : Tx K mg) {fd : FuncData} (F : FunD K "take_word" "Reader.take_word" (defArgs s_Reader_take_word) (defBody s_Reader_take_word) (defScope s_Reader_take_word) [] [] (He.fAd K ("Reader", some "take_word")) fd) : FnOk P w K mg base (L2.CX P w) 4 (He.fAd K ("Reader", some "take_word")) fd ["self", "text"] (sp_Reader_take_word K) := by
  refine F.ok sc_Reader_take_word (fun vs H Q E h => h.1) (fun cdv A outer s H vs Q E hr h => ⟨_, ?_, h.2⟩)
  have tk : Takes (cxOf (L2.CX P w) P w K mg base ["self", "text"] "Reader.take_word" (defScope s_Reader_take_word) (He.fAd K ("Reader", some "take_word")) cdv A outer s H E) (fun cls d _ H => E cls d H) := takes_of rfl rfl rfl rfl
  have po : PassesOwn (model _ _) _ _ (cxOf (L2.CX P w) P w K mg base ["self", "text"] "Reader.take_word" (defScope s_Reader_take_word) (He.fAd K ("Reader", some "take_word")) cdv A outer s H E).xe := passes_of rfl
  exact (pss_cons (ps_if (pt_not (pt_truth (pe_mt1 (T.ok_Reader_is_word (P := P)) hr (by decide) (fun _ => pz) (pv 0) (pa_cons (pv 1) pa_nil)) fun _ => rfl))
        (pss_one (ps_raiseF rfl tk (T.fau.txt P) hr (by decide) (pa_cons (pe_fld (pe_pr (T.ok_Reader_now (P := P)) hr (by decide) (pv 0)) rfl) (pa_cons (pe_op op_addX (pe_strE e_expected_) (pv 1)) pa_nil))))
        pss_nil)
        (pss_one (ps_ret (pe_mt0 (T.ok_Reader_step (P := P)) hr (by decide) (fun _ => pz) (pv 0)))))
theorem Tx.ok_Reader_take_word (T : Tx K mg) : Mt P w K mg base 4 (He.ga K ("Reader" : Str)) "take_word" (sp_Reader_take_word K) [] := by
  obtain ⟨fd, F⟩ := T.d_Reader_take_word
  have ok := fn_Reader_take_word (P := P) (w := w) (base := base) T F
  exact ⟨_, fd, _, [], T.cl_Reader, T.me_Reader_take_word, ok, (FunD.bindsN F fun _ _ _ _ _ _ us hl => match us, hl with | [_, _], _ => rfl), .nil⟩
theorem fn_KindPlace_init (T : Tx K mg) {fd : FuncData} (F : FunD K "__init__" "KindPlace.__init__" (defArgs s_KindPlace_init) (defBody s_KindPlace_init) (defScope s_KindPlace_init) [] [] (He.fAd K ("KindPlace", some "__init__")) fd) : FnOk P w K mg base (L2.CX P w) 1 (He.fAd K ("KindPlace", some "__init__")) fd ["self", "token"] (sp_KindPlace_init K) := by
  refine F.ok sc_KindPlace_init (fun vs H Q E h => h.1) (fun cdv A outer s H vs Q E hr h => ⟨_, ?_, h.2⟩)
  refine PSs.nox ?_
  exact (pss_cons (ps_fld (pv 0) (pv 1) rfl)
        (pss_cons (ps_fld (pv 0) (pe_lst pa_nil) rfl)
        (pss_one (ps_fld (pv 0) (pe_lst pa_nil) rfl))))
theorem Tx.ok_KindPlace_init (T : Tx K mg) : Mq P w K mg base 1 "KindPlace" (He.ga K ("KindPlace" : Str)) (sp_KindPlace_init K) [] := by
  obtain ⟨fd, F⟩ := T.d_KindPlace_init
  have ok := fn_KindPlace_init (P := P) (w := w) (base := base) T F
  exact ⟨_, fd, _, [], T.mk_KindPlace, ok, T.gc_KindPlace, (FunD.bindsN F fun _ _ _ _ _ _ us hl => match us, hl with | [_, _], _ => rfl), .nil⟩
theorem fn_Reader_is_name (T : Tx K mg) {fd : FuncData} (F : FunD K "is_name" "Reader.is_name" (defArgs s_Reader_is_name) (defBody s_Reader_is_name) (defScope s_Reader_is_name) [] [] (He.fAd K ("Reader", some "is_name")) fd) : FnOk P w K mg base (L2.CX P w) 3 (He.fAd K ("Reader", some "is_name")) fd ["self"] (sp_Reader_is_name K) := by
  refine F.ok sc_Reader_is_name (fun vs H Q E h => h.1) (fun cdv A outer s H vs Q E hr h => ⟨_, ?_, h.2⟩)
  refine PSs.nox ?_
  exact (pss_one (ps_ret (pe_and (pe_cmpR (op_eqX hr.units) (pe_fld (pe_pr (T.ok_Reader_now (P := P)) hr (by decide) (pv 0)) rfl) (pe_strE e_word) (nomark _)) (pe_one (pe_cmpR op_notInX (pe_fld (pe_pr (T.ok_Reader_now (P := P)) hr (by decide) (pv 0)) rfl) (pe_fld (pv 0) rfl) (by rfl))))))
theorem Tx.ok_Reader_is_name (T : Tx K mg) : Mt P w K mg base 3 (He.ga K ("Reader" : Str)) "is_name" (sp_Reader_is_name K) [] := by
  obtain ⟨fd, F⟩ := T.d_Reader_is_name
  have ok := fn_Reader_is_name (P := P) (w := w) (base := base) T F
  exact ⟨_, fd, _, [], T.cl_Reader, T.me_Reader_is_name, ok, (FunD.bindsN F fun _ _ _ _ _ _ us hl => match us, hl with | [_], _ => rfl), .nil⟩
theorem fn_Reader_take_kind (T : Tx K mg) {fd : FuncData} (F : FunD K "take_kind" "Reader.take_kind" (defArgs s_Reader_take_kind) (defBody s_Reader_take_kind) (defScope s_Reader_take_kind) [] [] (He.fAd K ("Reader", some "take_kind")) fd) : FnOk P w K mg base (L2.CX P w) 4 (He.fAd K ("Reader", some "take_kind")) fd ["self"] (sp_Reader_take_kind K) := by
  refine F.ok sc_Reader_take_kind (fun vs H Q E h => h.1) (fun cdv A outer s H vs Q E hr h => ⟨_, ?_, h.2⟩)
  have tk : Takes (cxOf (L2.CX P w) P w K mg base ["self"] "Reader.take_kind" (defScope s_Reader_take_kind) (He.fAd K ("Reader", some "take_kind")) cdv A outer s H E) (fun cls d _ H => E cls d H) := takes_of rfl rfl rfl rfl
  have po : PassesOwn (model _ _) _ _ (cxOf (L2.CX P w) P w K mg base ["self"] "Reader.take_kind" (defScope s_Reader_take_kind) (He.fAd K ("Reader", some "take_kind")) cdv A outer s H E).xe := passes_of rfl
  exact (pss_cons (ps_if (PW.pt (pw_or (pt_not (pt_truth (pe_mt0 (T.ok_Reader_is_name (P := P)) hr (by decide) (fun _ => pz) (pv 0)) fun _ => rfl)) (pw_or1 (pt_cmpR op_notInX (pe_ix ix_seq (pe_fld (pe_pr (T.ok_Reader_now (P := P)) hr (by decide) (pv 0)) rfl) pe_int fun _ _ => rfl) (pe_gc rfl T.k_GREAT) (by rfl)))))
        (pss_one (ps_raiseF rfl tk (T.fau.txt P) hr (by decide) (pa_cons (pe_fld (pe_pr (T.ok_Reader_now (P := P)) hr (by decide) (pv 0)) rfl) (pa_cons (pe_strE e_expected_a_kind) pa_nil))))
        pss_nil)
        (pss_one (ps_ret (pe_mt0 (T.ok_Reader_step (P := P)) hr (by decide) (fun _ => pz) (pv 0)))))
theorem Tx.ok_Reader_take_kind (T : Tx K mg) : Mt P w K mg base 4 (He.ga K ("Reader" : Str)) "take_kind" (sp_Reader_take_kind K) [] := by
  obtain ⟨fd, F⟩ := T.d_Reader_take_kind
  have ok := fn_Reader_take_kind (P := P) (w := w) (base := base) T F
  exact ⟨_, fd, _, [], T.cl_Reader, T.me_Reader_take_kind, ok, (FunD.bindsN F fun _ _ _ _ _ _ us hl => match us, hl with | [_], _ => rfl), .nil⟩
theorem fn_Reader_is_sign (T : Tx K mg) {fd : FuncData} (F : FunD K "is_sign" "Reader.is_sign" (defArgs s_Reader_is_sign) (defBody s_Reader_is_sign) (defScope s_Reader_is_sign) [] [] (He.fAd K ("Reader", some "is_sign")) fd) : FnOk P w K mg base (L2.CX P w) 3 (He.fAd K ("Reader", some "is_sign")) fd ["self", "text"] (sp_Reader_is_sign K) := by
  refine F.ok sc_Reader_is_sign (fun vs H Q E h => h.1) (fun cdv A outer s H vs Q E hr h => ⟨_, ?_, h.2⟩)
  refine PSs.nox ?_
  exact (pss_one (ps_ret (pe_and (pe_cmpR (op_eqX hr.units) (pe_fld (pe_pr (T.ok_Reader_now (P := P)) hr (by decide) (pv 0)) rfl) (pe_strE e_sign) (nomark _)) (pe_one (pe_cmpR (op_eqX hr.units) (pe_fld (pe_pr (T.ok_Reader_now (P := P)) hr (by decide) (pv 0)) rfl) (pv 1) (nomark _))))))
theorem Tx.ok_Reader_is_sign (T : Tx K mg) : Mt P w K mg base 3 (He.ga K ("Reader" : Str)) "is_sign" (sp_Reader_is_sign K) [] := by
  obtain ⟨fd, F⟩ := T.d_Reader_is_sign
  have ok := fn_Reader_is_sign (P := P) (w := w) (base := base) T F
  exact ⟨_, fd, _, [], T.cl_Reader, T.me_Reader_is_sign, ok, (FunD.bindsN F fun _ _ _ _ _ _ us hl => match us, hl with | [_, _], _ => rfl), .nil⟩
theorem fn_Reader_take_sign (T : Tx K mg) {fd : FuncData} (F : FunD K "take_sign" "Reader.take_sign" (defArgs s_Reader_take_sign) (defBody s_Reader_take_sign) (defScope s_Reader_take_sign) [] [] (He.fAd K ("Reader", some "take_sign")) fd) : FnOk P w K mg base (L2.CX P w) 4 (He.fAd K ("Reader", some "take_sign")) fd ["self", "text"] (sp_Reader_take_sign K) := by
  refine F.ok sc_Reader_take_sign (fun vs H Q E h => h.1) (fun cdv A outer s H vs Q E hr h => ⟨_, ?_, h.2⟩)
  have tk : Takes (cxOf (L2.CX P w) P w K mg base ["self", "text"] "Reader.take_sign" (defScope s_Reader_take_sign) (He.fAd K ("Reader", some "take_sign")) cdv A outer s H E) (fun cls d _ H => E cls d H) := takes_of rfl rfl rfl rfl
  have po : PassesOwn (model _ _) _ _ (cxOf (L2.CX P w) P w K mg base ["self", "text"] "Reader.take_sign" (defScope s_Reader_take_sign) (He.fAd K ("Reader", some "take_sign")) cdv A outer s H E).xe := passes_of rfl
  exact (pss_cons (ps_if (pt_not (pt_truth (pe_mt1 (T.ok_Reader_is_sign (P := P)) hr (by decide) (fun _ => pz) (pv 0) (pa_cons (pv 1) pa_nil)) fun _ => rfl))
        (pss_one (ps_raiseF rfl tk (T.fau.txt P) hr (by decide) (pa_cons (pe_fld (pe_pr (T.ok_Reader_now (P := P)) hr (by decide) (pv 0)) rfl) (pa_cons (pe_op op_addX (pe_strE e_expected_) (pv 1)) pa_nil))))
        pss_nil)
        (pss_one (ps_ret (pe_mt0 (T.ok_Reader_step (P := P)) hr (by decide) (fun _ => pz) (pv 0)))))
theorem Tx.ok_Reader_take_sign (T : Tx K mg) : Mt P w K mg base 4 (He.ga K ("Reader" : Str)) "take_sign" (sp_Reader_take_sign K) [] := by
  obtain ⟨fd, F⟩ := T.d_Reader_take_sign
  have ok := fn_Reader_take_sign (P := P) (w := w) (base := base) T F
  exact ⟨_, fd, _, [], T.cl_Reader, T.me_Reader_take_sign, ok, (FunD.bindsN F fun _ _ _ _ _ _ us hl => match us, hl with | [_, _], _ => rfl), .nil⟩
theorem fn_Reader_take_field (T : Tx K mg) {fd : FuncData} (F : FunD K "take_field" "Reader.take_field" (defArgs s_Reader_take_field) (defBody s_Reader_take_field) (defScope s_Reader_take_field) [] [] (He.fAd K ("Reader", some "take_field")) fd) : FnOk P w K mg base (L2.CX P w) 4 (He.fAd K ("Reader", some "take_field")) fd ["self"] (sp_Reader_take_field K) := by
  refine F.ok sc_Reader_take_field (fun vs H Q E h => h.1) (fun cdv A outer s H vs Q E hr h => ⟨_, ?_, h.2⟩)
  have tk : Takes (cxOf (L2.CX P w) P w K mg base ["self"] "Reader.take_field" (defScope s_Reader_take_field) (He.fAd K ("Reader", some "take_field")) cdv A outer s H E) (fun cls d _ H => E cls d H) := takes_of rfl rfl rfl rfl
  have po : PassesOwn (model _ _) _ _ (cxOf (L2.CX P w) P w K mg base ["self"] "Reader.take_field" (defScope s_Reader_take_field) (He.fAd K ("Reader", some "take_field")) cdv A outer s H E).xe := passes_of rfl
  exact (pss_cons (ps_if (PW.pt (pw_or (pt_not (pt_truth (pe_mt0 (T.ok_Reader_is_name (P := P)) hr (by decide) (fun _ => pz) (pv 0)) fun _ => rfl)) (pw_or1 (pt_cmpR op_inX (pe_ix ix_seq (pe_fld (pe_pr (T.ok_Reader_now (P := P)) hr (by decide) (pv 0)) rfl) pe_int fun _ _ => rfl) (pe_gc rfl T.k_GREAT) (by rfl)))))
        (pss_one (ps_raiseF rfl tk (T.fau.txt P) hr (by decide) (pa_cons (pe_fld (pe_pr (T.ok_Reader_now (P := P)) hr (by decide) (pv 0)) rfl) (pa_cons (pe_strE e_expected_a_field) pa_nil))))
        pss_nil)
        (pss_one (ps_ret (pe_mt0 (T.ok_Reader_step (P := P)) hr (by decide) (fun _ => pz) (pv 0)))))
theorem Tx.ok_Reader_take_field (T : Tx K mg) : Mt P w K mg base 4 (He.ga K ("Reader" : Str)) "take_field" (sp_Reader_take_field K) [] := by
  obtain ⟨fd, F⟩ := T.d_Reader_take_field
  have ok := fn_Reader_take_field (P := P) (w := w) (base := base) T F
  exact ⟨_, fd, _, [], T.cl_Reader, T.me_Reader_take_field, ok, (FunD.bindsN F fun _ _ _ _ _ _ us hl => match us, hl with | [_], _ => rfl), .nil⟩
theorem fn_read_key (T : Tx K mg) {fd : FuncData} (F : FunD K "read_key" "read_key" (defArgs s_read_key) (defBody s_read_key) (defScope s_read_key) [] [] (He.fAd K ("read_key", none)) fd) : FnOk P w K mg base (L2.CX P w) 5 (He.fAd K ("read_key", none)) fd ["reader"] (sp_read_key K) := by
  refine F.ok sc_read_key (fun vs H Q E h => h.1) (fun cdv A outer s H vs Q E hr h => ⟨_, ?_, h.2⟩)
  have tk : Takes (cxOf (L2.CX P w) P w K mg base ["reader", "row"] "read_key" (defScope s_read_key) (He.fAd K ("read_key", none)) cdv A outer s H E) (fun cls d _ H => E cls d H) := takes_of rfl rfl rfl rfl
  have po : PassesOwn (model _ _) _ _ (cxOf (L2.CX P w) P w K mg base ["reader", "row"] "read_key" (defScope s_read_key) (He.fAd K ("read_key", none)) cdv A outer s H E).xe := passes_of rfl
  exact (pss_cons (ps_set (i := 1) sc_read_key.nd rfl (by first | exact Or.inl rfl | exact Or.inr rfl) (pe_lst (pa_cons (pe_mt0 (T.ok_Reader_take_field (P := P)) hr (by decide) (fun σ => passAt tk σ) (pv 0)) pa_nil)))
        (pss_cons (ps_while po (pt_truth (pe_mt1 (T.ok_Reader_is_sign (P := P)) hr (by decide) (fun _ => pz) (pv 0) (pa_cons (pe_strE e_x2c) pa_nil)) fun _ => rfl)
        (pss_cons (ps_expr (pe_mt0 (T.ok_Reader_step (P := P)) hr (by decide) (fun _ => pz) (pv 0)))
        (pss_one (ps_expr (pe_bm PySem.F.plainAttrs_list PySem.F.slot_list_append PySem.F.type_list_append mt_append (pv 1) (pa_cons (pe_mt0 (T.ok_Reader_take_field (P := P)) hr (by decide) (fun σ => passAt tk σ) (pv 0)) pa_nil))))))
        (pss_cons (ps_expr (pe_mt1 (T.ok_Reader_take_sign (P := P)) hr (by decide) (fun σ => passAt tk σ) (pv 0) (pa_cons (pe_strE e_x3b) pa_nil)))
        (pss_one (ps_ret (pv 1))))))
theorem Tx.ok_read_key (T : Tx K mg) : Cl P w K mg base 5 "read_key" (sp_read_key K) [] := by
  obtain ⟨fd, F⟩ := T.d_read_key
  have ok := fn_read_key (P := P) (w := w) (base := base) T F
  exact ⟨_, fd, _, [], ok, T.g_read_key, F.kp, (FunD.bindsN F fun _ _ _ _ _ _ us hl => match us, hl with | [_], _ => rfl), .nil⟩
theorem fn_Reader_take_number (T : Tx K mg) {fd : FuncData} (F : FunD K "take_number" "Reader.take_number" (defArgs s_Reader_take_number) (defBody s_Reader_take_number) (defScope s_Reader_take_number) [] [] (He.fAd K ("Reader", some "take_number")) fd) : FnOk P w K mg base (L2.CX P w) 3 (He.fAd K ("Reader", some "take_number")) fd ["self"] (sp_Reader_take_number K) := by
  refine F.ok sc_Reader_take_number (fun vs H Q E h => h.1) (fun cdv A outer s H vs Q E hr h => ⟨_, ?_, h.2⟩)
  have tk : Takes (cxOf (L2.CX P w) P w K mg base ["self"] "Reader.take_number" (defScope s_Reader_take_number) (He.fAd K ("Reader", some "take_number")) cdv A outer s H E) (fun cls d _ H => E cls d H) := takes_of rfl rfl rfl rfl
  have po : PassesOwn (model _ _) _ _ (cxOf (L2.CX P w) P w K mg base ["self"] "Reader.take_number" (defScope s_Reader_take_number) (He.fAd K ("Reader", some "take_number")) cdv A outer s H E).xe := passes_of rfl
  exact (pss_cons (ps_if (pt_cmpR (op_neX hr.units) (pe_fld (pe_pr (T.ok_Reader_now (P := P)) hr (by decide) (pv 0)) rfl) (pe_strE e_number) (nomark _))
        (pss_one (ps_raiseF rfl tk (T.fau.txt P) hr (by decide) (pa_cons (pe_fld (pe_pr (T.ok_Reader_now (P := P)) hr (by decide) (pv 0)) rfl) (pa_cons (pe_strE e_expected_a_number) pa_nil))))
        pss_nil)
        (pss_one (ps_ret (pe_mt0 (T.ok_Reader_step (P := P)) hr (by decide) (fun _ => pz) (pv 0)))))
theorem Tx.ok_Reader_take_number (T : Tx K mg) : Mt P w K mg base 3 (He.ga K ("Reader" : Str)) "take_number" (sp_Reader_take_number K) [] := by
  obtain ⟨fd, F⟩ := T.d_Reader_take_number
  have ok := fn_Reader_take_number (P := P) (w := w) (base := base) T F
  exact ⟨_, fd, _, [], T.cl_Reader, T.me_Reader_take_number, ok, (FunD.bindsN F fun _ _ _ _ _ _ us hl => match us, hl with | [_], _ => rfl), .nil⟩
theorem fn_Reader_take_integer (T : Tx K mg) {fd : FuncData} (F : FunD K "take_integer" "Reader.take_integer" (defArgs s_Reader_take_integer) (defBody s_Reader_take_integer) (defScope s_Reader_take_integer) [] [] (He.fAd K ("Reader", some "take_integer")) fd) : FnOk P w K mg base (L2.CX P w) 4 (He.fAd K ("Reader", some "take_integer")) fd ["self"] (sp_Reader_take_integer K) := by
  refine F.ok sc_Reader_take_integer (fun vs H Q E h => h.1) (fun cdv A outer s H vs Q E hr h => ⟨_, ?_, h.2⟩)
  have tk : Takes (cxOf (L2.CX P w) P w K mg base ["self", "sign"] "Reader.take_integer" (defScope s_Reader_take_integer) (He.fAd K ("Reader", some "take_integer")) cdv A outer s H E) (fun cls d _ H => E cls d H) := takes_of rfl rfl rfl rfl
  have po : PassesOwn (model _ _) _ _ (cxOf (L2.CX P w) P w K mg base ["self", "sign"] "Reader.take_integer" (defScope s_Reader_take_integer) (He.fAd K ("Reader", some "take_integer")) cdv A outer s H E).xe := passes_of rfl
  exact (pss_cons (ps_set (i := 1) sc_Reader_take_integer.nd rfl (by first | exact Or.inl rfl | exact Or.inr rfl) pe_int)
        (C8.pss_cut (ps_if (pt_truth (pe_mt1 (T.ok_Reader_is_sign (P := P)) hr (by decide) (fun _ => pz) (pv 0) (pa_cons (pe_strE e_x2d) pa_nil)) fun _ => rfl)
        (pss_cons (ps_expr (pe_mt0 (T.ok_Reader_step (P := P)) hr (by decide) (fun _ => pz) (pv 0)))
        (pss_one (ps_set (i := 1) sc_Reader_take_integer.nd rfl (by first | exact Or.inl rfl | exact Or.inr rfl) (pe_un un_neg pe_int))))
        pss_nil)
        (pss_one (ps_ret (pe_op op_mulX (pv 1) (pe_callTy (CallR.or call_int1 call_int_str) (by rfl) T.b_int (by decide +kernel) (pa_cons (pe_fld (pe_mt0 (T.ok_Reader_take_number (P := P)) hr (by decide) (fun σ => passAt tk σ) (pv 0)) rfl) pa_nil)))))))
theorem Tx.ok_Reader_take_integer (T : Tx K mg) : Mt P w K mg base 4 (He.ga K ("Reader" : Str)) "take_integer" (sp_Reader_take_integer K) [] := by
  obtain ⟨fd, F⟩ := T.d_Reader_take_integer
  have ok := fn_Reader_take_integer (P := P) (w := w) (base := base) T F
  exact ⟨_, fd, _, [], T.cl_Reader, T.me_Reader_take_integer, ok, (FunD.bindsN F fun _ _ _ _ _ _ us hl => match us, hl with | [_], _ => rfl), .nil⟩
theorem fn_IntSort_init (T : Tx K mg) {fd : FuncData} (F : FunD K "__init__" "IntSort.__init__" (defArgs s_IntSort_init) (defBody s_IntSort_init) (defScope s_IntSort_init) [] [] (He.fAd K ("IntSort", some "__init__")) fd) : FnOk P w K mg base (L2.CX P w) 1 (He.fAd K ("IntSort", some "__init__")) fd ["self", "low", "high"] (sp_IntSort_init K) := by
  refine F.ok sc_IntSort_init (fun vs H Q E h => h.1) (fun cdv A outer s H vs Q E hr h => ⟨_, ?_, h.2⟩)
  refine PSs.nox ?_
  exact (pss_cons (ps_fld (pv 0) (pv 1) rfl)
        (pss_one (ps_fld (pv 0) (pv 2) rfl)))
theorem Tx.ok_IntSort_init (T : Tx K mg) : Mq P w K mg base 1 "IntSort" (He.ga K ("IntSort" : Str)) (sp_IntSort_init K) [] := by
  obtain ⟨fd, F⟩ := T.d_IntSort_init
  have ok := fn_IntSort_init (P := P) (w := w) (base := base) T F
  exact ⟨_, fd, _, [], T.mk_IntSort, ok, T.gc_IntSort, (FunD.bindsN F fun _ _ _ _ _ _ us hl => match us, hl with | [_, _, _], _ => rfl), .nil⟩
theorem fn_read_int (T : Tx K mg) {fd : FuncData} (F : FunD K "read_int" "read_int" (defArgs s_read_int) (defBody s_read_int) (defScope s_read_int) [] [] (He.fAd K ("read_int", none)) fd) : FnOk P w K mg base (L2.CX P w) 5 (He.fAd K ("read_int", none)) fd ["reader"] (sp_read_int K) := by
  refine F.ok sc_read_int (fun vs H Q E h => h.1) (fun cdv A outer s H vs Q E hr h => ⟨_, ?_, h.2⟩)
  have tk : Takes (cxOf (L2.CX P w) P w K mg base ["reader", "place", "low", "high"] "read_int" (defScope s_read_int) (He.fAd K ("read_int", none)) cdv A outer s H E) (fun cls d _ H => E cls d H) := takes_of rfl rfl rfl rfl
  have po : PassesOwn (model _ _) _ _ (cxOf (L2.CX P w) P w K mg base ["reader", "place", "low", "high"] "read_int" (defScope s_read_int) (He.fAd K ("read_int", none)) cdv A outer s H E).xe := passes_of rfl
  exact (pss_cons (ps_set (i := 1) sc_read_int.nd rfl (by first | exact Or.inl rfl | exact Or.inr rfl) (pe_fld (pe_pr (T.ok_Reader_now (P := P)) hr (by decide) (pv 0)) rfl))
        (pss_cons (ps_set (i := 2) sc_read_int.nd rfl (by first | exact Or.inl rfl | exact Or.inr rfl) (pe_mt0 (T.ok_Reader_take_integer (P := P)) hr (by decide) (fun σ => passAt tk σ) (pv 0)))
        (pss_cons (ps_expr (pe_mt1 (T.ok_Reader_take_sign (P := P)) hr (by decide) (fun σ => passAt tk σ) (pv 0) (pa_cons (pe_strE e_x2ex2e) pa_nil)))
        (pss_cons (ps_set (i := 3) sc_read_int.nd rfl (by first | exact Or.inl rfl | exact Or.inr rfl) (pe_mt0 (T.ok_Reader_take_integer (P := P)) hr (by decide) (fun σ => passAt tk σ) (pv 0)))
        (pss_cons (ps_if (PW.pt (pw_or (pt_cmpR op_gtX (pv 2) (pv 3) (nomark _)) (pw_or (pt_cmpR (op_ltX hr.units) (pv 2) (pe_un un_neg (pe_gc rfl T.k_LARGEST)) (nomark _)) (pw_or1 (pt_cmpR op_gtX (pv 3) (pe_gc rfl T.k_LARGEST) (nomark _))))))
        (pss_one (ps_raiseF rfl tk (T.fau.txt P) hr (by decide) (pa_cons (pv 1) (pa_cons (pe_strE e_bad_bounds) pa_nil))))
        pss_nil)
        (pss_one (ps_ret (pe_mq (T.ok_IntSort_init (P := P)) hr (by decide) rfl (pa_cons (pv 2) (pa_cons (pv 3) pa_nil))))))))))
theorem Tx.ok_read_int (T : Tx K mg) : Cl P w K mg base 5 "read_int" (sp_read_int K) [] := by
  obtain ⟨fd, F⟩ := T.d_read_int
  have ok := fn_read_int (P := P) (w := w) (base := base) T F
  exact ⟨_, fd, _, [], ok, T.g_read_int, F.kp, (FunD.bindsN F fun _ _ _ _ _ _ us hl => match us, hl with | [_], _ => rfl), .nil⟩
theorem fn_TextSort_init (T : Tx K mg) {fd : FuncData} (F : FunD K "__init__" "TextSort.__init__" (defArgs s_TextSort_init) (defBody s_TextSort_init) (defScope s_TextSort_init) [.non] [] (He.fAd K ("TextSort", some "__init__")) fd) : FnOk P w K mg base (L2.CX P w) 1 (He.fAd K ("TextSort", some "__init__")) fd ["self", "longest", "without"] (sp_TextSort_init K) := by
  refine F.ok sc_TextSort_init (fun vs H Q E h => h.1) (fun cdv A outer s H vs Q E hr h => ⟨_, ?_, h.2⟩)
  refine PSs.nox ?_
  exact (pss_cons (ps_fld (pv 0) (pv 1) rfl)
        (pss_one (ps_fld (pv 0) (pv 2) rfl)))
theorem Tx.ok_TextSort_init (T : Tx K mg) : Mq P w K mg base 1 "TextSort" (He.ga K ("TextSort" : Str)) (sp_TextSort_init K) [] := by
  obtain ⟨fd, F⟩ := T.d_TextSort_init
  have ok := fn_TextSort_init (P := P) (w := w) (base := base) T F
  obtain ⟨ds, hv, b⟩ := FunD.binds1 (ps := ["self", "longest", "without"]) F 3 1 (by simp) (by simp) fun T kV doc pm an cdv ct us its hu hi => match us, its, hu, hi with | [_, _, _], [_], _, _ => ⟨_, rfl, rfl⟩
  exact ⟨_, fd, _, ds, T.mk_TextSort, ok, T.gc_TextSort, b, hv⟩
theorem Tx.ok_TextSort_init_1 (T : Tx K mg) : Mq P w K mg base 1 "TextSort" (He.ga K ("TextSort" : Str)) (sp_TextSort_init K) [.non] := by
  obtain ⟨fd, F⟩ := T.d_TextSort_init
  have ok := fn_TextSort_init (P := P) (w := w) (base := base) T F
  obtain ⟨ds, hv, b⟩ := FunD.binds1 (ps := ["self", "longest", "without"]) F 2 0 (by simp) (by simp) fun T kV doc pm an cdv ct us its hu hi => match us, its, hu, hi with | [_, _], [_], _, _ => ⟨_, rfl, rfl⟩
  exact ⟨_, fd, _, ds, T.mk_TextSort, ok, T.gc_TextSort, b, hv⟩
theorem fn_Reader_take_text (T : Tx K mg) {fd : FuncData} (F : FunD K "take_text" "Reader.take_text" (defArgs s_Reader_take_text) (defBody s_Reader_take_text) (defScope s_Reader_take_text) [] [] (He.fAd K ("Reader", some "take_text")) fd) : FnOk P w K mg base (L2.CX P w) 3 (He.fAd K ("Reader", some "take_text")) fd ["self"] (sp_Reader_take_text K) := by
  refine F.ok sc_Reader_take_text (fun vs H Q E h => h.1) (fun cdv A outer s H vs Q E hr h => ⟨_, ?_, h.2⟩)
  have tk : Takes (cxOf (L2.CX P w) P w K mg base ["self"] "Reader.take_text" (defScope s_Reader_take_text) (He.fAd K ("Reader", some "take_text")) cdv A outer s H E) (fun cls d _ H => E cls d H) := takes_of rfl rfl rfl rfl
  have po : PassesOwn (model _ _) _ _ (cxOf (L2.CX P w) P w K mg base ["self"] "Reader.take_text" (defScope s_Reader_take_text) (He.fAd K ("Reader", some "take_text")) cdv A outer s H E).xe := passes_of rfl
  exact (pss_cons (ps_if (pt_cmpR (op_neX hr.units) (pe_fld (pe_pr (T.ok_Reader_now (P := P)) hr (by decide) (pv 0)) rfl) (pe_strE e_text) (nomark _))
        (pss_one (ps_raiseF rfl tk (T.fau.txt P) hr (by decide) (pa_cons (pe_fld (pe_pr (T.ok_Reader_now (P := P)) hr (by decide) (pv 0)) rfl) (pa_cons (pe_strE e_expected_a_text) pa_nil))))
        pss_nil)
        (pss_one (ps_ret (pe_mt0 (T.ok_Reader_step (P := P)) hr (by decide) (fun _ => pz) (pv 0)))))
theorem Tx.ok_Reader_take_text (T : Tx K mg) : Mt P w K mg base 3 (He.ga K ("Reader" : Str)) "take_text" (sp_Reader_take_text K) [] := by
  obtain ⟨fd, F⟩ := T.d_Reader_take_text
  have ok := fn_Reader_take_text (P := P) (w := w) (base := base) T F
  exact ⟨_, fd, _, [], T.cl_Reader, T.me_Reader_take_text, ok, (FunD.bindsN F fun _ _ _ _ _ _ us hl => match us, hl with | [_], _ => rfl), .nil⟩
theorem fn_read_text_sort (T : Tx K mg) {fd : FuncData} (F : FunD K "read_text_sort" "read_text_sort" (defArgs s_read_text_sort) (defBody s_read_text_sort) (defScope s_read_text_sort) [] [] (He.fAd K ("read_text_sort", none)) fd) : FnOk P w K mg base (L2.CX P w) 4 (He.fAd K ("read_text_sort", none)) fd ["reader"] (sp_read_text_sort K) := by
  refine F.ok sc_read_text_sort (fun vs H Q E h => h.1) (fun cdv A outer s H vs Q E hr h => ⟨_, ?_, h.2⟩)
  have tk : Takes (cxOf (L2.CX P w) P w K mg base ["reader", "token", "longest"] "read_text_sort" (defScope s_read_text_sort) (He.fAd K ("read_text_sort", none)) cdv A outer s H E) (fun cls d _ H => E cls d H) := takes_of rfl rfl rfl rfl
  have po : PassesOwn (model _ _) _ _ (cxOf (L2.CX P w) P w K mg base ["reader", "token", "longest"] "read_text_sort" (defScope s_read_text_sort) (He.fAd K ("read_text_sort", none)) cdv A outer s H E).xe := passes_of rfl
  exact (pss_cons (ps_set (i := 1) sc_read_text_sort.nd rfl (by first | exact Or.inl rfl | exact Or.inr rfl) (pe_mt0 (T.ok_Reader_take_number (P := P)) hr (by decide) (fun σ => passAt tk σ) (pv 0)))
        (pss_cons (ps_set (i := 2) sc_read_text_sort.nd rfl (by first | exact Or.inl rfl | exact Or.inr rfl) (pe_callTy (CallR.or call_int1 call_int_str) (by rfl) T.b_int (by decide +kernel) (pa_cons (pe_fld (pv 1) rfl) pa_nil)))
        (pss_cons (ps_if (PW.pt (pw_or (pt_cmpR (op_ltX hr.units) (pv 2) pe_int (nomark _)) (pw_or1 (pt_cmpR op_gtX (pv 2) (pe_gc rfl T.k_LONGEST_TEXT) (nomark _)))))
        (pss_one (ps_raiseF rfl tk (T.fau.txt P) hr (by decide) (pa_cons (pe_fld (pv 1) rfl) (pa_cons (pe_strE e_bad_length) pa_nil))))
        pss_nil)
        (pss_cons (ps_if (pt_not (pt_truth (pe_mt1 (T.ok_Reader_is_word (P := P)) hr (by decide) (fun _ => pz) (pv 0) (pa_cons (pe_strE e_without) pa_nil)) fun _ => rfl))
        (pss_one (ps_ret (pe_mq (T.ok_TextSort_init_1 (P := P)) hr (by decide) rfl (pa_cons (pv 2) pa_nil))))
        pss_nil)
        (pss_cons (ps_expr (pe_mt0 (T.ok_Reader_step (P := P)) hr (by decide) (fun _ => pz) (pv 0)))
        (pss_cons (ps_set (i := 1) sc_read_text_sort.nd rfl (by first | exact Or.inl rfl | exact Or.inr rfl) (pe_mt0 (T.ok_Reader_take_text (P := P)) hr (by decide) (fun σ => passAt tk σ) (pv 0)))
        (pss_cons (ps_if (pt_cmpR (op_neX hr.units) (pe_callB call_len (by rfl) T.b_len boot_len (pa_cons (pe_fld (pv 1) rfl) pa_nil)) pe_int (nomark _))
        (pss_one (ps_raiseF rfl tk (T.fau.txt P) hr (by decide) (pa_cons (pe_fld (pv 1) rfl) (pa_cons (pe_strE e_bad_sign) pa_nil))))
        pss_nil)
        (pss_one (ps_ret (pe_mq (T.ok_TextSort_init (P := P)) hr (by decide) rfl (pa_cons (pv 2) (pa_cons (pe_fld (pv 1) rfl) pa_nil))))))))))))
theorem Tx.ok_read_text_sort (T : Tx K mg) : Cl P w K mg base 4 "read_text_sort" (sp_read_text_sort K) [] := by
  obtain ⟨fd, F⟩ := T.d_read_text_sort
  have ok := fn_read_text_sort (P := P) (w := w) (base := base) T F
  exact ⟨_, fd, _, [], ok, T.g_read_text_sort, F.kp, (FunD.bindsN F fun _ _ _ _ _ _ us hl => match us, hl with | [_], _ => rfl), .nil⟩
theorem fn_ChoiceSort_init (T : Tx K mg) {fd : FuncData} (F : FunD K "__init__" "ChoiceSort.__init__" (defArgs s_ChoiceSort_init) (defBody s_ChoiceSort_init) (defScope s_ChoiceSort_init) [] [] (He.fAd K ("ChoiceSort", some "__init__")) fd) : FnOk P w K mg base (L2.CX P w) 1 (He.fAd K ("ChoiceSort", some "__init__")) fd ["self", "choices"] (sp_ChoiceSort_init K) := by
  refine F.ok sc_ChoiceSort_init (fun vs H Q E h => h.1) (fun cdv A outer s H vs Q E hr h => ⟨_, ?_, h.2⟩)
  refine PSs.nox ?_
  exact (pss_one (ps_fld (pv 0) (pe_callTy (CallR.or call_list_of (call_list_dK rfl)) (by rfl) T.b_list (by decide +kernel) (pa_cons (pv 1) pa_nil)) rfl))
theorem Tx.ok_ChoiceSort_init (T : Tx K mg) : Mq P w K mg base 1 "ChoiceSort" (He.ga K ("ChoiceSort" : Str)) (sp_ChoiceSort_init K) [] := by
  obtain ⟨fd, F⟩ := T.d_ChoiceSort_init
  have ok := fn_ChoiceSort_init (P := P) (w := w) (base := base) T F
  exact ⟨_, fd, _, [], T.mk_ChoiceSort, ok, T.gc_ChoiceSort, (FunD.bindsN F fun _ _ _ _ _ _ us hl => match us, hl with | [_, _], _ => rfl), .nil⟩
theorem fn_read_choices (T : Tx K mg) {fd : FuncData} (F : FunD K "read_choices" "read_choices" (defArgs s_read_choices) (defBody s_read_choices) (defScope s_read_choices) [] [] (He.fAd K ("read_choices", none)) fd) : FnOk P w K mg base (L2.CX P w) 5 (He.fAd K ("read_choices", none)) fd ["reader"] (sp_read_choices K) := by
  refine F.ok sc_read_choices (fun vs H Q E h => h.1) (fun cdv A outer s H vs Q E hr h => ⟨_, ?_, h.2⟩)
  have tk : Takes (cxOf (L2.CX P w) P w K mg base ["reader", "choices", "token"] "read_choices" (defScope s_read_choices) (He.fAd K ("read_choices", none)) cdv A outer s H E) (fun cls d _ H => E cls d H) := takes_of rfl rfl rfl rfl
  have po : PassesOwn (model _ _) _ _ (cxOf (L2.CX P w) P w K mg base ["reader", "choices", "token"] "read_choices" (defScope s_read_choices) (He.fAd K ("read_choices", none)) cdv A outer s H E).xe := passes_of rfl
  exact (pss_cons (ps_expr (pe_mt1 (T.ok_Reader_take_word (P := P)) hr (by decide) (fun σ => passAt tk σ) (pv 0) (pa_cons (pe_strE e_of) pa_nil)))
        (pss_cons (ps_set (i := 1) sc_read_choices.nd rfl (by first | exact Or.inl rfl | exact Or.inr rfl) (pe_lst pa_nil))
        (pss_one (ps_while po (pt_truth pe_bl fun _ => rfl)
        (pss_cons (ps_set (i := 2) sc_read_choices.nd rfl (by first | exact Or.inl rfl | exact Or.inr rfl) (pe_mt0 (T.ok_Reader_take_text (P := P)) hr (by decide) (fun σ => passAt tk σ) (pv 0)))
        (pss_cons (ps_if (pt_cmpR op_gtX (pe_callB call_len (by rfl) T.b_len boot_len (pa_cons (pe_fld (pv 2) rfl) pa_nil)) (pe_gc rfl T.k_LONGEST_TEXT) (nomark _))
        (pss_one (ps_raiseF rfl tk (T.fau.txt P) hr (by decide) (pa_cons (pe_fld (pv 2) rfl) (pa_cons (pe_strE e_bad_length) pa_nil))))
        pss_nil)
        (pss_cons (ps_if (pt_cmpR op_inX (pe_fld (pv 2) rfl) (pv 1) (by rfl))
        (pss_one (ps_raiseF rfl tk (T.fau.txt P) hr (by decide) (pa_cons (pe_fld (pv 2) rfl) (pa_cons (pe_strE e_choice_twice) pa_nil))))
        pss_nil)
        (pss_cons (ps_if (pt_cmpR (op_eqX hr.units) (pe_callB call_len (by rfl) T.b_len boot_len (pa_cons (pv 1) pa_nil)) (pe_gc rfl T.k_MOST_CHOICES) (nomark _))
        (pss_one (ps_raiseF rfl tk (T.fau.txt P) hr (by decide) (pa_cons (pe_fld (pv 2) rfl) (pa_cons (pe_strE e_too_many_choices) pa_nil))))
        pss_nil)
        (pss_cons (ps_expr (pe_bm PySem.F.plainAttrs_list PySem.F.slot_list_append PySem.F.type_list_append mt_append (pv 1) (pa_cons (pe_fld (pv 2) rfl) pa_nil)))
        (pss_cons (ps_if (pt_not (pt_truth (pe_mt1 (T.ok_Reader_is_sign (P := P)) hr (by decide) (fun _ => pz) (pv 0) (pa_cons (pe_strE e_x2c) pa_nil)) fun _ => rfl))
        (pss_one (ps_ret (pe_mq (T.ok_ChoiceSort_init (P := P)) hr (by decide) rfl (pa_cons (pv 1) pa_nil))))
        pss_nil)
        (pss_one (ps_expr (pe_mt0 (T.ok_Reader_step (P := P)) hr (by decide) (fun _ => pz) (pv 0))))))))))))))
theorem Tx.ok_read_choices (T : Tx K mg) : Cl P w K mg base 5 "read_choices" (sp_read_choices K) [] := by
  obtain ⟨fd, F⟩ := T.d_read_choices
  have ok := fn_read_choices (P := P) (w := w) (base := base) T F
  exact ⟨_, fd, _, [], ok, T.g_read_choices, F.kp, (FunD.bindsN F fun _ _ _ _ _ _ us hl => match us, hl with | [_], _ => rfl), .nil⟩
theorem fn_read_targets (T : Tx K mg) {fd : FuncData} (F : FunD K "read_targets" "read_targets" (defArgs s_read_targets) (defBody s_read_targets) (defScope s_read_targets) [] [] (He.fAd K ("read_targets", none)) fd) : FnOk P w K mg base (L2.CX P w) 5 (He.fAd K ("read_targets", none)) fd ["reader"] (sp_read_targets K) := by
  refine F.ok sc_read_targets (fun vs H Q E h => h.1) (fun cdv A outer s H vs Q E hr h => ⟨_, ?_, h.2⟩)
  have tk : Takes (cxOf (L2.CX P w) P w K mg base ["reader", "targets", "token", "known"] "read_targets" (defScope s_read_targets) (He.fAd K ("read_targets", none)) cdv A outer s H E) (fun cls d _ H => E cls d H) := takes_of rfl rfl rfl rfl
  have po : PassesOwn (model _ _) _ _ (cxOf (L2.CX P w) P w K mg base ["reader", "targets", "token", "known"] "read_targets" (defScope s_read_targets) (He.fAd K ("read_targets", none)) cdv A outer s H E).xe := passes_of rfl
  exact (pss_cons (ps_set (i := 1) sc_read_targets.nd rfl (by first | exact Or.inl rfl | exact Or.inr rfl) (pe_lst (pa_cons (pe_mt0 (T.ok_Reader_take_kind (P := P)) hr (by decide) (fun σ => passAt tk σ) (pv 0)) pa_nil)))
        (pss_cons (ps_while po (pt_truth (pe_mt1 (T.ok_Reader_is_word (P := P)) hr (by decide) (fun _ => pz) (pv 0) (pa_cons (pe_strE e_or) pa_nil)) fun _ => rfl)
        (pss_cons (ps_expr (pe_mt0 (T.ok_Reader_step (P := P)) hr (by decide) (fun _ => pz) (pv 0)))
        (pss_cons (ps_set (i := 2) sc_read_targets.nd rfl (by first | exact Or.inl rfl | exact Or.inr rfl) (pe_mt0 (T.ok_Reader_take_kind (P := P)) hr (by decide) (fun σ => passAt tk σ) (pv 0)))
        (pss_cons (ps_if (pt_cmpR op_inX (pe_fld (pv 2) rfl) (pe_lc (own := [("known", 3)]) rfl sc_read_targets.nd (pi_any (pv 1)) (blkOk_by (N := ["reader", "targets", "token", "known"]) (sc := defScope s_read_targets) (own := [("known", 3)]) (by decide +kernel)) (fun _ _ _ _ _ => (pg_name (i := 3) sc_read_targets.nd rfl (by first | exact Or.inl rfl | exact Or.inr rfl))) (fun _ _ _ _ _ => pts_nil) (fun _ _ _ _ _ => (pe_fld (pv 3) rfl))) (by rfl))
        (pss_one (ps_raiseF rfl tk (T.fau.txt P) hr (by decide) (pa_cons (pe_fld (pv 2) rfl) (pa_cons (pe_strE e_kind_twice) pa_nil))))
        pss_nil)
        (pss_one (ps_expr (pe_bm PySem.F.plainAttrs_list PySem.F.slot_list_append PySem.F.type_list_append mt_append (pv 1) (pa_cons (pv 2) pa_nil))))))))
        (pss_one (ps_ret (pv 1)))))
theorem Tx.ok_read_targets (T : Tx K mg) : Cl P w K mg base 5 "read_targets" (sp_read_targets K) [] := by
  obtain ⟨fd, F⟩ := T.d_read_targets
  have ok := fn_read_targets (P := P) (w := w) (base := base) T F
  exact ⟨_, fd, _, [], ok, T.g_read_targets, F.kp, (FunD.bindsN F fun _ _ _ _ _ _ us hl => match us, hl with | [_], _ => rfl), .nil⟩
theorem fn_ListSort_init (T : Tx K mg) {fd : FuncData} (F : FunD K "__init__" "ListSort.__init__" (defArgs s_ListSort_init) (defBody s_ListSort_init) (defScope s_ListSort_init) [] [] (He.fAd K ("ListSort", some "__init__")) fd) : FnOk P w K mg base (L2.CX P w) 1 (He.fAd K ("ListSort", some "__init__")) fd ["self", "kinds"] (sp_ListSort_init K) := by
  refine F.ok sc_ListSort_init (fun vs H Q E h => h.1) (fun cdv A outer s H vs Q E hr h => ⟨_, ?_, h.2⟩)
  refine PSs.nox ?_
  exact (pss_one (ps_fld (pv 0) (pe_callTy (CallR.or call_list_of (call_list_dK rfl)) (by rfl) T.b_list (by decide +kernel) (pa_cons (pv 1) pa_nil)) rfl))
theorem Tx.ok_ListSort_init (T : Tx K mg) : Mq P w K mg base 1 "ListSort" (He.ga K ("ListSort" : Str)) (sp_ListSort_init K) [] := by
  obtain ⟨fd, F⟩ := T.d_ListSort_init
  have ok := fn_ListSort_init (P := P) (w := w) (base := base) T F
  exact ⟨_, fd, _, [], T.mk_ListSort, ok, T.gc_ListSort, (FunD.bindsN F fun _ _ _ _ _ _ us hl => match us, hl with | [_, _], _ => rfl), .nil⟩
theorem fn_RefSort_init (T : Tx K mg) {fd : FuncData} (F : FunD K "__init__" "RefSort.__init__" (defArgs s_RefSort_init) (defBody s_RefSort_init) (defScope s_RefSort_init) [] [] (He.fAd K ("RefSort", some "__init__")) fd) : FnOk P w K mg base (L2.CX P w) 1 (He.fAd K ("RefSort", some "__init__")) fd ["self", "kinds", "rule"] (sp_RefSort_init K) := by
  refine F.ok sc_RefSort_init (fun vs H Q E h => h.1) (fun cdv A outer s H vs Q E hr h => ⟨_, ?_, h.2⟩)
  refine PSs.nox ?_
  exact (pss_cons (ps_fld (pv 0) (pe_callTy (CallR.or call_list_of (call_list_dK rfl)) (by rfl) T.b_list (by decide +kernel) (pa_cons (pv 1) pa_nil)) rfl)
        (pss_one (ps_fld (pv 0) (pv 2) rfl)))
theorem Tx.ok_RefSort_init (T : Tx K mg) : Mq P w K mg base 1 "RefSort" (He.ga K ("RefSort" : Str)) (sp_RefSort_init K) [] := by
  obtain ⟨fd, F⟩ := T.d_RefSort_init
  have ok := fn_RefSort_init (P := P) (w := w) (base := base) T F
  exact ⟨_, fd, _, [], T.mk_RefSort, ok, T.gc_RefSort, (FunD.bindsN F fun _ _ _ _ _ _ us hl => match us, hl with | [_, _, _], _ => rfl), .nil⟩
theorem fn_read_sort (T : Tx K mg) {fd : FuncData} (F : FunD K "read_sort" "read_sort" (defArgs s_read_sort) (defBody s_read_sort) (defScope s_read_sort) [] [] (He.fAd K ("read_sort", none)) fd) : FnOk P w K mg base (L2.CX P w) 6 (He.fAd K ("read_sort", none)) fd ["reader"] (sp_read_sort K) := by
  refine F.ok sc_read_sort (fun vs H Q E h => h.1) (fun cdv A outer s H vs Q E hr h => ⟨_, ?_, h.2⟩)
  have tk : Takes (cxOf (L2.CX P w) P w K mg base ["reader", "word", "targets", "names", "token", "rule", "known"] "read_sort" (defScope s_read_sort) (He.fAd K ("read_sort", none)) cdv A outer s H E) (fun cls d _ H => E cls d H) := takes_of rfl rfl rfl rfl
  have po : PassesOwn (model _ _) _ _ (cxOf (L2.CX P w) P w K mg base ["reader", "word", "targets", "names", "token", "rule", "known"] "read_sort" (defScope s_read_sort) (He.fAd K ("read_sort", none)) cdv A outer s H E).xe := passes_of rfl
  exact (pss_cons (ps_for po rfl (pi_any (pe_tup (pa_cons (pe_strE e_int) (pa_cons (pe_strE e_text) (pa_cons (pe_strE e_one) (pa_cons (pe_strE e_ref) (pa_cons (pe_strE e_list) pa_nil))))))) (pg_name (i := 1) sc_read_sort.nd rfl (by first | exact Or.inl rfl | exact Or.inr rfl))
        (pss_one (ps_if (pt_truth (pe_mt1 (T.ok_Reader_is_word (P := P)) hr (by decide) (fun _ => pz) (pv 0) (pa_cons (pv 1) pa_nil)) fun _ => rfl)
        (pss_cons (ps_expr (pe_mt0 (T.ok_Reader_step (P := P)) hr (by decide) (fun _ => pz) (pv 0)))
        (pss_cons (ps_if (pt_cmpR (op_eqX hr.units) (pv 1) (pe_strE e_int) (nomark _))
        (pss_one (ps_ret (pe_tup (pa_cons (pe_cl (T.ok_read_int (P := P)) hr (by decide) (fun σ => passAt tk σ) rfl (pa_cons (pv 0) pa_nil)) (pa_cons (pe_lst pa_nil) pa_nil)))))
        pss_nil)
        (pss_cons (ps_if (pt_cmpR (op_eqX hr.units) (pv 1) (pe_strE e_text) (nomark _))
        (pss_one (ps_ret (pe_tup (pa_cons (pe_cl (T.ok_read_text_sort (P := P)) hr (by decide) (fun σ => passAt tk σ) rfl (pa_cons (pv 0) pa_nil)) (pa_cons (pe_lst pa_nil) pa_nil)))))
        pss_nil)
        (pss_cons (ps_if (pt_cmpR (op_eqX hr.units) (pv 1) (pe_strE e_one) (nomark _))
        (pss_one (ps_ret (pe_tup (pa_cons (pe_cl (T.ok_read_choices (P := P)) hr (by decide) (fun σ => passAt tk σ) rfl (pa_cons (pv 0) pa_nil)) (pa_cons (pe_lst pa_nil) pa_nil)))))
        pss_nil)
        (pss_cons (ps_set (i := 2) sc_read_sort.nd rfl (by first | exact Or.inl rfl | exact Or.inr rfl) (pe_cl (T.ok_read_targets (P := P)) hr (by decide) (fun σ => passAt tk σ) rfl (pa_cons (pv 0) pa_nil)))
        (pss_cons (ps_setLc (i := 3) (own := [("token", 4)]) rfl sc_read_sort.nd rfl rfl (sw_true rfl rfl rfl (by decide +kernel)) (pi_any (pv 2)) (blkOk_by (N := ["reader", "word", "targets", "names", "token", "rule", "known"]) (sc := defScope s_read_sort) (own := [("token", 4)]) (by decide +kernel)) (fun _ _ _ _ _ => (pg_name (i := 4) sc_read_sort.nd rfl (by first | exact Or.inl rfl | exact Or.inr rfl))) (fun _ _ _ _ _ => pts_nil) (fun _ _ _ _ _ => (pe_fld (pv 4) rfl)))
        (pss_cons (ps_if (pt_cmpR (op_eqX hr.units) (pv 1) (pe_strE e_list) (nomark _))
        (pss_one (ps_ret (pe_tup (pa_cons (pe_mq (T.ok_ListSort_init (P := P)) hr (by decide) rfl (pa_cons (pv 3) pa_nil)) (pa_cons (pv 2) pa_nil)))))
        pss_nil)
        (pss_cons (ps_set (i := 5) sc_read_sort.nd rfl (by first | exact Or.inl rfl | exact Or.inr rfl) (pe_strE e_clears))
        (pss_cons (ps_for po rfl (pi_any (pe_tup (pa_cons (pe_strE e_clears) (pa_cons (pe_strE e_refuses) (pa_cons (pe_strE e_takes) pa_nil))))) (pg_name (i := 6) sc_read_sort.nd rfl (by first | exact Or.inl rfl | exact Or.inr rfl))
        (pss_one (ps_if (pt_truth (pe_mt1 (T.ok_Reader_is_word (P := P)) hr (by decide) (fun _ => pz) (pv 0) (pa_cons (pv 6) pa_nil)) fun _ => rfl)
        (pss_cons (ps_set (i := 5) sc_read_sort.nd rfl (by first | exact Or.inl rfl | exact Or.inr rfl) (pe_fld (pe_mt0 (T.ok_Reader_step (P := P)) hr (by decide) (fun _ => pz) (pv 0)) rfl))
        (pss_one ps_break))
        pss_nil)))
        (pss_one (ps_ret (pe_tup (pa_cons (pe_mq (T.ok_RefSort_init (P := P)) hr (by decide) rfl (pa_cons (pv 3) (pa_cons (pv 5) pa_nil))) (pa_cons (pv 2) pa_nil))))))))))))))
        pss_nil)))
        (pss_one (ps_raiseF rfl tk (T.fau.txt P) hr (by decide) (pa_cons (pe_fld (pe_pr (T.ok_Reader_now (P := P)) hr (by decide) (pv 0)) rfl) (pa_cons (pe_strE e_expected_a_sort) pa_nil)))))
theorem Tx.ok_read_sort (T : Tx K mg) : Cl P w K mg base 6 "read_sort" (sp_read_sort K) [] := by
  obtain ⟨fd, F⟩ := T.d_read_sort
  have ok := fn_read_sort (P := P) (w := w) (base := base) T F
  exact ⟨_, fd, _, [], ok, T.g_read_sort, F.kp, (FunD.bindsN F fun _ _ _ _ _ _ us hl => match us, hl with | [_], _ => rfl), .nil⟩
theorem fn_is_list (T : Tx K mg) {fd : FuncData} (F : FunD K "is_list" "is_list" (defArgs s_is_list) (defBody s_is_list) (defScope s_is_list) [] [] (He.fAd K ("is_list", none)) fd) : FnOk P w K mg base (L2.CX P w) 1 (He.fAd K ("is_list", none)) fd ["sort"] (sp_is_list K) := by
  refine F.ok sc_is_list (fun vs H Q E h => h.1) (fun cdv A outer s H vs Q E hr h => ⟨_, ?_, h.2⟩)
  refine PSs.nox ?_
  exact (pss_one (ps_ret (pe_callB call_isi (by rfl) T.b_isinstance (by decide +kernel) (pa_cons (pv 0) (pa_cons (pe_glob rfl T.gc_ListSort rfl) pa_nil)))))
theorem Tx.ok_is_list (T : Tx K mg) : Cl P w K mg base 1 "is_list" (sp_is_list K) [] := by
  obtain ⟨fd, F⟩ := T.d_is_list
  have ok := fn_is_list (P := P) (w := w) (base := base) T F
  exact ⟨_, fd, _, [], ok, T.g_is_list, F.kp, (FunD.bindsN F fun _ _ _ _ _ _ us hl => match us, hl with | [_], _ => rfl), .nil⟩
theorem fn_Field_init (T : Tx K mg) {fd : FuncData} (F : FunD K "__init__" "Field.__init__" (defArgs s_Field_init) (defBody s_Field_init) (defScope s_Field_init) [(.bl false)] [] (He.fAd K ("Field", some "__init__")) fd) : FnOk P w K mg base (L2.CX P w) 1 (He.fAd K ("Field", some "__init__")) fd ["self", "name", "shape", "needed"] (sp_Field_init K) := by
  refine F.ok sc_Field_init (fun vs H Q E h => h.1) (fun cdv A outer s H vs Q E hr h => ⟨_, ?_, h.2⟩)
  refine PSs.nox ?_
  exact (pss_cons (ps_fld (pv 0) (pv 1) rfl)
        (pss_cons (ps_fld (pv 0) (pv 2) rfl)
        (pss_one (ps_fld (pv 0) (pv 3) rfl))))
theorem Tx.ok_Field_init (T : Tx K mg) : Mq P w K mg base 1 "Field" (He.ga K ("Field" : Str)) (sp_Field_init K) [] := by
  obtain ⟨fd, F⟩ := T.d_Field_init
  have ok := fn_Field_init (P := P) (w := w) (base := base) T F
  obtain ⟨ds, hv, b⟩ := FunD.binds1 (ps := ["self", "name", "shape", "needed"]) F 4 1 (by simp) (by simp) fun T kV doc pm an cdv ct us its hu hi => match us, its, hu, hi with | [_, _, _, _], [_], _, _ => ⟨_, rfl, rfl⟩
  exact ⟨_, fd, _, ds, T.mk_Field, ok, T.gc_Field, b, hv⟩
theorem fn_read_field (T : Tx K mg) {fd : FuncData} (F : FunD K "read_field" "read_field" (defArgs s_read_field) (defBody s_read_field) (defScope s_read_field) [] [] (He.fAd K ("read_field", none)) fd) : FnOk P w K mg base (L2.CX P w) 7 (He.fAd K ("read_field", none)) fd ["reader"] (sp_read_field K) := by
  refine F.ok sc_read_field (fun vs H Q E h => h.1) (fun cdv A outer s H vs Q E hr h => ⟨_, ?_, h.2⟩)
  have tk : Takes (cxOf (L2.CX P w) P w K mg base ["reader", "token", "sort", "targets", "needed", "place"] "read_field" (defScope s_read_field) (He.fAd K ("read_field", none)) cdv A outer s H E) (fun cls d _ H => E cls d H) := takes_of rfl rfl rfl rfl
  have po : PassesOwn (model _ _) _ _ (cxOf (L2.CX P w) P w K mg base ["reader", "token", "sort", "targets", "needed", "place"] "read_field" (defScope s_read_field) (He.fAd K ("read_field", none)) cdv A outer s H E).xe := passes_of rfl
  exact (pss_cons (ps_set (i := 1) sc_read_field.nd rfl (by first | exact Or.inl rfl | exact Or.inr rfl) (pe_mt0 (T.ok_Reader_take_field (P := P)) hr (by decide) (fun σ => passAt tk σ) (pv 0)))
        (pss_cons (ps_expr (pe_mt1 (T.ok_Reader_take_sign (P := P)) hr (by decide) (fun σ => passAt tk σ) (pv 0) (pa_cons (pe_strE e_x3a) pa_nil)))
        (pss_cons (ps_asg (pe_cl (T.ok_read_sort (P := P)) hr (by decide) (fun σ => passAt tk σ) rfl (pa_cons (pv 0) pa_nil)) (pg_tup rfl (pgs_cons (pg_name (i := 2) sc_read_field.nd rfl (by first | exact Or.inl rfl | exact Or.inr rfl)) (pgs_cons (pg_name (i := 3) sc_read_field.nd rfl (by first | exact Or.inl rfl | exact Or.inr rfl)) pgs_nil))))
        (pss_cons (ps_set (i := 4) sc_read_field.nd rfl (by first | exact Or.inl rfl | exact Or.inr rfl) pe_bl)
        (C8.pss_cut (ps_if (pt_truth (pe_mt1 (T.ok_Reader_is_word (P := P)) hr (by decide) (fun _ => pz) (pv 0) (pa_cons (pe_strE e_not) pa_nil)) fun _ => rfl)
        (pss_cons (ps_set (i := 5) sc_read_field.nd rfl (by first | exact Or.inl rfl | exact Or.inr rfl) (pe_fld (pe_mt0 (T.ok_Reader_step (P := P)) hr (by decide) (fun _ => pz) (pv 0)) rfl))
        (pss_cons (ps_expr (pe_mt1 (T.ok_Reader_take_word (P := P)) hr (by decide) (fun σ => passAt tk σ) (pv 0) (pa_cons (pe_strE e_null) pa_nil)))
        (pss_cons (ps_if (pt_truth (pe_cl (T.ok_is_list (P := P)) hr (by decide) (fun _ => pz) rfl (pa_cons (pv 2) pa_nil)) fun _ => rfl)
        (pss_one (ps_raiseF rfl tk (T.fau.txt P) hr (by decide) (pa_cons (pv 5) (pa_cons (pe_strE e_list_not_null) pa_nil))))
        pss_nil)
        (pss_one (ps_set (i := 4) sc_read_field.nd rfl (by first | exact Or.inl rfl | exact Or.inr rfl) pe_bl)))))
        pss_nil)
        (pss_cons (ps_expr (pe_mt1 (T.ok_Reader_take_sign (P := P)) hr (by decide) (fun σ => passAt tk σ) (pv 0) (pa_cons (pe_strE e_x3b) pa_nil)))
        (pss_one (ps_ret (pe_tup (pa_cons (pe_mq (T.ok_Field_init (P := P)) hr (by decide) rfl (pa_cons (pe_fld (pv 1) rfl) (pa_cons (pv 2) (pa_cons (pv 4) pa_nil)))) (pa_cons (pv 1) (pa_cons (pv 3) pa_nil))))))))))))
theorem Tx.ok_read_field (T : Tx K mg) : Cl P w K mg base 7 "read_field" (sp_read_field K) [] := by
  obtain ⟨fd, F⟩ := T.d_read_field
  have ok := fn_read_field (P := P) (w := w) (base := base) T F
  exact ⟨_, fd, _, [], ok, T.g_read_field, F.kp, (FunD.bindsN F fun _ _ _ _ _ _ us hl => match us, hl with | [_], _ => rfl), .nil⟩
theorem fn_read_kind (T : Tx K mg) {fd : FuncData} (F : FunD K "read_kind" "read_kind" (defArgs s_read_kind) (defBody s_read_kind) (defScope s_read_kind) [] [] (He.fAd K ("read_kind", none)) fd) : FnOk P w K mg base (L2.CX P w) 8 (He.fAd K ("read_kind", none)) fd ["reader"] (sp_read_kind K) := by
  refine F.ok sc_read_kind (fun vs H Q E h => h.1) (fun cdv A outer s H vs Q E hr h => ⟨_, ?_, h.2⟩)
  have tk : Takes (cxOf (L2.CX P w) P w K mg base ["reader", "found"] "read_kind" (defScope s_read_kind) (He.fAd K ("read_kind", none)) cdv A outer s H E) (fun cls d _ H => E cls d H) := takes_of rfl rfl rfl rfl
  have po : PassesOwn (model _ _) _ _ (cxOf (L2.CX P w) P w K mg base ["reader", "found"] "read_kind" (defScope s_read_kind) (He.fAd K ("read_kind", none)) cdv A outer s H E).xe := passes_of rfl
  exact (pss_cons (ps_expr (pe_mt1 (T.ok_Reader_take_word (P := P)) hr (by decide) (fun σ => passAt tk σ) (pv 0) (pa_cons (pe_strE e_kind) pa_nil)))
        (pss_cons (ps_set (i := 1) sc_read_kind.nd rfl (by first | exact Or.inl rfl | exact Or.inr rfl) (pe_mq (T.ok_KindPlace_init (P := P)) hr (by decide) rfl (pa_cons (pe_mt0 (T.ok_Reader_take_kind (P := P)) hr (by decide) (fun σ => passAt tk σ) (pv 0)) pa_nil)))
        (pss_cons (ps_expr (pe_mt1 (T.ok_Reader_take_sign (P := P)) hr (by decide) (fun σ => passAt tk σ) (pv 0) (pa_cons (pe_strE e_x7b) pa_nil)))
        (pss_cons (ps_while po (pt_not (pt_truth (pe_mt1 (T.ok_Reader_is_sign (P := P)) hr (by decide) (fun _ => pz) (pv 0) (pa_cons (pe_strE e_x7d) pa_nil)) fun _ => rfl))
        (pss_one (ps_if (pt_truth (pe_mt1 (T.ok_Reader_is_word (P := P)) hr (by decide) (fun _ => pz) (pv 0) (pa_cons (pe_strE e_key) pa_nil)) fun _ => rfl)
        (pss_cons (ps_expr (pe_mt0 (T.ok_Reader_step (P := P)) hr (by decide) (fun _ => pz) (pv 0)))
        (pss_one (ps_expr (pe_bm PySem.F.plainAttrs_list PySem.F.slot_list_append PySem.F.type_list_append mt_append (pe_fld (pv 1) rfl) (pa_cons (pe_cl (T.ok_read_key (P := P)) hr (by decide) (fun σ => passAt tk σ) rfl (pa_cons (pv 0) pa_nil)) pa_nil)))))
        (pss_one (ps_expr (pe_bm PySem.F.plainAttrs_list PySem.F.slot_list_append PySem.F.type_list_append mt_append (pe_fld (pv 1) rfl) (pa_cons (pe_cl (T.ok_read_field (P := P)) hr (by decide) (fun σ => passAt tk σ) rfl (pa_cons (pv 0) pa_nil)) pa_nil)))))))
        (pss_cons (ps_expr (pe_mt0 (T.ok_Reader_step (P := P)) hr (by decide) (fun _ => pz) (pv 0)))
        (pss_one (ps_ret (pv 1))))))))
theorem Tx.ok_read_kind (T : Tx K mg) : Cl P w K mg base 8 "read_kind" (sp_read_kind K) [] := by
  obtain ⟨fd, F⟩ := T.d_read_kind
  have ok := fn_read_kind (P := P) (w := w) (base := base) T F
  exact ⟨_, fd, _, [], ok, T.g_read_kind, F.kp, (FunD.bindsN F fun _ _ _ _ _ _ us hl => match us, hl with | [_], _ => rfl), .nil⟩
theorem fn_Schema_init (T : Tx K mg) {fd : FuncData} (F : FunD K "__init__" "Schema.__init__" (defArgs s_Schema_init) (defBody s_Schema_init) (defScope s_Schema_init) [] [] (He.fAd K ("Schema", some "__init__")) fd) : FnOk P w K mg base (L2.CX P w) 1 (He.fAd K ("Schema", some "__init__")) fd ["self", "kinds"] (sp_Schema_init K) := by
  refine F.ok sc_Schema_init (fun vs H Q E h => h.1) (fun cdv A outer s H vs Q E hr h => ⟨_, ?_, h.2⟩)
  refine PSs.nox ?_
  exact (pss_one (ps_fld (pv 0) (pe_callTy (CallR.or call_list_of (call_list_dK rfl)) (by rfl) T.b_list (by decide +kernel) (pa_cons (pv 1) pa_nil)) rfl))
theorem Tx.ok_Schema_init (T : Tx K mg) : Mq P w K mg base 1 "Schema" (He.ga K ("Schema" : Str)) (sp_Schema_init K) [] := by
  obtain ⟨fd, F⟩ := T.d_Schema_init
  have ok := fn_Schema_init (P := P) (w := w) (base := base) T F
  exact ⟨_, fd, _, [], T.mk_Schema, ok, T.gc_Schema, (FunD.bindsN F fun _ _ _ _ _ _ us hl => match us, hl with | [_, _], _ => rfl), .nil⟩
theorem fn_check_key (T : Tx K mg) {fd : FuncData} (F : FunD K "check_key" "check_key" (defArgs s_check_key) (defBody s_check_key) (defScope s_check_key) [] [] (He.fAd K ("check_key", none)) fd) : FnOk P w K mg base (L2.CX P w) 2 (He.fAd K ("check_key", none)) fd ["fields", "row"] (sp_check_key K) := by
  refine F.ok sc_check_key (fun vs H Q E h => h.1) (fun cdv A outer s H vs Q E hr h => ⟨_, ?_, h.2⟩)
  have tk : Takes (cxOf (L2.CX P w) P w K mg base ["fields", "row", "seen", "token", "field", "known"] "check_key" (defScope s_check_key) (He.fAd K ("check_key", none)) cdv A outer s H E) (fun cls d _ H => E cls d H) := takes_of rfl rfl rfl rfl
  have po : PassesOwn (model _ _) _ _ (cxOf (L2.CX P w) P w K mg base ["fields", "row", "seen", "token", "field", "known"] "check_key" (defScope s_check_key) (He.fAd K ("check_key", none)) cdv A outer s H E).xe := passes_of rfl
  exact (pss_cons (ps_set (i := 2) sc_check_key.nd rfl (by first | exact Or.inl rfl | exact Or.inr rfl) (pe_lst pa_nil))
        (pss_cons (ps_for po rfl (pi_any (pv 1)) (pg_name (i := 3) sc_check_key.nd rfl (by first | exact Or.inl rfl | exact Or.inr rfl))
        (pss_cons (ps_set (i := 4) sc_check_key.nd rfl (by first | exact Or.inl rfl | exact Or.inr rfl) pe_non)
        (pss_cons (ps_for po rfl (pi_any (pv 0)) (pg_name (i := 5) sc_check_key.nd rfl (by first | exact Or.inl rfl | exact Or.inr rfl))
        (pss_one (ps_if (pt_cmpR (op_eqX hr.units) (pe_fld (pv 5) rfl) (pe_fld (pv 3) rfl) (nomark _))
        (pss_one (ps_set (i := 4) sc_check_key.nd rfl (by first | exact Or.inl rfl | exact Or.inr rfl) (pv 5)))
        pss_nil)))
        (pss_cons (ps_if (pt_cmpR op_isX (pv 4) pe_non (nomark _))
        (pss_one (ps_raiseF rfl tk (T.fau.txt P) hr (by decide) (pa_cons (pe_fld (pv 3) rfl) (pa_cons (pe_strE e_no_such_field) pa_nil))))
        pss_nil)
        (pss_cons (ps_if (pt_truth (pe_cl (T.ok_is_list (P := P)) hr (by decide) (fun _ => pz) rfl (pa_cons (pe_fld (pv 4) rfl) pa_nil)) fun _ => rfl)
        (pss_one (ps_raiseF rfl tk (T.fau.txt P) hr (by decide) (pa_cons (pe_fld (pv 3) rfl) (pa_cons (pe_strE e_list_in_a_key) pa_nil))))
        pss_nil)
        (pss_cons (ps_if (pt_cmpR op_inX (pe_fld (pv 3) rfl) (pv 2) (by rfl))
        (pss_one (ps_raiseF rfl tk (T.fau.txt P) hr (by decide) (pa_cons (pe_fld (pv 3) rfl) (pa_cons (pe_strE e_field_twice) pa_nil))))
        pss_nil)
        (pss_one (ps_expr (pe_bm PySem.F.plainAttrs_list PySem.F.slot_list_append PySem.F.type_list_append mt_append (pv 2) (pa_cons (pe_fld (pv 3) rfl) pa_nil))))))))))
        (pss_one (ps_ret (pv 2)))))
theorem Tx.ok_check_key (T : Tx K mg) : Cl P w K mg base 2 "check_key" (sp_check_key K) [] := by
  obtain ⟨fd, F⟩ := T.d_check_key
  have ok := fn_check_key (P := P) (w := w) (base := base) T F
  exact ⟨_, fd, _, [], ok, T.g_check_key, F.kp, (FunD.bindsN F fun _ _ _ _ _ _ us hl => match us, hl with | [_, _], _ => rfl), .nil⟩
theorem fn_Kind_init (T : Tx K mg) {fd : FuncData} (F : FunD K "__init__" "Kind.__init__" (defArgs s_Kind_init) (defBody s_Kind_init) (defScope s_Kind_init) [] [] (He.fAd K ("Kind", some "__init__")) fd) : FnOk P w K mg base (L2.CX P w) 1 (He.fAd K ("Kind", some "__init__")) fd ["self", "name", "fields", "key_rows"] (sp_Kind_init K) := by
  refine F.ok sc_Kind_init (fun vs H Q E h => h.1) (fun cdv A outer s H vs Q E hr h => ⟨_, ?_, h.2⟩)
  refine PSs.nox ?_
  exact (pss_cons (ps_fld (pv 0) (pv 1) rfl)
        (pss_cons (ps_fld (pv 0) (pe_callTy (CallR.or call_list_of (call_list_dK rfl)) (by rfl) T.b_list (by decide +kernel) (pa_cons (pv 2) pa_nil)) rfl)
        (pss_one (ps_fld (pv 0) (pe_lc (own := [("names", 4)]) rfl sc_Kind_init.nd (pi_any (pv 3)) (blkOk_by (N := ["self", "name", "fields", "key_rows", "names"]) (sc := defScope s_Kind_init) (own := [("names", 4)]) (by decide +kernel)) (fun _ _ _ _ _ => (pg_name (i := 4) sc_Kind_init.nd rfl (by first | exact Or.inl rfl | exact Or.inr rfl))) (fun _ _ _ _ _ => pts_nil) (fun _ _ _ _ _ => (pe_callTy (CallR.or call_list_of (call_list_dK rfl)) (by rfl) T.b_list (by decide +kernel) (pa_cons (pv 4) pa_nil)))) rfl))))
theorem Tx.ok_Kind_init (T : Tx K mg) : Mq P w K mg base 1 "Kind" (He.ga K ("Kind" : Str)) (sp_Kind_init K) [] := by
  obtain ⟨fd, F⟩ := T.d_Kind_init
  have ok := fn_Kind_init (P := P) (w := w) (base := base) T F
  exact ⟨_, fd, _, [], T.mk_Kind, ok, T.gc_Kind, (FunD.bindsN F fun _ _ _ _ _ _ us hl => match us, hl with | [_, _, _, _], _ => rfl), .nil⟩
theorem fn_check_kind (T : Tx K mg) {fd : FuncData} (F : FunD K "check_kind" "check_kind" (defArgs s_check_kind) (defBody s_check_kind) (defScope s_check_kind) [] [] (He.fAd K ("check_kind", none)) fd) : FnOk P w K mg base (L2.CX P w) 3 (He.fAd K ("check_kind", none)) fd ["found", "names"] (sp_check_kind K) := by
  refine F.ok sc_check_kind (fun vs H Q E h => h.1) (fun cdv A outer s H vs Q E hr h => ⟨_, ?_, h.2⟩)
  have tk : Takes (cxOf (L2.CX P w) P w K mg base ["found", "names", "fields", "field", "token", "targets", "known", "target", "used", "keys", "row", "key"] "check_kind" (defScope s_check_kind) (He.fAd K ("check_kind", none)) cdv A outer s H E) (fun cls d _ H => E cls d H) := takes_of rfl rfl rfl rfl
  have po : PassesOwn (model _ _) _ _ (cxOf (L2.CX P w) P w K mg base ["found", "names", "fields", "field", "token", "targets", "known", "target", "used", "keys", "row", "key"] "check_kind" (defScope s_check_kind) (He.fAd K ("check_kind", none)) cdv A outer s H E).xe := passes_of rfl
  exact (pss_cons (ps_set (i := 2) sc_check_kind.nd rfl (by first | exact Or.inl rfl | exact Or.inr rfl) (pe_lst pa_nil))
        (pss_cons (ps_for po rfl (pi_any (pe_fld (pv 0) rfl)) (pg_tup rfl (pgs_cons (pg_name (i := 3) sc_check_kind.nd rfl (by first | exact Or.inl rfl | exact Or.inr rfl)) (pgs_cons (pg_name (i := 4) sc_check_kind.nd rfl (by first | exact Or.inl rfl | exact Or.inr rfl)) (pgs_cons (pg_name (i := 5) sc_check_kind.nd rfl (by first | exact Or.inl rfl | exact Or.inr rfl)) pgs_nil))))
        (pss_cons (ps_if (pt_cmpR op_inX (pe_fld (pv 3) rfl) (pe_lc (own := [("known", 6)]) rfl sc_check_kind.nd (pi_any (pv 2)) (blkOk_by (N := ["found", "names", "fields", "field", "token", "targets", "known", "target", "used", "keys", "row", "key"]) (sc := defScope s_check_kind) (own := [("known", 6)]) (by decide +kernel)) (fun _ _ _ _ _ => (pg_name (i := 6) sc_check_kind.nd rfl (by first | exact Or.inl rfl | exact Or.inr rfl))) (fun _ _ _ _ _ => pts_nil) (fun _ _ _ _ _ => (pe_fld (pv 6) rfl))) (by rfl))
        (pss_one (ps_raiseF rfl tk (T.fau.txt P) hr (by decide) (pa_cons (pe_fld (pv 4) rfl) (pa_cons (pe_strE e_field_twice) pa_nil))))
        pss_nil)
        (pss_cons (ps_if (pt_cmpR (op_eqX hr.units) (pe_callB call_len (by rfl) T.b_len boot_len (pa_cons (pv 2) pa_nil)) (pe_gc rfl T.k_MOST_FIELDS) (nomark _))
        (pss_one (ps_raiseF rfl tk (T.fau.txt P) hr (by decide) (pa_cons (pe_fld (pv 4) rfl) (pa_cons (pe_strE e_too_many_fields) pa_nil))))
        pss_nil)
        (pss_cons (ps_for po rfl (pi_any (pv 5)) (pg_name (i := 7) sc_check_kind.nd rfl (by first | exact Or.inl rfl | exact Or.inr rfl))
        (pss_one (ps_if (pt_cmpR op_notInX (pe_fld (pv 7) rfl) (pv 1) (by rfl))
        (pss_one (ps_raiseF rfl tk (T.fau.txt P) hr (by decide) (pa_cons (pe_fld (pv 7) rfl) (pa_cons (pe_strE e_no_such_kind) pa_nil))))
        pss_nil)))
        (pss_one (ps_expr (pe_bm PySem.F.plainAttrs_list PySem.F.slot_list_append PySem.F.type_list_append mt_append (pv 2) (pa_cons (pv 3) pa_nil))))))))
        (pss_cons (ps_set (i := 8) sc_check_kind.nd rfl (by first | exact Or.inl rfl | exact Or.inr rfl) (pe_lst pa_nil))
        (pss_cons (ps_set (i := 9) sc_check_kind.nd rfl (by first | exact Or.inl rfl | exact Or.inr rfl) (pe_lst pa_nil))
        (pss_cons (ps_for po rfl (pi_any (pe_fld (pv 0) rfl)) (pg_name (i := 10) sc_check_kind.nd rfl (by first | exact Or.inl rfl | exact Or.inr rfl))
        (pss_cons (ps_if (pt_cmpR (op_eqX hr.units) (pe_callB call_len (by rfl) T.b_len boot_len (pa_cons (pv 9) pa_nil)) (pe_gc rfl T.k_MOST_KEYS) (nomark _))
        (pss_one (ps_raiseF rfl tk (T.fau.txt P) hr (by decide) (pa_cons (pe_fld (pe_ix ix_seq (pv 10) pe_int fun _ _ => rfl) rfl) (pa_cons (pe_strE e_too_many_keys) pa_nil))))
        pss_nil)
        (pss_cons (ps_set (i := 11) sc_check_kind.nd rfl (by first | exact Or.inl rfl | exact Or.inr rfl) (pe_cl (T.ok_check_key (P := P)) hr (by decide) (fun σ => passAt tk σ) rfl (pa_cons (pv 2) (pa_cons (pv 10) pa_nil))))
        (pss_cons (ps_for po rfl (pi_any (pv 10)) (pg_name (i := 4) sc_check_kind.nd rfl (by first | exact Or.inl rfl | exact Or.inr rfl))
        (pss_one (ps_if (pt_cmpR op_inX (pe_fld (pv 4) rfl) (pv 8) (by rfl))
        (pss_one (ps_raiseF rfl tk (T.fau.txt P) hr (by decide) (pa_cons (pe_fld (pv 4) rfl) (pa_cons (pe_strE e_field_in_two_keys) pa_nil))))
        pss_nil)))
        (pss_cons (ps_set (i := 8) sc_check_kind.nd rfl (by first | exact Or.inl rfl | exact Or.inr rfl) (pe_op op_addX (pv 8) (pv 11)))
        (pss_one (ps_expr (pe_bm PySem.F.plainAttrs_list PySem.F.slot_list_append PySem.F.type_list_append mt_append (pv 9) (pa_cons (pv 11) pa_nil)))))))))
        (pss_one (ps_ret (pe_mq (T.ok_Kind_init (P := P)) hr (by decide) rfl (pa_cons (pe_fld (pe_fld (pv 0) rfl) rfl) (pa_cons (pv 2) (pa_cons (pv 9) pa_nil)))))))))))
theorem Tx.ok_check_kind (T : Tx K mg) : Cl P w K mg base 3 "check_kind" (sp_check_kind K) [] := by
  obtain ⟨fd, F⟩ := T.d_check_kind
  have ok := fn_check_kind (P := P) (w := w) (base := base) T F
  exact ⟨_, fd, _, [], ok, T.g_check_kind, F.kp, (FunD.bindsN F fun _ _ _ _ _ _ us hl => match us, hl with | [_, _], _ => rfl), .nil⟩
theorem fn_check_kinds (T : Tx K mg) {fd : FuncData} (F : FunD K "check_kinds" "check_kinds" (defArgs s_check_kinds) (defBody s_check_kinds) (defScope s_check_kinds) [] [] (He.fAd K ("check_kinds", none)) fd) : FnOk P w K mg base (L2.CX P w) 4 (He.fAd K ("check_kinds", none)) fd ["row"] (sp_check_kinds K) := by
  refine F.ok sc_check_kinds (fun vs H Q E h => h.1) (fun cdv A outer s H vs Q E hr h => ⟨_, ?_, h.2⟩)
  have tk : Takes (cxOf (L2.CX P w) P w K mg base ["row", "names", "found", "kinds", "kind"] "check_kinds" (defScope s_check_kinds) (He.fAd K ("check_kinds", none)) cdv A outer s H E) (fun cls d _ H => E cls d H) := takes_of rfl rfl rfl rfl
  have po : PassesOwn (model _ _) _ _ (cxOf (L2.CX P w) P w K mg base ["row", "names", "found", "kinds", "kind"] "check_kinds" (defScope s_check_kinds) (He.fAd K ("check_kinds", none)) cdv A outer s H E).xe := passes_of rfl
  exact (pss_cons (ps_setLc (i := 1) (own := [("found", 2)]) rfl sc_check_kinds.nd rfl rfl (sw_true rfl rfl rfl (by decide +kernel)) (pi_any (pv 0)) (blkOk_by (N := ["row", "names", "found", "kinds", "kind"]) (sc := defScope s_check_kinds) (own := [("found", 2)]) (by decide +kernel)) (fun _ _ _ _ _ => (pg_name (i := 2) sc_check_kinds.nd rfl (by first | exact Or.inl rfl | exact Or.inr rfl))) (fun _ _ _ _ _ => pts_nil) (fun _ _ _ _ _ => (pe_fld (pe_fld (pv 2) rfl) rfl)))
        (pss_cons (ps_set (i := 3) sc_check_kinds.nd rfl (by first | exact Or.inl rfl | exact Or.inr rfl) (pe_lst pa_nil))
        (pss_cons (ps_for po rfl (pi_any (pv 0)) (pg_name (i := 2) sc_check_kinds.nd rfl (by first | exact Or.inl rfl | exact Or.inr rfl))
        (pss_cons (ps_if (pt_cmpR op_inX (pe_fld (pe_fld (pv 2) rfl) rfl) (pe_lc (own := [("kind", 4)]) rfl sc_check_kinds.nd (pi_any (pv 3)) (blkOk_by (N := ["row", "names", "found", "kinds", "kind"]) (sc := defScope s_check_kinds) (own := [("kind", 4)]) (by decide +kernel)) (fun _ _ _ _ _ => (pg_name (i := 4) sc_check_kinds.nd rfl (by first | exact Or.inl rfl | exact Or.inr rfl))) (fun _ _ _ _ _ => pts_nil) (fun _ _ _ _ _ => (pe_fld (pv 4) rfl))) (by rfl))
        (pss_one (ps_raiseF rfl tk (T.fau.txt P) hr (by decide) (pa_cons (pe_fld (pe_fld (pv 2) rfl) rfl) (pa_cons (pe_strE e_kind_twice) pa_nil))))
        pss_nil)
        (pss_cons (ps_if (pt_cmpR (op_eqX hr.units) (pe_callB call_len (by rfl) T.b_len boot_len (pa_cons (pv 3) pa_nil)) (pe_gc rfl T.k_MOST_KINDS) (nomark _))
        (pss_one (ps_raiseF rfl tk (T.fau.txt P) hr (by decide) (pa_cons (pe_fld (pe_fld (pv 2) rfl) rfl) (pa_cons (pe_strE e_too_many_kinds) pa_nil))))
        pss_nil)
        (pss_one (ps_expr (pe_bm PySem.F.plainAttrs_list PySem.F.slot_list_append PySem.F.type_list_append mt_append (pv 3) (pa_cons (pe_cl (T.ok_check_kind (P := P)) hr (by decide) (fun σ => passAt tk σ) rfl (pa_cons (pv 2) (pa_cons (pv 1) pa_nil))) pa_nil)))))))
        (pss_one (ps_ret (pv 3))))))
theorem Tx.ok_check_kinds (T : Tx K mg) : Cl P w K mg base 4 "check_kinds" (sp_check_kinds K) [] := by
  obtain ⟨fd, F⟩ := T.d_check_kinds
  have ok := fn_check_kinds (P := P) (w := w) (base := base) T F
  exact ⟨_, fd, _, [], ok, T.g_check_kinds, F.kp, (FunD.bindsN F fun _ _ _ _ _ _ us hl => match us, hl with | [_], _ => rfl), .nil⟩
theorem fn_read_schema (T : Tx K mg) {fd : FuncData} (F : FunD K "read_schema" "read_schema" (defArgs s_read_schema) (defBody s_read_schema) (defScope s_read_schema) [] [] (He.fAd K ("read_schema", none)) fd) : FnOk P w K mg base (L2.CX P w) 9 (He.fAd K ("read_schema", none)) fd ["text"] (sp_read_schema K) := by
  refine F.ok sc_read_schema (fun vs H Q E h => h.1) (fun cdv A outer s H vs Q E hr h => ⟨_, ?_, h.2⟩)
  have tk : Takes (cxOf (L2.CX P w) P w K mg base ["text", "reader", "row"] "read_schema" (defScope s_read_schema) (He.fAd K ("read_schema", none)) cdv A outer s H E) (fun cls d _ H => E cls d H) := takes_of rfl rfl rfl rfl
  have po : PassesOwn (model _ _) _ _ (cxOf (L2.CX P w) P w K mg base ["text", "reader", "row"] "read_schema" (defScope s_read_schema) (He.fAd K ("read_schema", none)) cdv A outer s H E).xe := passes_of rfl
  exact (pss_cons (ps_set (i := 1) sc_read_schema.nd rfl (by first | exact Or.inl rfl | exact Or.inr rfl) (pe_mq (T.ok_Reader_init (P := P)) hr (by decide) rfl (pa_cons (pe_cl (T.ok_tokens (P := P)) hr (by decide) (fun σ => passAt tk σ) rfl (pa_cons (pv 0) (pa_cons (pe_glob rfl T.gc_SIGNS rfl) (pa_cons (pe_gc rfl T.k_LONGEST_SCHEMA) pa_nil)))) (pa_cons (pe_glob rfl T.gc_RESERVED rfl) pa_nil))))
        (pss_cons (ps_set (i := 2) sc_read_schema.nd rfl (by first | exact Or.inl rfl | exact Or.inr rfl) (pe_lst (pa_cons (pe_cl (T.ok_read_kind (P := P)) hr (by decide) (fun σ => passAt tk σ) rfl (pa_cons (pv 1) pa_nil)) pa_nil)))
        (pss_cons (ps_while po (pt_cmpR (op_neX hr.units) (pe_fld (pe_pr (T.ok_Reader_now (P := P)) hr (by decide) (pv 1)) rfl) (pe_strE e_end) (nomark _))
        (pss_one (ps_expr (pe_bm PySem.F.plainAttrs_list PySem.F.slot_list_append PySem.F.type_list_append mt_append (pv 2) (pa_cons (pe_cl (T.ok_read_kind (P := P)) hr (by decide) (fun σ => passAt tk σ) rfl (pa_cons (pv 1) pa_nil)) pa_nil)))))
        (pss_one (ps_ret (pe_mq (T.ok_Schema_init (P := P)) hr (by decide) rfl (pa_cons (pe_cl (T.ok_check_kinds (P := P)) hr (by decide) (fun σ => passAt tk σ) rfl (pa_cons (pv 2) pa_nil)) pa_nil)))))))
theorem Tx.ok_read_schema (T : Tx K mg) : Cl P w K mg base 9 "read_schema" (sp_read_schema K) [] := by
  obtain ⟨fd, F⟩ := T.d_read_schema
  have ok := fn_read_schema (P := P) (w := w) (base := base) T F
  exact ⟨_, fd, _, [], ok, T.g_read_schema, F.kp, (FunD.bindsN F fun _ _ _ _ _ _ us hl => match us, hl with | [_], _ => rfl), .nil⟩
theorem fn_IntSort_written (T : Tx K mg) {fd : FuncData} (F : FunD K "written" "IntSort.written" (defArgs s_IntSort_written) (defBody s_IntSort_written) (defScope s_IntSort_written) [] [] (He.fAd K ("IntSort", some "written")) fd) : FnOk P w K mg base (L2.CX P w) 1 (He.fAd K ("IntSort", some "written")) fd ["self"] (sp_IntSort_written K) := by
  refine F.ok sc_IntSort_written (fun vs H Q E h => h.1) (fun cdv A outer s H vs Q E hr h => ⟨_, ?_, h.2⟩)
  refine PSs.nox ?_
  exact (pss_one (ps_ret (pe_joinE (.cons (pe_strE e_int_) (.cons (pe_fmt (pe_fld (pv 0) rfl)) (.cons (pe_strE e_x2ex2e) (.cons (pe_fmt (pe_fld (pv 0) rfl)) .nil)))))))
theorem Tx.ok_IntSort_written (T : Tx K mg) : Mt P w K mg base 1 (He.ga K ("IntSort" : Str)) "written" (sp_IntSort_written K) [] := by
  obtain ⟨fd, F⟩ := T.d_IntSort_written
  have ok := fn_IntSort_written (P := P) (w := w) (base := base) T F
  exact ⟨_, fd, _, [], T.cl_IntSort, T.me_IntSort_written, ok, (FunD.bindsN F fun _ _ _ _ _ _ us hl => match us, hl with | [_], _ => rfl), .nil⟩
theorem fn_quoted (T : Tx K mg) {fd : FuncData} (F : FunD K "quoted" "quoted" (defArgs s_quoted) (defBody s_quoted) (defScope s_quoted) [] [] (He.fAd K ("quoted", none)) fd) : FnOk P w K mg base (L2.CX P w) 1 (He.fAd K ("quoted", none)) fd ["text"] (sp_quoted K) := by
  refine F.ok sc_quoted (fun vs H Q E h => h.1) (fun cdv A outer s H vs Q E hr h => ⟨_, ?_, h.2⟩)
  refine PSs.nox ?_
  exact (pss_cons (ps_set (i := 1) sc_quoted.nd rfl (by first | exact Or.inl rfl | exact Or.inr rfl) (pe_lst (pa_cons (pe_strE e_x22) pa_nil)))
        (pss_cons (ps_for PassesOwn.never rfl (pi_any (pv 0)) (pg_name (i := 2) sc_quoted.nd rfl (by first | exact Or.inl rfl | exact Or.inr rfl))
        (C8.pss_cut (ps_if (pt_cmpR op_inX (pv 2) (pe_tup (pa_cons (pe_strE e_x22) (pa_cons (pe_strE e_x5c) pa_nil))) (by rfl))
        (pss_one (ps_expr (pe_bm PySem.F.plainAttrs_list PySem.F.slot_list_append PySem.F.type_list_append mt_append (pv 1) (pa_cons (pe_strE e_x5c) pa_nil))))
        pss_nil)
        (pss_one (ps_expr (pe_bm PySem.F.plainAttrs_list PySem.F.slot_list_append PySem.F.type_list_append mt_append (pv 1) (pa_cons (pv 2) pa_nil))))))
        (pss_cons (ps_expr (pe_bm PySem.F.plainAttrs_list PySem.F.slot_list_append PySem.F.type_list_append mt_append (pv 1) (pa_cons (pe_strE e_x22) pa_nil)))
        (pss_one (ps_ret (pe_join (pe_strE e_empty) (pv 1)))))))
theorem Tx.ok_quoted (T : Tx K mg) : Cl P w K mg base 1 "quoted" (sp_quoted K) [] := by
  obtain ⟨fd, F⟩ := T.d_quoted
  have ok := fn_quoted (P := P) (w := w) (base := base) T F
  exact ⟨_, fd, _, [], ok, T.g_quoted, F.kp, (FunD.bindsN F fun _ _ _ _ _ _ us hl => match us, hl with | [_], _ => rfl), .nil⟩
theorem fn_TextSort_written (T : Tx K mg) {fd : FuncData} (F : FunD K "written" "TextSort.written" (defArgs s_TextSort_written) (defBody s_TextSort_written) (defScope s_TextSort_written) [] [] (He.fAd K ("TextSort", some "written")) fd) : FnOk P w K mg base (L2.CX P w) 2 (He.fAd K ("TextSort", some "written")) fd ["self"] (sp_TextSort_written K) := by
  refine F.ok sc_TextSort_written (fun vs H Q E h => h.1) (fun cdv A outer s H vs Q E hr h => ⟨_, ?_, h.2⟩)
  refine PSs.nox ?_
  exact (pss_cons (ps_if (pt_cmpR op_isX (pe_fld (pv 0) rfl) pe_non (nomark _))
        (pss_one (ps_ret (pe_joinE (.cons (pe_strE e_text_) (.cons (pe_fmt (pe_fld (pv 0) rfl)) .nil)))))
        pss_nil)
        (pss_one (ps_ret (pe_joinE (.cons (pe_strE e_text_) (.cons (pe_fmt (pe_fld (pv 0) rfl)) (.cons (pe_strE e__without_) (.cons (pe_fmt (pe_cl (T.ok_quoted (P := P)) hr (by decide) (fun _ => pz) rfl (pa_cons (pe_fld (pv 0) rfl) pa_nil))) .nil))))))))
theorem Tx.ok_TextSort_written (T : Tx K mg) : Mt P w K mg base 2 (He.ga K ("TextSort" : Str)) "written" (sp_TextSort_written K) [] := by
  obtain ⟨fd, F⟩ := T.d_TextSort_written
  have ok := fn_TextSort_written (P := P) (w := w) (base := base) T F
  exact ⟨_, fd, _, [], T.cl_TextSort, T.me_TextSort_written, ok, (FunD.bindsN F fun _ _ _ _ _ _ us hl => match us, hl with | [_], _ => rfl), .nil⟩
theorem fn_ChoiceSort_written (T : Tx K mg) {fd : FuncData} (F : FunD K "written" "ChoiceSort.written" (defArgs s_ChoiceSort_written) (defBody s_ChoiceSort_written) (defScope s_ChoiceSort_written) [] [] (He.fAd K ("ChoiceSort", some "written")) fd) : FnOk P w K mg base (L2.CX P w) 2 (He.fAd K ("ChoiceSort", some "written")) fd ["self"] (sp_ChoiceSort_written K) := by
  refine F.ok sc_ChoiceSort_written (fun vs H Q E h => h.1) (fun cdv A outer s H vs Q E hr h => ⟨_, ?_, h.2⟩)
  refine PSs.nox ?_
  exact (pss_one (ps_ret (pe_op op_addX (pe_strE e_one_of_) (pe_join (pe_strE e_x2c_) (pe_lc (own := [("choice", 1)]) rfl sc_ChoiceSort_written.nd (pi_any (pe_fld (pv 0) rfl)) (blkOk_by (N := ["self", "choice"]) (sc := defScope s_ChoiceSort_written) (own := [("choice", 1)]) (by decide +kernel)) (fun _ _ _ _ _ => (pg_name (i := 1) sc_ChoiceSort_written.nd rfl (by first | exact Or.inl rfl | exact Or.inr rfl))) (fun _ _ _ _ _ => pts_nil) (fun _ _ _ _ _ => (pe_cl (T.ok_quoted (P := P)) hr (by decide) (fun _ => pz) rfl (pa_cons (pv 1) pa_nil))))))))
theorem Tx.ok_ChoiceSort_written (T : Tx K mg) : Mt P w K mg base 2 (He.ga K ("ChoiceSort" : Str)) "written" (sp_ChoiceSort_written K) [] := by
  obtain ⟨fd, F⟩ := T.d_ChoiceSort_written
  have ok := fn_ChoiceSort_written (P := P) (w := w) (base := base) T F
  exact ⟨_, fd, _, [], T.cl_ChoiceSort, T.me_ChoiceSort_written, ok, (FunD.bindsN F fun _ _ _ _ _ _ us hl => match us, hl with | [_], _ => rfl), .nil⟩
theorem fn_RefSort_written (T : Tx K mg) {fd : FuncData} (F : FunD K "written" "RefSort.written" (defArgs s_RefSort_written) (defBody s_RefSort_written) (defScope s_RefSort_written) [] [] (He.fAd K ("RefSort", some "written")) fd) : FnOk P w K mg base (L2.CX P w) 1 (He.fAd K ("RefSort", some "written")) fd ["self"] (sp_RefSort_written K) := by
  refine F.ok sc_RefSort_written (fun vs H Q E h => h.1) (fun cdv A outer s H vs Q E hr h => ⟨_, ?_, h.2⟩)
  refine PSs.nox ?_
  exact (pss_cons (ps_set (i := 1) sc_RefSort_written.nd rfl (by first | exact Or.inl rfl | exact Or.inr rfl) (pe_op op_addX (pe_strE e_ref_) (pe_join (pe_strE e__or_) (pe_fld (pv 0) rfl))))
        (pss_cons (ps_if (pt_cmpR (op_eqX hr.units) (pe_fld (pv 0) rfl) (pe_strE e_clears) (nomark _))
        (pss_one (ps_ret (pv 1)))
        pss_nil)
        (pss_one (ps_ret (pe_op op_addX (pe_op op_addX (pv 1) (pe_strE e__)) (pe_fld (pv 0) rfl))))))
theorem Tx.ok_RefSort_written (T : Tx K mg) : Mt P w K mg base 1 (He.ga K ("RefSort" : Str)) "written" (sp_RefSort_written K) [] := by
  obtain ⟨fd, F⟩ := T.d_RefSort_written
  have ok := fn_RefSort_written (P := P) (w := w) (base := base) T F
  exact ⟨_, fd, _, [], T.cl_RefSort, T.me_RefSort_written, ok, (FunD.bindsN F fun _ _ _ _ _ _ us hl => match us, hl with | [_], _ => rfl), .nil⟩
theorem fn_ListSort_written (T : Tx K mg) {fd : FuncData} (F : FunD K "written" "ListSort.written" (defArgs s_ListSort_written) (defBody s_ListSort_written) (defScope s_ListSort_written) [] [] (He.fAd K ("ListSort", some "written")) fd) : FnOk P w K mg base (L2.CX P w) 1 (He.fAd K ("ListSort", some "written")) fd ["self"] (sp_ListSort_written K) := by
  refine F.ok sc_ListSort_written (fun vs H Q E h => h.1) (fun cdv A outer s H vs Q E hr h => ⟨_, ?_, h.2⟩)
  refine PSs.nox ?_
  exact (pss_one (ps_ret (pe_op op_addX (pe_strE e_list_) (pe_join (pe_strE e__or_) (pe_fld (pv 0) rfl)))))
theorem Tx.ok_ListSort_written (T : Tx K mg) : Mt P w K mg base 1 (He.ga K ("ListSort" : Str)) "written" (sp_ListSort_written K) [] := by
  obtain ⟨fd, F⟩ := T.d_ListSort_written
  have ok := fn_ListSort_written (P := P) (w := w) (base := base) T F
  exact ⟨_, fd, _, [], T.cl_ListSort, T.me_ListSort_written, ok, (FunD.bindsN F fun _ _ _ _ _ _ us hl => match us, hl with | [_], _ => rfl), .nil⟩
theorem fn_Field_written (T : Tx K mg) {fd : FuncData} (F : FunD K "written" "Field.written" (defArgs s_Field_written) (defBody s_Field_written) (defScope s_Field_written) [] [] (He.fAd K ("Field", some "written")) fd) : FnOk P w K mg base (L2.CX P w) 3 (He.fAd K ("Field", some "written")) fd ["self"] (sp_Field_written K) := by
  refine F.ok sc_Field_written (fun vs H Q E h => h.1) (fun cdv A outer s H vs Q E hr h => ⟨_, ?_, h.2⟩)
  refine PSs.nox ?_
  exact (pss_cons (ps_set (i := 1) sc_Field_written.nd rfl (by first | exact Or.inl rfl | exact Or.inr rfl) (pe_op op_addX (pe_op op_addX (pe_fld (pv 0) rfl) (pe_strE e_x3a_)) (pe_or2 (pe_or2 (pe_or2 (pe_or2 (pe_mt0 (T.ok_IntSort_written (P := P)) hr (by decide) (fun _ => pz) (pe_fld (pv 0) rfl)) (pe_mt0 (T.ok_TextSort_written (P := P)) hr (by decide) (fun _ => pz) (pe_fld (pv 0) rfl))) (pe_mt0 (T.ok_ChoiceSort_written (P := P)) hr (by decide) (fun _ => pz) (pe_fld (pv 0) rfl))) (pe_mt0 (T.ok_RefSort_written (P := P)) hr (by decide) (fun _ => pz) (pe_fld (pv 0) rfl))) (pe_mt0 (T.ok_ListSort_written (P := P)) hr (by decide) (fun _ => pz) (pe_fld (pv 0) rfl)))))
        (C8.pss_cut (ps_if (pt_truth (pe_fld (pv 0) rfl) fun _ => rfl)
        (pss_one (ps_set (i := 1) sc_Field_written.nd rfl (by first | exact Or.inl rfl | exact Or.inr rfl) (pe_op op_addX (pv 1) (pe_strE e__not_null))))
        pss_nil)
        (pss_one (ps_ret (pe_op op_addX (pv 1) (pe_strE e_x3b))))))
theorem Tx.ok_Field_written (T : Tx K mg) : Mt P w K mg base 3 (He.ga K ("Field" : Str)) "written" (sp_Field_written K) [] := by
  obtain ⟨fd, F⟩ := T.d_Field_written
  have ok := fn_Field_written (P := P) (w := w) (base := base) T F
  exact ⟨_, fd, _, [], T.cl_Field, T.me_Field_written, ok, (FunD.bindsN F fun _ _ _ _ _ _ us hl => match us, hl with | [_], _ => rfl), .nil⟩
theorem fn_Kind_written (T : Tx K mg) {fd : FuncData} (F : FunD K "written" "Kind.written" (defArgs s_Kind_written) (defBody s_Kind_written) (defScope s_Kind_written) [] [] (He.fAd K ("Kind", some "written")) fd) : FnOk P w K mg base (L2.CX P w) 4 (He.fAd K ("Kind", some "written")) fd ["self"] (sp_Kind_written K) := by
  refine F.ok sc_Kind_written (fun vs H Q E h => h.1) (fun cdv A outer s H vs Q E hr h => ⟨_, ?_, h.2⟩)
  refine PSs.nox ?_
  exact (pss_cons (ps_setLc (i := 1) (own := [("field", 2)]) rfl sc_Kind_written.nd rfl rfl (sw_true rfl rfl rfl (by decide +kernel)) (pi_any (pe_fld (pv 0) rfl)) (blkOk_by (N := ["self", "parts", "field", "names"]) (sc := defScope s_Kind_written) (own := [("field", 2)]) (by decide +kernel)) (fun _ _ _ _ _ => (pg_name (i := 2) sc_Kind_written.nd rfl (by first | exact Or.inl rfl | exact Or.inr rfl))) (fun _ _ _ _ _ => pts_nil) (fun _ _ _ _ _ => (pe_mt0 (T.ok_Field_written (P := P)) hr (by decide) (fun _ => pz) (pv 2))))
        (pss_cons (ps_for PassesOwn.never rfl (pi_any (pe_fld (pv 0) rfl)) (pg_name (i := 3) sc_Kind_written.nd rfl (by first | exact Or.inl rfl | exact Or.inr rfl))
        (pss_one (ps_expr (pe_bm PySem.F.plainAttrs_list PySem.F.slot_list_append PySem.F.type_list_append mt_append (pv 1) (pa_cons (pe_op op_addX (pe_op op_addX (pe_strE e_key_) (pe_join (pe_strE e_x2c_) (pv 3))) (pe_strE e_x3b)) pa_nil)))))
        (pss_one (ps_ret (pe_join (pe_strE e__) (pe_op op_addX (pe_op op_addX (pe_lst (pa_cons (pe_op op_addX (pe_op op_addX (pe_strE e_kind_) (pe_fld (pv 0) rfl)) (pe_strE e__x7b)) pa_nil)) (pv 1)) (pe_lst (pa_cons (pe_strE e_x7d) pa_nil))))))))
theorem Tx.ok_Kind_written (T : Tx K mg) : Mt P w K mg base 4 (He.ga K ("Kind" : Str)) "written" (sp_Kind_written K) [] := by
  obtain ⟨fd, F⟩ := T.d_Kind_written
  have ok := fn_Kind_written (P := P) (w := w) (base := base) T F
  exact ⟨_, fd, _, [], T.cl_Kind, T.me_Kind_written, ok, (FunD.bindsN F fun _ _ _ _ _ _ us hl => match us, hl with | [_], _ => rfl), .nil⟩
theorem fn_Schema_written (T : Tx K mg) {fd : FuncData} (F : FunD K "written" "Schema.written" (defArgs s_Schema_written) (defBody s_Schema_written) (defScope s_Schema_written) [] [] (He.fAd K ("Schema", some "written")) fd) : FnOk P w K mg base (L2.CX P w) 5 (He.fAd K ("Schema", some "written")) fd ["self"] (sp_Schema_written K) := by
  refine F.ok sc_Schema_written (fun vs H Q E h => h.1) (fun cdv A outer s H vs Q E hr h => ⟨_, ?_, h.2⟩)
  refine PSs.nox ?_
  exact (pss_one (ps_ret (pe_join (pe_strE e__) (pe_lc (own := [("kind", 1)]) rfl sc_Schema_written.nd (pi_any (pe_fld (pv 0) rfl)) (blkOk_by (N := ["self", "kind"]) (sc := defScope s_Schema_written) (own := [("kind", 1)]) (by decide +kernel)) (fun _ _ _ _ _ => (pg_name (i := 1) sc_Schema_written.nd rfl (by first | exact Or.inl rfl | exact Or.inr rfl))) (fun _ _ _ _ _ => pts_nil) (fun _ _ _ _ _ => (pe_mt0 (T.ok_Kind_written (P := P)) hr (by decide) (fun _ => pz) (pv 1)))))))
theorem Tx.ok_Schema_written (T : Tx K mg) : Mt P w K mg base 5 (He.ga K ("Schema" : Str)) "written" (sp_Schema_written K) [] := by
  obtain ⟨fd, F⟩ := T.d_Schema_written
  have ok := fn_Schema_written (P := P) (w := w) (base := base) T F
  exact ⟨_, fd, _, [], T.cl_Schema, T.me_Schema_written, ok, (FunD.bindsN F fun _ _ _ _ _ _ us hl => match us, hl with | [_], _ => rfl), .nil⟩
theorem fn_write_schema (T : Tx K mg) {fd : FuncData} (F : FunD K "write_schema" "write_schema" (defArgs s_write_schema) (defBody s_write_schema) (defScope s_write_schema) [] [] (He.fAd K ("write_schema", none)) fd) : FnOk P w K mg base (L2.CX P w) 6 (He.fAd K ("write_schema", none)) fd ["schema"] (sp_write_schema K) := by
  refine F.ok sc_write_schema (fun vs H Q E h => h.1) (fun cdv A outer s H vs Q E hr h => ⟨_, ?_, h.2⟩)
  refine PSs.nox ?_
  exact (pss_one (ps_ret (pe_mt0 (T.ok_Schema_written (P := P)) hr (by decide) (fun _ => pz) (pv 0))))
theorem Tx.ok_write_schema (T : Tx K mg) : Cl P w K mg base 6 "write_schema" (sp_write_schema K) [] := by
  obtain ⟨fd, F⟩ := T.d_write_schema
  have ok := fn_write_schema (P := P) (w := w) (base := base) T F
  exact ⟨_, fd, _, [], ok, T.g_write_schema, F.kp, (FunD.bindsN F fun _ _ _ _ _ _ us hl => match us, hl with | [_], _ => rfl), .nil⟩
theorem fn_Kind_names (T : Tx K mg) {fd : FuncData} (F : FunD K "names" "Kind.names" (defArgs s_Kind_names) (defBody s_Kind_names) (defScope s_Kind_names) [] [] (He.fAd K ("Kind", some "names")) fd) : FnOk P w K mg base (L2.CX P w) 1 (He.fAd K ("Kind", some "names")) fd ["self"] (sp_Kind_names K) := by
  refine F.ok sc_Kind_names (fun vs H Q E h => h.1) (fun cdv A outer s H vs Q E hr h => ⟨_, ?_, h.2⟩)
  refine PSs.nox ?_
  exact (pss_one (ps_ret (pe_lc (own := [("field", 1)]) rfl sc_Kind_names.nd (pi_any (pe_fld (pv 0) rfl)) (blkOk_by (N := ["self", "field"]) (sc := defScope s_Kind_names) (own := [("field", 1)]) (by decide +kernel)) (fun _ _ _ _ _ => (pg_name (i := 1) sc_Kind_names.nd rfl (by first | exact Or.inl rfl | exact Or.inr rfl))) (fun _ _ _ _ _ => pts_nil) (fun _ _ _ _ _ => (pe_fld (pv 1) rfl)))))
theorem Tx.ok_Kind_names (T : Tx K mg) : Mt P w K mg base 1 (He.ga K ("Kind" : Str)) "names" (sp_Kind_names K) [] := by
  obtain ⟨fd, F⟩ := T.d_Kind_names
  have ok := fn_Kind_names (P := P) (w := w) (base := base) T F
  exact ⟨_, fd, _, [], T.cl_Kind, T.me_Kind_names, ok, (FunD.bindsN F fun _ _ _ _ _ _ us hl => match us, hl with | [_], _ => rfl), .nil⟩
theorem fn_Schema_names (T : Tx K mg) {fd : FuncData} (F : FunD K "names" "Schema.names" (defArgs s_Schema_names) (defBody s_Schema_names) (defScope s_Schema_names) [] [] (He.fAd K ("Schema", some "names")) fd) : FnOk P w K mg base (L2.CX P w) 1 (He.fAd K ("Schema", some "names")) fd ["self"] (sp_Schema_names K) := by
  refine F.ok sc_Schema_names (fun vs H Q E h => h.1) (fun cdv A outer s H vs Q E hr h => ⟨_, ?_, h.2⟩)
  refine PSs.nox ?_
  exact (pss_one (ps_ret (pe_lc (own := [("kind", 1)]) rfl sc_Schema_names.nd (pi_any (pe_fld (pv 0) rfl)) (blkOk_by (N := ["self", "kind"]) (sc := defScope s_Schema_names) (own := [("kind", 1)]) (by decide +kernel)) (fun _ _ _ _ _ => (pg_name (i := 1) sc_Schema_names.nd rfl (by first | exact Or.inl rfl | exact Or.inr rfl))) (fun _ _ _ _ _ => pts_nil) (fun _ _ _ _ _ => (pe_fld (pv 1) rfl)))))
theorem Tx.ok_Schema_names (T : Tx K mg) : Mt P w K mg base 1 (He.ga K ("Schema" : Str)) "names" (sp_Schema_names K) [] := by
  obtain ⟨fd, F⟩ := T.d_Schema_names
  have ok := fn_Schema_names (P := P) (w := w) (base := base) T F
  exact ⟨_, fd, _, [], T.cl_Schema, T.me_Schema_names, ok, (FunD.bindsN F fun _ _ _ _ _ _ us hl => match us, hl with | [_], _ => rfl), .nil⟩
theorem fn_IntSort_eq (T : Tx K mg) {fd : FuncData} (F : FunD K "__eq__" "IntSort.__eq__" (defArgs s_IntSort_eq) (defBody s_IntSort_eq) (defScope s_IntSort_eq) [] [] (He.fAd K ("IntSort", some "__eq__")) fd) : FnOk P w K mg base (L2.CX P w) 1 (He.fAd K ("IntSort", some "__eq__")) fd ["self", "other"] (sp_IntSort_eq K) := by
  refine F.ok sc_IntSort_eq (fun vs H Q E h => h.1) (fun cdv A outer s H vs Q E hr h => ⟨_, ?_, h.2⟩)
  refine PSs.nox ?_
  exact (pss_cons (ps_if (pt_not (pt_truth (pe_callB call_isi (by rfl) T.b_isinstance (by decide +kernel) (pa_cons (pv 1) (pa_cons (pe_glob rfl T.gc_IntSort rfl) pa_nil))) fun _ => rfl))
        (pss_one (ps_ret pe_bl))
        pss_nil)
        (pss_one (ps_ret (pe_and (pe_cmpR (op_eqX hr.units) (pe_fld (pv 0) rfl) (pe_fld (pv 1) rfl) (nomark _)) (pe_one (pe_cmpR (op_eqX hr.units) (pe_fld (pv 0) rfl) (pe_fld (pv 1) rfl) (nomark _)))))))
theorem Tx.ok_IntSort_eq (T : Tx K mg) : Mt P w K mg base 1 (He.ga K ("IntSort" : Str)) "__eq__" (sp_IntSort_eq K) [] := by
  obtain ⟨fd, F⟩ := T.d_IntSort_eq
  have ok := fn_IntSort_eq (P := P) (w := w) (base := base) T F
  exact ⟨_, fd, _, [], T.cl_IntSort, T.me_IntSort_eq, ok, (FunD.bindsN F fun _ _ _ _ _ _ us hl => match us, hl with | [_, _], _ => rfl), .nil⟩
theorem fn_TextSort_eq (T : Tx K mg) {fd : FuncData} (F : FunD K "__eq__" "TextSort.__eq__" (defArgs s_TextSort_eq) (defBody s_TextSort_eq) (defScope s_TextSort_eq) [] [] (He.fAd K ("TextSort", some "__eq__")) fd) : FnOk P w K mg base (L2.CX P w) 1 (He.fAd K ("TextSort", some "__eq__")) fd ["self", "other"] (sp_TextSort_eq K) := by
  refine F.ok sc_TextSort_eq (fun vs H Q E h => h.1) (fun cdv A outer s H vs Q E hr h => ⟨_, ?_, h.2⟩)
  refine PSs.nox ?_
  exact (pss_cons (ps_if (pt_not (pt_truth (pe_callB call_isi (by rfl) T.b_isinstance (by decide +kernel) (pa_cons (pv 1) (pa_cons (pe_glob rfl T.gc_TextSort rfl) pa_nil))) fun _ => rfl))
        (pss_one (ps_ret pe_bl))
        pss_nil)
        (pss_one (ps_ret (pe_and (pe_cmpR (op_eqX hr.units) (pe_fld (pv 0) rfl) (pe_fld (pv 1) rfl) (nomark _)) (pe_one (pe_cmpR (op_eqX hr.units) (pe_fld (pv 0) rfl) (pe_fld (pv 1) rfl) (nomark _)))))))
theorem Tx.ok_TextSort_eq (T : Tx K mg) : Mt P w K mg base 1 (He.ga K ("TextSort" : Str)) "__eq__" (sp_TextSort_eq K) [] := by
  obtain ⟨fd, F⟩ := T.d_TextSort_eq
  have ok := fn_TextSort_eq (P := P) (w := w) (base := base) T F
  exact ⟨_, fd, _, [], T.cl_TextSort, T.me_TextSort_eq, ok, (FunD.bindsN F fun _ _ _ _ _ _ us hl => match us, hl with | [_, _], _ => rfl), .nil⟩
theorem fn_ChoiceSort_eq (T : Tx K mg) {fd : FuncData} (F : FunD K "__eq__" "ChoiceSort.__eq__" (defArgs s_ChoiceSort_eq) (defBody s_ChoiceSort_eq) (defScope s_ChoiceSort_eq) [] [] (He.fAd K ("ChoiceSort", some "__eq__")) fd) : FnOk P w K mg base (L2.CX P w) 1 (He.fAd K ("ChoiceSort", some "__eq__")) fd ["self", "other"] (sp_ChoiceSort_eq K) := by
  refine F.ok sc_ChoiceSort_eq (fun vs H Q E h => h.1) (fun cdv A outer s H vs Q E hr h => ⟨_, ?_, h.2⟩)
  refine PSs.nox ?_
  exact (pss_cons (ps_if (pt_not (pt_truth (pe_callB call_isi (by rfl) T.b_isinstance (by decide +kernel) (pa_cons (pv 1) (pa_cons (pe_glob rfl T.gc_ChoiceSort rfl) pa_nil))) fun _ => rfl))
        (pss_one (ps_ret pe_bl))
        pss_nil)
        (pss_one (ps_ret (pe_cmpR (op_eqX hr.units) (pe_fld (pv 0) rfl) (pe_fld (pv 1) rfl) (nomark _)))))
theorem Tx.ok_ChoiceSort_eq (T : Tx K mg) : Mt P w K mg base 1 (He.ga K ("ChoiceSort" : Str)) "__eq__" (sp_ChoiceSort_eq K) [] := by
  obtain ⟨fd, F⟩ := T.d_ChoiceSort_eq
  have ok := fn_ChoiceSort_eq (P := P) (w := w) (base := base) T F
  exact ⟨_, fd, _, [], T.cl_ChoiceSort, T.me_ChoiceSort_eq, ok, (FunD.bindsN F fun _ _ _ _ _ _ us hl => match us, hl with | [_, _], _ => rfl), .nil⟩
theorem fn_RefSort_eq (T : Tx K mg) {fd : FuncData} (F : FunD K "__eq__" "RefSort.__eq__" (defArgs s_RefSort_eq) (defBody s_RefSort_eq) (defScope s_RefSort_eq) [] [] (He.fAd K ("RefSort", some "__eq__")) fd) : FnOk P w K mg base (L2.CX P w) 1 (He.fAd K ("RefSort", some "__eq__")) fd ["self", "other"] (sp_RefSort_eq K) := by
  refine F.ok sc_RefSort_eq (fun vs H Q E h => h.1) (fun cdv A outer s H vs Q E hr h => ⟨_, ?_, h.2⟩)
  refine PSs.nox ?_
  exact (pss_cons (ps_if (pt_not (pt_truth (pe_callB call_isi (by rfl) T.b_isinstance (by decide +kernel) (pa_cons (pv 1) (pa_cons (pe_glob rfl T.gc_RefSort rfl) pa_nil))) fun _ => rfl))
        (pss_one (ps_ret pe_bl))
        pss_nil)
        (pss_one (ps_ret (pe_and (pe_cmpR (op_eqX hr.units) (pe_fld (pv 0) rfl) (pe_fld (pv 1) rfl) (nomark _)) (pe_one (pe_cmpR (op_eqX hr.units) (pe_fld (pv 0) rfl) (pe_fld (pv 1) rfl) (nomark _)))))))
theorem Tx.ok_RefSort_eq (T : Tx K mg) : Mt P w K mg base 1 (He.ga K ("RefSort" : Str)) "__eq__" (sp_RefSort_eq K) [] := by
  obtain ⟨fd, F⟩ := T.d_RefSort_eq
  have ok := fn_RefSort_eq (P := P) (w := w) (base := base) T F
  exact ⟨_, fd, _, [], T.cl_RefSort, T.me_RefSort_eq, ok, (FunD.bindsN F fun _ _ _ _ _ _ us hl => match us, hl with | [_, _], _ => rfl), .nil⟩
theorem fn_ListSort_eq (T : Tx K mg) {fd : FuncData} (F : FunD K "__eq__" "ListSort.__eq__" (defArgs s_ListSort_eq) (defBody s_ListSort_eq) (defScope s_ListSort_eq) [] [] (He.fAd K ("ListSort", some "__eq__")) fd) : FnOk P w K mg base (L2.CX P w) 1 (He.fAd K ("ListSort", some "__eq__")) fd ["self", "other"] (sp_ListSort_eq K) := by
  refine F.ok sc_ListSort_eq (fun vs H Q E h => h.1) (fun cdv A outer s H vs Q E hr h => ⟨_, ?_, h.2⟩)
  refine PSs.nox ?_
  exact (pss_cons (ps_if (pt_not (pt_truth (pe_callB call_isi (by rfl) T.b_isinstance (by decide +kernel) (pa_cons (pv 1) (pa_cons (pe_glob rfl T.gc_ListSort rfl) pa_nil))) fun _ => rfl))
        (pss_one (ps_ret pe_bl))
        pss_nil)
        (pss_one (ps_ret (pe_cmpR (op_eqX hr.units) (pe_fld (pv 0) rfl) (pe_fld (pv 1) rfl) (nomark _)))))
theorem Tx.ok_ListSort_eq (T : Tx K mg) : Mt P w K mg base 1 (He.ga K ("ListSort" : Str)) "__eq__" (sp_ListSort_eq K) [] := by
  obtain ⟨fd, F⟩ := T.d_ListSort_eq
  have ok := fn_ListSort_eq (P := P) (w := w) (base := base) T F
  exact ⟨_, fd, _, [], T.cl_ListSort, T.me_ListSort_eq, ok, (FunD.bindsN F fun _ _ _ _ _ _ us hl => match us, hl with | [_, _], _ => rfl), .nil⟩
theorem fn__law_alike (T : Tx K mg) {fd : FuncData} (F : FunD K "_law_alike" "_law_alike" (defArgs s__law_alike) (defBody s__law_alike) (defScope s__law_alike) [] [] (He.fAd K ("_law_alike", none)) fd) : FnOk P w K mg base (L2.CX P w) 3 (He.fAd K ("_law_alike", none)) fd ["_law_one", "_law_two"] (sp__law_alike K) := by
  refine F.ok sc__law_alike (fun vs H Q E h => h.1) (fun cdv A outer s H vs Q E hr h => ⟨_, ?_, h.2⟩)
  refine PSs.nox ?_
  exact (pss_cons (ps_if (pt_cmpR (op_neX hr.units) (pe_or2 (pe_mt0 (T.ok_Kind_names (P := P)) hr (by decide) (fun _ => pz) (pv 0)) (pe_mt0 (T.ok_Schema_names (P := P)) hr (by decide) (fun _ => pz) (pv 0))) (pe_or2 (pe_mt0 (T.ok_Kind_names (P := P)) hr (by decide) (fun _ => pz) (pv 1)) (pe_mt0 (T.ok_Schema_names (P := P)) hr (by decide) (fun _ => pz) (pv 1))) (nomark _))
        (pss_one (ps_ret pe_bl))
        pss_nil)
        (pss_cons (ps_for PassesOwn.never rfl (pi_range1 rfl T.b_range (pa_cons (pe_callB call_len (by rfl) T.b_len boot_len (pa_cons (pe_fld (pv 0) rfl) pa_nil)) pa_nil)) (pg_name (i := 2) sc__law_alike.nd rfl (by first | exact Or.inl rfl | exact Or.inr rfl))
        (pss_cons (ps_if (PW.pt (pw_or (pt_cmpR (op_neX hr.units) (pe_or2 (pe_mt0 (T.ok_Kind_names (P := P)) hr (by decide) (fun _ => pz) (pe_ix ix_seq (pe_fld (pv 0) rfl) (pv 2) fun _ _ => rfl)) (pe_mt0 (T.ok_Schema_names (P := P)) hr (by decide) (fun _ => pz) (pe_ix ix_seq (pe_fld (pv 0) rfl) (pv 2) fun _ _ => rfl))) (pe_or2 (pe_mt0 (T.ok_Kind_names (P := P)) hr (by decide) (fun _ => pz) (pe_ix ix_seq (pe_fld (pv 1) rfl) (pv 2) fun _ _ => rfl)) (pe_mt0 (T.ok_Schema_names (P := P)) hr (by decide) (fun _ => pz) (pe_ix ix_seq (pe_fld (pv 1) rfl) (pv 2) fun _ _ => rfl))) (nomark _)) (pw_or1 (pt_cmpR (op_neX hr.units) (pe_fld (pe_ix ix_seq (pe_fld (pv 0) rfl) (pv 2) fun _ _ => rfl) rfl) (pe_fld (pe_ix ix_seq (pe_fld (pv 1) rfl) (pv 2) fun _ _ => rfl) rfl) (nomark _)))))
        (pss_one (ps_ret pe_bl))
        pss_nil)
        (pss_one (ps_for PassesOwn.never rfl (pi_range1 rfl T.b_range (pa_cons (pe_callB call_len (by rfl) T.b_len boot_len (pa_cons (pe_fld (pe_ix ix_seq (pe_fld (pv 0) rfl) (pv 2) fun _ _ => rfl) rfl) pa_nil)) pa_nil)) (pg_name (i := 3) sc__law_alike.nd rfl (by first | exact Or.inl rfl | exact Or.inr rfl))
        (pss_cons (ps_if (pt_cmpR (op_or2 (op_neMt (T.ok_IntSort_eq (P := P)) T.ne_IntSort hr (by decide)) (op_or2 (op_neMt (T.ok_TextSort_eq (P := P)) T.ne_TextSort hr (by decide)) (op_or2 (op_neMt (T.ok_ChoiceSort_eq (P := P)) T.ne_ChoiceSort hr (by decide)) (op_or2 (op_neMt (T.ok_RefSort_eq (P := P)) T.ne_RefSort hr (by decide)) (op_neMt (T.ok_ListSort_eq (P := P)) T.ne_ListSort hr (by decide)))))) (pe_fld (pe_ix ix_seq (pe_fld (pe_ix ix_seq (pe_fld (pv 0) rfl) (pv 2) fun _ _ => rfl) rfl) (pv 3) fun _ _ => rfl) rfl) (pe_fld (pe_ix ix_seq (pe_fld (pe_ix ix_seq (pe_fld (pv 1) rfl) (pv 2) fun _ _ => rfl) rfl) (pv 3) fun _ _ => rfl) rfl) (nomark _))
        (pss_one (ps_ret pe_bl))
        pss_nil)
        (pss_one (ps_if (pt_cmpR (op_neX hr.units) (pe_fld (pe_ix ix_seq (pe_fld (pe_ix ix_seq (pe_fld (pv 0) rfl) (pv 2) fun _ _ => rfl) rfl) (pv 3) fun _ _ => rfl) rfl) (pe_fld (pe_ix ix_seq (pe_fld (pe_ix ix_seq (pe_fld (pv 1) rfl) (pv 2) fun _ _ => rfl) rfl) (pv 3) fun _ _ => rfl) rfl) (nomark _))
        (pss_one (ps_ret pe_bl))
        pss_nil)))))))
        (pss_one (ps_ret pe_bl))))
theorem Tx.ok__law_alike (T : Tx K mg) : Cl P w K mg base 3 "_law_alike" (sp__law_alike K) [] := by
  obtain ⟨fd, F⟩ := T.d__law_alike
  have ok := fn__law_alike (P := P) (w := w) (base := base) T F
  exact ⟨_, fd, _, [], ok, T.g__law_alike, F.kp, (FunD.bindsN F fun _ _ _ _ _ _ us hl => match us, hl with | [_, _], _ => rfl), .nil⟩
theorem fn_law (T : Tx K mg) {fd : FuncData} (F : FunD K "law" "law" (defArgs s_law) (defBody s_law) (defScope s_law) [] [] (He.fAd K ("law", none)) fd) : FnOk P w K mg base (L2.CX P w) 10 (He.fAd K ("law", none)) fd ["_law_script"] (sp_law K) := by
  refine F.ok sc_law (fun vs H Q E h => h.1) (fun cdv A outer s H vs Q E hr h => ⟨_, ?_, h.2⟩)
  have tk : Takes (cxOf (L2.CX P w) P w K mg base ["_law_script", "_law_draws", "_law_text_here", "_law_turn", "_law_found", "e", "_law_told", "_law_again"] "law" (defScope s_law) (He.fAd K ("law", none)) cdv A outer s H E) (fun cls d _ H => E cls d H) := takes_of rfl rfl rfl rfl
  have po : PassesOwn (model _ _) _ _ (cxOf (L2.CX P w) P w K mg base ["_law_script", "_law_draws", "_law_text_here", "_law_turn", "_law_found", "e", "_law_told", "_law_again"] "law" (defScope s_law) (He.fAd K ("law", none)) cdv A outer s H E).xe := passes_of rfl
  exact (pss_cons (ps_set (i := 1) sc_law.nd rfl (by first | exact Or.inl rfl | exact Or.inr rfl) (pe_cl (T.ok__law_cells (P := P)) hr (by decide) (fun _ => pz) rfl (pa_cons (pv 0) (pa_cons pe_int pa_nil))))
        (pss_cons (ps_set (i := 2) sc_law.nd rfl (by first | exact Or.inl rfl | exact Or.inr rfl) (pe_cl (T.ok__law_text (P := P)) hr (by decide) (fun _ => pz) rfl (pa_cons (pe_cl (T.ok__law_schema (P := P)) hr (by decide) (fun _ => pz) rfl (pa_cons (pv 1) pa_nil)) pa_nil)))
        (pss_cons (ps_for po rfl (pi_range1 rfl T.b_range (pa_cons (pe_cl (T.ok__law_draw (P := P)) hr (by decide) (fun _ => pz) rfl (pa_cons (pv 1) (pa_cons pe_int pa_nil))) pa_nil)) (pg_name (i := 3) sc_law.nd rfl (by first | exact Or.inl rfl | exact Or.inr rfl))
        (pss_one (ps_set (i := 2) sc_law.nd rfl (by first | exact Or.inl rfl | exact Or.inr rfl) (pe_cl (T.ok__law_changed (P := P)) hr (by decide) (fun _ => pz) rfl (pa_cons (pv 1) (pa_cons (pv 2) pa_nil))))))
        (C8.pss_cut (ps_try_as (i := 5) (tb := fun W => (tAsg (tCallSD (sp_read_schema K) [] (WE W) (tCons (tVar 2) tNil)) (gName 4))) (ts := fun a cls d => (tRet (tAndV (tCB (rIsF K (He.ga K "Fault") a cls d) (tCons (tVar 5) (tCons (tC (.ref (He.ga K ("HeapError" : Str)))) tNil))) (tAndV (tChain rLeX rLeX (tC (.int 0)) (tXf a cls d (He.ga K "Fault") ("place" : Str) (tVar 5)) (tCB (rLen K) (tCons (tVar 2) tNil))) (tCB (rIsi K) (tCons (tXf a cls d (He.ga K "Fault") ("reason" : Str) (tVar 5)) (tCons (tC (.ty "str")) tNil))))))) rfl rfl sc_law.nd rfl rfl ⟨rfl, by decide, Or.inl (T.fau.txt P).gC⟩ tk
        (fun W pn xe tk po => (pss_one (ps_set (i := 4) sc_law.nd rfl (by first | exact Or.inl rfl | exact Or.inr rfl) (pe_cl (T.ok_read_schema (P := P)) hr (by decide) (fun σ => passAt tk σ) rfl (pa_cons (pv 2) pa_nil)))))
        (fun a oe cls d pn hz hf => (pss_one (ps_ret (pe_and (pe_callB (call_isF (T.fau.txt P) T.if_Fault hz hf) (by rfl) T.b_isinstance (by decide +kernel) (pa_cons (pv 5) (pa_cons (pe_glob rfl T.gc_HeapError rfl) pa_nil))) (pe_and (pe_chain op_leX op_leX pe_int (pe_xf (xfc_of (T.fau.txt P)) (T.fau.txt P).noP hz hf (pv 5)) (pe_callB call_len (by rfl) T.b_len boot_len (pa_cons (pv 2) pa_nil))) (pe_one (pe_callB call_isi (by rfl) T.b_isinstance (by decide +kernel) (pa_cons (pe_xf (xfc_of (T.fau.txt P)) (T.fau.txt P).noR hz hf (pv 5)) (pa_cons (pe_bltn (by rfl) T.b_str (by decide +kernel) rfl) pa_nil))))))))))
        (pss_cons (ps_set (i := 6) sc_law.nd rfl (by first | exact Or.inl rfl | exact Or.inr rfl) (pe_cl (T.ok_write_schema (P := P)) hr (by decide) (fun _ => pz) rfl (pa_cons (pv 4) pa_nil)))
        (pss_cons (ps_if (PW.pt (pw_or (pt_cmpR op_gtX (pe_callB call_len (by rfl) T.b_len boot_len (pa_cons (pv 2) pa_nil)) pe_int (nomark _)) (pw_or1 (pt_cmpR op_gtX (pe_callB call_len (by rfl) T.b_len boot_len (pa_cons (pv 6) pa_nil)) pe_int (nomark _)))))
        (pss_one (ps_ret (pe_cmpR op_leX (pe_callB call_len (by rfl) T.b_len boot_len (pa_cons (pv 2) pa_nil)) pe_int (nomark _))))
        pss_nil)
        (pss_cons (ps_set (i := 7) sc_law.nd rfl (by first | exact Or.inl rfl | exact Or.inr rfl) (pe_cl (T.ok_read_schema (P := P)) hr (by decide) (fun σ => passAt tk σ) rfl (pa_cons (pv 6) pa_nil)))
        (pss_one (ps_ret (pe_and (pe_cmpR (op_eqX hr.units) (pe_cl (T.ok_write_schema (P := P)) hr (by decide) (fun _ => pz) rfl (pa_cons (pv 7) pa_nil)) (pv 6) (nomark _)) (pe_one (pe_cl (T.ok__law_alike (P := P)) hr (by decide) (fun _ => pz) rfl (pa_cons (pv 4) (pa_cons (pv 7) pa_nil))))))))))))))
theorem Tx.law (T : Tx K mg) : ∃ fd : FuncData, (∀ (s : Shared) (u : Value), BindsTo s fd ⟨[u], []⟩ [("_law_script", u)]) ∧ ∀ base : Heap, FnOk P w K mg base (L2.CX P w) 10 (He.ga K "law") fd ["_law_script"] (sp_law K) := by
  obtain ⟨fd, F⟩ := T.d_law
  have b := FunD.bindsA (ps := ["_law_script"]) F fun _ _ _ _ _ _ us hl => match us, hl with | [_], _ => rfl
  exact ⟨fd, fun s v => b s [v] rfl, fun base => fn_law T F⟩
end
end Lw

namespace Lw
open PySem PySem.W PySem.Calls PySem.Spec PyProof.Rows L2 G
def dd__law_cells : He.DefD := ⟨("_law_cells", none), "_law_cells", "_law_cells", defArgs s__law_cells, defBody s__law_cells, defScope s__law_cells, [], []⟩
def dd__law_quote : He.DefD := ⟨("_law_quote", none), "_law_quote", "_law_quote", defArgs s__law_quote, defBody s__law_quote, defScope s__law_quote, [], []⟩
def dd__law_shape_text : He.DefD := ⟨("_law_shape_text", none), "_law_shape_text", "_law_shape_text", defArgs s__law_shape_text, defBody s__law_shape_text, defScope s__law_shape_text, [], []⟩
def dd__law_field_text : He.DefD := ⟨("_law_field_text", none), "_law_field_text", "_law_field_text", defArgs s__law_field_text, defBody s__law_field_text, defScope s__law_field_text, [], []⟩
def dd__law_kind_text : He.DefD := ⟨("_law_kind_text", none), "_law_kind_text", "_law_kind_text", defArgs s__law_kind_text, defBody s__law_kind_text, defScope s__law_kind_text, [], []⟩
def dd__law_text : He.DefD := ⟨("_law_text", none), "_law_text", "_law_text", defArgs s__law_text, defBody s__law_text, defScope s__law_text, [], []⟩
def dd__law_draw : He.DefD := ⟨("_law_draw", none), "_law_draw", "_law_draw", defArgs s__law_draw, defBody s__law_draw, defScope s__law_draw, [], []⟩
def dd__law_pick : He.DefD := ⟨("_law_pick", none), "_law_pick", "_law_pick", defArgs s__law_pick, defBody s__law_pick, defScope s__law_pick, [], []⟩
def dd__law_shape : He.DefD := ⟨("_law_shape", none), "_law_shape", "_law_shape", defArgs s__law_shape, defBody s__law_shape, defScope s__law_shape, [], []⟩
def dd__law_kind : He.DefD := ⟨("_law_kind", none), "_law_kind", "_law_kind", defArgs s__law_kind, defBody s__law_kind, defScope s__law_kind, [], []⟩
def dd__law_schema : He.DefD := ⟨("_law_schema", none), "_law_schema", "_law_schema", defArgs s__law_schema, defBody s__law_schema, defScope s__law_schema, [], []⟩
def dd__law_changed : He.DefD := ⟨("_law_changed", none), "_law_changed", "_law_changed", defArgs s__law_changed, defBody s__law_changed, defScope s__law_changed, [], []⟩
def dd_Reader_init : He.DefD := ⟨("Reader", some "__init__"), "__init__", "Reader.__init__", defArgs s_Reader_init, defBody s_Reader_init, defScope s_Reader_init, [], []⟩
def dd_word_end : He.DefD := ⟨("word_end", none), "word_end", "word_end", defArgs s_word_end, defBody s_word_end, defScope s_word_end, [], []⟩
def dd_Token_init : He.DefD := ⟨("Token", some "__init__"), "__init__", "Token.__init__", defArgs s_Token_init, defBody s_Token_init, defScope s_Token_init, [], []⟩
def dd_read_word : He.DefD := ⟨("read_word", none), "read_word", "read_word", defArgs s_read_word, defBody s_read_word, defScope s_read_word, [], []⟩
def dd_digits_end : He.DefD := ⟨("digits_end", none), "digits_end", "digits_end", defArgs s_digits_end, defBody s_digits_end, defScope s_digits_end, [], []⟩
def dd_read_number : He.DefD := ⟨("read_number", none), "read_number", "read_number", defArgs s_read_number, defBody s_read_number, defScope s_read_number, [], []⟩
def dd_read_quoted : He.DefD := ⟨("read_quoted", none), "read_quoted", "read_quoted", defArgs s_read_quoted, defBody s_read_quoted, defScope s_read_quoted, [], []⟩
def dd_read_sign : He.DefD := ⟨("read_sign", none), "read_sign", "read_sign", defArgs s_read_sign, defBody s_read_sign, defScope s_read_sign, [], []⟩
def dd_tokens : He.DefD := ⟨("tokens", none), "tokens", "tokens", defArgs s_tokens, defBody s_tokens, defScope s_tokens, [], []⟩
def dd_Reader_is_word : He.DefD := ⟨("Reader", some "is_word"), "is_word", "Reader.is_word", defArgs s_Reader_is_word, defBody s_Reader_is_word, defScope s_Reader_is_word, [], []⟩
def dd_Reader_step : He.DefD := ⟨("Reader", some "step"), "step", "Reader.step", defArgs s_Reader_step, defBody s_Reader_step, defScope s_Reader_step, [], []⟩
def dd_Reader_take_word : He.DefD := ⟨("Reader", some "take_word"), "take_word", "Reader.take_word", defArgs s_Reader_take_word, defBody s_Reader_take_word, defScope s_Reader_take_word, [], []⟩
def dd_KindPlace_init : He.DefD := ⟨("KindPlace", some "__init__"), "__init__", "KindPlace.__init__", defArgs s_KindPlace_init, defBody s_KindPlace_init, defScope s_KindPlace_init, [], []⟩
def dd_Reader_is_name : He.DefD := ⟨("Reader", some "is_name"), "is_name", "Reader.is_name", defArgs s_Reader_is_name, defBody s_Reader_is_name, defScope s_Reader_is_name, [], []⟩
def dd_Reader_take_kind : He.DefD := ⟨("Reader", some "take_kind"), "take_kind", "Reader.take_kind", defArgs s_Reader_take_kind, defBody s_Reader_take_kind, defScope s_Reader_take_kind, [], []⟩
def dd_Reader_is_sign : He.DefD := ⟨("Reader", some "is_sign"), "is_sign", "Reader.is_sign", defArgs s_Reader_is_sign, defBody s_Reader_is_sign, defScope s_Reader_is_sign, [], []⟩
def dd_Reader_take_sign : He.DefD := ⟨("Reader", some "take_sign"), "take_sign", "Reader.take_sign", defArgs s_Reader_take_sign, defBody s_Reader_take_sign, defScope s_Reader_take_sign, [], []⟩
def dd_Reader_take_field : He.DefD := ⟨("Reader", some "take_field"), "take_field", "Reader.take_field", defArgs s_Reader_take_field, defBody s_Reader_take_field, defScope s_Reader_take_field, [], []⟩
def dd_read_key : He.DefD := ⟨("read_key", none), "read_key", "read_key", defArgs s_read_key, defBody s_read_key, defScope s_read_key, [], []⟩
def dd_Reader_take_number : He.DefD := ⟨("Reader", some "take_number"), "take_number", "Reader.take_number", defArgs s_Reader_take_number, defBody s_Reader_take_number, defScope s_Reader_take_number, [], []⟩
def dd_Reader_take_integer : He.DefD := ⟨("Reader", some "take_integer"), "take_integer", "Reader.take_integer", defArgs s_Reader_take_integer, defBody s_Reader_take_integer, defScope s_Reader_take_integer, [], []⟩
def dd_IntSort_init : He.DefD := ⟨("IntSort", some "__init__"), "__init__", "IntSort.__init__", defArgs s_IntSort_init, defBody s_IntSort_init, defScope s_IntSort_init, [], []⟩
def dd_read_int : He.DefD := ⟨("read_int", none), "read_int", "read_int", defArgs s_read_int, defBody s_read_int, defScope s_read_int, [], []⟩
def dd_TextSort_init : He.DefD := ⟨("TextSort", some "__init__"), "__init__", "TextSort.__init__", defArgs s_TextSort_init, defBody s_TextSort_init, defScope s_TextSort_init, [.non], []⟩
def dd_Reader_take_text : He.DefD := ⟨("Reader", some "take_text"), "take_text", "Reader.take_text", defArgs s_Reader_take_text, defBody s_Reader_take_text, defScope s_Reader_take_text, [], []⟩
def dd_read_text_sort : He.DefD := ⟨("read_text_sort", none), "read_text_sort", "read_text_sort", defArgs s_read_text_sort, defBody s_read_text_sort, defScope s_read_text_sort, [], []⟩
def dd_ChoiceSort_init : He.DefD := ⟨("ChoiceSort", some "__init__"), "__init__", "ChoiceSort.__init__", defArgs s_ChoiceSort_init, defBody s_ChoiceSort_init, defScope s_ChoiceSort_init, [], []⟩
def dd_read_choices : He.DefD := ⟨("read_choices", none), "read_choices", "read_choices", defArgs s_read_choices, defBody s_read_choices, defScope s_read_choices, [], []⟩
def dd_read_targets : He.DefD := ⟨("read_targets", none), "read_targets", "read_targets", defArgs s_read_targets, defBody s_read_targets, defScope s_read_targets, [], []⟩
def dd_ListSort_init : He.DefD := ⟨("ListSort", some "__init__"), "__init__", "ListSort.__init__", defArgs s_ListSort_init, defBody s_ListSort_init, defScope s_ListSort_init, [], []⟩
def dd_RefSort_init : He.DefD := ⟨("RefSort", some "__init__"), "__init__", "RefSort.__init__", defArgs s_RefSort_init, defBody s_RefSort_init, defScope s_RefSort_init, [], []⟩
def dd_read_sort : He.DefD := ⟨("read_sort", none), "read_sort", "read_sort", defArgs s_read_sort, defBody s_read_sort, defScope s_read_sort, [], []⟩
def dd_is_list : He.DefD := ⟨("is_list", none), "is_list", "is_list", defArgs s_is_list, defBody s_is_list, defScope s_is_list, [], []⟩
def dd_Field_init : He.DefD := ⟨("Field", some "__init__"), "__init__", "Field.__init__", defArgs s_Field_init, defBody s_Field_init, defScope s_Field_init, [(.bl false)], []⟩
def dd_read_field : He.DefD := ⟨("read_field", none), "read_field", "read_field", defArgs s_read_field, defBody s_read_field, defScope s_read_field, [], []⟩
def dd_read_kind : He.DefD := ⟨("read_kind", none), "read_kind", "read_kind", defArgs s_read_kind, defBody s_read_kind, defScope s_read_kind, [], []⟩
def dd_Schema_init : He.DefD := ⟨("Schema", some "__init__"), "__init__", "Schema.__init__", defArgs s_Schema_init, defBody s_Schema_init, defScope s_Schema_init, [], []⟩
def dd_check_key : He.DefD := ⟨("check_key", none), "check_key", "check_key", defArgs s_check_key, defBody s_check_key, defScope s_check_key, [], []⟩
def dd_Kind_init : He.DefD := ⟨("Kind", some "__init__"), "__init__", "Kind.__init__", defArgs s_Kind_init, defBody s_Kind_init, defScope s_Kind_init, [], []⟩
def dd_check_kind : He.DefD := ⟨("check_kind", none), "check_kind", "check_kind", defArgs s_check_kind, defBody s_check_kind, defScope s_check_kind, [], []⟩
def dd_check_kinds : He.DefD := ⟨("check_kinds", none), "check_kinds", "check_kinds", defArgs s_check_kinds, defBody s_check_kinds, defScope s_check_kinds, [], []⟩
def dd_read_schema : He.DefD := ⟨("read_schema", none), "read_schema", "read_schema", defArgs s_read_schema, defBody s_read_schema, defScope s_read_schema, [], []⟩
def dd_IntSort_written : He.DefD := ⟨("IntSort", some "written"), "written", "IntSort.written", defArgs s_IntSort_written, defBody s_IntSort_written, defScope s_IntSort_written, [], []⟩
def dd_quoted : He.DefD := ⟨("quoted", none), "quoted", "quoted", defArgs s_quoted, defBody s_quoted, defScope s_quoted, [], []⟩
def dd_TextSort_written : He.DefD := ⟨("TextSort", some "written"), "written", "TextSort.written", defArgs s_TextSort_written, defBody s_TextSort_written, defScope s_TextSort_written, [], []⟩
def dd_ChoiceSort_written : He.DefD := ⟨("ChoiceSort", some "written"), "written", "ChoiceSort.written", defArgs s_ChoiceSort_written, defBody s_ChoiceSort_written, defScope s_ChoiceSort_written, [], []⟩
def dd_RefSort_written : He.DefD := ⟨("RefSort", some "written"), "written", "RefSort.written", defArgs s_RefSort_written, defBody s_RefSort_written, defScope s_RefSort_written, [], []⟩
def dd_ListSort_written : He.DefD := ⟨("ListSort", some "written"), "written", "ListSort.written", defArgs s_ListSort_written, defBody s_ListSort_written, defScope s_ListSort_written, [], []⟩
def dd_Field_written : He.DefD := ⟨("Field", some "written"), "written", "Field.written", defArgs s_Field_written, defBody s_Field_written, defScope s_Field_written, [], []⟩
def dd_Kind_written : He.DefD := ⟨("Kind", some "written"), "written", "Kind.written", defArgs s_Kind_written, defBody s_Kind_written, defScope s_Kind_written, [], []⟩
def dd_Schema_written : He.DefD := ⟨("Schema", some "written"), "written", "Schema.written", defArgs s_Schema_written, defBody s_Schema_written, defScope s_Schema_written, [], []⟩
def dd_write_schema : He.DefD := ⟨("write_schema", none), "write_schema", "write_schema", defArgs s_write_schema, defBody s_write_schema, defScope s_write_schema, [], []⟩
def dd_Kind_names : He.DefD := ⟨("Kind", some "names"), "names", "Kind.names", defArgs s_Kind_names, defBody s_Kind_names, defScope s_Kind_names, [], []⟩
def dd_Schema_names : He.DefD := ⟨("Schema", some "names"), "names", "Schema.names", defArgs s_Schema_names, defBody s_Schema_names, defScope s_Schema_names, [], []⟩
def dd_IntSort_eq : He.DefD := ⟨("IntSort", some "__eq__"), "__eq__", "IntSort.__eq__", defArgs s_IntSort_eq, defBody s_IntSort_eq, defScope s_IntSort_eq, [], []⟩
def dd_TextSort_eq : He.DefD := ⟨("TextSort", some "__eq__"), "__eq__", "TextSort.__eq__", defArgs s_TextSort_eq, defBody s_TextSort_eq, defScope s_TextSort_eq, [], []⟩
def dd_ChoiceSort_eq : He.DefD := ⟨("ChoiceSort", some "__eq__"), "__eq__", "ChoiceSort.__eq__", defArgs s_ChoiceSort_eq, defBody s_ChoiceSort_eq, defScope s_ChoiceSort_eq, [], []⟩
def dd_RefSort_eq : He.DefD := ⟨("RefSort", some "__eq__"), "__eq__", "RefSort.__eq__", defArgs s_RefSort_eq, defBody s_RefSort_eq, defScope s_RefSort_eq, [], []⟩
def dd_ListSort_eq : He.DefD := ⟨("ListSort", some "__eq__"), "__eq__", "ListSort.__eq__", defArgs s_ListSort_eq, defBody s_ListSort_eq, defScope s_ListSort_eq, [], []⟩
def dd__law_alike : He.DefD := ⟨("_law_alike", none), "_law_alike", "_law_alike", defArgs s__law_alike, defBody s__law_alike, defScope s__law_alike, [], []⟩
def dd_law : He.DefD := ⟨("law", none), "law", "law", defArgs s_law, defBody s_law, defScope s_law, [], []⟩
def dp_Reader_now : DefP := ⟨"Reader", "now", "Reader.now", defArgs s_Reader_now, defBody s_Reader_now, defScope s_Reader_now⟩
def gs : List DefP := [dp_Reader_now]
def fn : List He.DefD := [dd__law_cells, dd__law_quote, dd__law_shape_text, dd__law_field_text, dd__law_kind_text, dd__law_text, dd__law_draw, dd__law_pick, dd__law_shape, dd__law_kind, dd__law_schema, dd__law_changed, dd_Reader_init, dd_word_end, dd_Token_init, dd_read_word, dd_digits_end, dd_read_number, dd_read_quoted, dd_read_sign, dd_tokens, dd_Reader_is_word, dd_Reader_step, dd_Reader_take_word, dd_KindPlace_init, dd_Reader_is_name, dd_Reader_take_kind, dd_Reader_is_sign, dd_Reader_take_sign, dd_Reader_take_field, dd_read_key, dd_Reader_take_number, dd_Reader_take_integer, dd_IntSort_init, dd_read_int, dd_TextSort_init, dd_Reader_take_text, dd_read_text_sort, dd_ChoiceSort_init, dd_read_choices, dd_read_targets, dd_ListSort_init, dd_RefSort_init, dd_read_sort, dd_is_list, dd_Field_init, dd_read_field, dd_read_kind, dd_Schema_init, dd_check_key, dd_Kind_init, dd_check_kind, dd_check_kinds, dd_read_schema, dd_IntSort_written, dd_quoted, dd_TextSort_written, dd_ChoiceSort_written, dd_RefSort_written, dd_ListSort_written, dd_Field_written, dd_Kind_written, dd_Schema_written, dd_write_schema, dd_Kind_names, dd_Schema_names, dd_IntSort_eq, dd_TextSort_eq, dd_ChoiceSort_eq, dd_RefSort_eq, dd_ListSort_eq, dd__law_alike, dd_law]
def fa : List He.Fa := [.glo "_law_cells", .glo "_law_quote", .glo "_law_shape_text", .glo "_law_field_text", .glo "_law_kind_text", .glo "_law_text", .glo "_law_draw", .glo "_law_pick", .glo "_law_shape", .glo "_law_kind", .glo "_law_schema", .glo "_law_changed", .glo "word_end", .glo "read_word", .glo "digits_end", .glo "read_number", .glo "read_quoted", .glo "read_sign", .glo "tokens", .glo "read_key", .glo "read_int", .glo "read_text_sort", .glo "read_choices", .glo "read_targets", .glo "read_sort", .glo "is_list", .glo "read_field", .glo "read_kind", .glo "check_key", .glo "check_kind", .glo "check_kinds", .glo "read_schema", .glo "quoted", .glo "write_schema", .glo "_law_alike", .glo "law", .free "int", .free "isinstance", .free "len", .free "list", .free "range", .free "str", .str "DIGITS" "0123456789", .str "GREAT" "ABCDEFGHIJKLMNOPQRSTUVWXYZ", .int "LARGEST" 1000000000, .str "LETTERS" "abcdefghijklmnopqrstuvwxyzABCDEFGHIJKLMNOPQRSTUVWXYZ", .int "LONGEST_SCHEMA" 1000, .int "LONGEST_TEXT" 40, .int "MOST_CHOICES" 8, .int "MOST_FIELDS" 8, .int "MOST_KEYS" 3, .int "MOST_KINDS" 8, .int "NUMBER_LENGTH" 18, .int "WORD_LENGTH" 12, .glo "Field", .cls "Field", .meth "Field" "written", .mkr "Field", .noat "Field" "name", .noat "Field" "needed", .noat "Field" "shape", .glo "Kind", .cls "Kind", .meth "Kind" "names", .meth "Kind" "written", .mkr "Kind", .noat "Kind" "fields", .noat "Kind" "key_rows", .noat "Kind" "name", .glo "Schema", .cls "Schema", .meth "Schema" "names", .meth "Schema" "written", .mkr "Schema", .noat "Schema" "kinds", .glo "Token", .cls "Token", .mkr "Token", .noat "Token" "place", .noat "Token" "role", .noat "Token" "text", .glo "IntSort", .cls "IntSort", .meth "IntSort" "__eq__", .meth "IntSort" "written", .mkr "IntSort", .noat "IntSort" "high", .noat "IntSort" "low", .glo "TextSort", .cls "TextSort", .meth "TextSort" "__eq__", .meth "TextSort" "written", .mkr "TextSort", .noat "TextSort" "longest", .noat "TextSort" "without", .glo "ChoiceSort", .cls "ChoiceSort", .meth "ChoiceSort" "__eq__", .meth "ChoiceSort" "written", .mkr "ChoiceSort", .noat "ChoiceSort" "choices", .glo "RefSort", .cls "RefSort", .meth "RefSort" "__eq__", .meth "RefSort" "written", .mkr "RefSort", .noat "RefSort" "kinds", .noat "RefSort" "rule", .glo "ListSort", .cls "ListSort", .meth "ListSort" "__eq__", .meth "ListSort" "written", .mkr "ListSort", .noat "ListSort" "kinds", .glo "Reader", .cls "Reader", .meth "Reader" "is_name", .meth "Reader" "is_sign", .meth "Reader" "is_word", .meth "Reader" "step", .meth "Reader" "take_field", .meth "Reader" "take_integer", .meth "Reader" "take_kind", .meth "Reader" "take_number", .meth "Reader" "take_sign", .meth "Reader" "take_text", .meth "Reader" "take_word", .mkr "Reader", .noat "Reader" "at", .noat "Reader" "reserved", .noat "Reader" "row", .glo "KindPlace", .cls "KindPlace", .mkr "KindPlace", .noat "KindPlace" "fields", .noat "KindPlace" "keys_read", .noat "KindPlace" "token", .glo "RESERVED", .glo "SIGNS", .glo "HeapError"]
theorem kstr {K : PySem.W.Frag} {h : Heap} {mg : Str → Option Value} (X : K.In h) (G : h.Ns mainGlobals mg) {x z z' : Str} (ez : z = z') (c : (He.Fa.str x z).ok K = true) : ∃ u, mg x = some u ∧ RelV (.str z') u := by
  obtain ⟨t, e⟩ := He.str_ok X G c
  subst ez
  exact ⟨_, e, _, rfl⟩
theorem kint {K : PySem.W.Frag} {h : Heap} {mg : Str → Option Value} (X : K.In h) (G : h.Ns mainGlobals mg) {x : Str} {z : Int} (c : (He.Fa.int x z).ok K = true) : ∃ u, mg x = some u ∧ RelV (.int z) u := by
  obtain ⟨t, e⟩ := He.int_ok X G c
  exact ⟨_, e, _, rfl⟩
def exs : List (PySem.W.Frag → Bool) := [propF "Reader" "now", fun K => He.tupB K "RESERVED" [.str "kind", .str "key", .str "not", .str "null", .str "int", .str "text", .str "without", .str "one", .str "of", .str "ref", .str "or", .str "list", .str "clears", .str "refuses", .str "takes", .str "rename", .str "new", .str "gone", .str "change", .str "else", .str "back", .str "replace", .str "by", .str "as", .str "table", .str "split", .str "join", .str "into", .str "needs", .str "drops", .str "deletes"], fun K => He.tupB K "SIGNS" [.str "{", .str "}", .str ":", .str ";", .str ",", .str "-", .str ".."], fIn "Field", fIsT "Field" "str" false, fIs "Field" "ChoiceSort" false, fIs "Field" "HeapError" false, fIs "Field" "IntSort" false, fIs "Field" "ListSort" false, fIs "Field" "RefSort" false, fIs "Field" "TextSort" false, fIn "Kind", fIsT "Kind" "str" false, fIs "Kind" "ChoiceSort" false, fIs "Kind" "HeapError" false, fIs "Kind" "IntSort" false, fIs "Kind" "ListSort" false, fIs "Kind" "RefSort" false, fIs "Kind" "TextSort" false, fIn "Schema", fIsT "Schema" "str" false, fIs "Schema" "ChoiceSort" false, fIs "Schema" "HeapError" false, fIs "Schema" "IntSort" false, fIs "Schema" "ListSort" false, fIs "Schema" "RefSort" false, fIs "Schema" "TextSort" false, fIn "Token", fIsT "Token" "str" false, fIs "Token" "ChoiceSort" false, fIs "Token" "HeapError" false, fIs "Token" "IntSort" false, fIs "Token" "ListSort" false, fIs "Token" "RefSort" false, fIs "Token" "TextSort" false, fIn "IntSort", fIsT "IntSort" "str" false, fIs "IntSort" "ChoiceSort" false, fIs "IntSort" "HeapError" false, fIs "IntSort" "IntSort" true, fIs "IntSort" "ListSort" false, fIs "IntSort" "RefSort" false, fIs "IntSort" "TextSort" false, fIn "TextSort", fIsT "TextSort" "str" false, fIs "TextSort" "ChoiceSort" false, fIs "TextSort" "HeapError" false, fIs "TextSort" "IntSort" false, fIs "TextSort" "ListSort" false, fIs "TextSort" "RefSort" false, fIs "TextSort" "TextSort" true, fIn "ChoiceSort", fIsT "ChoiceSort" "str" false, fIs "ChoiceSort" "ChoiceSort" true, fIs "ChoiceSort" "HeapError" false, fIs "ChoiceSort" "IntSort" false, fIs "ChoiceSort" "ListSort" false, fIs "ChoiceSort" "RefSort" false, fIs "ChoiceSort" "TextSort" false, fIn "RefSort", fIsT "RefSort" "str" false, fIs "RefSort" "ChoiceSort" false, fIs "RefSort" "HeapError" false, fIs "RefSort" "IntSort" false, fIs "RefSort" "ListSort" false, fIs "RefSort" "RefSort" true, fIs "RefSort" "TextSort" false, fIn "ListSort", fIsT "ListSort" "str" false, fIs "ListSort" "ChoiceSort" false, fIs "ListSort" "HeapError" false, fIs "ListSort" "IntSort" false, fIs "ListSort" "ListSort" true, fIs "ListSort" "RefSort" false, fIs "ListSort" "TextSort" false, fIn "Reader", fIsT "Reader" "str" false, fIs "Reader" "ChoiceSort" false, fIs "Reader" "HeapError" false, fIs "Reader" "IntSort" false, fIs "Reader" "ListSort" false, fIs "Reader" "RefSort" false, fIs "Reader" "TextSort" false, fIn "KindPlace", fIsT "KindPlace" "str" false, fIs "KindPlace" "ChoiceSort" false, fIs "KindPlace" "HeapError" false, fIs "KindPlace" "IntSort" false, fIs "KindPlace" "ListSort" false, fIs "KindPlace" "RefSort" false, fIs "KindPlace" "TextSort" false, fTIs "NoneType" "ChoiceSort" false, fTIs "bool" "ChoiceSort" false, fTIs "int" "ChoiceSort" false, fTIs "str" "ChoiceSort" false, fTIs "list" "ChoiceSort" false, fTIs "tuple" "ChoiceSort" false, fTIs "dict" "ChoiceSort" false, fTIs "NoneType" "HeapError" false, fTIs "bool" "HeapError" false, fTIs "int" "HeapError" false, fTIs "str" "HeapError" false, fTIs "list" "HeapError" false, fTIs "tuple" "HeapError" false, fTIs "dict" "HeapError" false, fTIs "NoneType" "IntSort" false, fTIs "bool" "IntSort" false, fTIs "int" "IntSort" false, fTIs "str" "IntSort" false, fTIs "list" "IntSort" false, fTIs "tuple" "IntSort" false, fTIs "dict" "IntSort" false, fTIs "NoneType" "ListSort" false, fTIs "bool" "ListSort" false, fTIs "int" "ListSort" false, fTIs "str" "ListSort" false, fTIs "list" "ListSort" false, fTIs "tuple" "ListSort" false, fTIs "dict" "ListSort" false, fTIs "NoneType" "RefSort" false, fTIs "bool" "RefSort" false, fTIs "int" "RefSort" false, fTIs "str" "RefSort" false, fTIs "list" "RefSort" false, fTIs "tuple" "RefSort" false, fTIs "dict" "RefSort" false, fTIs "NoneType" "TextSort" false, fTIs "bool" "TextSort" false, fTIs "int" "TextSort" false, fTIs "str" "TextSort" false, fTIs "list" "TextSort" false, fTIs "tuple" "TextSort" false, fTIs "dict" "TextSort" false, fIn "Fault", fIs "Fault" "HeapError" true, neFB "IntSort", neFB "TextSort", neFB "ChoiceSort", neFB "RefSort", neFB "ListSort"]
theorem tx {K : PySem.W.Frag} {h : Heap} {mg : Str → Option Value} (X : K.In h) (G : h.Ns mainGlobals mg) (c : He.SaysD fa fn K) (x : allB exs K = true) (p : SaysP gs K) (fau : FaT K mg) : Tx K mg where
  fau := fau
  d__law_cells := c.def_ 0 (d := dd__law_cells) rfl
  d__law_quote := c.def_ 1 (d := dd__law_quote) rfl
  d__law_shape_text := c.def_ 2 (d := dd__law_shape_text) rfl
  d__law_field_text := c.def_ 3 (d := dd__law_field_text) rfl
  d__law_kind_text := c.def_ 4 (d := dd__law_kind_text) rfl
  d__law_text := c.def_ 5 (d := dd__law_text) rfl
  d__law_draw := c.def_ 6 (d := dd__law_draw) rfl
  d__law_pick := c.def_ 7 (d := dd__law_pick) rfl
  d__law_shape := c.def_ 8 (d := dd__law_shape) rfl
  d__law_kind := c.def_ 9 (d := dd__law_kind) rfl
  d__law_schema := c.def_ 10 (d := dd__law_schema) rfl
  d__law_changed := c.def_ 11 (d := dd__law_changed) rfl
  d_Reader_init := c.def_ 12 (d := dd_Reader_init) rfl
  d_word_end := c.def_ 13 (d := dd_word_end) rfl
  d_Token_init := c.def_ 14 (d := dd_Token_init) rfl
  d_read_word := c.def_ 15 (d := dd_read_word) rfl
  d_digits_end := c.def_ 16 (d := dd_digits_end) rfl
  d_read_number := c.def_ 17 (d := dd_read_number) rfl
  d_read_quoted := c.def_ 18 (d := dd_read_quoted) rfl
  d_read_sign := c.def_ 19 (d := dd_read_sign) rfl
  d_tokens := c.def_ 20 (d := dd_tokens) rfl
  d_Reader_is_word := c.def_ 21 (d := dd_Reader_is_word) rfl
  d_Reader_step := c.def_ 22 (d := dd_Reader_step) rfl
  d_Reader_take_word := c.def_ 23 (d := dd_Reader_take_word) rfl
  d_KindPlace_init := c.def_ 24 (d := dd_KindPlace_init) rfl
  d_Reader_is_name := c.def_ 25 (d := dd_Reader_is_name) rfl
  d_Reader_take_kind := c.def_ 26 (d := dd_Reader_take_kind) rfl
  d_Reader_is_sign := c.def_ 27 (d := dd_Reader_is_sign) rfl
  d_Reader_take_sign := c.def_ 28 (d := dd_Reader_take_sign) rfl
  d_Reader_take_field := c.def_ 29 (d := dd_Reader_take_field) rfl
  d_read_key := c.def_ 30 (d := dd_read_key) rfl
  d_Reader_take_number := c.def_ 31 (d := dd_Reader_take_number) rfl
  d_Reader_take_integer := c.def_ 32 (d := dd_Reader_take_integer) rfl
  d_IntSort_init := c.def_ 33 (d := dd_IntSort_init) rfl
  d_read_int := c.def_ 34 (d := dd_read_int) rfl
  d_TextSort_init := c.def_ 35 (d := dd_TextSort_init) rfl
  d_Reader_take_text := c.def_ 36 (d := dd_Reader_take_text) rfl
  d_read_text_sort := c.def_ 37 (d := dd_read_text_sort) rfl
  d_ChoiceSort_init := c.def_ 38 (d := dd_ChoiceSort_init) rfl
  d_read_choices := c.def_ 39 (d := dd_read_choices) rfl
  d_read_targets := c.def_ 40 (d := dd_read_targets) rfl
  d_ListSort_init := c.def_ 41 (d := dd_ListSort_init) rfl
  d_RefSort_init := c.def_ 42 (d := dd_RefSort_init) rfl
  d_read_sort := c.def_ 43 (d := dd_read_sort) rfl
  d_is_list := c.def_ 44 (d := dd_is_list) rfl
  d_Field_init := c.def_ 45 (d := dd_Field_init) rfl
  d_read_field := c.def_ 46 (d := dd_read_field) rfl
  d_read_kind := c.def_ 47 (d := dd_read_kind) rfl
  d_Schema_init := c.def_ 48 (d := dd_Schema_init) rfl
  d_check_key := c.def_ 49 (d := dd_check_key) rfl
  d_Kind_init := c.def_ 50 (d := dd_Kind_init) rfl
  d_check_kind := c.def_ 51 (d := dd_check_kind) rfl
  d_check_kinds := c.def_ 52 (d := dd_check_kinds) rfl
  d_read_schema := c.def_ 53 (d := dd_read_schema) rfl
  d_IntSort_written := c.def_ 54 (d := dd_IntSort_written) rfl
  d_quoted := c.def_ 55 (d := dd_quoted) rfl
  d_TextSort_written := c.def_ 56 (d := dd_TextSort_written) rfl
  d_ChoiceSort_written := c.def_ 57 (d := dd_ChoiceSort_written) rfl
  d_RefSort_written := c.def_ 58 (d := dd_RefSort_written) rfl
  d_ListSort_written := c.def_ 59 (d := dd_ListSort_written) rfl
  d_Field_written := c.def_ 60 (d := dd_Field_written) rfl
  d_Kind_written := c.def_ 61 (d := dd_Kind_written) rfl
  d_Schema_written := c.def_ 62 (d := dd_Schema_written) rfl
  d_write_schema := c.def_ 63 (d := dd_write_schema) rfl
  d_Kind_names := c.def_ 64 (d := dd_Kind_names) rfl
  d_Schema_names := c.def_ 65 (d := dd_Schema_names) rfl
  d_IntSort_eq := c.def_ 66 (d := dd_IntSort_eq) rfl
  d_TextSort_eq := c.def_ 67 (d := dd_TextSort_eq) rfl
  d_ChoiceSort_eq := c.def_ 68 (d := dd_ChoiceSort_eq) rfl
  d_RefSort_eq := c.def_ 69 (d := dd_RefSort_eq) rfl
  d_ListSort_eq := c.def_ 70 (d := dd_ListSort_eq) rfl
  d__law_alike := c.def_ 71 (d := dd__law_alike) rfl
  d_law := c.def_ 72 (d := dd_law) rfl
  d_Reader_now := p.def_ 0 (d := dp_Reader_now) rfl
  g__law_cells := He.glo_ok X G (c.fact 0 (f := .glo "_law_cells") rfl)
  g__law_quote := He.glo_ok X G (c.fact 1 (f := .glo "_law_quote") rfl)
  g__law_shape_text := He.glo_ok X G (c.fact 2 (f := .glo "_law_shape_text") rfl)
  g__law_field_text := He.glo_ok X G (c.fact 3 (f := .glo "_law_field_text") rfl)
  g__law_kind_text := He.glo_ok X G (c.fact 4 (f := .glo "_law_kind_text") rfl)
  g__law_text := He.glo_ok X G (c.fact 5 (f := .glo "_law_text") rfl)
  g__law_draw := He.glo_ok X G (c.fact 6 (f := .glo "_law_draw") rfl)
  g__law_pick := He.glo_ok X G (c.fact 7 (f := .glo "_law_pick") rfl)
  g__law_shape := He.glo_ok X G (c.fact 8 (f := .glo "_law_shape") rfl)
  g__law_kind := He.glo_ok X G (c.fact 9 (f := .glo "_law_kind") rfl)
  g__law_schema := He.glo_ok X G (c.fact 10 (f := .glo "_law_schema") rfl)
  g__law_changed := He.glo_ok X G (c.fact 11 (f := .glo "_law_changed") rfl)
  g_word_end := He.glo_ok X G (c.fact 12 (f := .glo "word_end") rfl)
  g_read_word := He.glo_ok X G (c.fact 13 (f := .glo "read_word") rfl)
  g_digits_end := He.glo_ok X G (c.fact 14 (f := .glo "digits_end") rfl)
  g_read_number := He.glo_ok X G (c.fact 15 (f := .glo "read_number") rfl)
  g_read_quoted := He.glo_ok X G (c.fact 16 (f := .glo "read_quoted") rfl)
  g_read_sign := He.glo_ok X G (c.fact 17 (f := .glo "read_sign") rfl)
  g_tokens := He.glo_ok X G (c.fact 18 (f := .glo "tokens") rfl)
  g_read_key := He.glo_ok X G (c.fact 19 (f := .glo "read_key") rfl)
  g_read_int := He.glo_ok X G (c.fact 20 (f := .glo "read_int") rfl)
  g_read_text_sort := He.glo_ok X G (c.fact 21 (f := .glo "read_text_sort") rfl)
  g_read_choices := He.glo_ok X G (c.fact 22 (f := .glo "read_choices") rfl)
  g_read_targets := He.glo_ok X G (c.fact 23 (f := .glo "read_targets") rfl)
  g_read_sort := He.glo_ok X G (c.fact 24 (f := .glo "read_sort") rfl)
  g_is_list := He.glo_ok X G (c.fact 25 (f := .glo "is_list") rfl)
  g_read_field := He.glo_ok X G (c.fact 26 (f := .glo "read_field") rfl)
  g_read_kind := He.glo_ok X G (c.fact 27 (f := .glo "read_kind") rfl)
  g_check_key := He.glo_ok X G (c.fact 28 (f := .glo "check_key") rfl)
  g_check_kind := He.glo_ok X G (c.fact 29 (f := .glo "check_kind") rfl)
  g_check_kinds := He.glo_ok X G (c.fact 30 (f := .glo "check_kinds") rfl)
  g_read_schema := He.glo_ok X G (c.fact 31 (f := .glo "read_schema") rfl)
  g_quoted := He.glo_ok X G (c.fact 32 (f := .glo "quoted") rfl)
  g_write_schema := He.glo_ok X G (c.fact 33 (f := .glo "write_schema") rfl)
  g__law_alike := He.glo_ok X G (c.fact 34 (f := .glo "_law_alike") rfl)
  g_law := He.glo_ok X G (c.fact 35 (f := .glo "law") rfl)
  b_int := He.free_ok X G (c.fact 36 (f := .free "int") rfl)
  b_isinstance := He.free_ok X G (c.fact 37 (f := .free "isinstance") rfl)
  b_len := He.free_ok X G (c.fact 38 (f := .free "len") rfl)
  b_list := He.free_ok X G (c.fact 39 (f := .free "list") rfl)
  b_range := He.free_ok X G (c.fact 40 (f := .free "range") rfl)
  b_str := He.free_ok X G (c.fact 41 (f := .free "str") rfl)
  k_DIGITS := kstr X G e_c_DIGITS (c.fact 42 (f := .str "DIGITS" "0123456789") rfl)
  k_GREAT := kstr X G e_c_GREAT (c.fact 43 (f := .str "GREAT" "ABCDEFGHIJKLMNOPQRSTUVWXYZ") rfl)
  k_LARGEST := kint X G (c.fact 44 (f := .int "LARGEST" 1000000000) rfl)
  k_LETTERS := kstr X G e_c_LETTERS (c.fact 45 (f := .str "LETTERS" "abcdefghijklmnopqrstuvwxyzABCDEFGHIJKLMNOPQRSTUVWXYZ") rfl)
  k_LONGEST_SCHEMA := kint X G (c.fact 46 (f := .int "LONGEST_SCHEMA" 1000) rfl)
  k_LONGEST_TEXT := kint X G (c.fact 47 (f := .int "LONGEST_TEXT" 40) rfl)
  k_MOST_CHOICES := kint X G (c.fact 48 (f := .int "MOST_CHOICES" 8) rfl)
  k_MOST_FIELDS := kint X G (c.fact 49 (f := .int "MOST_FIELDS" 8) rfl)
  k_MOST_KEYS := kint X G (c.fact 50 (f := .int "MOST_KEYS" 3) rfl)
  k_MOST_KINDS := kint X G (c.fact 51 (f := .int "MOST_KINDS" 8) rfl)
  k_NUMBER_LENGTH := kint X G (c.fact 52 (f := .int "NUMBER_LENGTH" 18) rfl)
  k_WORD_LENGTH := kint X G (c.fact 53 (f := .int "WORD_LENGTH" 12) rfl)
  gc_Field := He.glo_ok X G (c.fact 54 (f := .glo "Field") rfl)
  cl_Field := He.cls_ok (c.fact 55 (f := .cls "Field") rfl)
  me_Field_written := He.meth_ok (c.fact 56 (f := .meth "Field" "written") rfl)
  mk_Field := He.mkr_ok (c.fact 57 (f := .mkr "Field") rfl)
  no_Field_name := He.noat_ok (c.fact 58 (f := .noat "Field" "name") rfl)
  no_Field_needed := He.noat_ok (c.fact 59 (f := .noat "Field" "needed") rfl)
  no_Field_shape := He.noat_ok (c.fact 60 (f := .noat "Field" "shape") rfl)
  gc_Kind := He.glo_ok X G (c.fact 61 (f := .glo "Kind") rfl)
  cl_Kind := He.cls_ok (c.fact 62 (f := .cls "Kind") rfl)
  me_Kind_names := He.meth_ok (c.fact 63 (f := .meth "Kind" "names") rfl)
  me_Kind_written := He.meth_ok (c.fact 64 (f := .meth "Kind" "written") rfl)
  mk_Kind := He.mkr_ok (c.fact 65 (f := .mkr "Kind") rfl)
  no_Kind_fields := He.noat_ok (c.fact 66 (f := .noat "Kind" "fields") rfl)
  no_Kind_key_rows := He.noat_ok (c.fact 67 (f := .noat "Kind" "key_rows") rfl)
  no_Kind_name := He.noat_ok (c.fact 68 (f := .noat "Kind" "name") rfl)
  gc_Schema := He.glo_ok X G (c.fact 69 (f := .glo "Schema") rfl)
  cl_Schema := He.cls_ok (c.fact 70 (f := .cls "Schema") rfl)
  me_Schema_names := He.meth_ok (c.fact 71 (f := .meth "Schema" "names") rfl)
  me_Schema_written := He.meth_ok (c.fact 72 (f := .meth "Schema" "written") rfl)
  mk_Schema := He.mkr_ok (c.fact 73 (f := .mkr "Schema") rfl)
  no_Schema_kinds := He.noat_ok (c.fact 74 (f := .noat "Schema" "kinds") rfl)
  gc_Token := He.glo_ok X G (c.fact 75 (f := .glo "Token") rfl)
  cl_Token := He.cls_ok (c.fact 76 (f := .cls "Token") rfl)
  mk_Token := He.mkr_ok (c.fact 77 (f := .mkr "Token") rfl)
  no_Token_place := He.noat_ok (c.fact 78 (f := .noat "Token" "place") rfl)
  no_Token_role := He.noat_ok (c.fact 79 (f := .noat "Token" "role") rfl)
  no_Token_text := He.noat_ok (c.fact 80 (f := .noat "Token" "text") rfl)
  gc_IntSort := He.glo_ok X G (c.fact 81 (f := .glo "IntSort") rfl)
  cl_IntSort := He.cls_ok (c.fact 82 (f := .cls "IntSort") rfl)
  me_IntSort_eq := He.meth_ok (c.fact 83 (f := .meth "IntSort" "__eq__") rfl)
  me_IntSort_written := He.meth_ok (c.fact 84 (f := .meth "IntSort" "written") rfl)
  mk_IntSort := He.mkr_ok (c.fact 85 (f := .mkr "IntSort") rfl)
  no_IntSort_high := He.noat_ok (c.fact 86 (f := .noat "IntSort" "high") rfl)
  no_IntSort_low := He.noat_ok (c.fact 87 (f := .noat "IntSort" "low") rfl)
  gc_TextSort := He.glo_ok X G (c.fact 88 (f := .glo "TextSort") rfl)
  cl_TextSort := He.cls_ok (c.fact 89 (f := .cls "TextSort") rfl)
  me_TextSort_eq := He.meth_ok (c.fact 90 (f := .meth "TextSort" "__eq__") rfl)
  me_TextSort_written := He.meth_ok (c.fact 91 (f := .meth "TextSort" "written") rfl)
  mk_TextSort := He.mkr_ok (c.fact 92 (f := .mkr "TextSort") rfl)
  no_TextSort_longest := He.noat_ok (c.fact 93 (f := .noat "TextSort" "longest") rfl)
  no_TextSort_without := He.noat_ok (c.fact 94 (f := .noat "TextSort" "without") rfl)
  gc_ChoiceSort := He.glo_ok X G (c.fact 95 (f := .glo "ChoiceSort") rfl)
  cl_ChoiceSort := He.cls_ok (c.fact 96 (f := .cls "ChoiceSort") rfl)
  me_ChoiceSort_eq := He.meth_ok (c.fact 97 (f := .meth "ChoiceSort" "__eq__") rfl)
  me_ChoiceSort_written := He.meth_ok (c.fact 98 (f := .meth "ChoiceSort" "written") rfl)
  mk_ChoiceSort := He.mkr_ok (c.fact 99 (f := .mkr "ChoiceSort") rfl)
  no_ChoiceSort_choices := He.noat_ok (c.fact 100 (f := .noat "ChoiceSort" "choices") rfl)
  gc_RefSort := He.glo_ok X G (c.fact 101 (f := .glo "RefSort") rfl)
  cl_RefSort := He.cls_ok (c.fact 102 (f := .cls "RefSort") rfl)
  me_RefSort_eq := He.meth_ok (c.fact 103 (f := .meth "RefSort" "__eq__") rfl)
  me_RefSort_written := He.meth_ok (c.fact 104 (f := .meth "RefSort" "written") rfl)
  mk_RefSort := He.mkr_ok (c.fact 105 (f := .mkr "RefSort") rfl)
  no_RefSort_kinds := He.noat_ok (c.fact 106 (f := .noat "RefSort" "kinds") rfl)
  no_RefSort_rule := He.noat_ok (c.fact 107 (f := .noat "RefSort" "rule") rfl)
  gc_ListSort := He.glo_ok X G (c.fact 108 (f := .glo "ListSort") rfl)
  cl_ListSort := He.cls_ok (c.fact 109 (f := .cls "ListSort") rfl)
  me_ListSort_eq := He.meth_ok (c.fact 110 (f := .meth "ListSort" "__eq__") rfl)
  me_ListSort_written := He.meth_ok (c.fact 111 (f := .meth "ListSort" "written") rfl)
  mk_ListSort := He.mkr_ok (c.fact 112 (f := .mkr "ListSort") rfl)
  no_ListSort_kinds := He.noat_ok (c.fact 113 (f := .noat "ListSort" "kinds") rfl)
  gc_Reader := He.glo_ok X G (c.fact 114 (f := .glo "Reader") rfl)
  cl_Reader := He.cls_ok (c.fact 115 (f := .cls "Reader") rfl)
  me_Reader_is_name := He.meth_ok (c.fact 116 (f := .meth "Reader" "is_name") rfl)
  me_Reader_is_sign := He.meth_ok (c.fact 117 (f := .meth "Reader" "is_sign") rfl)
  me_Reader_is_word := He.meth_ok (c.fact 118 (f := .meth "Reader" "is_word") rfl)
  me_Reader_step := He.meth_ok (c.fact 119 (f := .meth "Reader" "step") rfl)
  me_Reader_take_field := He.meth_ok (c.fact 120 (f := .meth "Reader" "take_field") rfl)
  me_Reader_take_integer := He.meth_ok (c.fact 121 (f := .meth "Reader" "take_integer") rfl)
  me_Reader_take_kind := He.meth_ok (c.fact 122 (f := .meth "Reader" "take_kind") rfl)
  me_Reader_take_number := He.meth_ok (c.fact 123 (f := .meth "Reader" "take_number") rfl)
  me_Reader_take_sign := He.meth_ok (c.fact 124 (f := .meth "Reader" "take_sign") rfl)
  me_Reader_take_text := He.meth_ok (c.fact 125 (f := .meth "Reader" "take_text") rfl)
  me_Reader_take_word := He.meth_ok (c.fact 126 (f := .meth "Reader" "take_word") rfl)
  mk_Reader := He.mkr_ok (c.fact 127 (f := .mkr "Reader") rfl)
  no_Reader_at := He.noat_ok (c.fact 128 (f := .noat "Reader" "at") rfl)
  no_Reader_reserved := He.noat_ok (c.fact 129 (f := .noat "Reader" "reserved") rfl)
  no_Reader_row := He.noat_ok (c.fact 130 (f := .noat "Reader" "row") rfl)
  gc_KindPlace := He.glo_ok X G (c.fact 131 (f := .glo "KindPlace") rfl)
  cl_KindPlace := He.cls_ok (c.fact 132 (f := .cls "KindPlace") rfl)
  mk_KindPlace := He.mkr_ok (c.fact 133 (f := .mkr "KindPlace") rfl)
  no_KindPlace_fields := He.noat_ok (c.fact 134 (f := .noat "KindPlace" "fields") rfl)
  no_KindPlace_keys_read := He.noat_ok (c.fact 135 (f := .noat "KindPlace" "keys_read") rfl)
  no_KindPlace_token := He.noat_ok (c.fact 136 (f := .noat "KindPlace" "token") rfl)
  gc_RESERVED := He.glo_ok X G (c.fact 137 (f := .glo "RESERVED") rfl)
  gc_SIGNS := He.glo_ok X G (c.fact 138 (f := .glo "SIGNS") rfl)
  gc_HeapError := He.glo_ok X G (c.fact 139 (f := .glo "HeapError") rfl)
  pr_Reader_now := propF_ok (allB_at x 0 (f := propF "Reader" "now") rfl)
  tu_RESERVED := tupE (by simp only [ts_RESERVED, List.map_cons, List.map_nil, He.Dv.v, svv, ← e_kind, ← e_key, ← e_not, ← e_null, ← e_int, ← e_text, ← e_without, ← e_one, ← e_of, ← e_ref, ← e_or, ← e_list, ← e_clears, ← e_refuses, ← e_takes, ← e_rename, ← e_new, ← e_gone, ← e_change, ← e_else, ← e_back, ← e_replace, ← e_by, ← e_as, ← e_table, ← e_split, ← e_join, ← e_into, ← e_needs, ← e_drops, ← e_deletes]) (allB_at x 1 (f := fun K => He.tupB K "RESERVED" [.str "kind", .str "key", .str "not", .str "null", .str "int", .str "text", .str "without", .str "one", .str "of", .str "ref", .str "or", .str "list", .str "clears", .str "refuses", .str "takes", .str "rename", .str "new", .str "gone", .str "change", .str "else", .str "back", .str "replace", .str "by", .str "as", .str "table", .str "split", .str "join", .str "into", .str "needs", .str "drops", .str "deletes"]) rfl)
  tu_SIGNS := tupE (by simp only [ts_SIGNS, List.map_cons, List.map_nil, He.Dv.v, svv, ← e_x7b, ← e_x7d, ← e_x3a, ← e_x3b, ← e_x2c, ← e_x2d, ← e_x2ex2e]) (allB_at x 2 (f := fun K => He.tupB K "SIGNS" [.str "{", .str "}", .str ":", .str ";", .str ",", .str "-", .str ".."]) rfl)
  if_Field := fIn_ok (allB_at x 3 (f := fIn "Field") rfl)
  it_Field_str := fIsT_ok (allB_at x 4 (f := fIsT "Field" "str" false) rfl)
  is_Field_ChoiceSort := fIs_ok (allB_at x 5 (f := fIs "Field" "ChoiceSort" false) rfl)
  is_Field_HeapError := fIs_ok (allB_at x 6 (f := fIs "Field" "HeapError" false) rfl)
  is_Field_IntSort := fIs_ok (allB_at x 7 (f := fIs "Field" "IntSort" false) rfl)
  is_Field_ListSort := fIs_ok (allB_at x 8 (f := fIs "Field" "ListSort" false) rfl)
  is_Field_RefSort := fIs_ok (allB_at x 9 (f := fIs "Field" "RefSort" false) rfl)
  is_Field_TextSort := fIs_ok (allB_at x 10 (f := fIs "Field" "TextSort" false) rfl)
  if_Kind := fIn_ok (allB_at x 11 (f := fIn "Kind") rfl)
  it_Kind_str := fIsT_ok (allB_at x 12 (f := fIsT "Kind" "str" false) rfl)
  is_Kind_ChoiceSort := fIs_ok (allB_at x 13 (f := fIs "Kind" "ChoiceSort" false) rfl)
  is_Kind_HeapError := fIs_ok (allB_at x 14 (f := fIs "Kind" "HeapError" false) rfl)
  is_Kind_IntSort := fIs_ok (allB_at x 15 (f := fIs "Kind" "IntSort" false) rfl)
  is_Kind_ListSort := fIs_ok (allB_at x 16 (f := fIs "Kind" "ListSort" false) rfl)
  is_Kind_RefSort := fIs_ok (allB_at x 17 (f := fIs "Kind" "RefSort" false) rfl)
  is_Kind_TextSort := fIs_ok (allB_at x 18 (f := fIs "Kind" "TextSort" false) rfl)
  if_Schema := fIn_ok (allB_at x 19 (f := fIn "Schema") rfl)
  it_Schema_str := fIsT_ok (allB_at x 20 (f := fIsT "Schema" "str" false) rfl)
  is_Schema_ChoiceSort := fIs_ok (allB_at x 21 (f := fIs "Schema" "ChoiceSort" false) rfl)
  is_Schema_HeapError := fIs_ok (allB_at x 22 (f := fIs "Schema" "HeapError" false) rfl)
  is_Schema_IntSort := fIs_ok (allB_at x 23 (f := fIs "Schema" "IntSort" false) rfl)
  is_Schema_ListSort := fIs_ok (allB_at x 24 (f := fIs "Schema" "ListSort" false) rfl)
  is_Schema_RefSort := fIs_ok (allB_at x 25 (f := fIs "Schema" "RefSort" false) rfl)
  is_Schema_TextSort := fIs_ok (allB_at x 26 (f := fIs "Schema" "TextSort" false) rfl)
  if_Token := fIn_ok (allB_at x 27 (f := fIn "Token") rfl)
  it_Token_str := fIsT_ok (allB_at x 28 (f := fIsT "Token" "str" false) rfl)
  is_Token_ChoiceSort := fIs_ok (allB_at x 29 (f := fIs "Token" "ChoiceSort" false) rfl)
  is_Token_HeapError := fIs_ok (allB_at x 30 (f := fIs "Token" "HeapError" false) rfl)
  is_Token_IntSort := fIs_ok (allB_at x 31 (f := fIs "Token" "IntSort" false) rfl)
  is_Token_ListSort := fIs_ok (allB_at x 32 (f := fIs "Token" "ListSort" false) rfl)
  is_Token_RefSort := fIs_ok (allB_at x 33 (f := fIs "Token" "RefSort" false) rfl)
  is_Token_TextSort := fIs_ok (allB_at x 34 (f := fIs "Token" "TextSort" false) rfl)
  if_IntSort := fIn_ok (allB_at x 35 (f := fIn "IntSort") rfl)
  it_IntSort_str := fIsT_ok (allB_at x 36 (f := fIsT "IntSort" "str" false) rfl)
  is_IntSort_ChoiceSort := fIs_ok (allB_at x 37 (f := fIs "IntSort" "ChoiceSort" false) rfl)
  is_IntSort_HeapError := fIs_ok (allB_at x 38 (f := fIs "IntSort" "HeapError" false) rfl)
  is_IntSort_IntSort := fIs_ok (allB_at x 39 (f := fIs "IntSort" "IntSort" true) rfl)
  is_IntSort_ListSort := fIs_ok (allB_at x 40 (f := fIs "IntSort" "ListSort" false) rfl)
  is_IntSort_RefSort := fIs_ok (allB_at x 41 (f := fIs "IntSort" "RefSort" false) rfl)
  is_IntSort_TextSort := fIs_ok (allB_at x 42 (f := fIs "IntSort" "TextSort" false) rfl)
  if_TextSort := fIn_ok (allB_at x 43 (f := fIn "TextSort") rfl)
  it_TextSort_str := fIsT_ok (allB_at x 44 (f := fIsT "TextSort" "str" false) rfl)
  is_TextSort_ChoiceSort := fIs_ok (allB_at x 45 (f := fIs "TextSort" "ChoiceSort" false) rfl)
  is_TextSort_HeapError := fIs_ok (allB_at x 46 (f := fIs "TextSort" "HeapError" false) rfl)
  is_TextSort_IntSort := fIs_ok (allB_at x 47 (f := fIs "TextSort" "IntSort" false) rfl)
  is_TextSort_ListSort := fIs_ok (allB_at x 48 (f := fIs "TextSort" "ListSort" false) rfl)
  is_TextSort_RefSort := fIs_ok (allB_at x 49 (f := fIs "TextSort" "RefSort" false) rfl)
  is_TextSort_TextSort := fIs_ok (allB_at x 50 (f := fIs "TextSort" "TextSort" true) rfl)
  if_ChoiceSort := fIn_ok (allB_at x 51 (f := fIn "ChoiceSort") rfl)
  it_ChoiceSort_str := fIsT_ok (allB_at x 52 (f := fIsT "ChoiceSort" "str" false) rfl)
  is_ChoiceSort_ChoiceSort := fIs_ok (allB_at x 53 (f := fIs "ChoiceSort" "ChoiceSort" true) rfl)
  is_ChoiceSort_HeapError := fIs_ok (allB_at x 54 (f := fIs "ChoiceSort" "HeapError" false) rfl)
  is_ChoiceSort_IntSort := fIs_ok (allB_at x 55 (f := fIs "ChoiceSort" "IntSort" false) rfl)
  is_ChoiceSort_ListSort := fIs_ok (allB_at x 56 (f := fIs "ChoiceSort" "ListSort" false) rfl)
  is_ChoiceSort_RefSort := fIs_ok (allB_at x 57 (f := fIs "ChoiceSort" "RefSort" false) rfl)
  is_ChoiceSort_TextSort := fIs_ok (allB_at x 58 (f := fIs "ChoiceSort" "TextSort" false) rfl)
  if_RefSort := fIn_ok (allB_at x 59 (f := fIn "RefSort") rfl)
  it_RefSort_str := fIsT_ok (allB_at x 60 (f := fIsT "RefSort" "str" false) rfl)
  is_RefSort_ChoiceSort := fIs_ok (allB_at x 61 (f := fIs "RefSort" "ChoiceSort" false) rfl)
  is_RefSort_HeapError := fIs_ok (allB_at x 62 (f := fIs "RefSort" "HeapError" false) rfl)
  is_RefSort_IntSort := fIs_ok (allB_at x 63 (f := fIs "RefSort" "IntSort" false) rfl)
  is_RefSort_ListSort := fIs_ok (allB_at x 64 (f := fIs "RefSort" "ListSort" false) rfl)
  is_RefSort_RefSort := fIs_ok (allB_at x 65 (f := fIs "RefSort" "RefSort" true) rfl)
  is_RefSort_TextSort := fIs_ok (allB_at x 66 (f := fIs "RefSort" "TextSort" false) rfl)
  if_ListSort := fIn_ok (allB_at x 67 (f := fIn "ListSort") rfl)
  it_ListSort_str := fIsT_ok (allB_at x 68 (f := fIsT "ListSort" "str" false) rfl)
  is_ListSort_ChoiceSort := fIs_ok (allB_at x 69 (f := fIs "ListSort" "ChoiceSort" false) rfl)
  is_ListSort_HeapError := fIs_ok (allB_at x 70 (f := fIs "ListSort" "HeapError" false) rfl)
  is_ListSort_IntSort := fIs_ok (allB_at x 71 (f := fIs "ListSort" "IntSort" false) rfl)
  is_ListSort_ListSort := fIs_ok (allB_at x 72 (f := fIs "ListSort" "ListSort" true) rfl)
  is_ListSort_RefSort := fIs_ok (allB_at x 73 (f := fIs "ListSort" "RefSort" false) rfl)
  is_ListSort_TextSort := fIs_ok (allB_at x 74 (f := fIs "ListSort" "TextSort" false) rfl)
  if_Reader := fIn_ok (allB_at x 75 (f := fIn "Reader") rfl)
  it_Reader_str := fIsT_ok (allB_at x 76 (f := fIsT "Reader" "str" false) rfl)
  is_Reader_ChoiceSort := fIs_ok (allB_at x 77 (f := fIs "Reader" "ChoiceSort" false) rfl)
  is_Reader_HeapError := fIs_ok (allB_at x 78 (f := fIs "Reader" "HeapError" false) rfl)
  is_Reader_IntSort := fIs_ok (allB_at x 79 (f := fIs "Reader" "IntSort" false) rfl)
  is_Reader_ListSort := fIs_ok (allB_at x 80 (f := fIs "Reader" "ListSort" false) rfl)
  is_Reader_RefSort := fIs_ok (allB_at x 81 (f := fIs "Reader" "RefSort" false) rfl)
  is_Reader_TextSort := fIs_ok (allB_at x 82 (f := fIs "Reader" "TextSort" false) rfl)
  if_KindPlace := fIn_ok (allB_at x 83 (f := fIn "KindPlace") rfl)
  it_KindPlace_str := fIsT_ok (allB_at x 84 (f := fIsT "KindPlace" "str" false) rfl)
  is_KindPlace_ChoiceSort := fIs_ok (allB_at x 85 (f := fIs "KindPlace" "ChoiceSort" false) rfl)
  is_KindPlace_HeapError := fIs_ok (allB_at x 86 (f := fIs "KindPlace" "HeapError" false) rfl)
  is_KindPlace_IntSort := fIs_ok (allB_at x 87 (f := fIs "KindPlace" "IntSort" false) rfl)
  is_KindPlace_ListSort := fIs_ok (allB_at x 88 (f := fIs "KindPlace" "ListSort" false) rfl)
  is_KindPlace_RefSort := fIs_ok (allB_at x 89 (f := fIs "KindPlace" "RefSort" false) rfl)
  is_KindPlace_TextSort := fIs_ok (allB_at x 90 (f := fIs "KindPlace" "TextSort" false) rfl)
  ti_NoneType_ChoiceSort := fTIs_ok (allB_at x 91 (f := fTIs "NoneType" "ChoiceSort" false) rfl)
  ti_bool_ChoiceSort := fTIs_ok (allB_at x 92 (f := fTIs "bool" "ChoiceSort" false) rfl)
  ti_int_ChoiceSort := fTIs_ok (allB_at x 93 (f := fTIs "int" "ChoiceSort" false) rfl)
  ti_str_ChoiceSort := fTIs_ok (allB_at x 94 (f := fTIs "str" "ChoiceSort" false) rfl)
  ti_list_ChoiceSort := fTIs_ok (allB_at x 95 (f := fTIs "list" "ChoiceSort" false) rfl)
  ti_tuple_ChoiceSort := fTIs_ok (allB_at x 96 (f := fTIs "tuple" "ChoiceSort" false) rfl)
  ti_dict_ChoiceSort := fTIs_ok (allB_at x 97 (f := fTIs "dict" "ChoiceSort" false) rfl)
  ti_NoneType_HeapError := fTIs_ok (allB_at x 98 (f := fTIs "NoneType" "HeapError" false) rfl)
  ti_bool_HeapError := fTIs_ok (allB_at x 99 (f := fTIs "bool" "HeapError" false) rfl)
  ti_int_HeapError := fTIs_ok (allB_at x 100 (f := fTIs "int" "HeapError" false) rfl)
  ti_str_HeapError := fTIs_ok (allB_at x 101 (f := fTIs "str" "HeapError" false) rfl)
  ti_list_HeapError := fTIs_ok (allB_at x 102 (f := fTIs "list" "HeapError" false) rfl)
  ti_tuple_HeapError := fTIs_ok (allB_at x 103 (f := fTIs "tuple" "HeapError" false) rfl)
  ti_dict_HeapError := fTIs_ok (allB_at x 104 (f := fTIs "dict" "HeapError" false) rfl)
  ti_NoneType_IntSort := fTIs_ok (allB_at x 105 (f := fTIs "NoneType" "IntSort" false) rfl)
  ti_bool_IntSort := fTIs_ok (allB_at x 106 (f := fTIs "bool" "IntSort" false) rfl)
  ti_int_IntSort := fTIs_ok (allB_at x 107 (f := fTIs "int" "IntSort" false) rfl)
  ti_str_IntSort := fTIs_ok (allB_at x 108 (f := fTIs "str" "IntSort" false) rfl)
  ti_list_IntSort := fTIs_ok (allB_at x 109 (f := fTIs "list" "IntSort" false) rfl)
  ti_tuple_IntSort := fTIs_ok (allB_at x 110 (f := fTIs "tuple" "IntSort" false) rfl)
  ti_dict_IntSort := fTIs_ok (allB_at x 111 (f := fTIs "dict" "IntSort" false) rfl)
  ti_NoneType_ListSort := fTIs_ok (allB_at x 112 (f := fTIs "NoneType" "ListSort" false) rfl)
  ti_bool_ListSort := fTIs_ok (allB_at x 113 (f := fTIs "bool" "ListSort" false) rfl)
  ti_int_ListSort := fTIs_ok (allB_at x 114 (f := fTIs "int" "ListSort" false) rfl)
  ti_str_ListSort := fTIs_ok (allB_at x 115 (f := fTIs "str" "ListSort" false) rfl)
  ti_list_ListSort := fTIs_ok (allB_at x 116 (f := fTIs "list" "ListSort" false) rfl)
  ti_tuple_ListSort := fTIs_ok (allB_at x 117 (f := fTIs "tuple" "ListSort" false) rfl)
  ti_dict_ListSort := fTIs_ok (allB_at x 118 (f := fTIs "dict" "ListSort" false) rfl)
  ti_NoneType_RefSort := fTIs_ok (allB_at x 119 (f := fTIs "NoneType" "RefSort" false) rfl)
  ti_bool_RefSort := fTIs_ok (allB_at x 120 (f := fTIs "bool" "RefSort" false) rfl)
  ti_int_RefSort := fTIs_ok (allB_at x 121 (f := fTIs "int" "RefSort" false) rfl)
  ti_str_RefSort := fTIs_ok (allB_at x 122 (f := fTIs "str" "RefSort" false) rfl)
  ti_list_RefSort := fTIs_ok (allB_at x 123 (f := fTIs "list" "RefSort" false) rfl)
  ti_tuple_RefSort := fTIs_ok (allB_at x 124 (f := fTIs "tuple" "RefSort" false) rfl)
  ti_dict_RefSort := fTIs_ok (allB_at x 125 (f := fTIs "dict" "RefSort" false) rfl)
  ti_NoneType_TextSort := fTIs_ok (allB_at x 126 (f := fTIs "NoneType" "TextSort" false) rfl)
  ti_bool_TextSort := fTIs_ok (allB_at x 127 (f := fTIs "bool" "TextSort" false) rfl)
  ti_int_TextSort := fTIs_ok (allB_at x 128 (f := fTIs "int" "TextSort" false) rfl)
  ti_str_TextSort := fTIs_ok (allB_at x 129 (f := fTIs "str" "TextSort" false) rfl)
  ti_list_TextSort := fTIs_ok (allB_at x 130 (f := fTIs "list" "TextSort" false) rfl)
  ti_tuple_TextSort := fTIs_ok (allB_at x 131 (f := fTIs "tuple" "TextSort" false) rfl)
  ti_dict_TextSort := fTIs_ok (allB_at x 132 (f := fTIs "dict" "TextSort" false) rfl)
  if_Fault := fIn_ok (allB_at x 133 (f := fIn "Fault") rfl)
  is_Fault_HeapError := fIs_ok (allB_at x 134 (f := fIs "Fault" "HeapError" true) rfl)
  ne_IntSort := neF_ok (allB_at x 135 (f := neFB "IntSort") rfl)
  ne_TextSort := neF_ok (allB_at x 136 (f := neFB "TextSort") rfl)
  ne_ChoiceSort := neF_ok (allB_at x 137 (f := neFB "ChoiceSort") rfl)
  ne_RefSort := neF_ok (allB_at x 138 (f := neFB "RefSort") rfl)
  ne_ListSort := neF_ok (allB_at x 139 (f := neFB "ListSort") rfl)
abbrev R : PySem.W.OpenRow := PySem.W.OpenLaw.row PySem.Challenge.rw_oneheap_k06_whole_schema_texts
abbrev hk : PySem.W.Hook := G.hookZ 5 fa fn gs (allB exs) (fun K => fnC K ("Fault", some "__init__")) fnF (fun K => (faBs "/claim/cut.py" K).all id)
def ob (s : PySem.W.SharedT) : G.AlZ := G.obsZ 5 fa fn gs (allB exs) (fun K => fnC K ("Fault", some "__init__")) (fun K => (faBs "/claim/cut.py" K).all id) (HandSHeadRun.getT s)
theorem ob_eq (s : PySem.W.SharedT) : ob s = hk.obs s.abs := G.obsZ_eq (HandSHeadRun.getT_eq s)
def nm : List Str := [("_wall" : Str), ("HeapError" : Str), ("Fault" : Str), ("Field" : Str), ("Kind" : Str), ("Schema" : Str), ("Token" : Str), ("word_end" : Str), ("digits_end" : Str), ("read_word" : Str), ("read_number" : Str), ("read_quoted" : Str), ("read_sign" : Str), ("tokens" : Str), ("quoted" : Str), ("IntSort" : Str), ("TextSort" : Str), ("ChoiceSort" : Str), ("RefSort" : Str), ("ListSort" : Str), ("is_list" : Str), ("Reader" : Str), ("KindPlace" : Str), ("read_int" : Str), ("read_text_sort" : Str), ("read_choices" : Str), ("read_targets" : Str), ("read_sort" : Str), ("read_field" : Str), ("read_key" : Str), ("read_kind" : Str), ("check_key" : Str), ("check_kind" : Str), ("check_kinds" : Str), ("read_schema" : Str), ("write_schema" : Str), ("_law_cells" : Str), ("_law_draw" : Str), ("_law_pick" : Str), ("_law_quote" : Str), ("_law_shape" : Str), ("_law_shape_text" : Str), ("_law_kind" : Str), ("_law_schema" : Str), ("_law_field_text" : Str), ("_law_kind_text" : Str), ("_law_text" : Str), ("_law_changed" : Str), ("_law_alike" : Str), ("WORD_LENGTH" : Str), ("NUMBER_LENGTH" : Str), ("LETTERS" : Str), ("DIGITS" : Str), ("LARGEST" : Str), ("LONGEST_TEXT" : Str), ("GREAT" : Str), ("LONGEST_SCHEMA" : Str), ("MOST_KINDS" : Str), ("MOST_FIELDS" : Str), ("MOST_KEYS" : Str), ("MOST_CHOICES" : Str), ("SIGNS" : Str), ("RESERVED" : Str)]
noncomputable abbrev EndR (w : World) (os : OsState) : Option PySem.W.SharedT := HandSHeadRun.endF (HandSHeadRun.stepQ (HandSHeadRun.denQ HandSHeadRun.tabQ) R.prog w) 8000 R.prog w os
abbrev Ks (s : PySem.W.SharedT) : PySem.W.Frag := He.frT (HandSHeadRun.getT s) (asY (HandSHeadRun.getT s) 5)
theorem map2 {α β γ : Type} {o : Option α} {f : α → β} {g : α → γ} {b : β} {c : γ} (h1 : o.map f = some b) (h2 : o.map g = some c) : o.map (fun s => (f s, g s)) = some (b, c) := by
  cases o with
  | none => cases h1
  | some a =>
    injection h1 with h1
    injection h2 with h2
    subst h1 h2
    rfl
theorem mapA {α : Type} {o : Option α} {f g : α → Bool} (h1 : o.map f = some true) (h2 : o.map g = some true) : o.map (fun s => f s && g s) = some true := by
  cases o with
  | none => cases h1
  | some a =>
    injection h1 with h1
    injection h2 with h2
    show some (f a && g a) = _
    rw [h1, h2]
    rfl
theorem run_a (w : World) (os : OsState) : (EndR w os).map (fun s => HandSHeadRun.looksF R.prog (boot_heap w.params) s.abs) = some true := by kernel_rfl
theorem run_b (w : World) (os : OsState) : (EndR w os).map (fun s => HandSHeadRun.seenQ (PySem.W.view R.prog [70]) nm (importedModules R.prog.main.body) (fun s => xlAt (PySem.W.view R.prog [70]) [] s && recOk R.toRowW.records s) s.abs) = some (openGood (PySem.W.view R.prog [70]) nm) := by kernel_rfl
theorem run_c (w : World) (os : OsState) : (EndR w os).map (fun s => (fa.all fun f => f.ok (Ks s))) = some true := by kernel_rfl
theorem run_d (w : World) (os : OsState) : (EndR w os).map (fun s => (fn.all fun d => d.ok (Ks s))) = some true := by kernel_rfl
theorem run_e (w : World) (os : OsState) : (EndR w os).map (fun s => (fn.map fun d => He.fnW (Ks s) d.at_)) = some (fn.map He.DefD.val) := by kernel_rfl
theorem run_f (w : World) (os : OsState) : (EndR w os).map (fun s => ((gs.map fun d => fnA (Ks s) (pAd (Ks s) d.cls d.name)), (fnC (Ks s) ("Fault", some "__init__")))) = some (gs.map DefP.val, fnF) := by kernel_rfl
theorem run_g (w : World) (os : OsState) : (EndR w os).map (fun s => (allB exs (Ks s) && (((faBs "/claim/cut.py" (Ks s)).all id) && gs.all fun d => d.ok (Ks s)))) = some true := by kernel_rfl
theorem run_ob (w : World) (os : OsState) : (EndR w os).map (fun s => ob s) = some (hk.val w) := by
  have h := map2 (map2 (mapA (run_c w os) (run_d w os)) (run_e w os)) (map2 (run_f w os) (run_g w os))
  revert h
  generalize EndR w os = z
  cases z with
  | none => intro h; cases h
  | some s =>
    intro h
    injection h with h
    have h1 := congrArg (fun x => x.1) h
    have h2 := congrArg (fun x => x.2.1.1) h
    have h3 := congrArg (fun x => x.2.1.2) h
    have h4 := congrArg (fun x => x.2.2) h
    exact congrArg some (Prod.ext h1 (Prod.ext h2 (Prod.ext h3 h4)))
theorem run (w : World) : HandSHeadRun.RunEq R (PySem.W.view R.prog [70]) hk ob 8000 nm w := fun os => map2 (run_a w os) (map2 (run_b w os) (run_ob w os))
end Lw

local macro_rules | `(tactic| walk_at "go1") => `(tactic| first
  | with_reducible refine G.g_seq ?_
  | (with_reducible show L2.tVar _ _ _ _; refine G.g_var rfl ?_)
  | with_reducible refine G.g_c ?_
  | with_reducible refine G.g_op ?_
  | with_reducible refine G.g_asg ?_
  | with_reducible refine G.g_if ?_
  | with_reducible refine G.g_test ?_
  | with_reducible refine G.g_k ?_
  | with_reducible refine G.g_tru ?_
  | with_reducible refine G.v_truB ?_
  | with_reducible refine G.v_truN ?_
  | with_reducible refine L2.iteT ?_
  | with_reducible refine L2.iteF ?_
  | with_reducible refine G.iteNT ?_
  | with_reducible refine G.iteNF ?_
  | with_reducible refine G.v_addI ?_
  | with_reducible refine G.v_sub ?_
  | with_reducible refine G.v_lt ?_
  | with_reducible refine G.v_le ?_
  | with_reducible refine G.v_gt ?_
  | with_reducible refine G.v_ge ?_
  | with_reducible refine G.v_eqI ?_
  | with_reducible refine G.v_eqT ?_
  | with_reducible refine G.v_eqB ?_
  | with_reducible refine G.v_neI ?_
  | with_reducible refine G.v_neT ?_
  | with_reducible refine G.v_neB ?_
  | with_reducible refine G.v_inC ?_
  | with_reducible refine G.v_notInC ?_
  | with_reducible refine G.v_isN ?_
  | with_reducible refine G.v_isNotN ?_
  | with_reducible refine G.v_isB ?_
  | with_reducible refine G.v_isNotB ?_
  | with_reducible refine G.g_chain ?_
  | with_reducible refine G.v_find ?_
  | with_reducible refine G.g_meth1 ?_
  | with_reducible refine G.g_yes ?_
  | with_reducible refine G.g_lstRg ?_
  | with_reducible refine G.v_intI ?_
  | with_reducible refine G.g_callB ?_
  | with_reducible refine G.g_call ?_
  | with_reducible refine G.g_nil ?_
  | with_reducible refine G.g_cons ?_
  | with_reducible refine G.g_and ?_
  | with_reducible refine G.g_or ?_
  | with_reducible refine G.g_not ?_
  | with_reducible refine G.g_andV ?_
  | with_reducible refine G.g_orV ?_
  | with_reducible refine G.g_notV ?_
  | with_reducible refine G.g_ifE ?_
  | with_reducible refine G.g_un ?_
  | with_reducible refine G.g_tupK ?_
  | with_reducible refine G.g_lstK ?_
  | with_reducible refine G.g_small (Nat.le_of_ble_eq_true rfl) ?_
  | with_reducible refine G.g_drop ?_
  | with_reducible refine G.g_ret ?_
  | with_reducible refine G.g_retN ?_
  | with_reducible refine G.g_next ?_
  | with_reducible refine G.g_brk ?_
  | with_reducible refine G.g_cont ?_
  | with_reducible refine G.g_for ?_
  | with_reducible refine G.g_name ?_
  | with_reducible refine G.g_rng1 ?_
  | with_reducible refine G.g_rng2 ?_
  | with_reducible refine G.g_bm ?_
  | with_reducible refine G.g_bm0 ?_
  | with_reducible refine G.g_tyS ?_
  | with_reducible refine G.g_m1 ?_
  | with_reducible refine G.g_isS ?_
  | with_reducible refine G.v_starts3 ?_
  | with_reducible refine G.g_sl ?_
  | with_reducible refine G.g_no ?_
  | with_reducible refine G.g_part ?_
  | with_reducible refine G.g_isI ?_
  | with_reducible refine G.g_makeK ?_
  | with_reducible refine G.g_fld ?_
  | with_reducible refine G.g_sfld ?_
  | with_reducible refine G.g_asgG ?_
  | with_reducible refine G.g_sub ?_
  | with_reducible refine G.g_gcons ?_
  | with_reducible refine G.g_gnil ?_
  | with_reducible refine G.v_mulI (by unfold L2.CMul; first | (left; omega) | (right; omega)) ?_
  | with_reducible refine G.v_mod (by omega) ?_
  | with_reducible refine G.v_div (by unfold L2.CDiv; omega) ?_
  | with_reducible refine G.v_leS ?_
  | with_reducible refine G.g_raise ?_
  | with_reducible refine G.v_neg ?_
  | with_reducible refine G.g_lcK ?_
  | with_reducible refine G.g_wt ?_
  | with_reducible refine G.g_prop ?_
  | with_reducible refine G.g_joinE ?_
  | with_reducible refine G.g_jsC ?_
  | with_reducible refine G.g_jsN ?_
  | with_reducible refine G.g_fmt ?_
  | walk_at "fld")
local macro_rules | `(tactic| walk_at "sm") => `(tactic| first
  | assumption
  | exact L2.Same.refl _
  | exact G.HH.sub (by assumption)
  | (refine L2.Same.trans (by assumption) ?_; walk_at "sm"))
local macro_rules | `(tactic| walk_at "at") => `(tactic| first
  | assumption
  | exact G.At.of
  | (refine G.At.mono ?_ (by assumption); walk_at "sm"))
local macro_rules | `(tactic| walk_at "atl") => `(tactic| first
  | exact G.AtA.nil
  | (refine G.AtA.cons (by walk_at "at") ?_; walk_at "atl"))
local macro_rules | `(tactic| walk_at "er") => `(tactic| first
  | exact fun _ _ b => b
  | exact fun _ _ b => G.Er.mono b (by walk_at "sm")
  | exact fun _ _ b => G.Er.up b
  | exact fun _ _ b => G.Er.up (G.Er.mono b (by walk_at "sm"))
  | exact fun _ _ b => G.Er.up (G.Er.up b)
  | exact fun _ _ b => G.Er.up (G.Er.up (G.Er.mono b (by walk_at "sm")))
  | exact fun _ _ b => G.Er.up (G.Er.up (G.Er.up (G.Er.mono b (by walk_at "sm"))))
  | exact fun _ _ b => G.Er.up (G.Er.up (G.Er.up (G.Er.up (G.Er.mono b (by walk_at "sm"))))))
local macro_rules | `(tactic| walk_at "fld") => `(tactic| fail "no field")
local macro_rules | `(tactic| walk_at "go") => `(tactic| repeat walk_at "go1")

namespace Lw
open PySem PySem.Spec PyProof.Rows L2 G
section
variable {K : PySem.W.Frag} {F F0 H H' : Hp} {Q : VK} {E : XK} {mg : Str → Option Value} {M : List (Addr × HO)} {x m : V}
abbrev o_Field (a0 a1 a2 : D) : D := .obj "Field" [("name", a0), ("shape", a1), ("needed", a2)]
theorem f_Field_name (T : Tx K mg) {a0 a1 a2 : D} (h : At K F0 (o_Field a0 a1 a2) x) (s : Same F0 H) (q : ∀ w, At K F0 a0 w → Q w H) : FldK K "name" x H Q := s_fld h s T.cl_Field T.no_Field_name (lk1 rfl) q
theorem fv_Field_name (T : Tx K mg) {a1 a2 : D} (h : At K F0 (o_Field (.v m) a1 a2) x) (s : Same F0 H) (q : Q m H) : FldK K "name" x H Q := s_fld h s T.cl_Field T.no_Field_name (lk1 rfl) fun w e => by rw [At.v_.mp e]; exact q
theorem f_Field_shape (T : Tx K mg) {a0 a1 a2 : D} (h : At K F0 (o_Field a0 a1 a2) x) (s : Same F0 H) (q : ∀ w, At K F0 a1 w → Q w H) : FldK K "shape" x H Q := s_fld h s T.cl_Field T.no_Field_shape (lk2 (by decide +kernel) (lk1 rfl)) q
theorem fv_Field_shape (T : Tx K mg) {a0 a2 : D} (h : At K F0 (o_Field a0 (.v m) a2) x) (s : Same F0 H) (q : Q m H) : FldK K "shape" x H Q := s_fld h s T.cl_Field T.no_Field_shape (lk2 (by decide +kernel) (lk1 rfl)) fun w e => by rw [At.v_.mp e]; exact q
theorem f_Field_needed (T : Tx K mg) {a0 a1 a2 : D} (h : At K F0 (o_Field a0 a1 a2) x) (s : Same F0 H) (q : ∀ w, At K F0 a2 w → Q w H) : FldK K "needed" x H Q := s_fld h s T.cl_Field T.no_Field_needed (lk2 (by decide +kernel) (lk2 (by decide +kernel) (lk1 rfl))) q
theorem fv_Field_needed (T : Tx K mg) {a0 a1 : D} (h : At K F0 (o_Field a0 a1 (.v m)) x) (s : Same F0 H) (q : Q m H) : FldK K "needed" x H Q := s_fld h s T.cl_Field T.no_Field_needed (lk2 (by decide +kernel) (lk2 (by decide +kernel) (lk1 rfl))) fun w e => by rw [At.v_.mp e]; exact q
theorem mk_Field (T : Tx K mg) {a0 a1 a2 : D} {x0 x1 x2 : V} (hh : HH F H M) (h0 : At K F a0 x0) (h1 : At K F a1 x1) (h2 : At K F a2 x2) (q : ∀ F' H' u, Same F F' → HH F' H' M → At K F' (o_Field a0 a1 a2) u → Q u H') : MakeK (He.ga K "Field") (sp_Field_init K) [x0, x1, x2] Q H E := by
  refine mk_start hh fun F1 H1 v dx s1 hh => ?_
  refine ⟨rfl, ?_⟩
  unfold t_Field_init
  walk_at "go"
  refine s_sfld hh T.cl_Field T.no_Field_name [] rfl (by decide +kernel) (Nat.le_of_ble_eq_true rfl) fun H1'' hh => ?_
  walk_at "go"
  refine s_sfld hh T.cl_Field T.no_Field_shape ["name"] rfl (by decide +kernel) (Nat.le_of_ble_eq_true rfl) fun H1'' hh => ?_
  walk_at "go"
  refine s_sfld hh T.cl_Field T.no_Field_needed ["name", "shape"] rfl (by decide +kernel) (Nat.le_of_ble_eq_true rfl) fun H1'' hh => ?_
  exact ⟨rfl, mk_end hh (AtF.cons (h0.mono s1) (AtF.cons (h1.mono s1) (AtF.cons (h2.mono s1) (AtF.nil)))) fun F2 H2 u s2 hh2 ha => q F2 H2 u (s1.trans s2) hh2 ha⟩
abbrev o_Schema (a0 : D) : D := .obj "Schema" [("kinds", a0)]
theorem f_Schema_kinds (T : Tx K mg) {a0 : D} (h : At K F0 (o_Schema a0) x) (s : Same F0 H) (q : ∀ w, At K F0 a0 w → Q w H) : FldK K "kinds" x H Q := s_fld h s T.cl_Schema T.no_Schema_kinds (lk1 rfl) q
theorem fv_Schema_kinds (T : Tx K mg) {z : D} (h : At K F0 (o_Schema (.v m)) x) (s : Same F0 H) (q : Q m H) : FldK K "kinds" x H Q := s_fld h s T.cl_Schema T.no_Schema_kinds (lk1 rfl) fun w e => by rw [At.v_.mp e]; exact q
theorem mk_Schema (T : Tx K mg) {a0 : List D} {x0 : V} (hh : HH F H M) (h0 : At K F (.lst a0) x0) (q : ∀ F' H' u, Same F F' → HH F' H' M → At K F' (o_Schema (.lst a0)) u → Q u H') : MakeK (He.ga K "Schema") (sp_Schema_init K) [x0] Q H E := by
  refine mk_start hh fun F1 H1 v dx s1 hh => ?_
  refine ⟨rfl, ?_⟩
  unfold t_Schema_init
  walk_at "go"
  refine s_listL h0 hh s1 fun F1' H1' u0 s2 hh h0 => ?_
  replace s1 := s1.trans s2
  walk_at "go"
  refine s_sfld hh T.cl_Schema T.no_Schema_kinds [] rfl (by decide +kernel) (Nat.le_of_ble_eq_true rfl) fun H1'' hh => ?_
  exact ⟨rfl, mk_end hh (AtF.cons h0 (AtF.nil)) fun F2 H2 u s2 hh2 ha => q F2 H2 u (s1.trans s2) hh2 ha⟩
abbrev o_Token (a0 a1 a2 : D) : D := .obj "Token" [("role", a0), ("text", a1), ("place", a2)]
theorem f_Token_role (T : Tx K mg) {a0 a1 a2 : D} (h : At K F0 (o_Token a0 a1 a2) x) (s : Same F0 H) (q : ∀ w, At K F0 a0 w → Q w H) : FldK K "role" x H Q := s_fld h s T.cl_Token T.no_Token_role (lk1 rfl) q
theorem fv_Token_role (T : Tx K mg) {a1 a2 : D} (h : At K F0 (o_Token (.v m) a1 a2) x) (s : Same F0 H) (q : Q m H) : FldK K "role" x H Q := s_fld h s T.cl_Token T.no_Token_role (lk1 rfl) fun w e => by rw [At.v_.mp e]; exact q
theorem f_Token_text (T : Tx K mg) {a0 a1 a2 : D} (h : At K F0 (o_Token a0 a1 a2) x) (s : Same F0 H) (q : ∀ w, At K F0 a1 w → Q w H) : FldK K "text" x H Q := s_fld h s T.cl_Token T.no_Token_text (lk2 (by decide +kernel) (lk1 rfl)) q
theorem fv_Token_text (T : Tx K mg) {a0 a2 : D} (h : At K F0 (o_Token a0 (.v m) a2) x) (s : Same F0 H) (q : Q m H) : FldK K "text" x H Q := s_fld h s T.cl_Token T.no_Token_text (lk2 (by decide +kernel) (lk1 rfl)) fun w e => by rw [At.v_.mp e]; exact q
theorem f_Token_place (T : Tx K mg) {a0 a1 a2 : D} (h : At K F0 (o_Token a0 a1 a2) x) (s : Same F0 H) (q : ∀ w, At K F0 a2 w → Q w H) : FldK K "place" x H Q := s_fld h s T.cl_Token T.no_Token_place (lk2 (by decide +kernel) (lk2 (by decide +kernel) (lk1 rfl))) q
theorem fv_Token_place (T : Tx K mg) {a0 a1 : D} (h : At K F0 (o_Token a0 a1 (.v m)) x) (s : Same F0 H) (q : Q m H) : FldK K "place" x H Q := s_fld h s T.cl_Token T.no_Token_place (lk2 (by decide +kernel) (lk2 (by decide +kernel) (lk1 rfl))) fun w e => by rw [At.v_.mp e]; exact q
theorem mk_Token (T : Tx K mg) {a0 a1 a2 : D} {x0 x1 x2 : V} (hh : HH F H M) (h0 : At K F a0 x0) (h1 : At K F a1 x1) (h2 : At K F a2 x2) (q : ∀ F' H' u, Same F F' → HH F' H' M → At K F' (o_Token a0 a1 a2) u → Q u H') : MakeK (He.ga K "Token") (sp_Token_init K) [x0, x1, x2] Q H E := by
  refine mk_start hh fun F1 H1 v dx s1 hh => ?_
  refine ⟨rfl, ?_⟩
  unfold t_Token_init
  walk_at "go"
  refine s_sfld hh T.cl_Token T.no_Token_role [] rfl (by decide +kernel) (Nat.le_of_ble_eq_true rfl) fun H1'' hh => ?_
  walk_at "go"
  refine s_sfld hh T.cl_Token T.no_Token_text ["role"] rfl (by decide +kernel) (Nat.le_of_ble_eq_true rfl) fun H1'' hh => ?_
  walk_at "go"
  refine s_sfld hh T.cl_Token T.no_Token_place ["role", "text"] rfl (by decide +kernel) (Nat.le_of_ble_eq_true rfl) fun H1'' hh => ?_
  exact ⟨rfl, mk_end hh (AtF.cons (h0.mono s1) (AtF.cons (h1.mono s1) (AtF.cons (h2.mono s1) (AtF.nil)))) fun F2 H2 u s2 hh2 ha => q F2 H2 u (s1.trans s2) hh2 ha⟩
abbrev o_IntSort (a0 a1 : D) : D := .obj "IntSort" [("low", a0), ("high", a1)]
theorem f_IntSort_low (T : Tx K mg) {a0 a1 : D} (h : At K F0 (o_IntSort a0 a1) x) (s : Same F0 H) (q : ∀ w, At K F0 a0 w → Q w H) : FldK K "low" x H Q := s_fld h s T.cl_IntSort T.no_IntSort_low (lk1 rfl) q
theorem fv_IntSort_low (T : Tx K mg) {a1 : D} (h : At K F0 (o_IntSort (.v m) a1) x) (s : Same F0 H) (q : Q m H) : FldK K "low" x H Q := s_fld h s T.cl_IntSort T.no_IntSort_low (lk1 rfl) fun w e => by rw [At.v_.mp e]; exact q
theorem f_IntSort_high (T : Tx K mg) {a0 a1 : D} (h : At K F0 (o_IntSort a0 a1) x) (s : Same F0 H) (q : ∀ w, At K F0 a1 w → Q w H) : FldK K "high" x H Q := s_fld h s T.cl_IntSort T.no_IntSort_high (lk2 (by decide +kernel) (lk1 rfl)) q
theorem fv_IntSort_high (T : Tx K mg) {a0 : D} (h : At K F0 (o_IntSort a0 (.v m)) x) (s : Same F0 H) (q : Q m H) : FldK K "high" x H Q := s_fld h s T.cl_IntSort T.no_IntSort_high (lk2 (by decide +kernel) (lk1 rfl)) fun w e => by rw [At.v_.mp e]; exact q
theorem mk_IntSort (T : Tx K mg) {a0 a1 : D} {x0 x1 : V} (hh : HH F H M) (h0 : At K F a0 x0) (h1 : At K F a1 x1) (q : ∀ F' H' u, Same F F' → HH F' H' M → At K F' (o_IntSort a0 a1) u → Q u H') : MakeK (He.ga K "IntSort") (sp_IntSort_init K) [x0, x1] Q H E := by
  refine mk_start hh fun F1 H1 v dx s1 hh => ?_
  refine ⟨rfl, ?_⟩
  unfold t_IntSort_init
  walk_at "go"
  refine s_sfld hh T.cl_IntSort T.no_IntSort_low [] rfl (by decide +kernel) (Nat.le_of_ble_eq_true rfl) fun H1'' hh => ?_
  walk_at "go"
  refine s_sfld hh T.cl_IntSort T.no_IntSort_high ["low"] rfl (by decide +kernel) (Nat.le_of_ble_eq_true rfl) fun H1'' hh => ?_
  exact ⟨rfl, mk_end hh (AtF.cons (h0.mono s1) (AtF.cons (h1.mono s1) (AtF.nil))) fun F2 H2 u s2 hh2 ha => q F2 H2 u (s1.trans s2) hh2 ha⟩
abbrev o_TextSort (a0 a1 : D) : D := .obj "TextSort" [("longest", a0), ("without", a1)]
theorem f_TextSort_longest (T : Tx K mg) {a0 a1 : D} (h : At K F0 (o_TextSort a0 a1) x) (s : Same F0 H) (q : ∀ w, At K F0 a0 w → Q w H) : FldK K "longest" x H Q := s_fld h s T.cl_TextSort T.no_TextSort_longest (lk1 rfl) q
theorem fv_TextSort_longest (T : Tx K mg) {a1 : D} (h : At K F0 (o_TextSort (.v m) a1) x) (s : Same F0 H) (q : Q m H) : FldK K "longest" x H Q := s_fld h s T.cl_TextSort T.no_TextSort_longest (lk1 rfl) fun w e => by rw [At.v_.mp e]; exact q
theorem f_TextSort_without (T : Tx K mg) {a0 a1 : D} (h : At K F0 (o_TextSort a0 a1) x) (s : Same F0 H) (q : ∀ w, At K F0 a1 w → Q w H) : FldK K "without" x H Q := s_fld h s T.cl_TextSort T.no_TextSort_without (lk2 (by decide +kernel) (lk1 rfl)) q
theorem fv_TextSort_without (T : Tx K mg) {a0 : D} (h : At K F0 (o_TextSort a0 (.v m)) x) (s : Same F0 H) (q : Q m H) : FldK K "without" x H Q := s_fld h s T.cl_TextSort T.no_TextSort_without (lk2 (by decide +kernel) (lk1 rfl)) fun w e => by rw [At.v_.mp e]; exact q
theorem mk_TextSort (T : Tx K mg) {a0 a1 : D} {x0 x1 : V} (hh : HH F H M) (h0 : At K F a0 x0) (h1 : At K F a1 x1) (q : ∀ F' H' u, Same F F' → HH F' H' M → At K F' (o_TextSort a0 a1) u → Q u H') : MakeK (He.ga K "TextSort") (sp_TextSort_init K) [x0, x1] Q H E := by
  refine mk_start hh fun F1 H1 v dx s1 hh => ?_
  refine ⟨rfl, ?_⟩
  unfold t_TextSort_init
  walk_at "go"
  refine s_sfld hh T.cl_TextSort T.no_TextSort_longest [] rfl (by decide +kernel) (Nat.le_of_ble_eq_true rfl) fun H1'' hh => ?_
  walk_at "go"
  refine s_sfld hh T.cl_TextSort T.no_TextSort_without ["longest"] rfl (by decide +kernel) (Nat.le_of_ble_eq_true rfl) fun H1'' hh => ?_
  exact ⟨rfl, mk_end hh (AtF.cons (h0.mono s1) (AtF.cons (h1.mono s1) (AtF.nil))) fun F2 H2 u s2 hh2 ha => q F2 H2 u (s1.trans s2) hh2 ha⟩
abbrev o_ChoiceSort (a0 : D) : D := .obj "ChoiceSort" [("choices", a0)]
theorem f_ChoiceSort_choices (T : Tx K mg) {a0 : D} (h : At K F0 (o_ChoiceSort a0) x) (s : Same F0 H) (q : ∀ w, At K F0 a0 w → Q w H) : FldK K "choices" x H Q := s_fld h s T.cl_ChoiceSort T.no_ChoiceSort_choices (lk1 rfl) q
theorem fv_ChoiceSort_choices (T : Tx K mg) {z : D} (h : At K F0 (o_ChoiceSort (.v m)) x) (s : Same F0 H) (q : Q m H) : FldK K "choices" x H Q := s_fld h s T.cl_ChoiceSort T.no_ChoiceSort_choices (lk1 rfl) fun w e => by rw [At.v_.mp e]; exact q
theorem mk_ChoiceSort (T : Tx K mg) {a0 : List D} {x0 : V} (hh : HH F H M) (h0 : At K F (.lst a0) x0) (q : ∀ F' H' u, Same F F' → HH F' H' M → At K F' (o_ChoiceSort (.lst a0)) u → Q u H') : MakeK (He.ga K "ChoiceSort") (sp_ChoiceSort_init K) [x0] Q H E := by
  refine mk_start hh fun F1 H1 v dx s1 hh => ?_
  refine ⟨rfl, ?_⟩
  unfold t_ChoiceSort_init
  walk_at "go"
  refine s_listL h0 hh s1 fun F1' H1' u0 s2 hh h0 => ?_
  replace s1 := s1.trans s2
  walk_at "go"
  refine s_sfld hh T.cl_ChoiceSort T.no_ChoiceSort_choices [] rfl (by decide +kernel) (Nat.le_of_ble_eq_true rfl) fun H1'' hh => ?_
  exact ⟨rfl, mk_end hh (AtF.cons h0 (AtF.nil)) fun F2 H2 u s2 hh2 ha => q F2 H2 u (s1.trans s2) hh2 ha⟩
abbrev o_RefSort (a0 a1 : D) : D := .obj "RefSort" [("kinds", a0), ("rule", a1)]
theorem f_RefSort_kinds (T : Tx K mg) {a0 a1 : D} (h : At K F0 (o_RefSort a0 a1) x) (s : Same F0 H) (q : ∀ w, At K F0 a0 w → Q w H) : FldK K "kinds" x H Q := s_fld h s T.cl_RefSort T.no_RefSort_kinds (lk1 rfl) q
theorem fv_RefSort_kinds (T : Tx K mg) {a1 : D} (h : At K F0 (o_RefSort (.v m) a1) x) (s : Same F0 H) (q : Q m H) : FldK K "kinds" x H Q := s_fld h s T.cl_RefSort T.no_RefSort_kinds (lk1 rfl) fun w e => by rw [At.v_.mp e]; exact q
theorem f_RefSort_rule (T : Tx K mg) {a0 a1 : D} (h : At K F0 (o_RefSort a0 a1) x) (s : Same F0 H) (q : ∀ w, At K F0 a1 w → Q w H) : FldK K "rule" x H Q := s_fld h s T.cl_RefSort T.no_RefSort_rule (lk2 (by decide +kernel) (lk1 rfl)) q
theorem fv_RefSort_rule (T : Tx K mg) {a0 : D} (h : At K F0 (o_RefSort a0 (.v m)) x) (s : Same F0 H) (q : Q m H) : FldK K "rule" x H Q := s_fld h s T.cl_RefSort T.no_RefSort_rule (lk2 (by decide +kernel) (lk1 rfl)) fun w e => by rw [At.v_.mp e]; exact q
theorem mk_RefSort (T : Tx K mg) {a1 : D} {a0 : List D} {x0 x1 : V} (hh : HH F H M) (h0 : At K F (.lst a0) x0) (h1 : At K F a1 x1) (q : ∀ F' H' u, Same F F' → HH F' H' M → At K F' (o_RefSort (.lst a0) a1) u → Q u H') : MakeK (He.ga K "RefSort") (sp_RefSort_init K) [x0, x1] Q H E := by
  refine mk_start hh fun F1 H1 v dx s1 hh => ?_
  refine ⟨rfl, ?_⟩
  unfold t_RefSort_init
  walk_at "go"
  refine s_listL h0 hh s1 fun F1' H1' u0 s2 hh h0 => ?_
  replace s1 := s1.trans s2
  walk_at "go"
  refine s_sfld hh T.cl_RefSort T.no_RefSort_kinds [] rfl (by decide +kernel) (Nat.le_of_ble_eq_true rfl) fun H1'' hh => ?_
  walk_at "go"
  refine s_sfld hh T.cl_RefSort T.no_RefSort_rule ["kinds"] rfl (by decide +kernel) (Nat.le_of_ble_eq_true rfl) fun H1'' hh => ?_
  exact ⟨rfl, mk_end hh (AtF.cons h0 (AtF.cons (h1.mono s1) (AtF.nil))) fun F2 H2 u s2 hh2 ha => q F2 H2 u (s1.trans s2) hh2 ha⟩
abbrev o_ListSort (a0 : D) : D := .obj "ListSort" [("kinds", a0)]
theorem f_ListSort_kinds (T : Tx K mg) {a0 : D} (h : At K F0 (o_ListSort a0) x) (s : Same F0 H) (q : ∀ w, At K F0 a0 w → Q w H) : FldK K "kinds" x H Q := s_fld h s T.cl_ListSort T.no_ListSort_kinds (lk1 rfl) q
theorem fv_ListSort_kinds (T : Tx K mg) {z : D} (h : At K F0 (o_ListSort (.v m)) x) (s : Same F0 H) (q : Q m H) : FldK K "kinds" x H Q := s_fld h s T.cl_ListSort T.no_ListSort_kinds (lk1 rfl) fun w e => by rw [At.v_.mp e]; exact q
theorem mk_ListSort (T : Tx K mg) {a0 : List D} {x0 : V} (hh : HH F H M) (h0 : At K F (.lst a0) x0) (q : ∀ F' H' u, Same F F' → HH F' H' M → At K F' (o_ListSort (.lst a0)) u → Q u H') : MakeK (He.ga K "ListSort") (sp_ListSort_init K) [x0] Q H E := by
  refine mk_start hh fun F1 H1 v dx s1 hh => ?_
  refine ⟨rfl, ?_⟩
  unfold t_ListSort_init
  walk_at "go"
  refine s_listL h0 hh s1 fun F1' H1' u0 s2 hh h0 => ?_
  replace s1 := s1.trans s2
  walk_at "go"
  refine s_sfld hh T.cl_ListSort T.no_ListSort_kinds [] rfl (by decide +kernel) (Nat.le_of_ble_eq_true rfl) fun H1'' hh => ?_
  exact ⟨rfl, mk_end hh (AtF.cons h0 (AtF.nil)) fun F2 H2 u s2 hh2 ha => q F2 H2 u (s1.trans s2) hh2 ha⟩
end
end Lw
local macro_rules | `(tactic| walk_at "fld") => `(tactic| first
  | (with_reducible refine Lw.fv_Field_name (by assumption) (by assumption) (by walk_at "sm") ?_)
  | (with_reducible refine Lw.f_Field_name (by assumption) (by assumption) (by walk_at "sm") ?_; intro _ _)
  | (with_reducible refine Lw.fv_Field_shape (by assumption) (by assumption) (by walk_at "sm") ?_)
  | (with_reducible refine Lw.f_Field_shape (by assumption) (by assumption) (by walk_at "sm") ?_; intro _ _)
  | (with_reducible refine Lw.fv_Field_needed (by assumption) (by assumption) (by walk_at "sm") ?_)
  | (with_reducible refine Lw.f_Field_needed (by assumption) (by assumption) (by walk_at "sm") ?_; intro _ _)
  | (with_reducible refine Lw.fv_Schema_kinds (by assumption) (by assumption) (by walk_at "sm") ?_)
  | (with_reducible refine Lw.f_Schema_kinds (by assumption) (by assumption) (by walk_at "sm") ?_; intro _ _)
  | (with_reducible refine Lw.fv_Token_role (by assumption) (by assumption) (by walk_at "sm") ?_)
  | (with_reducible refine Lw.f_Token_role (by assumption) (by assumption) (by walk_at "sm") ?_; intro _ _)
  | (with_reducible refine Lw.fv_Token_text (by assumption) (by assumption) (by walk_at "sm") ?_)
  | (with_reducible refine Lw.f_Token_text (by assumption) (by assumption) (by walk_at "sm") ?_; intro _ _)
  | (with_reducible refine Lw.fv_Token_place (by assumption) (by assumption) (by walk_at "sm") ?_)
  | (with_reducible refine Lw.f_Token_place (by assumption) (by assumption) (by walk_at "sm") ?_; intro _ _)
  | (with_reducible refine Lw.fv_IntSort_low (by assumption) (by assumption) (by walk_at "sm") ?_)
  | (with_reducible refine Lw.f_IntSort_low (by assumption) (by assumption) (by walk_at "sm") ?_; intro _ _)
  | (with_reducible refine Lw.fv_IntSort_high (by assumption) (by assumption) (by walk_at "sm") ?_)
  | (with_reducible refine Lw.f_IntSort_high (by assumption) (by assumption) (by walk_at "sm") ?_; intro _ _)
  | (with_reducible refine Lw.fv_TextSort_longest (by assumption) (by assumption) (by walk_at "sm") ?_)
  | (with_reducible refine Lw.f_TextSort_longest (by assumption) (by assumption) (by walk_at "sm") ?_; intro _ _)
  | (with_reducible refine Lw.fv_TextSort_without (by assumption) (by assumption) (by walk_at "sm") ?_)
  | (with_reducible refine Lw.f_TextSort_without (by assumption) (by assumption) (by walk_at "sm") ?_; intro _ _)
  | (with_reducible refine Lw.fv_ChoiceSort_choices (by assumption) (by assumption) (by walk_at "sm") ?_)
  | (with_reducible refine Lw.f_ChoiceSort_choices (by assumption) (by assumption) (by walk_at "sm") ?_; intro _ _)
  | (with_reducible refine Lw.fv_RefSort_kinds (by assumption) (by assumption) (by walk_at "sm") ?_)
  | (with_reducible refine Lw.f_RefSort_kinds (by assumption) (by assumption) (by walk_at "sm") ?_; intro _ _)
  | (with_reducible refine Lw.fv_RefSort_rule (by assumption) (by assumption) (by walk_at "sm") ?_)
  | (with_reducible refine Lw.f_RefSort_rule (by assumption) (by assumption) (by walk_at "sm") ?_; intro _ _)
  | (with_reducible refine Lw.fv_ListSort_kinds (by assumption) (by assumption) (by walk_at "sm") ?_)
  | (with_reducible refine Lw.f_ListSort_kinds (by assumption) (by assumption) (by walk_at "sm") ?_; intro _ _))


namespace Lw
open PySem PySem.Spec PyProof.Rows L2 G
/-! ### tokens: what is computed -/
structure Tk where
  r : List Nat
  t : List Nat
  p : Nat
inductive Rq where
  | ok (t : List Nat) (n : Nat)
  | opn
  | bad (k : Nat)
def Rq.more (d : Nat) (k : Nat) : Rq → Rq
  | .ok t n => .ok (d :: t) (n + k)
  | .opn => .opn
  | .bad j => .bad (j + k)
/-- a quoted text behind its first mark -/
def rq : List Nat → Rq
  | [] => .opn
  | [c] => if c = 34 then .ok [] 1 else .opn
  | c :: d :: r => if c = 34 then .ok [] 1 else if c = 92 then (if d = 34 ∨ d = 92 then (rq r).more d 2 else .bad 1) else (rq (d :: r)).more c 1
def Rq.at (acc : List Nat) (i : Nat) : Rq → Rq
  | .ok t n => .ok (acc ++ t) (i + n)
  | .opn => .opn
  | .bad j => .bad (i + j)
theorem Rq.at_more (acc : List Nat) (i d k : Nat) (r : Rq) : (r.more d k).at acc i = r.at (acc ++ [d]) (i + k) := by
  cases r <;> simp [Rq.more, Rq.at] <;> omega
def isL (c : Nat) : Bool := (decide (97 ≤ c) && decide (c ≤ 122)) || (decide (65 ≤ c) && decide (c ≤ 90))
def isD (c : Nat) : Bool := decide (48 ≤ c) && decide (c ≤ 57)
def isW (c : Nat) : Bool := isL c || (isD c || decide (c = 95))
def cwl (f : Nat → Bool) (l : List Nat) : Nat := (l.takeWhile f).length
theorem cwl_cons {f : Nat → Bool} {c : Nat} {l : List Nat} : cwl f (c :: l) = if f c = true then 1 + cwl f l else 0 := by
  unfold cwl
  rw [List.takeWhile_cons]
  split
  · rw [List.length_cons]; omega
  · rfl
theorem cwl_le {f : Nat → Bool} {l : List Nat} : cwl f l ≤ l.length := (List.takeWhile_sublist (p := f) (l := l)).length_le
/-- one token at the head: its role, text, how many signs it takes; or a fault so many signs behind -/
inductive Lx where
  | tok (r t : List Nat) (n : Nat)
  | bad (k : Nat) (z : List Nat)
def lxQ (l : List Nat) : Lx := match rq l with
  | .ok t n => .tok q_text t (n + 1)
  | .opn => .bad 0 q_text_is_not_closed
  | .bad k => .bad (k + 1) q_unexpected_sign
def lxW (l : List Nat) : Lx := if 12 < cwl isW l then .bad 0 q_word_too_long else .tok q_word (l.take (cwl isW l)) (cwl isW l)
def lxN (c : Nat) (l : List Nat) : Lx := if 1 < cwl isD l ∧ c = 48 then .bad 0 q_needless_zero else if 18 < cwl isD l then .bad 0 q_number_too_long else
  if 0 < cwl isW (l.drop (cwl isD l)) then .bad (cwl isD l) q_unexpected_sign else .tok q_number (l.take (cwl isD l)) (cwl isD l)
def stepS (D : List Nat) (acc s : List Nat) : List Nat := if D.take s.length = s ∧ acc.length < s.length then s else acc
def lxS (sg : List (List Nat)) (l : List Nat) : Lx := let f := sg.foldl (stepS l) []; if f = [] then .bad 0 q_unexpected_sign else .tok q_sign f f.length
def lx (sg : List (List Nat)) (c : Nat) (r : List Nat) : Lx := if isL c = true then lxW (c :: r) else if isD c = true then lxN c (c :: r) else if c = 34 then lxQ r else lxS sg (c :: r)
/-- the tokens of what is left, behind those that are there -/
def toksL (sg : List (List Nat)) : Nat → List Nat → Nat → List Tk → Rs (List Tk)
  | 0, _, _, _ => .stuck
  | _ + 1, [], p, acc => .ok (acc ++ [⟨q_end, [], p⟩])
  | m + 1, c :: r, p, acc => if c = 32 then toksL sg m r (p + 1) acc else match lx sg c r with
    | .tok role t n => toksL sg m ((c :: r).drop n) (p + n) (acc ++ [⟨role, t, p⟩])
    | .bad k z => .bad (p + k) z
def toks (sg : List (List Nat)) (n : Nat) (zs : List Nat) : Rs (List Tk) := if n < zs.length then .bad 0 q_text_too_long else toksL sg (zs.length + 1) zs 0 []
/-! ### tokens: the walk -/
theorem one_eq {c d : Nat} : decide ((⟨[c].toArray⟩ : Str) = ⟨[d].toArray⟩) = decide (c = d) := by rw [dT]; exact decide_eq_decide.mpr ⟨fun h => by injection h, fun h => by rw [h]⟩
section
variable {K : PySem.W.Frag} {F F0 H H' : Hp} {Q : VK} {E : XK} {mg : Str → Option Value} {a b c : D} {x y z u w : V} {M : List (Addr × HO)} {m n l : V}
end
end Lw

-- fld
namespace Lw
open PySem PySem.Spec PyProof.Rows L2 G
abbrev dTk (k : Tk) : D := o_Token (.t k.r) (.t k.t) (.i k.p)
section
variable {K : PySem.W.Frag} {F F0 H H' : Hp} {Q : VK} {E : XK} {mg : Str → Option Value} {M : List (Addr × HO)}
theorem mem_L {c : Nat} : decide (c ∈ q_c_LETTERS) = isL c := by
  rw [Bool.eq_iff_iff, decide_eq_true_iff]
  unfold isL q_c_LETTERS
  simp only [List.mem_cons, List.not_mem_nil, or_false, Bool.or_eq_true, Bool.and_eq_true, decide_eq_true_iff]
  omega
theorem mem_D {c : Nat} : decide (c ∈ q_c_DIGITS) = isD c := by
  rw [Bool.eq_iff_iff, decide_eq_true_iff]
  unfold isD q_c_DIGITS
  simp only [List.mem_cons, List.not_mem_nil, or_false, Bool.and_eq_true, decide_eq_true_iff]
  omega
theorem rd_word_end {zs : List Nat} {p : Nat} (hz : zs.length ≤ 100000) (hp : p ≤ zs.length) (q : Q (.int ((p + cwl isW (zs.drop p) : Nat) : Int)) H) : sp_word_end K [svv zs, .int (p : Int)] H Q E := by
  refine ⟨rfl, ?_⟩
  unfold t_word_end
  walk_at "go"
  refine a_while (fun m σ H' => ∃ j : Nat, m = zs.length + 1 - j ∧ j ≤ zs.length ∧ σ = [some (svv zs), some (.int j)] ∧ H' = H ∧ j + cwl isW (zs.drop j) = p + cwl isW (zs.drop p)) ⟨p, rfl, hp, rfl, rfl, rfl⟩ (fun σ H ⟨j, e, h, _⟩ => by omega) ?_
  rintro m σ H' ⟨j, hm, hj, rfl, rfl, he⟩
  walk_at "go"
  refine v_lenT' (by omega) ?_
  walk_at "go"
  by_cases hlt : j < zs.length
  case neg =>
    rw [decide_eq_false (by omega)]
    walk_at "go"
    rw [List.drop_eq_nil_of_le (by omega)] at he
    rw [show j = p + cwl isW (zs.drop p) by rw [← he]; rfl]
    exact q
  rw [decide_eq_true (by omega)]
  have hc : zs[j]? = some zs[j] := List.getElem?_eq_getElem hlt
  have hcw := cwl_cons (f := isW) (c := zs[j]) (l := zs.drop (j + 1))
  rw [← drop_c hc] at hcw
  generalize zs[j] = c at *
  have ix : ∀ {R : VK}, R (.str ⟨[c].toArray⟩) H' → rIx K (svv zs) (.int (j : Int)) H' R := fun r => v_ixT' (by omega) rfl hc r
  have stop : isW c = false → Q (.int (j : Int)) H' := fun e => by
    rw [e, if_neg (by decide)] at hcw
    rw [show j = p + cwl isW (zs.drop p) by omega]
    exact q
  have cont : isW c = true → (j + 1) + cwl isW (zs.drop (j + 1)) = p + cwl isW (zs.drop p) := fun e => by
    rw [e, if_pos rfl] at hcw
    omega
  unfold k_LETTERS k_DIGITS
  walk_at "go"
  refine ix ?_
  walk_at "go"
  rw [mem_L]
  cases hL : isL c with
  | true =>
    walk_at "go"
    exact ⟨j + 1, by omega, by omega, rfl, rfl, cont (by unfold isW; rw [hL]; rfl)⟩
  | false =>
    walk_at "go"
    refine ix ?_
    walk_at "go"
    rw [mem_D]
    cases hD : isD c with
    | true =>
      walk_at "go"
      exact ⟨j + 1, by omega, by omega, rfl, rfl, cont (by unfold isW; rw [hL, hD]; rfl)⟩
    | false =>
      walk_at "go"
      refine ix ?_
      unfold q_x5f
      walk_at "go"
      by_cases h95 : c = 95
      · rw [decide_eq_true (by rw [h95])]
        walk_at "go"
        exact ⟨j + 1, by omega, by omega, rfl, rfl, cont (by unfold isW; rw [hL, hD, decide_eq_true h95]; rfl)⟩
      · rw [decide_eq_false (fun e => h95 (by injection e))]
        walk_at "go"
        exact stop (by unfold isW; rw [hL, hD, decide_eq_false h95]; rfl)
theorem rd_digits_end {zs : List Nat} {p : Nat} (hz : zs.length ≤ 100000) (hp : p ≤ zs.length) (q : Q (.int ((p + cwl isD (zs.drop p) : Nat) : Int)) H) : sp_digits_end K [svv zs, .int (p : Int)] H Q E := by
  refine ⟨rfl, ?_⟩
  unfold t_digits_end
  walk_at "go"
  refine a_while (fun m σ H' => ∃ j : Nat, m = zs.length + 1 - j ∧ j ≤ zs.length ∧ σ = [some (svv zs), some (.int j)] ∧ H' = H ∧ j + cwl isD (zs.drop j) = p + cwl isD (zs.drop p)) ⟨p, rfl, hp, rfl, rfl, rfl⟩ (fun σ H ⟨j, e, h, _⟩ => by omega) ?_
  rintro m σ H' ⟨j, hm, hj, rfl, rfl, he⟩
  walk_at "go"
  refine v_lenT' (by omega) ?_
  walk_at "go"
  by_cases hlt : j < zs.length
  case neg =>
    rw [decide_eq_false (by omega)]
    walk_at "go"
    rw [List.drop_eq_nil_of_le (by omega)] at he
    rw [show j = p + cwl isD (zs.drop p) by rw [← he]; rfl]
    exact q
  rw [decide_eq_true (by omega)]
  have hc : zs[j]? = some zs[j] := List.getElem?_eq_getElem hlt
  have hcw := cwl_cons (f := isD) (c := zs[j]) (l := zs.drop (j + 1))
  rw [← drop_c hc] at hcw
  generalize zs[j] = c at *
  unfold k_DIGITS
  walk_at "go"
  refine v_ixT' (by omega) rfl hc ?_
  walk_at "go"
  rw [mem_D]
  cases hD : isD c with
  | true =>
    rw [hD, if_pos rfl] at hcw
    walk_at "go"
    exact ⟨j + 1, by omega, by omega, rfl, rfl, by omega⟩
  | false =>
    rw [hD, if_neg (by decide)] at hcw
    walk_at "go"
    rw [show j = p + cwl isD (zs.drop p) by omega]
    exact q
end
end Lw

-- fld
namespace Lw
open PySem PySem.Spec PyProof.Rows L2 G
section
variable {K : PySem.W.Frag} {F F0 H H' : Hp} {Q : VK} {E : XK} {mg : Str → Option Value} {M : List (Addr × HO)}
def LxK (K : PySem.W.Frag) (F : Hp) (M : List (Addr × HO)) (Q : VK) (E : XK) (p : Nat) : Lx → Prop
  | .tok r t _ => ∀ F' H' v, Same F F' → HH F' H' M → At K F' (dTk ⟨r, t, p⟩) v → Q v H'
  | .bad k z => Er K E F M (p + k) z
theorem rd_read_word (T : Tx K mg) (hh : HH F H M) {zs : List Nat} {p : Nat} (hz : zs.length ≤ 100000) (hp : p ≤ zs.length) (q : LxK K F M Q E p (lxW (zs.drop p))) : sp_read_word K [svv zs, .int (p : Int)] H Q E := by
  refine ⟨rfl, ?_⟩
  unfold t_read_word
  walk_at "go"
  refine rd_word_end hz hp ?_
  unfold k_WORD_LENGTH
  walk_at "go"
  unfold lxW at q
  have hle := cwl_le (f := isW) (l := zs.drop p)
  rw [List.length_drop] at hle
  by_cases h : 12 < cwl isW (zs.drop p)
  · rw [if_pos h] at q
    rw [decide_eq_true (by omega)]
    walk_at "go"
    exact Er.raise q hh rfl (by omega) (by decide)
  · rw [if_neg h] at q
    rw [decide_eq_false (by omega)]
    walk_at "go"
    refine v_slT (by omega) hp rfl rfl ?_
    walk_at "go"
    exact mk_Token T hh At.of At.of At.of q
theorem rd_read_number (T : Tx K mg) (hh : HH F H M) {zs : List Nat} {p c : Nat} (hz : zs.length ≤ 100000) (hc : zs[p]? = some c) (q : LxK K F M Q E p (lxN c (zs.drop p))) : sp_read_number K [svv zs, .int (p : Int)] H Q E := by
  have hpl := (List.getElem?_eq_some_iff.mp hc).1
  refine ⟨rfl, ?_⟩
  unfold t_read_number
  walk_at "go"
  refine rd_digits_end hz (by omega) ?_
  unfold k_NUMBER_LENGTH
  walk_at "go"
  unfold lxN at q
  have hle := cwl_le (f := isD) (l := zs.drop p)
  rw [List.length_drop] at hle
  rw [List.drop_drop] at q
  rw [show ((p + cwl isD (zs.drop p) : Nat) : Int) - (p : Int) = (cwl isD (zs.drop p) : Nat) by omega]
  refine ite2 (fun h1 => ?_) (fun h1 => ?_)
  · have h1' := of_decide_eq_true h1
    walk_at "go"
    refine v_ixT' (by omega) rfl hc ?_
    unfold q_0
    walk_at "go"
    by_cases h2 : c = 48
    · rw [if_pos ⟨by omega, h2⟩] at q
      rw [decide_eq_true (by rw [h2])]
      walk_at "go"
      exact Er.raise q hh rfl (by omega) (by decide)
    · rw [if_neg (fun z => h2 z.2)] at q
      rw [decide_eq_false (fun e => h2 (by injection e))]
      walk_at "go"
      rw [show ((p + cwl isD (zs.drop p) : Nat) : Int) - (p : Int) = (cwl isD (zs.drop p) : Nat) by omega]
      by_cases h : 18 < cwl isD (zs.drop p)
      · rw [if_pos h] at q
        rw [decide_eq_true (by omega)]
        walk_at "go"
        exact Er.raise q hh rfl (by omega) (by decide)
      rw [if_neg h] at q
      rw [decide_eq_false (by omega)]
      walk_at "go"
      refine rd_word_end hz (by omega) ?_
      walk_at "go"
      by_cases h2 : 0 < cwl isW (zs.drop (p + cwl isD (zs.drop p)))
      · rw [if_pos h2] at q
        rw [decide_eq_true (by omega)]
        walk_at "go"
        exact Er.raise q hh rfl (by omega) (by decide)
      rw [if_neg h2] at q
      rw [decide_eq_false (by omega)]
      walk_at "go"
      refine v_slT (by omega) (by omega) rfl rfl ?_
      walk_at "go"
      exact mk_Token T hh At.of At.of At.of q
  · have h1' : ¬ 1 < cwl isD (zs.drop p) := fun z => h1 (decide_eq_true (by omega))
    rw [if_neg (fun z => h1' z.1), if_neg (by omega)] at q
    walk_at "go"
    rw [show ((p + cwl isD (zs.drop p) : Nat) : Int) - (p : Int) = (cwl isD (zs.drop p) : Nat) by omega]
    rw [decide_eq_false (by omega)]
    walk_at "go"
    refine rd_word_end hz (by omega) ?_
    walk_at "go"
    by_cases h2 : 0 < cwl isW (zs.drop (p + cwl isD (zs.drop p)))
    · rw [if_pos h2] at q
      rw [decide_eq_true (by omega)]
      walk_at "go"
      exact Er.raise q hh rfl (by omega) (by decide)
    rw [if_neg h2] at q
    rw [decide_eq_false (by omega)]
    walk_at "go"
    refine v_slT (by omega) (by omega) rfl rfl ?_
    walk_at "go"
    exact mk_Token T hh At.of At.of At.of q
theorem join_ones : ∀ zs : List Nat, Txt.join ⟨([] : List Nat).toArray⟩ (zs.map fun c => (⟨[c].toArray⟩ : Str)) = ⟨zs.toArray⟩ := by
  intro zs
  have key : ∀ l : List Nat, Str.join ⟨#[]⟩ (l.map fun c => (⟨#[c]⟩ : Str)) = ⟨l.toArray⟩ := by
    intro l
    induction l with
    | nil => rfl
    | cons a l ih =>
      cases l with
      | nil => rfl
      | cons b l =>
        show (⟨#[a]⟩ : Str) ++ ⟨#[]⟩ ++ Str.join ⟨#[]⟩ ((b :: l).map fun c => (⟨#[c]⟩ : Str)) = _
        rw [ih]
        show (⟨#[a] ++ #[] ++ (b :: l).toArray⟩ : Str) = _
        simp
  rw [TL.join_eq]
  exact key zs
theorem ones_len (l : List Nat) : ((l.map fun c => (⟨[c].toArray⟩ : Str)).map (·.length)).sum = l.length := by
  induction l with
  | nil => rfl
  | cons a l ih => simp only [List.map_cons, List.sum_cons, ih, List.length_cons]; show 1 + l.length = _; omega
theorem two_in (c : Nat) : inV (svv [c]) [svv q_x22, svv q_x5c] = decide (c = 34 ∨ c = 92) := by
  have e := inV_t (t := [c]) (xs := [q_x22, q_x5c])
  rw [List.map_cons, List.map_cons, List.map_nil] at e
  rw [e, Bool.eq_iff_iff, decide_eq_true_iff]
  unfold q_x22 q_x5c
  simp
theorem rd_read_quoted (T : Tx K mg) (hh : HH F H M) {zs : List Nat} {pl : Nat} {R : Rq} (hz : zs.length ≤ 100000) (hp : pl < zs.length) (hr : (rq (zs.drop (pl + 1))).at [] (pl + 1) = R)
    (q1 : ∀ txt n, R = .ok txt n → n ≤ zs.length → ∀ F' H' v, Same F F' → HH F' H' M → At K F' (.tup [dTk ⟨q_text, txt, pl⟩, .i (n : Int)]) v → Q v H')
    (q2 : R = .opn → Er K E F M pl q_text_is_not_closed) (q3 : ∀ k : Nat, R = .bad k → Er K E F M k q_unexpected_sign) : sp_read_quoted K [svv zs, .int pl] H Q E := by
  refine ⟨rfl, ?_⟩
  unfold t_read_quoted
  walk_at "go"
  refine o_lst hh (by decide) fun H p h1 => ?_
  walk_at "go"
  have close : ∀ (σ : L2.St) (H' : Hp) (v3 v4 : Option V) (c : Addr × HO), σ = [some (svv zs), some (.int pl), some (.ref p), v3, v4] → HH F H' (c :: M) → R = .opn → (tRaiseF (He.ga K "Fault") (fun cls d _ H => E cls d H) (tCons (tVar 1) (tCons (tC (.str ⟨q_text_is_not_closed.toArray⟩)) tNil)))
      ⟨fun _ H' => Q .non H', Q, fun _ _ => False, fun _ _ => False⟩ σ H' := by
    rintro σ H' v3 v4 c rfl h e
    walk_at "go"
    exact Er.raise (q2 e).up h rfl (by omega) (by decide)
  refine a_while (fun m σ H' => ∃ (i : Nat) (acc : List Nat) (v4 : Option V), zs.length + 1 - i ≤ m ∧ pl + 1 ≤ i ∧ i ≤ zs.length ∧ acc.length ≤ i ∧ σ = [some (svv zs), some (.int pl), some (.ref p), some (.int i), v4] ∧
    HH F H' ((p, .lst ((acc.map fun c => (⟨[c].toArray⟩ : Str)).map V.str)) :: M) ∧ (rq (zs.drop i)).at acc i = R) (m := zs.length + 1 - (pl + 1))
    ⟨pl + 1, [], none, Nat.le_refl _, Nat.le_refl _, by omega, by simp, rfl, h1, hr⟩ (fun σ H ⟨i, _, _, e, _, h, _⟩ => by omega) ?_
  rintro m σ H' ⟨i, acc, v4, hm, hi0, hi, hacc, rfl, hx, hq⟩
  walk_at "go"
  refine v_lenT' (by omega) ?_
  walk_at "go"
  by_cases hlt : i < zs.length
  case neg =>
    rw [decide_eq_false (by omega)]
    refine iteF ?_
    rw [List.drop_eq_nil_of_le (by omega)] at hq
    exact close _ _ _ _ _ rfl hx (by rw [← hq]; rfl)
  rw [decide_eq_true (by omega)]
  have hc : zs[i]? = some zs[i] := List.getElem?_eq_getElem hlt
  have hdr := drop_c hc
  generalize zs[i] = c at *
  walk_at "go"
  refine v_ixT' (by omega) rfl hc ?_
  unfold q_x22 q_x5c
  walk_at "go"
  by_cases h34 : c = 34
  · rw [decide_eq_true (by rw [h34])]
    subst h34
    have hq2 : R = .ok acc (i + 1) := by
      rw [← hq, hdr]
      cases zs.drop (i + 1) <;> simp [rq, Rq.at]
    walk_at "go"
    unfold q_empty
    refine v_join (ys := acc.map fun c => (⟨[c].toArray⟩ : Str)) (hx.get (i := 0) rfl) ?_ ?_
    · rw [ones_len, List.length_map, len_svv]
      show _ + _ * 0 ≤ _
      omega
    · rw [join_ones]
      walk_at "go"
      refine mk_Token T hx.drop At.of At.of At.of fun F1 H1 u s1 hh1 ha => ?_
      walk_at "go"
      exact s_tup hh1 (ds := [dTk ⟨q_text, acc, pl⟩, .i ((i : Int) + 1)]) (AtA.cons ha (AtA.cons At.of AtA.nil)) (by show 2 ≤ 1000; decide) fun F2 H2 u2 s2 hh2 ha2 => q1 acc (i + 1) hq2 (by omega) F2 H2 u2 (s1.trans s2) hh2 ha2
  rw [decide_eq_false (fun e => h34 (by injection e))]
  walk_at "go"
  refine g_cut (fun σ' H'' => ∃ (j d : Nat), σ' = [some (svv zs), some (.int pl), some (.ref p), some (.int j), some (.str ⟨[d].toArray⟩)] ∧ i ≤ j ∧ j < zs.length ∧
    HH F H'' ((p, .lst ((acc.map fun c => (⟨[c].toArray⟩ : Str)).map V.str)) :: M) ∧ (rq (zs.drop (j + 1))).at (acc ++ [d]) (j + 1) = R) ?_ ?_
  · walk_at "go"
    by_cases h92 : c = 92
    case neg =>
      rw [decide_eq_false (fun e => h92 (by injection e))]
      walk_at "go"
      refine ⟨i, c, rfl, Nat.le_refl _, hlt, hx, ?_⟩
      rw [← hq, hdr, ← Rq.at_more]
      cases h : zs.drop (i + 1) with
      | nil => simp [rq, if_neg h34, Rq.more, Rq.at]
      | cons d r => rw [rq, if_neg h34, if_neg h92]
    rw [decide_eq_true (by rw [h92])]
    subst h92
    walk_at "go"
    refine v_lenT' (by omega) ?_
    walk_at "go"
    by_cases he : i + 1 = zs.length
    · rw [decide_eq_true (by omega)]
      refine iteT ?_
      refine g_brk ?_
      have : zs.drop (i + 1) = [] := List.drop_eq_nil_of_le (by omega)
      rw [hdr, this] at hq
      exact close _ _ _ _ _ rfl hx (by rw [← hq]; simp [rq, Rq.at])
    · rw [decide_eq_false (by omega)]
      have he' : i + 1 < zs.length := by omega
      have hd : zs[i + 1]? = some zs[i + 1] := List.getElem?_eq_getElem he'
      have hdr2 := drop_c hd
      generalize zs[i + 1] = d at *
      walk_at "go"
      refine v_ixT' (i := i + 1) (by omega) (by omega) hd ?_
      walk_at "go"
      refine o_tup (by show 2 ≤ 1000; decide) fun t ht => ?_
      have h2 := hx.newF (o := .tup [svv [34], svv [92]]) ht
      have s2 := hx.grow (o := .tup [svv [34], svv [92]]) ht
      refine v_notInT upd_same rfl rfl ?_
      rw [show inV (.str ⟨[d].toArray⟩) [.str ⟨([34] : List Nat).toArray⟩, .str ⟨([92] : List Nat).toArray⟩] = decide (d = 34 ∨ d = 92) from two_in d]
      rw [hdr, hdr2, rq, if_neg (by decide), if_pos rfl] at hq
      by_cases hd2 : d = 34 ∨ d = 92
      · rw [decide_eq_true hd2]
        rw [if_pos hd2, Rq.at_more] at hq
        walk_at "go"
        refine ⟨i + 1, d, rfl, by omega, he', ?_, hq⟩
        exact ⟨fun b o e => h2.sub _ _ (s2 _ _ e), h2.nd, fun r hr => ⟨(h2.cell r hr).1, (hx.cell r hr).2⟩⟩
      · rw [decide_eq_false hd2]
        rw [if_neg hd2] at hq
        walk_at "go"
        exact Er.raise ((q3 (i + 1) (by rw [← hq]; rfl)).mono s2).up h2 (by omega) (by omega) (by decide)
  · rintro σ' H'' ⟨j, d, rfl, hj1, hj2, hx', hq'⟩
    walk_at "go"
    refine g_tyL (hx'.get (i := 0) rfl) ?_
    walk_at "go"
    refine v_append (hx'.get (i := 0) rfl) (by simp only [List.length_map]; rw [sl16]; omega) ?_
    walk_at "go"
    refine ⟨j + 1, acc ++ [d], some (.str ⟨[d].toArray⟩), by omega, by omega, by omega, by simp; omega, rfl, ?_, hq'⟩
    have h3 := hx'.set0 (o' := .lst ((acc.map fun c => (⟨[c].toArray⟩ : Str)).map V.str ++ [svv [d]]))
    rw [List.map_append, List.map_append]
    exact h3
end
end Lw

-- fld
namespace Lw
open PySem PySem.Spec PyProof.Rows L2 G
section
variable {K : PySem.W.Frag} {F F0 H H' : Hp} {Q : VK} {E : XK} {mg : Str → Option Value} {M : List (Addr × HO)}
theorem stepS_len {D acc s : List Nat} (h1 : acc.length ≤ 1000) (h2 : s.length ≤ 1000) : (stepS D acc s).length ≤ 1000 := by
  unfold stepS
  split <;> assumption
theorem rd_read_sign (T : Tx K mg) (hh : HH F H M) {zs : List Nat} {p : Nat} {g : V} {sg : List (List Nat)} (hz : zs.length ≤ 100000) (hp : p ≤ zs.length) (hs : ∀ s ∈ sg, s.length ≤ 1000) (hg : At K F (.tup (sg.map D.t)) g) (q : LxK K F M Q E p (lxS sg (zs.drop p))) : sp_read_sign K [svv zs, .int (p : Int), g] H Q E := by
  refine ⟨rfl, ?_⟩
  unfold t_read_sign
  walk_at "go"
  refine gi_tup ?_
  walk_at "go"
  unfold lxS at q
  refine a_forT hg hh (fun rest σ H' => ∃ (acc : List Nat) (v4 : Option V), σ = [some (svv zs), some (.int p), some g, some (svv acc), v4] ∧ H' = H ∧ acc.length ≤ 1000 ∧ (∀ s ∈ rest, s.length ≤ 1000) ∧ rest.foldl (stepS (zs.drop p)) acc = sg.foldl (stepS (zs.drop p)) [])
    (fun r σ H' ⟨_, _, _, e, _⟩ => by rw [e]; exact hh.sub) ⟨[], none, rfl, rfl, by decide, hs, rfl⟩ ?_ ?_
  · rintro s rest w σ H' ew ⟨acc, v4, rfl, rfl, hacc, hr, hf⟩
    rw [At.v_.mp ew]
    have hsl := hr s (List.mem_cons_self ..)
    have hr' : ∀ s ∈ rest, s.length ≤ 1000 := fun s h => hr s (List.mem_cons_of_mem _ h)
    rw [List.foldl_cons] at hf
    walk_at "go"
    rw [starts_svv hp]
    by_cases h1 : (zs.drop p).take s.length = s
    · rw [decide_eq_true h1]
      walk_at "go"
      refine v_lenT' (by omega) ?_
      walk_at "go"
      refine v_lenT' (by omega) ?_
      walk_at "go"
      by_cases h2 : acc.length < s.length
      · rw [decide_eq_true (by omega)]
        walk_at "go"
        have e : stepS (zs.drop p) acc s = s := by unfold stepS; rw [if_pos ⟨h1, h2⟩]
        rw [e] at hf
        exact ⟨s, _, rfl, rfl, hsl, hr', hf⟩
      · rw [decide_eq_false (by omega)]
        walk_at "go"
        have e : stepS (zs.drop p) acc s = acc := by unfold stepS; rw [if_neg (fun z => h2 z.2)]
        rw [e] at hf
        exact ⟨acc, _, rfl, rfl, hacc, hr', hf⟩
    · rw [decide_eq_false h1]
      walk_at "go"
      have e : stepS (zs.drop p) acc s = acc := by unfold stepS; rw [if_neg (fun z => h1 z.1)]
      rw [e] at hf
      exact ⟨acc, _, rfl, rfl, hacc, hr', hf⟩
  · rintro σ H' ⟨acc, v4, rfl, rfl, _, _, hf⟩
    rw [← show acc = _ from hf] at q
    unfold q_empty
    walk_at "go"
    by_cases h1 : acc = []
    · have q' : LxK K F M Q E p (.bad 0 q_unexpected_sign) := by
        have := q
        simp only [if_pos h1] at this
        exact this
      rw [decide_eq_true h1]
      walk_at "go"
      exact Er.raise q' hh rfl (by omega) (by decide)
    · have q' : LxK K F M Q E p (.tok q_sign acc acc.length) := by
        have := q
        simp only [if_neg h1] at this
        exact this
      rw [decide_eq_false h1]
      walk_at "go"
      exact mk_Token T hh At.of At.of At.of q'
theorem lx_len {sg : List (List Nat)} {c : Nat} {r r' t : List Nat} {n : Nat} (h : c ≠ 34) (e : lx sg c r = .tok r' t n) : t.length = n ∧ t.length ≤ r.length + 1 := by
  have tk : ∀ {f : Nat → Bool}, ((c :: r).take (cwl f (c :: r))).length = cwl f (c :: r) ∧ ((c :: r).take (cwl f (c :: r))).length ≤ r.length + 1 := fun {f} => by
    have := cwl_le (f := f) (l := c :: r)
    rw [List.length_take, List.length_cons] at *
    omega
  unfold lx at e
  split at e
  · unfold lxW at e
    split at e
    · cases e
    · injection e with e1 e2 e3; rw [← e2, ← e3]; exact tk
  split at e
  · unfold lxN at e
    split at e
    · cases e
    split at e
    · cases e
    split at e
    · cases e
    injection e with e1 e2 e3; rw [← e2, ← e3]; exact tk
  unfold lxS at e
  have key : ∀ (sg : List (List Nat)) (acc : List Nat), acc.length ≤ r.length + 1 → (sg.foldl (stepS (c :: r)) acc).length ≤ r.length + 1 := by
    intro sg
    induction sg with
    | nil => intro acc h; exact h
    | cons s sg ih =>
      intro acc h
      rw [List.foldl_cons]
      refine ih _ ?_
      unfold stepS
      split
      · rename_i z
        have := congrArg List.length z.1
        rw [List.length_take, List.length_cons] at this
        omega
      · exact h
  have kk := key sg [] (Nat.zero_le _)
  by_cases z : sg.foldl (stepS (c :: r)) [] = []
  · simp only [if_pos z] at e
    cases e
  · simp only [if_neg z] at e
    injection e with e1 e2 e3
    rw [← e2, ← e3]
    exact ⟨rfl, kk⟩
theorem rd_tokens (T : Tx K mg) (hh : HH F H M) {zs : List Nat} {g : V} {n : Nat} {sg : List (List Nat)} (hz : zs.length ≤ 100000) (hs : ∀ s ∈ sg, s.length ≤ 1000) (hg : At K F (.tup (sg.map D.t)) g)
    (q : (toks sg n zs).on (fun ts => ∀ F' H' v, Same F F' → HH F' H' M → At K F' (.lst (ts.map dTk)) v → Q v H') (Er K E F M)) : sp_tokens K [svv zs, g, .int (n : Int)] H Q E := by
  refine ⟨rfl, ?_⟩
  unfold t_tokens
  walk_at "go"
  refine v_lenT' (by omega) ?_
  walk_at "go"
  unfold toks at q
  by_cases hlong : n < zs.length
  · rw [if_pos hlong] at q
    rw [decide_eq_true (by omega)]
    walk_at "go"
    exact Er.raise (i := 0) q hh rfl (by decide) (by decide)
  rw [if_neg hlong] at q
  rw [decide_eq_false (by omega)]
  walk_at "go"
  refine o_lst hh (by decide) fun H1 R h1 => ?_
  walk_at "go"
  refine a_while (m := zs.length + 1) (fun m σ H' => ∃ (p : Nat) (acc : List Tk) (v5 v6 : Option V) (F' : Hp) (vs : List V), p ≤ zs.length ∧ acc.length + m ≤ zs.length + 1 ∧ σ = [some (svv zs), some g, some (.int n), some (.ref R), some (.int p), v5, v6] ∧ Same F F' ∧ HH F' H' ((R, .lst vs) :: M) ∧ AtA K F' (acc.map dTk) vs ∧
      (toksL sg m (zs.drop p) p acc).on (fun ts => ∀ F'' H' v, Same F' F'' → HH F'' H' M → At K F'' (.lst (ts.map dTk)) v → Q v H') (Er K E F' M))
    ⟨0, [], none, none, F, [], Nat.zero_le _, by simp, rfl, Same.refl _, h1, AtA.nil, q⟩ (fun σ H ⟨_, _, _, _, _, _, _, _, _, _, _, _, z⟩ => z) ?_
  rintro m σ H' ⟨p, acc, v5, v6, F1, vs, hp, hal, rfl, s1, hh1, hv, q⟩
  have hvl : vs.length = acc.length := by rw [hv.len, List.length_map]
  walk_at "go"
  refine v_lenT' (by omega) ?_
  walk_at "go"
  by_cases hlt : p < zs.length
  case neg =>
    rw [decide_eq_false (by omega)]
    rw [List.drop_eq_nil_of_le (by omega)] at q
    walk_at "go"
    refine g_tyL (hh1.get (i := 0) rfl) ?_
    walk_at "go"
    refine v_lenT' (by omega) ?_
    walk_at "go"
    unfold q_empty
    refine mk_Token T hh1 At.of At.of At.of fun F2 H2 u s2 hh2 ha => ?_
    walk_at "go"
    refine v_append (hh2.get (i := 0) rfl) (by rw [hvl, sl16]; omega) ?_
    have hh3 := hh2.set0 (o' := .lst (vs ++ [u]))
    walk_at "go"
    have e : p = zs.length := by omega
    subst e
    exact q _ _ _ (s2.trans hh3.frzS) hh3.frz (frz_lst (hh3.out (i := 0) rfl) (AtA.snocM (e := dTk) (hv.mono s2) ha))
  rw [decide_eq_true (by omega)]
  have hc : zs[p]? = some zs[p] := List.getElem?_eq_getElem hlt
  generalize zs[p] = c at hc
  rw [drop_c hc] at q
  walk_at "go"
  refine v_ixT' (by omega) rfl hc ?_
  unfold q__
  walk_at "go"
  rw [toksL] at q
  by_cases h32 : c = 32
  · rw [if_pos h32] at q
    rw [decide_eq_true (by rw [h32])]
    walk_at "go"
    exact ⟨p + 1, acc, _, _, F1, vs, by omega, by omega, rfl, s1, hh1, hv, q⟩
  rw [if_neg h32] at q
  rw [decide_eq_false (fun e => h32 (by injection e))]
  -- a token at p that is no quoted text
  have put : ∀ (bk ct : L2.St → Hp → Prop) (r t : List Nat) (k : Nat) (u : V) (F2 H2 : Hp), c ≠ 34 → lx sg c (zs.drop (p + 1)) = .tok r t k → Same F1 F2 → HH F2 H2 ((R, .lst vs) :: M) → At K F2 (dTk ⟨r, t, p⟩) u →
      tSeq (tDrop (tBM K "list" rAppend (tVar 3) (tCons (tVar 6) tNil))) (tAsg (tOp (rAddX K) (tVar 4) (tCB (rLen K) (tCons (tFld K (tVar 6) ("text" : Str)) tNil))) (gName 4))
        ⟨fun σ H' => ∃ (p : Nat) (acc : List Tk) (v5 v6 : Option V) (F' : Hp) (vs : List V), p ≤ zs.length ∧ acc.length + m ≤ zs.length + 1 ∧ σ = [some (svv zs), some g, some (.int n), some (.ref R), some (.int p), v5, v6] ∧ Same F F' ∧ HH F' H' ((R, .lst vs) :: M) ∧ AtA K F' (acc.map dTk) vs ∧
      (toksL sg m (zs.drop p) p acc).on (fun ts => ∀ F'' H' v, Same F' F'' → HH F'' H' M → At K F'' (.lst (ts.map dTk)) v → Q v H') (Er K E F' M), Q, bk, ct⟩ [some (svv zs), some g, some (.int n), some (.ref R), some (.int p), some (svv [c]), some u] H2 := by
    intro bk ct r t k u F2 H2 h34 el s2 hh2 ha
    rw [el] at q
    obtain ⟨hk, hkl⟩ := lx_len h34 el
    rw [List.length_drop] at hkl
    subst hk
    walk_at "go"
    refine g_tyL (hh2.get (i := 0) rfl) ?_
    walk_at "go"
    refine v_append (hh2.get (i := 0) rfl) (by rw [hvl, sl16]; omega) ?_
    have hh3 := hh2.set0 (o' := .lst (vs ++ [u]))
    walk_at "go"
    refine v_lenT' (by show t.length ≤ _; omega) ?_
    walk_at "go"
    have q3 : (toksL sg m (zs.drop (p + t.length)) (p + t.length) (acc ++ [⟨r, t, p⟩])).on (fun ts => ∀ F'' H' v, Same F1 F'' → HH F'' H' M → At K F'' (.lst (ts.map dTk)) v → Q v H') (Er K E F1 M) := by
      have q4 := q
      simp only [] at q4
      rw [← drop_c hc, List.drop_drop] at q4
      exact q4
    refine ⟨p + t.length, acc ++ [⟨r, t, p⟩], _, _, F2, vs ++ [u], by omega, by rw [List.length_append]; show acc.length + 1 + m ≤ _; omega, by rw [show ((p + t.length : Nat) : Int) = (p : Int) + (t.length : Int) by omega]; rfl, s1.trans s2, hh3, AtA.snocM (e := dTk) (hv.mono s2) ha, ?_⟩
    exact q3.imp (fun ts z F'' H'' v s => z F'' H'' v (s2.trans s)) (fun i z b => Er.mono b s2)
  have bad : ∀ (k : Nat) (z : List Nat), lx sg c (zs.drop (p + 1)) = .bad k z → Er K E F1 M (p + k) z := fun k z e => by
    rw [e] at q
    exact q
  have lk : ∀ {Q' : VK} {L : Lx}, lx sg c (zs.drop (p + 1)) = L → (∀ r t k, L = .tok r t k → ∀ F' H' v, Same F1 F' → HH F' H' ((R, .lst vs) :: M) → At K F' (dTk ⟨r, t, p⟩) v → Q' v H') → LxK K F1 ((R, .lst vs) :: M) Q' E p L := fun {Q' L} e h => by
    cases L with
    | tok r t k => exact h r t k rfl
    | bad k z => exact (bad k z e).up
  unfold k_LETTERS k_DIGITS
  walk_at "go"
  rw [mem_L]
  by_cases hL : isL c = true
  · have h34 : c ≠ 34 := fun z => by rw [z] at hL; cases hL
    have eo : lx sg c (zs.drop (p + 1)) = lxW (zs.drop p) := by unfold lx; rw [if_pos hL, ← drop_c hc]
    rw [hL]
    walk_at "go"
    refine rd_read_word T hh1 hz hp (lk eo fun r t k e F2 H2 u s2 hh2 ha => ?_)
    exact put _ _ r t k u F2 H2 h34 (eo.trans e) s2 hh2 ha
  rw [Bool.not_eq_true _ |>.mp hL]
  walk_at "go"
  rw [mem_D]
  by_cases hD : isD c = true
  · have h34 : c ≠ 34 := fun z => by rw [z] at hD; cases hD
    have eo : lx sg c (zs.drop (p + 1)) = lxN c (zs.drop p) := by unfold lx; rw [if_neg hL, if_pos hD, ← drop_c hc]
    rw [hD]
    walk_at "go"
    refine rd_read_number T hh1 hz hc (lk eo fun r t k e F2 H2 u s2 hh2 ha => ?_)
    exact put _ _ r t k u F2 H2 h34 (eo.trans e) s2 hh2 ha
  rw [Bool.not_eq_true _ |>.mp hD]
  unfold q_x22
  walk_at "go"
  by_cases h34 : c = 34
  · rw [decide_eq_true (by rw [h34])]
    have eo : lx sg c (zs.drop (p + 1)) = lxQ (zs.drop (p + 1)) := by unfold lx; rw [if_neg hL, if_neg hD, if_pos h34]
    unfold lxQ at eo
    walk_at "go"
    refine rd_read_quoted T hh1 hz hlt rfl (fun txt k e hk F2 H2 u s2 hh2 ha => ?_) (fun e => ?_) (fun k e => ?_)
    · cases hr : rq (zs.drop (p + 1)) with
      | opn => rw [hr] at e; cases e
      | bad j => rw [hr] at e; cases e
      | ok t' n' =>
        rw [hr] at e eo
        injection e with e1 e2
        rw [List.nil_append] at e1
        subst e1 e2
        rw [eo] at q
        have q3 : (toksL sg m (zs.drop (p + (n' + 1))) (p + (n' + 1)) (acc ++ [⟨q_text, t', p⟩])).on (fun ts => ∀ F'' H' v, Same F1 F'' → HH F'' H' M → At K F'' (.lst (ts.map dTk)) v → Q v H') (Er K E F1 M) := by
          have q4 := q
          simp only [] at q4
          rw [← drop_c hc, List.drop_drop] at q4
          exact q4
        walk_at "go"
        refine s_gtup ha (by walk_at "sm") rfl fun us hus => ?_
        unfold AtA at hus
        obtain ⟨u1, us, rfl, ha1, hus⟩ := hus
        unfold AtA at hus
        obtain ⟨u2, us, rfl, ha2, hus⟩ := hus
        unfold AtA at hus
        subst hus
        rw [At.v_.mp ha2]
        walk_at "go"
        refine g_tyL (hh2.get (i := 0) rfl) ?_
        walk_at "go"
        refine v_append (hh2.get (i := 0) rfl) (by rw [hvl, sl16]; omega) ?_
        have hh3 := hh2.set0 (o' := .lst (vs ++ [u1]))
        walk_at "go"
        refine ⟨p + (n' + 1), acc ++ [⟨q_text, t', p⟩], _, _, F2, vs ++ [u1], by omega, by rw [List.length_append]; show acc.length + 1 + m ≤ _; omega, by rw [show ((p + (n' + 1) : Nat) : Int) = ((p + 1 + n' : Nat) : Int) by omega]; rfl, s1.trans s2, hh3, AtA.snocM (e := dTk) (hv.mono s2) ha1, ?_⟩
        exact q3.imp (fun ts z F'' H'' v s => z F'' H'' v (s2.trans s)) (fun i z b => Er.mono b s2)
    · cases hr : rq (zs.drop (p + 1)) with
      | opn => rw [hr] at eo; exact (bad _ _ eo).up
      | bad j => rw [hr] at e; cases e
      | ok t' n' => rw [hr] at e; cases e
    · cases hr : rq (zs.drop (p + 1)) with
      | opn => rw [hr] at e; cases e
      | bad j =>
        rw [hr] at e eo
        injection e with e1
        rw [← e1]
        have := (bad _ _ eo).up (c := (R, HO.lst vs))
        rw [show p + (j + 1) = p + 1 + j by omega] at this
        exact this
      | ok t' n' => rw [hr] at e; cases e
  · have eo : lx sg c (zs.drop (p + 1)) = lxS sg (zs.drop p) := by unfold lx; rw [if_neg hL, if_neg hD, if_neg h34, ← drop_c hc]
    rw [decide_eq_false (fun e => h34 (by injection e))]
    walk_at "go"
    refine rd_read_sign T hh1 hz hp hs (hg.mono s1) (lk eo fun r t k e F2 H2 u s2 hh2 ha => ?_)
    exact put _ _ r t k u F2 H2 h34 (eo.trans e) s2 hh2 ha
end
end Lw

-- fld
namespace Lw
open PySem PySem.Spec PyProof.Rows L2 G
/-! ### the reader: what is left of its tokens -/
structure TkOk (k : Tk) : Prop where
  w : k.r = q_word → k.t ≠ []
  n : k.r = q_number → k.t ≠ [] ∧ k.t.all (fun c => decide (48 ≤ c) && decide (c ≤ 57)) = true ∧ k.t.length ≤ 18
  l : k.t.length ≤ 100000
  p : k.p ≤ 100000
def nowT (s : List Tk) : Tk := s.headD ⟨q_end, [], 0⟩
def stepR : List Tk → List Tk
  | [] => []
  | [t] => [t]
  | _ :: t :: r => t :: r
def isSign (z : List Nat) (s : List Tk) : Bool := decide ((nowT s).r = q_sign) && decide ((nowT s).t = z)
def isWord (z : List Nat) (s : List Tk) : Bool := decide ((nowT s).r = q_word) && decide ((nowT s).t = z)
def isName (res : List (List Nat)) (s : List Tk) : Bool := decide ((nowT s).r = q_word) && !res.contains (nowT s).t
def takeT (s : List Tk) : Rs (Tk × List Tk) := .ok (nowT s, stepR s)
def takeSign (z : List Nat) (s : List Tk) : Rs (Tk × List Tk) := if isSign z s = true then takeT s else .bad (nowT s).p (q_expected_ ++ z)
def takeWord (z : List Nat) (s : List Tk) : Rs (Tk × List Tk) := if isWord z s = true then takeT s else .bad (nowT s).p (q_expected_ ++ z)
def great (t : List Nat) : Bool := match t with
  | c :: _ => decide (c ∈ q_c_GREAT)
  | [] => false
def takeKind (res : List (List Nat)) (s : List Tk) : Rs (Tk × List Tk) := if isName res s = true then (if great (nowT s).t = true then takeT s else .bad (nowT s).p q_expected_a_kind) else .bad (nowT s).p q_expected_a_kind
def takeField (res : List (List Nat)) (s : List Tk) : Rs (Tk × List Tk) := if isName res s = true then (if great (nowT s).t = true then .bad (nowT s).p q_expected_a_field else takeT s) else .bad (nowT s).p q_expected_a_field
def takeNumber (s : List Tk) : Rs (Tk × List Tk) := if (nowT s).r = q_number then takeT s else .bad (nowT s).p q_expected_a_number
def takeText (s : List Tk) : Rs (Tk × List Tk) := if (nowT s).r = q_text then takeT s else .bad (nowT s).p q_expected_a_text
def numT (t : List Nat) : Nat := NumText.digitsVal t
def takeInteger (s : List Tk) : Rs (Int × List Tk) := if isSign q_x2d s = true then (takeNumber (stepR s)).bind fun x => .ok (-(numT x.1.t : Int), x.2) else (takeNumber s).bind fun x => .ok ((numT x.1.t : Int), x.2)
/-- a reader's cell -/
structure Rdr (K : PySem.W.Frag) (F : Hp) (o : HO) (res : List (List Nat)) (s : List Tk) : Prop where
  ex : ∃ (dx : Addr) (row rs : V) (ts : List Tk) (n : Nat), o = .ins (He.ga K "Reader") dx [("row", row), ("at", .int n), ("reserved", rs)] ∧ At K F (.lst (ts.map dTk)) row ∧ At K F (.tup (res.map D.t)) rs ∧ ts.drop n = s ∧ s ≠ [] ∧ ∀ t ∈ ts, TkOk t
  len : s.length ≤ 100001
theorem stepR_len {s : List Tk} : (stepR s).length ≤ s.length := by
  match s with
  | [] => exact Nat.le_refl _
  | [t] => exact Nat.le_refl _
  | _ :: t :: r => exact Nat.le_succ _
theorem Rdr.mono {K : PySem.W.Frag} {F F' : Hp} {o : HO} {res : List (List Nat)} {s : List Tk} (h : Rdr K F o res s) (e : Same F F') : Rdr K F' o res s := by
  obtain ⟨dx, row, rs, ts, n, h1, h2, h3, h4⟩ := h.ex
  exact ⟨⟨dx, row, rs, ts, n, h1, h2.mono e, h3.mono e, h4⟩, h.len⟩
theorem Rdr.now {K : PySem.W.Frag} {F : Hp} {o : HO} {res : List (List Nat)} {s : List Tk} (h : Rdr K F o res s) : TkOk (nowT s) := by
  obtain ⟨dx, row, rs, ts, n, h1, h2, h3, h4, h5, h6⟩ := h.ex
  subst h4
  cases e : ts.drop n with
  | nil => exact absurd e h5
  | cons t r =>
    refine h6 t ?_
    have : t ∈ ts.drop n := by rw [e]; exact List.mem_cons_self ..
    exact List.mem_of_mem_drop this
/-- what a call leaves that reads on -/
def OkR {α : Type} (K : PySem.W.Frag) (F : Hp) (M : List (Addr × HO)) (r : Addr) (res : List (List Nat)) (e : α → D) (Q : VK) (x : α × List Tk) : Prop := ∀ F' H' o' v, Same F F' → HH F' H' ((r, o') :: M) → Rdr K F' o' res x.2 → At K F' (e x.1) v → Q v H'
section
variable {K : PySem.W.Frag} {F F0 H H' : Hp} {Q : VK} {E : XK} {mg : Str → Option Value} {M : List (Addr × HO)} {r : Addr} {o : HO} {res : List (List Nat)} {s : List Tk} {z : List Nat}
theorem r_meth {m : Str} {S : Hp → Prop} (hh : HH F H ((r, o) :: M)) (hr : Rdr K F0 o res s) (n : (["row", "at", "reserved"] : List Str).contains m = false) (q : S H) : MethK (He.ga K "Reader") m (.ref r) H S := by
  obtain ⟨dx, row, rs, ts, n', rfl, _⟩ := hr.ex
  refine v_meth (hh.get (i := 0) rfl) ?_ q
  rw [List.contains_cons, List.contains_cons, List.contains_cons] at n
  simp only [Bool.or_eq_false_iff] at n
  rw [List.lookup_cons, n.1, List.lookup_cons, n.2.1, List.lookup_cons, n.2.2.1]
  rfl
theorem rd_now (T : Tx K mg) (hh : HH F H ((r, o) :: M)) (hr : Rdr K F o res s) (q : ∀ v, At K F (dTk (nowT s)) v → Q v H) : sp_Reader_now K [.ref r] H Q E := by
  obtain ⟨dx, row, rs, ts, n, rfl, h2, h3, rfl, h5, h6⟩ := hr.ex
  refine ⟨rfl, ?_⟩
  unfold t_Reader_now
  walk_at "go"
  refine m_fld (i := 0) hh rfl T.cl_Reader T.no_Reader_row (lk1 rfl) ?_
  walk_at "go"
  refine m_fld (i := 0) hh rfl T.cl_Reader T.no_Reader_at (lk2 (by decide +kernel) (lk1 rfl)) ?_
  cases e : ts.drop n with
  | nil => exact absurd e h5
  | cons t r' => exact s_ixL h2 hh.sub rfl (of_drop e).1 fun w hw => q w (by rw [e]; exact hw)
theorem p_now (T : Tx K mg) (hh : HH F H ((r, o) :: M)) (hr : Rdr K F o res s) (q : ∀ v, At K F (dTk (nowT s)) v → Q v H) : PropK (He.ga K "Reader") (sp_Reader_now K) [] E (.ref r) H Q := by
  obtain ⟨dx, row, rs, ts, n, rfl, _⟩ := id hr.ex
  exact ⟨r, dx, _, rfl, hh.get (i := 0) rfl, rd_now T hh hr q⟩
theorem rd_step (T : Tx K mg) (hh : HH F H ((r, o) :: M)) (hr : Rdr K F o res s) (q : OkR K F M r res dTk Q (nowT s, stepR s)) : sp_Reader_step K [.ref r] H Q E := by
  have hlen := hr.len
  have hlen2 := stepR_len (s := s)
  obtain ⟨dx, row, rs, ts, n, rfl, h2, h3, rfl, h5, h6⟩ := hr.ex
  refine ⟨rfl, ?_⟩
  unfold t_Reader_step
  walk_at "go"
  refine m_fld (i := 0) hh rfl T.cl_Reader T.no_Reader_row (lk1 rfl) ?_
  walk_at "go"
  refine m_fld (i := 0) hh rfl T.cl_Reader T.no_Reader_at (lk2 (by decide +kernel) (lk1 rfl)) ?_
  cases e : ts.drop n with
  | nil => exact absurd e h5
  | cons t r' =>
    rw [e] at q hlen hlen2
    obtain ⟨e1, e2, e3⟩ := of_drop e
    refine s_ixL h2 hh.sub rfl e1 fun w hw => ?_
    walk_at "go"
    refine g_thr ?_
    walk_at "go"
    refine m_fld (i := 0) hh rfl T.cl_Reader T.no_Reader_at (lk2 (by decide +kernel) (lk1 rfl)) ?_
    walk_at "go"
    refine m_fld (i := 0) hh rfl T.cl_Reader T.no_Reader_row (lk1 rfl) ?_
    walk_at "go"
    refine s_lenL h2 hh.sub ?_
    walk_at "go"
    by_cases hl : n < ts.length - 1
    · rw [decide_eq_true (by omega)]
      walk_at "go"
      refine m_fld (i := 0) hh rfl T.cl_Reader T.no_Reader_at (lk2 (by decide +kernel) (lk1 rfl)) ?_
      walk_at "go"
      refine o_sfld0 hh T.cl_Reader T.no_Reader_at (Nat.le_of_ble_eq_true rfl) fun H' hh' => ?_
      walk_at "go"
      rw [putF_ne (by decide +kernel), putF_eq] at hh'
      have ne : ts.drop (n + 1) ≠ [] := fun z => by
        have := congrArg List.length z
        rw [List.length_drop] at this
        simp at this
        omega
      refine q F H' _ w (Same.refl F) hh' ⟨⟨dx, row, rs, ts, n + 1, rfl, h2, h3, ?_, ?_, h6⟩, Nat.le_trans hlen2 hlen⟩ hw
      · rw [e2]
        cases r' with
        | nil => exact absurd e2 ne
        | cons t' r' => rfl
      · cases r' with
        | nil => exact absurd e2 ne
        | cons t' r' => exact fun z => nomatch z
    · rw [decide_eq_false (by omega)]
      walk_at "go"
      have e4 : r' = [] := by
        have := congrArg List.length e
        rw [List.length_drop, List.length_cons] at this
        exact List.length_eq_zero_iff.mp (by omega)
      subst e4
      exact q F H _ w (Same.refl F) hh ⟨⟨dx, row, rs, ts, n, rfl, h2, h3, e, fun z => (nomatch z), h6⟩, hlen⟩ hw
local macro_rules | `(tactic| walk_at "rd1") => `(tactic| first
  | walk_at "go1"
  | (with_reducible refine r_meth (by assumption) (by assumption) (by decide +kernel) ?_)
  | (with_reducible refine p_now (by assumption) (by assumption) (by assumption) ?_; intro _ _))
local macro_rules | `(tactic| walk_at "rd") => `(tactic| repeat walk_at "rd1")
theorem rd_is_sign (T : Tx K mg) (hh : HH F H ((r, o) :: M)) (hr : Rdr K F o res s) (q : Q (.bl (isSign z s)) H) : sp_Reader_is_sign K [.ref r, .str ⟨z.toArray⟩] H Q E := by
  refine ⟨rfl, ?_⟩
  unfold t_Reader_is_sign
  walk_at "rd"
  unfold isSign at q
  refine ite2 (fun h => ?_) (fun h => ?_)
  · rw [h, Bool.true_and] at q
    walk_at "rd"
    exact q
  · rw [Bool.not_eq_true _ |>.mp h, Bool.false_and] at q
    exact q
theorem rd_is_word (T : Tx K mg) (hh : HH F H ((r, o) :: M)) (hr : Rdr K F o res s) (q : Q (.bl (isWord z s)) H) : sp_Reader_is_word K [.ref r, .str ⟨z.toArray⟩] H Q E := by
  refine ⟨rfl, ?_⟩
  unfold t_Reader_is_word
  walk_at "rd"
  unfold isWord at q
  refine ite2 (fun h => ?_) (fun h => ?_)
  · rw [h, Bool.true_and] at q
    walk_at "rd"
    exact q
  · rw [Bool.not_eq_true _ |>.mp h, Bool.false_and] at q
    exact q
theorem rd_take_sign (T : Tx K mg) (hh : HH F H ((r, o) :: M)) (hr : Rdr K F o res s) (hz : z.length ≤ 900) (q : (takeSign z s).on (OkR K F M r res dTk Q) (Er K E F M)) : sp_Reader_take_sign K [.ref r, .str ⟨z.toArray⟩] H Q E := by
  refine ⟨rfl, ?_⟩
  unfold t_Reader_take_sign
  walk_at "rd"
  refine rd_is_sign T hh hr ?_
  walk_at "rd"
  unfold takeSign at q
  cases h : isSign z s with
  | true =>
    rw [h] at q
    walk_at "rd"
    exact rd_step T hh hr q
  | false =>
    rw [h] at q
    walk_at "rd"
    refine v_addT (by show 9 + _ ≤ _; omega) ?_
    walk_at "rd"
    exact Er.raise (z := q_expected_ ++ z) q hh.drop rfl (by have := hr.now.p; omega) (by rw [List.length_append]; show 9 + _ ≤ _; omega)
theorem rd_take_word (T : Tx K mg) (hh : HH F H ((r, o) :: M)) (hr : Rdr K F o res s) (hz : z.length ≤ 900) (q : (takeWord z s).on (OkR K F M r res dTk Q) (Er K E F M)) : sp_Reader_take_word K [.ref r, .str ⟨z.toArray⟩] H Q E := by
  refine ⟨rfl, ?_⟩
  unfold t_Reader_take_word
  walk_at "rd"
  refine rd_is_word T hh hr ?_
  walk_at "rd"
  unfold takeWord at q
  cases h : isWord z s with
  | true =>
    rw [h] at q
    walk_at "rd"
    exact rd_step T hh hr q
  | false =>
    rw [h] at q
    walk_at "rd"
    refine v_addT (by show 9 + _ ≤ _; omega) ?_
    walk_at "rd"
    exact Er.raise (z := q_expected_ ++ z) q hh.drop rfl (by have := hr.now.p; omega) (by rw [List.length_append]; show 9 + _ ≤ _; omega)
theorem Rdr_res (hh : HH F H ((r, o) :: M)) (hr : Rdr K F o res s) (T : Tx K mg) (q : ∀ v, At K F (.tup (res.map D.t)) v → Q v H) : FldK K "reserved" (.ref r) H Q := by
  obtain ⟨dx, row, rs, ts, n, rfl, h2, h3, rfl, h5, h6⟩ := hr.ex
  exact m_fld (i := 0) hh rfl T.cl_Reader T.no_Reader_reserved (lk2 (by decide +kernel) (lk2 (by decide +kernel) (lk1 rfl))) (q rs h3)
theorem rd_is_name (T : Tx K mg) (hh : HH F H ((r, o) :: M)) (hr : Rdr K F o res s) (q : Q (.bl (isName res s)) H) : sp_Reader_is_name K [.ref r] H Q E := by
  refine ⟨rfl, ?_⟩
  unfold t_Reader_is_name
  walk_at "rd"
  unfold isName at q
  refine ite2 (fun h => ?_) (fun h => ?_)
  · rw [h, Bool.true_and] at q
    walk_at "rd"
    refine Rdr_res hh hr T fun v hv => ?_
    exact s_notInT hv hh.sub q
  · rw [Bool.not_eq_true _ |>.mp h, Bool.false_and] at q
    exact q
theorem word_of_name (h : isName res s = true) : (nowT s).r = q_word := by
  unfold isName at h
  rw [Bool.and_eq_true, decide_eq_true_iff] at h
  exact h.1
theorem rd_take_kind (T : Tx K mg) (hh : HH F H ((r, o) :: M)) (hr : Rdr K F o res s) (q : (takeKind res s).on (OkR K F M r res dTk Q) (Er K E F M)) : sp_Reader_take_kind K [.ref r] H Q E := by
  refine ⟨rfl, ?_⟩
  unfold t_Reader_take_kind k_GREAT
  walk_at "rd"
  refine rd_is_name T hh hr ?_
  walk_at "rd"
  unfold takeKind at q
  have hp := hr.now.p
  cases h : isName res s with
  | false =>
    rw [h] at q
    walk_at "rd"
    exact Er.raise q hh.drop rfl (by omega) (by decide)
  | true =>
    rw [h, if_pos rfl] at q
    walk_at "rd"
    have hw := hr.now.w (word_of_name h)
    unfold great at q
    cases ht : (nowT s).t with
    | nil => exact absurd ht hw
    | cons c t =>
      rw [ht] at q
      change (if decide (c ∈ q_c_GREAT) = true then _ else _ : Rs (Tk × List Tk)).on _ _ at q
      refine v_ixT' (i := 0) (c := c) (by have := hr.now.l; rw [← ht]; omega) rfl (by rfl) ?_
      walk_at "rd"
      cases hg : decide (c ∈ q_c_GREAT) with
      | true =>
        rw [hg] at q
        walk_at "rd"
        exact rd_step T hh hr q
      | false =>
        rw [hg] at q
        walk_at "rd"
        exact Er.raise q hh.drop rfl (by omega) (by decide)
theorem rd_take_field (T : Tx K mg) (hh : HH F H ((r, o) :: M)) (hr : Rdr K F o res s) (q : (takeField res s).on (OkR K F M r res dTk Q) (Er K E F M)) : sp_Reader_take_field K [.ref r] H Q E := by
  refine ⟨rfl, ?_⟩
  unfold t_Reader_take_field k_GREAT
  walk_at "rd"
  refine rd_is_name T hh hr ?_
  walk_at "rd"
  unfold takeField at q
  have hp := hr.now.p
  cases h : isName res s with
  | false =>
    rw [h] at q
    walk_at "rd"
    exact Er.raise q hh.drop rfl (by omega) (by decide)
  | true =>
    rw [h, if_pos rfl] at q
    walk_at "rd"
    have hw := hr.now.w (word_of_name h)
    unfold great at q
    cases ht : (nowT s).t with
    | nil => exact absurd ht hw
    | cons c t =>
      rw [ht] at q
      change (if decide (c ∈ q_c_GREAT) = true then _ else _ : Rs (Tk × List Tk)).on _ _ at q
      refine v_ixT' (i := 0) (c := c) (by have := hr.now.l; rw [← ht]; omega) rfl (by rfl) ?_
      walk_at "rd"
      cases hg : decide (c ∈ q_c_GREAT) with
      | true =>
        rw [hg] at q
        walk_at "rd"
        exact Er.raise q hh.drop rfl (by omega) (by decide)
      | false =>
        rw [hg] at q
        walk_at "rd"
        exact rd_step T hh hr q
theorem rd_take_number (T : Tx K mg) (hh : HH F H ((r, o) :: M)) (hr : Rdr K F o res s) (q : (takeNumber s).on (OkR K F M r res dTk Q) (Er K E F M)) : sp_Reader_take_number K [.ref r] H Q E := by
  refine ⟨rfl, ?_⟩
  unfold t_Reader_take_number
  walk_at "rd"
  unfold takeNumber at q
  have hp := hr.now.p
  by_cases h : (nowT s).r = q_number
  · rw [if_pos h] at q
    rw [decide_eq_true h]
    walk_at "rd"
    exact rd_step T hh hr q
  · rw [if_neg h] at q
    rw [decide_eq_false h]
    walk_at "rd"
    exact Er.raise q hh.drop rfl (by omega) (by decide)
theorem rd_take_text (T : Tx K mg) (hh : HH F H ((r, o) :: M)) (hr : Rdr K F o res s) (q : (takeText s).on (OkR K F M r res dTk Q) (Er K E F M)) : sp_Reader_take_text K [.ref r] H Q E := by
  refine ⟨rfl, ?_⟩
  unfold t_Reader_take_text
  walk_at "rd"
  unfold takeText at q
  have hp := hr.now.p
  by_cases h : (nowT s).r = q_text
  · rw [if_pos h] at q
    rw [decide_eq_true h]
    walk_at "rd"
    exact rd_step T hh hr q
  · rw [if_neg h] at q
    rw [decide_eq_false h]
    walk_at "rd"
    exact Er.raise q hh.drop rfl (by omega) (by decide)
theorem v_numT {t : List Nat} (h : t ≠ [] ∧ t.all (fun c => decide (48 ≤ c) && decide (c ≤ 57)) = true ∧ t.length ≤ 18) (q : Q (.int (numT t : Int)) H) : rIntX [.str ⟨t.toArray⟩] H Q :=
  v_intS (SX.int_S h.2.1 h.1 (by omega)) (by rw [len_svv]; omega) q
theorem takeNumber_ok {x : Tk × List Tk} (h : takeNumber s = .ok x) : x = (nowT s, stepR s) ∧ (nowT s).r = q_number := by
  unfold takeNumber takeT at h
  split at h
  · rename_i e
    injection h with h
    exact ⟨h.symm, e⟩
  · cases h
theorem numT_lt {t : List Nat} (h : t.length ≤ 18) (hd : t.all (fun c => decide (48 ≤ c) && decide (c ≤ 57)) = true) : numT t < 2 ^ 63 := by
  have key : ∀ (l : List Nat) (a : Nat), l.all (fun c => decide (48 ≤ c) && decide (c ≤ 57)) = true → l.foldl (fun acc c => acc * 10 + (c - 48)) a + 1 ≤ (a + 1) * 10 ^ l.length := by
    intro l
    induction l with
    | nil => intro a _; simp
    | cons c l ih =>
      intro a h
      rw [List.all_cons, Bool.and_eq_true, Bool.and_eq_true, decide_eq_true_iff, decide_eq_true_iff] at h
      rw [List.foldl_cons, List.length_cons, Nat.pow_succ]
      refine Nat.le_trans (ih _ h.2) ?_
      rw [Nat.mul_comm (10 ^ l.length) 10, ← Nat.mul_assoc]
      exact Nat.mul_le_mul_right _ (by omega)
  have k := key t 0 hd
  have k2 : (10 : Nat) ^ t.length ≤ 10 ^ 18 := Nat.pow_le_pow_right (by decide) h
  show NumText.digitsVal t < _
  unfold NumText.digitsVal
  omega
theorem rd_take_integer (T : Tx K mg) (hh : HH F H ((r, o) :: M)) (hr : Rdr K F o res s) (q : (takeInteger s).on (OkR K F M r res D.i Q) (Er K E F M)) : sp_Reader_take_integer K [.ref r] H Q E := by
  refine ⟨rfl, ?_⟩
  unfold t_Reader_take_integer
  walk_at "rd"
  refine g_thr ?_
  walk_at "rd"
  refine rd_is_sign T hh hr ?_
  walk_at "rd"
  unfold takeInteger at q
  cases h : isSign q_x2d s with
  | true =>
    rw [h, if_pos rfl] at q
    walk_at "rd"
    refine rd_step T hh hr fun F1 H1 o1 v s1 hh hr hv => ?_
    walk_at "rd"
    refine rd_take_number T hh hr ?_
    cases hx : takeNumber (stepR s) with
    | stuck => rw [hx] at q; exact q
    | bad i z => rw [hx] at q; exact Er.mono q s1
    | ok x =>
      rw [hx] at q
      obtain ⟨rfl, hn⟩ := takeNumber_ok hx
      have hk := hr.now.n hn
      intro F2 H2 o2 v2 s2 hh hr hv
      walk_at "rd"
      refine v_numT hk ?_
      walk_at "rd"
      rw [show (-1 : Int) * ((numT (nowT (stepR s)).t : Nat) : Int) = -((numT (nowT (stepR s)).t : Nat) : Int) by omega]
      exact q _ _ _ _ (s1.trans s2) hh hr At.of
  | false =>
    rw [h, if_neg (by decide)] at q
    walk_at "rd"
    refine rd_take_number T hh hr ?_
    cases hx : takeNumber s with
    | stuck => rw [hx] at q; exact q
    | bad i z => rw [hx] at q; exact q
    | ok x =>
      rw [hx] at q
      obtain ⟨rfl, hn⟩ := takeNumber_ok hx
      have hk := hr.now.n hn
      intro F2 H2 o2 v2 s2 hh hr hv
      walk_at "rd"
      refine v_numT hk ?_
      walk_at "rd"
      rw [Int.one_mul]
      exact q _ _ _ _ s2 hh hr At.of
def NumOk (t : List Nat) : Prop := t ≠ [] ∧ t.all (fun c => decide (48 ≤ c) && decide (c ≤ 57)) = true ∧ t.length ≤ 18
/-- the same with what is known of the token -/
theorem rd_take_numberN (T : Tx K mg) (hh : HH F H ((r, o) :: M)) (hr : Rdr K F o res s) (q : (takeNumber s).on (fun x => NumOk x.1.t → x.1.p ≤ 100000 → OkR K F M r res dTk Q x) (Er K E F M)) : sp_Reader_take_number K [.ref r] H Q E := by
  refine rd_take_number T hh hr ?_
  have hn := hr.now.n
  have hp := hr.now.p
  cases hx : takeNumber s with
  | stuck => rw [hx] at q; exact q
  | bad i z => rw [hx] at q; exact q
  | ok a =>
    obtain ⟨rfl, e⟩ := takeNumber_ok hx
    rw [hx] at q
    exact q (hn e) hp
theorem rd_take_textN (T : Tx K mg) (hh : HH F H ((r, o) :: M)) (hr : Rdr K F o res s) (q : (takeText s).on (fun x => TkOk x.1 → OkR K F M r res dTk Q x) (Er K E F M)) : sp_Reader_take_text K [.ref r] H Q E := by
  refine rd_take_text T hh hr ?_
  have hn := hr.now
  unfold takeText takeT at q ⊢
  by_cases h : (nowT s).r = q_text
  · rw [if_pos h] at q ⊢
    exact q hn
  · rw [if_neg h] at q ⊢
    exact q
theorem rd_take_kindN (T : Tx K mg) (hh : HH F H ((r, o) :: M)) (hr : Rdr K F o res s) (q : (takeKind res s).on (fun x => TkOk x.1 → OkR K F M r res dTk Q x) (Er K E F M)) : sp_Reader_take_kind K [.ref r] H Q E := by
  refine rd_take_kind T hh hr ?_
  have hn := hr.now
  unfold takeKind takeT at q ⊢
  by_cases h : isName res s = true
  · rw [if_pos h] at q ⊢
    by_cases h2 : great (nowT s).t = true
    · rw [if_pos h2] at q ⊢
      exact q hn
    · rw [if_neg h2] at q ⊢
      exact q
  · rw [if_neg h] at q ⊢
    exact q
theorem rd_take_fieldN (T : Tx K mg) (hh : HH F H ((r, o) :: M)) (hr : Rdr K F o res s) (q : (takeField res s).on (fun x => TkOk x.1 → OkR K F M r res dTk Q x) (Er K E F M)) : sp_Reader_take_field K [.ref r] H Q E := by
  refine rd_take_field T hh hr ?_
  have hn := hr.now
  unfold takeField takeT at q ⊢
  by_cases h : isName res s = true
  · rw [if_pos h] at q ⊢
    by_cases h2 : great (nowT s).t = true
    · rw [if_pos h2] at q ⊢
      exact q
    · rw [if_neg h2] at q ⊢
      exact q hn
  · rw [if_neg h] at q ⊢
    exact q
end
end Lw

local macro_rules | `(tactic| walk_at "rd1") => `(tactic| first
  | walk_at "go1"
  | (with_reducible refine Lw.r_meth (by assumption) (by assumption) (by decide +kernel) ?_)
  | (with_reducible refine Lw.p_now (by assumption) (by assumption) (by assumption) ?_; intro _ _))
local macro_rules | `(tactic| walk_at "rd") => `(tactic| repeat walk_at "rd1")
-- rd
namespace Lw
open PySem PySem.Spec PyProof.Rows L2 G
/-! ### sorts -/
inductive So where
  | int (lo hi : Int)
  | text (n : Int) (w : Option (List Nat))
  | choice (cs : List (List Nat))
  | ref (ks : List (List Nat)) (rule : List Nat)
  | list (ks : List (List Nat))
def dOp : Option (List Nat) → D
  | none => .n
  | some t => .t t
abbrev dTs (l : List (List Nat)) : D := .lst (l.map D.t)
def dSo : So → D
  | .int lo hi => o_IntSort (.i lo) (.i hi)
  | .text n w => o_TextSort (.i n) (dOp w)
  | .choice cs => o_ChoiceSort (dTs cs)
  | .ref ks r => o_RefSort (dTs ks) (.t r)
  | .list ks => o_ListSort (dTs ks)
def readInt (s : List Tk) : Rs (So × List Tk) := (takeInteger s).bind fun a => (takeSign q_x2ex2e a.2).bind fun b => (takeInteger b.2).bind fun c =>
  if c.1 < a.1 ∨ a.1 < -1000000000 ∨ 1000000000 < c.1 then .bad (nowT s).p q_bad_bounds else .ok (.int a.1 c.1, c.2)
def readTextSort (s : List Tk) : Rs (So × List Tk) := (takeNumber s).bind fun a => if numT a.1.t < 1 ∨ 40 < numT a.1.t then .bad a.1.p q_bad_length else
  if isWord q_without a.2 = true then (takeT a.2).bind fun b => (takeText b.2).bind fun c => if c.1.t.length = 1 then .ok (.text (numT a.1.t) (some c.1.t), c.2) else .bad c.1.p q_bad_sign
  else .ok (.text (numT a.1.t) none, a.2)
def choicesL : Nat → List (List Nat) → List Tk → Rs (So × List Tk)
  | 0, _, _ => .stuck
  | m + 1, acc, s => (takeText s).bind fun a => if 40 < a.1.t.length then .bad a.1.p q_bad_length else if acc.contains a.1.t = true then .bad a.1.p q_choice_twice else
    if acc.length = 8 then .bad a.1.p q_too_many_choices else if isSign q_x2c a.2 = true then (takeT a.2).bind fun b => choicesL m (acc ++ [a.1.t]) b.2 else .ok (.choice (acc ++ [a.1.t]), a.2)
def readChoices (s : List Tk) : Rs (So × List Tk) := (takeWord q_of s).bind fun a => choicesL (s.length + 1) [] a.2
def targetsL (res : List (List Nat)) : Nat → List Tk → List Tk → Rs (List Tk × List Tk)
  | 0, _, _ => .stuck
  | m + 1, acc, s => if isWord q_or s = true then (takeT s).bind fun b => (takeKind res b.2).bind fun a => if (acc.map (·.t)).contains a.1.t = true then .bad a.1.p q_kind_twice else targetsL res m (acc ++ [a.1]) a.2 else .ok (acc, s)
def readTargets (res : List (List Nat)) (s : List Tk) : Rs (List Tk × List Tk) := (takeKind res s).bind fun a => targetsL res (s.length + 1) [a.1] a.2
section
variable {K : PySem.W.Frag} {F F0 H H' : Hp} {Q : VK} {E : XK} {mg : Str → Option Value} {M : List (Addr × HO)} {r : Addr} {o : HO} {res : List (List Nat)} {s : List Tk} {z : List Nat}
theorem rd_read_int (T : Tx K mg) (hh : HH F H ((r, o) :: M)) (hr : Rdr K F o res s) (q : (readInt s).on (OkR K F M r res dSo Q) (Er K E F M)) : sp_read_int K [.ref r] H Q E := by
  refine ⟨rfl, ?_⟩
  unfold t_read_int k_LARGEST
  have hp := hr.now.p
  walk_at "rd"
  refine rd_take_integer T hh hr (q.step (by walk_at "er") fun a q F1 H1 o1 v1 s1 hh hr hv => ?_)
  rw [At.v_.mp hv]
  walk_at "rd"
  refine rd_take_sign T hh hr (by decide) (q.step (by walk_at "er") fun b q F2 H2 o2 v2 s2 hh hr _ => ?_)
  walk_at "rd"
  refine rd_take_integer T hh hr (q.step (by walk_at "er") fun c q F3 H3 o3 v3 s3 hh hr hv => ?_)
  rw [At.v_.mp hv]
  walk_at "rd"
  by_cases h : c.1 < a.1 ∨ a.1 < -1000000000 ∨ 1000000000 < c.1
  · rw [if_pos h] at q
    have er := Er.raise (Er.mono q (s1.trans (s2.trans s3))) hh.drop rfl (Nat.lt_of_le_of_lt hp (by decide)) (by decide)
    refine ite2 (fun h1 => ?_) (fun h1 => ?_)
    · walk_at "rd"
      exact er
    · walk_at "rd"
      refine ite2 (fun h2 => ?_) (fun h2 => ?_)
      · walk_at "rd"
        exact er
      · walk_at "rd"
        rw [decide_eq_true (by simp only [decide_eq_true_iff] at h1 h2; omega)]
        walk_at "rd"
        exact er
  · rw [if_neg h] at q
    rw [decide_eq_false (by omega)]
    walk_at "rd"
    rw [decide_eq_false (by omega)]
    walk_at "rd"
    rw [decide_eq_false (by omega)]
    walk_at "rd"
    exact mk_IntSort T hh At.of At.of fun F4 H4 u s4 hh4 ha => q _ _ _ _ (by walk_at "sm") hh4 (hr.mono s4) ha
theorem rd_read_text_sort (T : Tx K mg) (hh : HH F H ((r, o) :: M)) (hr : Rdr K F o res s) (q : (readTextSort s).on (OkR K F M r res dSo Q) (Er K E F M)) : sp_read_text_sort K [.ref r] H Q E := by
  refine ⟨rfl, ?_⟩
  unfold t_read_text_sort k_LONGEST_TEXT
  have hp := hr.now.p
  walk_at "rd"
  unfold readTextSort at q
  refine rd_take_numberN T hh hr (q.step (by walk_at "er") fun a q hk hp F1 H1 o1 v1 s1 hh hr hv => ?_)
  walk_at "rd"
  refine v_numT hk ?_
  walk_at "rd"
  by_cases h : numT a.1.t < 1 ∨ 40 < numT a.1.t
  · rw [if_pos h] at q
    have er := Er.raise (Er.mono q s1) hh.drop rfl (Nat.lt_of_le_of_lt hp (by decide)) (by decide)
    refine ite2 (fun h1 => ?_) (fun h1 => ?_)
    · walk_at "rd"
      exact er
    · walk_at "rd"
      rw [decide_eq_true (by simp only [decide_eq_true_iff] at h1; omega)]
      walk_at "rd"
      exact er
  rw [if_neg h] at q
  rw [decide_eq_false (by omega)]
  walk_at "rd"
  rw [decide_eq_false (by omega)]
  walk_at "rd"
  refine rd_is_word T hh hr ?_
  walk_at "rd"
  cases hw : isWord q_without a.2 with
  | false =>
    rw [hw, if_neg (by decide)] at q
    walk_at "rd"
    refine g_makeD ?_
    walk_at "rd"
    exact mk_TextSort T hh At.of At.of fun F4 H4 u s4 hh4 ha => q _ _ _ _ (by walk_at "sm") hh4 (hr.mono s4) ha
  | true =>
    rw [hw, if_pos rfl] at q
    walk_at "rd"
    refine rd_step T hh hr fun F2 H2 o2 v2 s2 hh hr _ => ?_
    walk_at "rd"
    refine rd_take_textN T hh hr (Rs.on.step (r := takeText (stepR a.2)) q (by walk_at "er") fun c q hc F3 H3 o3 v3 s3 hh hr hv3 => ?_)
    walk_at "rd"
    refine v_lenT' (Nat.le_trans hc.l (by decide)) ?_
    walk_at "rd"
    by_cases hl : c.1.t.length = 1
    · rw [if_pos hl] at q
      rw [decide_eq_true (by omega)]
      walk_at "rd"
      exact mk_TextSort (a1 := .t c.1.t) T hh At.of At.of fun F4 H4 u s4 hh4 ha => q _ _ _ _ (by walk_at "sm") hh4 (hr.mono s4) ha
    · rw [if_neg hl] at q
      rw [decide_eq_false (by omega)]
      walk_at "rd"
      exact Er.raise (Er.mono q (by walk_at "sm")) hh.drop rfl (Nat.lt_of_le_of_lt hc.p (by decide)) (by decide)
theorem rd_read_choices (T : Tx K mg) (hh : HH F H ((r, o) :: M)) (hr : Rdr K F o res s) (q : (readChoices s).on (OkR K F M r res dSo Q) (Er K E F M)) : sp_read_choices K [.ref r] H Q E := by
  refine ⟨rfl, ?_⟩
  unfold t_read_choices k_LONGEST_TEXT k_MOST_CHOICES
  unfold readChoices at q
  walk_at "rd"
  refine rd_take_word T hh hr (by decide) (q.step (by walk_at "er") fun a q F1 H1 o1 v1 s1 hh hr hv => ?_)
  walk_at "rd"
  refine o_lst1 hh (by decide) fun H2 l hh => ?_
  walk_at "rd"
  refine a_while (m := s.length + 1) (fun m σ H' => ∃ (acc : List (List Nat)) (s' : List Tk) (F' : Hp) (o' : HO) (vs : List V) (v2 : Option V), acc.length ≤ 8 ∧ σ = [some (.ref r), some (.ref l), v2] ∧ Same F F' ∧ HH F' H' ((r, o') :: (l, .lst vs) :: M) ∧ Rdr K F' o' res s' ∧ AtA K F' (acc.map D.t) vs ∧
    (choicesL m acc s').on (OkR K F M r res dSo Q) (Er K E F M)) ⟨[], a.2, F1, o1, [], none, by decide, rfl, s1, hh, hr, AtA.nil, q⟩ (fun σ H ⟨_, _, _, _, _, _, _, _, _, _, _, _, z⟩ => z) ?_
  clear hh hr hv q s1
  rintro m σ H' ⟨acc, s', F', o', vs, v2, hl, rfl, s1, hh, hr, ha, q⟩
  have hvl : vs.length = acc.length := by rw [ha.len, List.length_map]
  walk_at "rd"
  refine rd_take_textN T hh hr (Rs.on.step (r := takeText s') q (by walk_at "er") fun c q hc F3 H3 o3 v3 s3 hh hr hv3 => ?_)
  walk_at "rd"
  refine v_lenT' (Nat.le_trans hc.l (by decide)) ?_
  walk_at "rd"
  have hp := Nat.lt_of_le_of_lt hc.p (show 100000 < 1000000000 by decide)
  by_cases h1 : 40 < c.1.t.length
  · rw [if_pos h1] at q
    rw [decide_eq_true (by omega)]
    walk_at "rd"
    exact Er.raise (Er.mono q (by walk_at "sm")).up hh.drop rfl hp (by decide)
  rw [if_neg h1] at q
  rw [decide_eq_false (by omega)]
  walk_at "rd"
  refine o_inL (i := 1) hh rfl (ha.mono s3) ?_
  walk_at "rd"
  cases h2 : acc.contains c.1.t with
  | true =>
    rw [h2, if_pos rfl] at q
    walk_at "rd"
    exact Er.raise (Er.mono q (by walk_at "sm")).up hh.drop rfl hp (by decide)
  | false =>
    rw [h2, if_neg (by decide)] at q
    walk_at "rd"
    refine o_lenL (i := 1) hh rfl ?_
    walk_at "rd"
    by_cases h3 : acc.length = 8
    · rw [if_pos h3] at q
      rw [decide_eq_true (by omega)]
      walk_at "rd"
      exact Er.raise (Er.mono q (by walk_at "sm")).up hh.drop rfl hp (by decide)
    rw [if_neg h3] at q
    rw [decide_eq_false (by omega)]
    walk_at "rd"
    refine o_tyL (i := 1) hh rfl ?_
    walk_at "rd"
    refine o_app1 hh (by omega) fun H4 hh => ?_
    walk_at "rd"
    refine rd_is_sign T hh hr ?_
    have ha' : AtA K F3 ((acc ++ [c.1.t]).map D.t) (vs ++ [svv c.1.t]) := AtA.snocM (e := D.t) (ha.mono s3) At.of
    walk_at "rd"
    cases h4 : isSign q_x2c c.2 with
    | true =>
      rw [h4, if_pos rfl] at q
      walk_at "rd"
      refine rd_step T hh hr fun F5 H5 o5 v5 s5 hh hr hv5 => ?_
      exact ⟨acc ++ [c.1.t], stepR c.2, F5, o5, _, _, by rw [List.length_append]; show acc.length + 1 ≤ 8; omega, rfl, by walk_at "sm", hh, hr, ha'.mono s5, q⟩
    | false =>
      rw [h4, if_neg (by decide)] at q
      walk_at "rd"
      have hf := hh.frz1
      have sf := hh.frz1S
      exact mk_ChoiceSort T hf (frz_lst (hh.out (i := 1) rfl) ha') fun F6 H6 u s6 hh6 ha6 => q _ _ _ _ (by walk_at "sm") hh6 (hr.mono (sf.trans s6)) ha6
theorem rd_read_targets (T : Tx K mg) (hh : HH F H ((r, o) :: M)) (hr : Rdr K F o res s) (q : (readTargets res s).on (fun x => x.1.length ≤ 100010 → OkR K F M r res (fun ts : List Tk => .lst (ts.map dTk)) Q x) (Er K E F M)) : sp_read_targets K [.ref r] H Q E := by
  refine ⟨rfl, ?_⟩
  unfold t_read_targets
  have hs := hr.len
  unfold readTargets at q
  walk_at "rd"
  refine rd_take_kind T hh hr (q.step (by walk_at "er") fun a q F1 H1 o1 v1 s1 hh hr hv => ?_)
  walk_at "rd"
  refine o_lst1 hh (by show 1 ≤ 1000; decide) fun H2 l hh => ?_
  walk_at "rd"
  refine a_while (m := s.length + 1) (fun m σ H' => ∃ (acc : List Tk) (s' : List Tk) (F' : Hp) (o' : HO) (vs : List V) (v2 v3 : Option V), acc.length + m ≤ s.length + 2 ∧ σ = [some (.ref r), some (.ref l), v2, v3] ∧ Same F F' ∧ HH F' H' ((r, o') :: (l, .lst vs) :: M) ∧ Rdr K F' o' res s' ∧ AtA K F' (acc.map dTk) vs ∧
    (targetsL res m acc s').on (fun x => x.1.length ≤ 100010 → OkR K F M r res (fun ts : List Tk => .lst (ts.map dTk)) Q x) (Er K E F M)) ⟨[a.1], a.2, F1, o1, [v1], none, none, by show 1 + _ ≤ _; omega, rfl, s1, hh, hr, AtA.cons hv AtA.nil, q⟩ (fun σ H ⟨_, _, _, _, _, _, _, _, _, _, _, _, _, z⟩ => z) ?_
  clear hh hr hv q s1
  rintro m σ H' ⟨acc, s', F', o', vs, v2, v3, hl, rfl, s1, hh, hr, ha, q⟩
  have hvl : vs.length = acc.length := by rw [ha.len, List.length_map]
  unfold targetsL at q
  walk_at "rd"
  refine rd_is_word T hh hr ?_
  walk_at "rd"
  cases h4 : isWord q_or s' with
  | false =>
    rw [h4, if_neg (by decide)] at q
    walk_at "rd"
    have hf := hh.frz1
    have sf := hh.frz1S
    exact q (by show acc.length ≤ _; omega) _ _ _ _ (by walk_at "sm") hf (hr.mono sf) (frz_lst (hh.out (i := 1) rfl) ha)
  | true =>
    rw [h4, if_pos rfl] at q
    walk_at "rd"
    refine rd_step T hh hr fun F3 H3 o3 v3 s3 hh hr hv3 => ?_
    walk_at "rd"
    refine rd_take_kindN T hh hr (Rs.on.step (r := takeKind res (stepR s')) q (by walk_at "er") fun c q hc F4 H4 o4 v4 s4 hh hr hv4 => ?_)
    walk_at "rd"
    refine gi_list ?_
    walk_at "rd"
    have ha4 := ha.mono (s3.trans s4)
    refine o_lcL (f := D.t) (i := 1) hh rfl ha4 (by omega) (fun k => some k.t) (fun y w F' H' c' P N hy hw sF hh' hP hN => ?_) fun F5 H5 u s5 hh hu => ?_
    · walk_at "rd"
      refine ⟨rfl, ?_⟩
      walk_at "rd"
      exact hP F' H' _ y.t (Same.refl _) hh' rfl At.of
    rw [List.filterMap_eq_map'] at hu
    refine s_inL hu hh.sub ?_
    walk_at "rd"
    have hp := Nat.lt_of_le_of_lt hc.p (show 100000 < 1000000000 by decide)
    cases h5 : (acc.map (·.t)).contains c.1.t with
    | true =>
      rw [h5, if_pos rfl] at q
      walk_at "rd"
      exact Er.raise (Er.mono q (by walk_at "sm")).up hh.drop rfl hp (by decide)
    | false =>
      rw [h5, if_neg (by decide)] at q
      walk_at "rd"
      refine o_tyL (i := 1) hh rfl ?_
      walk_at "rd"
      refine o_app1 hh (by omega) fun H6 hh => ?_
      exact ⟨acc ++ [c.1], c.2, F5, o4, _, _, _, by rw [List.length_append]; show acc.length + 1 + m ≤ _; omega, rfl, by walk_at "sm", hh, hr.mono s5, AtA.snocM (e := dTk) (ha4.mono s5) (hv4.mono s5), q⟩
end
end Lw

-- rd
namespace Lw
open PySem PySem.Spec PyProof.Rows L2 G
def ruleL : List (List Nat) → List Tk → List Nat × List Tk
  | [], s => (q_clears, s)
  | w :: ws, s => if isWord w s = true then ((nowT s).t, stepR s) else ruleL ws s
abbrev tks (l : List Tk) : List (List Nat) := l.map fun k => k.t
def sortBody (res : List (List Nat)) (w : List Nat) (s : List Tk) : Rs ((So × List Tk) × List Tk) :=
  if w = q_int then (readInt s).bind fun x => .ok ((x.1, []), x.2) else if w = q_text then (readTextSort s).bind fun x => .ok ((x.1, []), x.2) else if w = q_one then (readChoices s).bind fun x => .ok ((x.1, []), x.2) else
    (readTargets res s).bind fun x => if w = q_list then .ok ((.list (tks x.1), x.1), x.2) else .ok ((.ref (tks x.1) (ruleL [q_clears, q_refuses, q_takes] x.2).1, x.1), (ruleL [q_clears, q_refuses, q_takes] x.2).2)
def sortL (res : List (List Nat)) : List (List Nat) → List Tk → Rs ((So × List Tk) × List Tk)
  | [], s => .bad (nowT s).p q_expected_a_sort
  | w :: ws, s => if isWord w s = true then (takeT s).bind fun b => sortBody res w b.2 else sortL res ws s
def readSort (res : List (List Nat)) (s : List Tk) : Rs ((So × List Tk) × List Tk) := sortL res [q_int, q_text, q_one, q_ref, q_list] s
abbrev dTks (l : List Tk) : D := .lst (l.map dTk)
abbrev dSoT (x : So × List Tk) : D := .tup [dSo x.1, dTks x.2]
section
variable {K : PySem.W.Frag} {F F0 H H' : Hp} {Q : VK} {E : XK} {mg : Str → Option Value} {M : List (Addr × HO)} {r : Addr} {o : HO} {res : List (List Nat)} {s : List Tk} {z : List Nat}
theorem rd_read_sort (T : Tx K mg) (hh : HH F H ((r, o) :: M)) (hr : Rdr K F o res s) (q : (readSort res s).on (OkR K F M r res dSoT Q) (Er K E F M)) : sp_read_sort K [.ref r] H Q E := by
  refine ⟨rfl, ?_⟩
  unfold t_read_sort
  unfold readSort at q
  walk_at "rd"
  refine gi_tup ?_
  walk_at "rd"
  refine s_tup (K := K) (ds := [q_int, q_text, q_one, q_ref, q_list].map D.t) hh (AtA.ofFlat (g := svv)) (by show 5 ≤ 1000; decide) fun F1 H1 u s1 hh hu => ?_
  replace hr := hr.mono s1
  refine a_forT hu hh (fun rest σ H' => ∃ (v1 v2 v3 v4 v5 v6 : Option V), σ = [some (.ref r), v1, v2, v3, v4, v5, v6] ∧ HH F1 H' ((r, o) :: M) ∧ (sortL res rest s).on (OkR K F M r res dSoT Q) (Er K E F M))
    (fun _ σ H' ⟨_, _, _, _, _, _, _, hh, _⟩ => hh.sub) ⟨none, none, none, none, none, none, rfl, hh, q⟩ ?_ ?_
  · clear hh q
    rintro w rest wv σ H' ew ⟨v1, v2, v3, v4, v5, v6, rfl, hh, q⟩
    rw [At.v_.mp ew]
    unfold sortL at q
    walk_at "rd"
    refine rd_is_word T hh hr ?_
    walk_at "rd"
    cases hw : isWord w s with
    | false =>
      rw [hw, if_neg (by decide)] at q
      walk_at "rd"
      exact ⟨_, _, _, _, _, _, rfl, hh, q⟩
    | true =>
      rw [hw, if_pos rfl] at q
      change (sortBody res w (stepR s)).on _ _ at q
      unfold sortBody at q
      walk_at "rd"
      refine rd_step T hh hr fun F2 H2 o2 v2 s2 hh hr _ => ?_
      walk_at "rd"
      by_cases h1 : w = q_int
      · rw [if_pos h1] at q
        rw [decide_eq_true h1]
        walk_at "rd"
        refine rd_read_int T hh hr (q.step (by walk_at "er") fun x q F3 H3 o3 v3 s3 hh hr hv => ?_)
        walk_at "rd"
        refine s_lst (K := K) (ds := []) hh AtA.nil (by decide) fun F4 H4 u4 s4 hh hu4 => ?_
        walk_at "rd"
        exact s_tup (K := K) (ds := [dSo x.1, dTks []]) hh (AtA.cons (hv.mono s4) (AtA.cons hu4 AtA.nil)) (by show 2 ≤ 1000; decide) fun F5 H5 u5 s5 hh hu5 => q _ _ _ _ (by walk_at "sm") hh (hr.mono (s4.trans s5)) hu5
      rw [if_neg h1] at q
      rw [decide_eq_false h1]
      walk_at "rd"
      by_cases h2 : w = q_text
      · rw [if_pos h2] at q
        rw [decide_eq_true h2]
        walk_at "rd"
        refine rd_read_text_sort T hh hr (q.step (by walk_at "er") fun x q F3 H3 o3 v3 s3 hh hr hv => ?_)
        walk_at "rd"
        refine s_lst (K := K) (ds := []) hh AtA.nil (by decide) fun F4 H4 u4 s4 hh hu4 => ?_
        walk_at "rd"
        exact s_tup (K := K) (ds := [dSo x.1, dTks []]) hh (AtA.cons (hv.mono s4) (AtA.cons hu4 AtA.nil)) (by show 2 ≤ 1000; decide) fun F5 H5 u5 s5 hh hu5 => q _ _ _ _ (by walk_at "sm") hh (hr.mono (s4.trans s5)) hu5
      rw [if_neg h2] at q
      rw [decide_eq_false h2]
      walk_at "rd"
      by_cases h3 : w = q_one
      · rw [if_pos h3] at q
        rw [decide_eq_true h3]
        walk_at "rd"
        refine rd_read_choices T hh hr (q.step (by walk_at "er") fun x q F3 H3 o3 v3 s3 hh hr hv => ?_)
        walk_at "rd"
        refine s_lst (K := K) (ds := []) hh AtA.nil (by decide) fun F4 H4 u4 s4 hh hu4 => ?_
        walk_at "rd"
        exact s_tup (K := K) (ds := [dSo x.1, dTks []]) hh (AtA.cons (hv.mono s4) (AtA.cons hu4 AtA.nil)) (by show 2 ≤ 1000; decide) fun F5 H5 u5 s5 hh hu5 => q _ _ _ _ (by walk_at "sm") hh (hr.mono (s4.trans s5)) hu5
      rw [if_neg h3] at q
      rw [decide_eq_false h3]
      walk_at "rd"
      refine rd_read_targets T hh hr (q.step (by walk_at "er") fun x q hl F3 H3 o3 v3 s3 hh hr hv => ?_)
      walk_at "rd"
      refine gi_list ?_
      walk_at "rd"
      refine a_lcL (e := dTk) (f := D.t) hv hh (by rw [sl16]; omega) (fun k => some k.t) (fun y w' F' H' c' P N hy hw' sF hh' hP hN => ?_) fun F5 H5 u5 s5 hh hu5 => ?_
      · walk_at "rd"
        refine ⟨rfl, ?_⟩
        walk_at "rd"
        exact hP F' H' _ y.t (Same.refl _) hh' rfl At.of
      rw [List.filterMap_eq_map'] at hu5
      walk_at "rd"
      by_cases h4 : w = q_list
      · rw [if_pos h4] at q
        rw [decide_eq_true h4]
        walk_at "rd"
        refine mk_ListSort T hh hu5 fun F6 H6 u6 s6 hh hu6 => ?_
        walk_at "rd"
        exact s_tup (K := K) (ds := [dSo (.list (tks x.1)), dTks x.1]) hh (AtA.cons hu6 (AtA.cons (hv.mono (s5.trans s6)) AtA.nil)) (by show 2 ≤ 1000; decide) fun F7 H7 u7 s7 hh hu7 => q _ _ _ _ (by walk_at "sm") hh (hr.mono (s5.trans (s6.trans s7))) hu7
      rw [if_neg h4] at q
      rw [decide_eq_false h4]
      walk_at "rd"
      obtain ⟨RR, hRR⟩ : ∃ RR, ruleL [q_clears, q_refuses, q_takes] x.2 = RR := ⟨_, rfl⟩
      rw [hRR] at q
      refine gi_tup ?_
      walk_at "rd"
      refine s_tup (K := K) (ds := [q_clears, q_refuses, q_takes].map D.t) hh (AtA.ofFlat (g := svv)) (by show 3 ≤ 1000; decide) fun F6 H6 u6 s6 hh hu6 => ?_
      have hv6 := hv.mono (s5.trans s6)
      replace hu5 := hu5.mono s6
      replace hr := hr.mono (s5.trans s6)
      refine a_forT hu6 hh (fun rest σ H' => ∃ (rule : List Nat) (o7 : HO) (F7 : Hp) (v4 v6 : Option V), σ = [some (.ref r), some (svv w), some v3, some u5, v4, some (svv rule), v6] ∧ Same F6 F7 ∧ HH F7 H' ((r, o7) :: M) ∧ Rdr K F7 o7 res x.2 ∧ rule = q_clears ∧
          ruleL rest x.2 = RR)
        (fun _ σ H' ⟨_, _, _, _, _, _, s7, hh, _⟩ => s7.trans hh.sub) ⟨q_clears, _, _, _, _, rfl, Same.refl _, hh, hr, rfl, hRR⟩ ?_ ?_
      · clear hh
        rintro w2 rest2 wv2 σ H' ew2 ⟨rule, o7, F7, v4', v6', rfl, s7, hh, hr, rfl, hq⟩
        rw [At.v_.mp ew2]
        rw [ruleL] at hq
        walk_at "rd"
        refine rd_is_word T hh hr ?_
        walk_at "rd"
        cases hw2 : isWord w2 x.2 with
        | false =>
          rw [hw2, if_neg (by decide)] at hq
          walk_at "rd"
          exact ⟨_, _, _, _, _, rfl, s7, hh, hr, rfl, hq⟩
        | true =>
          rw [hw2, if_pos rfl] at hq
          rw [← hq] at q
          walk_at "rd"
          refine rd_step T hh hr fun F8 H8 o8 v8 s8 hh hr _ => ?_
          walk_at "rd"
          refine mk_RefSort T hh (hu5.mono (s7.trans s8)) At.of fun F9 H9 u9 s9 hh hu9 => ?_
          walk_at "rd"
          exact s_tup (K := K) (ds := [dSo (.ref (tks x.1) (nowT x.2).t), dTks x.1]) hh (AtA.cons hu9 (AtA.cons (hv6.mono (s7.trans (s8.trans s9))) AtA.nil)) (by show 2 ≤ 1000; decide) fun F10 H10 u10 s10 hh hu10 => q _ _ _ _ (by walk_at "sm") hh (hr.mono (s9.trans s10)) hu10
      · rintro σ H' ⟨rule, o7, F7, v4', v6', rfl, s7, hh, hr, rfl, hq⟩
        rw [ruleL] at hq
        rw [← hq] at q
        walk_at "rd"
        refine mk_RefSort T hh (hu5.mono s7) At.of fun F9 H9 u9 s9 hh hu9 => ?_
        walk_at "rd"
        exact s_tup (K := K) (ds := [dSo (.ref (tks x.1) q_clears), dTks x.1]) hh (AtA.cons hu9 (AtA.cons (hv6.mono (s7.trans s9)) AtA.nil)) (by show 2 ≤ 1000; decide) fun F10 H10 u10 s10 hh hu10 => q _ _ _ _ (by walk_at "sm") hh (hr.mono (s9.trans s10)) hu10
  · rintro σ H' ⟨v1, v2, v3, v4, v5, v6, rfl, hh, q⟩
    walk_at "rd"
    exact Er.raise (Er.mono q (by walk_at "sm")) hh.drop rfl (Nat.lt_of_le_of_lt hr.now.p (by decide)) (by decide)
end
end Lw

-- rd
namespace Lw
open PySem PySem.Spec PyProof.Rows L2 G
/-- a field as it was read: itself, its token, the tokens of the kinds that it names -/
structure Fd where
  name : List Nat
  sort : So
  need : Bool
  tok : Tk
  tgs : List Tk
abbrev dFl (f : Fd) : D := o_Field (.t f.name) (dSo f.sort) (.b f.need)
abbrev dFd (f : Fd) : D := .tup [dFl f, dTk f.tok, dTks f.tgs]
def So.isList : So → Bool
  | .list _ => true
  | _ => false
def fieldEnd (a : Tk) (c : So × List Tk) (need : Bool) (s : List Tk) : Rs (Fd × List Tk) := (takeSign q_x3b s).bind fun g => .ok (⟨a.t, c.1, need, a, c.2⟩, g.2)
def readField (res : List (List Nat)) (s : List Tk) : Rs (Fd × List Tk) := (takeField res s).bind fun a => (takeSign q_x3a a.2).bind fun b => (readSort res b.2).bind fun c =>
  if isWord q_not c.2 = true then (takeT c.2).bind fun d => (takeWord q_null d.2).bind fun e => if c.1.1.isList = true then .bad (nowT c.2).p q_list_not_null else fieldEnd a.1 c.1 true e.2
  else fieldEnd a.1 c.1 false c.2
def keyL (res : List (List Nat)) : Nat → List Tk → List Tk → Rs (List Tk × List Tk)
  | 0, _, _ => .stuck
  | m + 1, acc, s => if isSign q_x2c s = true then (takeT s).bind fun b => (takeField res b.2).bind fun a => keyL res m (acc ++ [a.1]) a.2 else (takeSign q_x3b s).bind fun b => .ok (acc, b.2)
def readKey (res : List (List Nat)) (s : List Tk) : Rs (List Tk × List Tk) := (takeField res s).bind fun a => keyL res (s.length + 1) [a.1] a.2
structure Kp where
  tok : Tk
  fields : List Fd
  keys : List (List Tk)
abbrev dKp (k : Kp) : D := .obj "KindPlace" [("token", dTk k.tok), ("fields", .lst (k.fields.map dFd)), ("keys_read", .lst (k.keys.map dTks))]
def kindL (res : List (List Nat)) : Nat → Tk → List Fd → List (List Tk) → List Tk → Rs (Kp × List Tk)
  | 0, _, _, _, _ => .stuck
  | m + 1, tok, fs, ks, s => if isSign q_x7d s = true then (takeT s).bind fun b => .ok (⟨tok, fs, ks⟩, b.2) else
    if isWord q_key s = true then (takeT s).bind fun b => (readKey res b.2).bind fun c => kindL res m tok fs (ks ++ [c.1]) c.2 else (readField res s).bind fun c => kindL res m tok (fs ++ [c.1]) ks c.2
def readKind (res : List (List Nat)) (s : List Tk) : Rs (Kp × List Tk) := (takeWord q_kind s).bind fun a => (takeKind res a.2).bind fun b => (takeSign q_x7b b.2).bind fun c => kindL res (s.length + 1) b.1 [] [] c.2
section
variable {K : PySem.W.Frag} {F F0 H H' : Hp} {Q : VK} {E : XK} {mg : Str → Option Value} {M : List (Addr × HO)} {r : Addr} {o : HO} {res : List (List Nat)} {s : List Tk} {z : List Nat} {x : V}
theorem rd_is_list (T : Tx K mg) {c : So} (hc : At K F (dSo c) x) (s : Same F H) (q : Q (.bl c.isList) H) : sp_is_list K [x] H Q E := by
  refine ⟨rfl, ?_⟩
  unfold t_is_list
  walk_at "rd"
  cases c with
  | int a b => exact s_isi hc s T.cl_IntSort T.if_IntSort T.is_IntSort_ListSort q
  | text a b => exact s_isi hc s T.cl_TextSort T.if_TextSort T.is_TextSort_ListSort q
  | choice a => exact s_isi hc s T.cl_ChoiceSort T.if_ChoiceSort T.is_ChoiceSort_ListSort q
  | ref a b => exact s_isi hc s T.cl_RefSort T.if_RefSort T.is_RefSort_ListSort q
  | list a => exact s_isi hc s T.cl_ListSort T.if_ListSort T.is_ListSort_ListSort q
theorem rd_read_field (T : Tx K mg) (hh : HH F H ((r, o) :: M)) (hr : Rdr K F o res s) (q : (readField res s).on (OkR K F M r res dFd Q) (Er K E F M)) : sp_read_field K [.ref r] H Q E := by
  refine ⟨rfl, ?_⟩
  unfold t_read_field
  unfold readField at q
  walk_at "rd"
  refine rd_take_field T hh hr (q.step (by walk_at "er") fun a q F1 H1 o1 v1 s1 hh hr hv1 => ?_)
  walk_at "rd"
  refine rd_take_sign T hh hr (by decide) (q.step (by walk_at "er") fun b q F2 H2 o2 v2 s2 hh hr _ => ?_)
  walk_at "rd"
  refine rd_read_sort T hh hr (q.step (by walk_at "er") fun c q F3 H3 o3 v3 s3 hh hr hv3 => ?_)
  walk_at "rd"
  refine s_gtup hv3 (by walk_at "sm") rfl fun us hus => ?_
  unfold AtA at hus
  obtain ⟨u1, us, rfl, hu1, hus⟩ := hus
  unfold AtA at hus
  obtain ⟨u2, us, rfl, hu2, hus⟩ := hus
  unfold AtA at hus
  subst hus
  walk_at "rd"
  refine g_thr ?_
  walk_at "rd"
  refine rd_is_word T hh hr ?_
  walk_at "rd"
  cases hw : isWord q_not c.2 with
  | false =>
    rw [hw, if_neg (by decide)] at q
    walk_at "rd"
    refine rd_take_sign T hh hr (by decide) (q.step (by walk_at "er") fun g q F4 H4 o4 v4 s4 hh hr _ => ?_)
    walk_at "rd"
    refine mk_Field T hh At.of (hu1.mono s4) At.of fun F5 H5 u5 s5 hh hu5 => ?_
    walk_at "rd"
    exact s_tup (K := K) (ds := [dFl ⟨a.1.t, c.1.1, false, a.1, c.1.2⟩, dTk a.1, dTks c.1.2]) hh (AtA.cons hu5 (AtA.cons (hv1.mono (by walk_at "sm")) (AtA.cons (hu2.mono (by walk_at "sm")) AtA.nil))) (by show 3 ≤ 1000; decide)
      fun F6 H6 u6 s6 hh hu6 => q _ _ _ _ (by walk_at "sm") hh (hr.mono (s5.trans s6)) hu6
  | true =>
    rw [hw, if_pos rfl] at q
    have hp := Nat.lt_of_le_of_lt hr.now.p (show 100000 < 1000000000 by decide)
    walk_at "rd"
    refine rd_step T hh hr fun F4 H4 o4 v4 s4 hh hr hv4 => ?_
    walk_at "rd"
    refine rd_take_word T hh hr (by decide) (Rs.on.step (r := takeWord q_null (stepR c.2)) q (by walk_at "er") fun e q F5 H5 o5 v5 s5 hh hr _ => ?_)
    walk_at "rd"
    refine rd_is_list T hu1 (by walk_at "sm") ?_
    walk_at "rd"
    cases hl : c.1.1.isList with
    | true =>
      rw [hl, if_pos rfl] at q
      walk_at "rd"
      exact Er.raise (Er.mono q (by walk_at "sm")) hh.drop rfl hp (by decide)
    | false =>
      rw [hl, if_neg (by decide)] at q
      walk_at "rd"
      refine rd_take_sign T hh hr (by decide) (q.step (by walk_at "er") fun g q F6 H6 o6 v6 s6 hh hr _ => ?_)
      walk_at "rd"
      refine mk_Field T hh At.of (hu1.mono (by walk_at "sm")) At.of fun F7 H7 u7 s7 hh hu7 => ?_
      walk_at "rd"
      exact s_tup (K := K) (ds := [dFl ⟨a.1.t, c.1.1, true, a.1, c.1.2⟩, dTk a.1, dTks c.1.2]) hh (AtA.cons hu7 (AtA.cons (hv1.mono (by walk_at "sm")) (AtA.cons (hu2.mono (by walk_at "sm")) AtA.nil))) (by show 3 ≤ 1000; decide)
        fun F8 H8 u8 s8 hh hu8 => q _ _ _ _ (by walk_at "sm") hh (hr.mono (s7.trans s8)) hu8
theorem rd_read_key (T : Tx K mg) (hh : HH F H ((r, o) :: M)) (hr : Rdr K F o res s) (q : (readKey res s).on (OkR K F M r res dTks Q) (Er K E F M)) : sp_read_key K [.ref r] H Q E := by
  refine ⟨rfl, ?_⟩
  have hs := hr.len
  unfold t_read_key
  unfold readKey at q
  walk_at "rd"
  refine rd_take_field T hh hr (q.step (by walk_at "er") fun a q F1 H1 o1 v1 s1 hh hr hv => ?_)
  walk_at "rd"
  refine o_lst1 hh (by show 1 ≤ 1000; decide) fun H2 l hh => ?_
  walk_at "rd"
  refine a_while (m := s.length + 1) (fun m σ H' => ∃ (acc : List Tk) (s' : List Tk) (F' : Hp) (o' : HO) (vs : List V), acc.length + m ≤ s.length + 2 ∧ σ = [some (.ref r), some (.ref l)] ∧ Same F F' ∧ HH F' H' ((r, o') :: (l, .lst vs) :: M) ∧ Rdr K F' o' res s' ∧ AtA K F' (acc.map dTk) vs ∧
    (keyL res m acc s').on (OkR K F M r res dTks Q) (Er K E F M)) ⟨[a.1], a.2, F1, o1, [v1], by show 1 + _ ≤ _; omega, rfl, s1, hh, hr, AtA.cons hv AtA.nil, q⟩ (fun σ H ⟨_, _, _, _, _, _, _, _, _, _, _, z⟩ => z) ?_
  clear hh hr hv q s1
  rintro m σ H' ⟨acc, s', F', o', vs, hl, rfl, s1, hh, hr, ha, q⟩
  have hvl : vs.length = acc.length := by rw [ha.len, List.length_map]
  unfold keyL at q
  walk_at "rd"
  refine rd_is_sign T hh hr ?_
  walk_at "rd"
  cases h4 : isSign q_x2c s' with
  | false =>
    rw [h4, if_neg (by decide)] at q
    walk_at "rd"
    refine rd_take_sign T hh hr (by decide) (q.step (by walk_at "er") fun g q F4 H4 o4 v4 s4 hh hr _ => ?_)
    walk_at "rd"
    have sf := hh.frz1S
    exact q _ _ _ _ (by walk_at "sm") hh.frz1 (hr.mono sf) (frz_lst (hh.out (i := 1) rfl) (ha.mono s4))
  | true =>
    rw [h4, if_pos rfl] at q
    walk_at "rd"
    refine rd_step T hh hr fun F3 H3 o3 v3 s3 hh hr hv3 => ?_
    walk_at "rd"
    refine o_tyL (i := 1) hh rfl ?_
    walk_at "rd"
    refine rd_take_field T hh hr (Rs.on.step (r := takeField res (stepR s')) q (by walk_at "er") fun c q F4 H4 o4 v4 s4 hh hr hv4 => ?_)
    walk_at "rd"
    refine o_app1 hh (by omega) fun H6 hh => ?_
    exact ⟨acc ++ [c.1], c.2, F4, o4, _, by rw [List.length_append]; show acc.length + 1 + m ≤ _; omega, rfl, by walk_at "sm", hh, hr, AtA.snocM (e := dTk) (ha.mono (s3.trans s4)) hv4, q⟩
end
end Lw

-- rd
namespace Lw
open PySem PySem.Spec PyProof.Rows L2 G
section
variable {K : PySem.W.Frag} {F F0 H H' : Hp} {Q : VK} {E : XK} {mg : Str → Option Value} {M : List (Addr × HO)} {r : Addr} {o : HO} {res : List (List Nat)} {s : List Tk} {z : List Nat} {x : V}
theorem fk_token (T : Tx K mg) {k : Kp} (h : At K F0 (dKp k) x) (s : Same F0 H) (q : ∀ w, At K F0 (dTk k.tok) w → Q w H) : FldK K "token" x H Q := s_fld h s T.cl_KindPlace T.no_KindPlace_token (lk1 rfl) q
theorem fk_fields (T : Tx K mg) {k : Kp} (h : At K F0 (dKp k) x) (s : Same F0 H) (q : ∀ w, At K F0 (.lst (k.fields.map dFd)) w → Q w H) : FldK K "fields" x H Q := s_fld h s T.cl_KindPlace T.no_KindPlace_fields (lk2 (by decide +kernel) (lk1 rfl)) q
theorem fk_keys (T : Tx K mg) {k : Kp} (h : At K F0 (dKp k) x) (s : Same F0 H) (q : ∀ w, At K F0 (.lst (k.keys.map dTks)) w → Q w H) : FldK K "keys_read" x H Q := s_fld h s T.cl_KindPlace T.no_KindPlace_keys_read (lk2 (by decide +kernel) (lk2 (by decide +kernel) (lk1 rfl))) q
/-- KindPlace(token) behind a reader -/
theorem mk_KindPlace (T : Tx K mg) {tv : V} (hh : HH F H ((r, o) :: M)) (q : ∀ F' H' y dx lf lk, Same F F' → HH F' H' ((r, o) :: (lf, .lst []) :: (lk, .lst []) :: M) → F' y = some (.ins (He.ga K "KindPlace") dx [("token", tv), ("fields", .ref lf), ("keys_read", .ref lk)]) → Q (.ref y) H') :
    MakeK (He.ga K "KindPlace") (sp_KindPlace_init K) [tv] Q H E := by
  refine mk_start hh fun F1 H1 y dx s1 hh => ?_
  refine ⟨rfl, ?_⟩
  unfold t_KindPlace_init
  walk_at "go"
  refine s_sfld hh T.cl_KindPlace T.no_KindPlace_token [] rfl (by decide +kernel) (Nat.le_of_ble_eq_true rfl) fun H2 hh => ?_
  walk_at "go"
  refine o_lst1 hh (by decide) fun H3 lf hh => ?_
  walk_at "go"
  refine s_sfld hh T.cl_KindPlace T.no_KindPlace_fields ["token"] rfl (by decide +kernel) (Nat.le_of_ble_eq_true rfl) fun H4 hh => ?_
  walk_at "go"
  refine o_lst1 hh (by decide) fun H5 lk hh => ?_
  walk_at "go"
  refine s_sfld hh T.cl_KindPlace T.no_KindPlace_keys_read ["token", "fields"] rfl (by decide +kernel) (Nat.le_of_ble_eq_true rfl) fun H6 hh => ?_
  have p : List.Perm ((lk, HO.lst []) :: (lf, HO.lst []) :: (r, o) :: M) ((r, o) :: (lf, .lst []) :: (lk, .lst []) :: M) := by
    refine (List.Perm.cons _ (List.Perm.swap _ _ _)).trans ?_
    refine (List.Perm.swap _ _ _).trans (List.Perm.cons _ (List.Perm.swap _ _ _))
  exact ⟨rfl, q _ _ y dx lf lk (s1.trans hh.frzS) (hh.frz.perm p) upd_same⟩
theorem rd_read_kind (T : Tx K mg) (hh : HH F H ((r, o) :: M)) (hr : Rdr K F o res s) (q : (readKind res s).on (OkR K F M r res dKp Q) (Er K E F M)) : sp_read_kind K [.ref r] H Q E := by
  refine ⟨rfl, ?_⟩
  have hs := hr.len
  unfold t_read_kind
  unfold readKind at q
  walk_at "rd"
  refine rd_take_word T hh hr (by decide) (q.step (by walk_at "er") fun a q F1 H1 o1 v1 s1 hh hr hv => ?_)
  walk_at "rd"
  refine rd_take_kind T hh hr (q.step (by walk_at "er") fun b q F2 H2 o2 v2 s2 hh hr hv2 => ?_)
  walk_at "rd"
  refine mk_KindPlace T hh fun F3 H3 y dx lf lk s3 hh hy => ?_
  replace hr := hr.mono s3
  walk_at "rd"
  refine rd_take_sign T hh hr (by decide) (q.step (by walk_at "er") fun c q F4 H4 o4 v4 s4 hh hr _ => ?_)
  have lkt : ∀ {R : VK} {H' F' : Hp}, Same F3 F' → Same F' H' → R (.ref lf) H' → FldK K "fields" (.ref y) H' R := fun s s' q => v_fld (s' _ _ (s _ _ hy)) T.cl_KindPlace T.no_KindPlace_fields (lk2 (by decide +kernel) (lk1 rfl)) q
  have lkk : ∀ {R : VK} {H' F' : Hp}, Same F3 F' → Same F' H' → R (.ref lk) H' → FldK K "keys_read" (.ref y) H' R := fun s s' q => v_fld (s' _ _ (s _ _ hy)) T.cl_KindPlace T.no_KindPlace_keys_read (lk2 (by decide +kernel) (lk2 (by decide +kernel) (lk1 rfl))) q
  walk_at "rd"
  refine a_while (m := s.length + 1) (fun m σ H' => ∃ (fs : List Fd) (ks : List (List Tk)) (s' : List Tk) (F' : Hp) (o' : HO) (vs ws : List V), fs.length + ks.length + m ≤ s.length + 2 ∧ σ = [some (.ref r), some (.ref y)] ∧ Same F3 F' ∧ HH F' H' ((r, o') :: (lf, .lst vs) :: (lk, .lst ws) :: M) ∧ Rdr K F' o' res s' ∧ AtA K F' (fs.map dFd) vs ∧ AtA K F' (ks.map dTks) ws ∧
    (kindL res m b.1 fs ks s').on (OkR K F M r res dKp Q) (Er K E F M)) ⟨[], [], c.2, F4, o4, [], [], by show 0 + 0 + _ ≤ _; omega, rfl, s4, hh, hr, AtA.nil, AtA.nil, q⟩ (fun σ H ⟨_, _, _, _, _, _, _, _, _, _, _, _, _, _, z⟩ => z) ?_
  clear hh hr q s4
  rintro m σ H' ⟨fs, ks, s', F', o', vs, ws, hl, rfl, s4, hh, hr, ha, hb, q⟩
  have hvl : vs.length = fs.length := by rw [ha.len, List.length_map]
  have hwl : ws.length = ks.length := by rw [hb.len, List.length_map]
  unfold kindL at q
  walk_at "rd"
  refine rd_is_sign T hh hr ?_
  walk_at "rd"
  cases h4 : isSign q_x7d s' with
  | true =>
    rw [h4, if_pos rfl] at q
    walk_at "rd"
    refine rd_step T hh hr fun F5 H5 o5 v5 s5 hh hr _ => ?_
    walk_at "rd"
    have z1 := hh.frz1S
    have z2 := hh.frz1.frz1S
    have z := z1.trans z2
    refine q _ _ _ _ (by walk_at "sm") hh.frz1.frz1 (hr.mono z) (At.mkO ((s4.trans (s5.trans z)) _ _ hy) ?_)
    exact AtF.cons (hv2.mono (by walk_at "sm")) (AtF.cons ((frz_lst (hh.out (i := 1) rfl) (ha.mono s5)).mono z2) (AtF.cons (frz_lst (hh.frz1.out (i := 1) rfl) (hb.mono (s5.trans z1))) AtF.nil))
  | false =>
    rw [h4, if_neg (by decide)] at q
    walk_at "rd"
    refine rd_is_word T hh hr ?_
    walk_at "rd"
    cases h5 : isWord q_key s' with
    | true =>
      rw [h5, if_pos rfl] at q
      walk_at "rd"
      refine rd_step T hh hr fun F5 H5 o5 v5 s5 hh hr _ => ?_
      walk_at "rd"
      refine lkk (s4.trans s5) hh.sub ?_
      refine o_tyL (i := 2) hh rfl ?_
      walk_at "rd"
      refine rd_read_key T hh hr (Rs.on.step (r := readKey res (stepR s')) q (by walk_at "er") fun c q F6 H6 o6 v6 s6 hh hr hv6 => ?_)
      walk_at "rd"
      refine o_app2 hh (by omega) fun H7 hh => ?_
      exact ⟨fs, ks ++ [c.1], c.2, F6, o6, _, _, by rw [List.length_append]; show fs.length + (ks.length + 1) + m ≤ _; omega, rfl, by walk_at "sm", hh, hr, ha.mono (s5.trans s6), AtA.snocM (e := dTks) (hb.mono (s5.trans s6)) hv6, q⟩
    | false =>
      rw [h5, if_neg (by decide)] at q
      walk_at "rd"
      refine lkt s4 hh.sub ?_
      refine o_tyL (i := 1) hh rfl ?_
      walk_at "rd"
      refine rd_read_field T hh hr (q.step (by walk_at "er") fun c q F6 H6 o6 v6 s6 hh hr hv6 => ?_)
      walk_at "rd"
      refine o_app1 hh (by omega) fun H7 hh => ?_
      exact ⟨fs ++ [c.1], ks, c.2, F6, o6, _, _, by rw [List.length_append]; show fs.length + 1 + ks.length + m ≤ _; omega, rfl, by walk_at "sm", hh, hr, AtA.snocM (e := dFd) (ha.mono s6) hv6, hb.mono s6, q⟩
end
end Lw

-- rd
namespace Lw
open PySem PySem.Spec PyProof.Rows L2 G
/-! ### the checks -/
def findFd (fs : List Fd) (t : List Nat) : Option Fd := fs.foldl (fun acc f => if f.name = t then some f else acc) none
def checkKeyL (fs : List Fd) : List Tk → List (List Nat) → Rs (List (List Nat))
  | [], seen => .ok seen
  | t :: ts, seen => match findFd fs t.t with
    | none => .badT t.p q_no_such_field
    | some f => if f.sort.isList = true then .badT t.p q_list_in_a_key else if seen.contains t.t = true then .badT t.p q_field_twice else checkKeyL fs ts (seen ++ [t.t])
def tgtL (names : List (List Nat)) : List Tk → Rs Unit
  | [] => .ok ()
  | t :: ts => if names.contains t.t = true then tgtL names ts else .badT t.p q_no_such_kind
def usedL (used : List (List Nat)) : List Tk → Rs Unit
  | [] => .ok ()
  | t :: ts => if used.contains t.t = true then .badT t.p q_field_in_two_keys else usedL used ts
def fieldsL (names : List (List Nat)) : List Fd → List Fd → Rs (List Fd)
  | [], acc => .ok acc
  | f :: fs, acc => if (acc.map (·.name)).contains f.name = true then .badT f.tok.p q_field_twice else if acc.length = 8 then .badT f.tok.p q_too_many_fields else
    (tgtL names f.tgs).bind fun _ => fieldsL names fs (acc ++ [f])
def keysL (fs : List Fd) : List (List Tk) → List (List Nat) → List (List (List Nat)) → Rs (List (List (List Nat)))
  | [], _, keys => .ok keys
  | row :: rows, used, keys => if keys.length = 3 then (match row with
      | t :: _ => .badT t.p q_too_many_keys
      | [] => .stuck)
    else if 100000 < used.length ∨ 100000 < row.length then .stuck else (checkKeyL fs row []).bind fun key => (usedL used row).bind fun _ => keysL fs rows (used ++ key) (keys ++ [key])
/-- a kind: its name, its fields, its keys -/
structure Kd where
  name : List Nat
  fields : List Fd
  keys : List (List (List Nat))
abbrev dKd (k : Kd) : D := .obj "Kind" [("name", .t k.name), ("fields", .lst (k.fields.map dFl)), ("key_rows", .lst (k.keys.map dTs))]
def checkKind (names : List (List Nat)) (k : Kp) : Rs Kd := (fieldsL names k.fields []).bind fun fs => (keysL fs k.keys [] []).bind fun ks => .ok ⟨k.tok.t, fs, ks⟩
def kindsL (names : List (List Nat)) : List Kp → List Kd → Rs (List Kd)
  | [], acc => .ok acc
  | k :: ks, acc => if (acc.map (·.name)).contains k.tok.t = true then .badT k.tok.p q_kind_twice else if acc.length = 8 then .badT k.tok.p q_too_many_kinds else
    (checkKind names k).bind fun d => kindsL names ks (acc ++ [d])
def checkKinds (row : List Kp) : Rs (List Kd) := if 100000 < row.length then .stuck else kindsL (row.map fun k => k.tok.t) row []
abbrev dSc (ks : List Kd) : D := o_Schema (.lst (ks.map dKd))
section
variable {K : PySem.W.Frag} {F F0 F1 F2 H H' : Hp} {Q : VK} {E : XK} {mg : Str → Option Value} {M : List (Addr × HO)} {x : V}
theorem rd_check_key (T : Tx K mg) (hh : HH F H M) {i : Nat} {l : Addr} {vs : List V} {fs : List Fd} {row : List Tk} {rv : V} (hm : M[i]? = some (l, .lst vs)) (hv : AtA K F (fs.map dFl) vs) (hrow : At K F0 (dTks row) rv) (s0 : Same F0 F) (hl : row.length ≤ 100000)
    (q : (checkKeyL fs row []).on (fun seen => seen.length ≤ row.length → ∀ F' H' v, Same F F' → HH F' H' M → At K F' (dTs seen) v → Q v H') (Er K E F M)) : sp_check_key K [.ref l, rv] H Q E := by
  refine ⟨rfl, ?_⟩
  unfold t_check_key
  walk_at "go"
  refine o_lst hh (by decide) fun H1 p hh => ?_
  walk_at "go"
  refine gi_list ?_
  walk_at "go"
  refine a_forL (hrow.mono s0) hh (fun rest σ H' => ∃ (seen : List (List Nat)) (us : List V) (v3 v4 v5 : Option V), seen.length + rest.length ≤ row.length ∧ σ = [some (.ref l), some rv, some (.ref p), v3, v4, v5] ∧ HH F H' ((p, .lst us) :: M) ∧ AtA K F (seen.map D.t) us ∧
      (checkKeyL fs rest seen).on (fun seen => seen.length ≤ row.length → ∀ F' H' v, Same F F' → HH F' H' M → At K F' (dTs seen) v → Q v H') (Er K E F M)) (fun _ σ H' ⟨_, _, _, _, _, _, _, hh, _⟩ => hh.sub)
    ⟨[], [], none, none, none, by show 0 + _ ≤ _; omega, rfl, hh, AtA.nil, q⟩ ?_ ?_
  · clear hh q
    rintro t rest tv σ H' ht ⟨seen, us, v3, v4, v5, hsl, rfl, hh, hus, q⟩
    rw [List.length_cons] at hsl
    have hul : us.length = seen.length := by rw [hus.len, List.length_map]
    unfold checkKeyL at q
    walk_at "go"
    refine gi_list ?_
    walk_at "go"
    refine o_forL (i := i + 1) hh hm hv (fun rest2 σ H'' => ∃ (f : Option Fd) (w v5 : Option V) (fv : V), σ = [some (.ref l), some rv, some (.ref p), some tv, some fv, v5] ∧ H'' = H' ∧ (match f with | none => fv = .non | some f => At K F (dFl f) fv) ∧
        rest2.foldl (fun acc f => if f.name = t.t then some f else acc) f = findFd fs t.t) (fun _ σ H'' ⟨_, _, _, _, _, e, _⟩ => by rw [e]; exact SqL.of (hh.get (i := i + 1) hm)) ⟨none, none, _, _, rfl, rfl, rfl, rfl⟩ ?_ ?_
    · rintro g rest2 gv σ H'' hg ⟨f, w, v5, fv, rfl, rfl, hf, he⟩
      rw [List.foldl_cons] at he
      walk_at "go"
      by_cases hn : g.name = t.t
      · rw [if_pos hn] at he
        rw [decide_eq_true hn]
        walk_at "go"
        exact ⟨some g, none, _, _, rfl, rfl, hg, he⟩
      · rw [if_neg hn] at he
        rw [decide_eq_false hn]
        walk_at "go"
        exact ⟨f, none, _, _, rfl, rfl, hf, he⟩
    · rintro σ H'' ⟨f, w, v5, fv, rfl, rfl, hf, he⟩
      rw [← show f = findFd fs t.t from he] at q
      cases f with
      | none =>
        subst hf
        walk_at "go"
        rw [decide_eq_true rfl]
        walk_at "go"
        exact Er.raiseT q (Same.refl _) hh.drop (by decide)
      | some f =>
        have nn : fv ≠ .non := fun z => by
          obtain ⟨a, _, _, e, _⟩ := (show At K F (dFl f) fv from hf).obj_
          rw [z] at e
          cases e
        change Rs.on (if f.sort.isList = true then _ else _) _ _ at q
        walk_at "go"
        rw [decide_eq_false nn]
        walk_at "go"
        refine rd_is_list (F := F) T (by assumption) hh.sub ?_
        walk_at "go"
        cases h1 : f.sort.isList with
        | true =>
          rw [h1, if_pos rfl] at q
          walk_at "go"
          exact Er.raiseT q (Same.refl _) hh.drop (by decide)
        | false =>
          rw [h1, if_neg (by decide)] at q
          walk_at "go"
          refine o_inL (i := 0) hh rfl hus ?_
          walk_at "go"
          cases h2 : seen.contains t.t with
          | true =>
            rw [h2, if_pos rfl] at q
            walk_at "go"
            exact Er.raiseT q (Same.refl _) hh.drop (by decide)
          | false =>
            rw [h2, if_neg (by decide)] at q
            walk_at "go"
            refine o_tyL (i := 0) hh rfl ?_
            walk_at "go"
            refine o_app0 hh (by omega) fun H7 hh => ?_
            exact ⟨seen ++ [t.t], _, _, _, _, by rw [List.length_append]; show seen.length + 1 + _ ≤ _; omega, rfl, hh, AtA.snocM (e := D.t) hus At.of, q⟩
  · rintro σ H' ⟨seen, us, v3, v4, v5, hsl, rfl, hh, hus, q⟩
    walk_at "go"
    exact q (by simpa using hsl) _ _ _ hh.frzS hh.frz (frz_lst (hh.out (i := 0) rfl) hus)
theorem mk_Kind (T : Tx K mg) {name : List Nat} {fs : List Fd} {ks : List (List (List Nat))} {fv kv : V} (hh : HH F H M) (hf : At K F (.lst (fs.map dFl)) fv) (hk : At K F (.lst (ks.map dTs)) kv) (hkl : ks.length ≤ 1000) (q : ∀ F' H' u, Same F F' → HH F' H' M → At K F' (dKd ⟨name, fs, ks⟩) u → Q u H') :
    MakeK (He.ga K "Kind") (sp_Kind_init K) [.str ⟨name.toArray⟩, fv, kv] Q H E := by
  refine mk_start hh fun F1 H1 y dx s1 hh => ?_
  refine ⟨rfl, ?_⟩
  unfold t_Kind_init
  walk_at "go"
  refine s_sfld hh T.cl_Kind T.no_Kind_name [] rfl (by decide +kernel) (Nat.le_of_ble_eq_true rfl) fun H2 hh => ?_
  walk_at "go"
  refine s_listL hf hh s1 fun F3 H3 u3 s3 hh hu3 => ?_
  walk_at "go"
  refine s_sfld hh T.cl_Kind T.no_Kind_fields ["name"] rfl (by decide +kernel) (Nat.le_of_ble_eq_true rfl) fun H4 hh => ?_
  walk_at "go"
  refine gi_list ?_
  walk_at "go"
  refine a_lcL (e := dTs) (f := dTs) (hk.mono (s1.trans s3)) hh (by rw [sl16]; omega) (fun k => some k) (fun y w F' H' c' P N hy hw sF hh' hP hN => ?_) fun F5 H5 u5 s5 hh hu5 => ?_
  · walk_at "go"
    refine ⟨rfl, ?_⟩
    walk_at "go"
    exact s_listL hw hh' (Same.refl _) fun F6 H6 u6 s6 hh6 hu6 => hP F6 H6 u6 y s6 hh6 rfl hu6
  rw [List.filterMap_some] at hu5
  walk_at "go"
  refine s_sfld hh T.cl_Kind T.no_Kind_key_rows ["name", "fields"] rfl (by decide +kernel) (Nat.le_of_ble_eq_true rfl) fun H6 hh => ?_
  exact ⟨rfl, mk_end hh (AtF.cons At.of (AtF.cons (hu3.mono s5) (AtF.cons hu5 AtF.nil))) fun F7 H7 u s7 hh7 ha => q F7 H7 u (s1.trans (s3.trans (s5.trans s7))) hh7 ha⟩
end
end Lw

-- rd
namespace Lw
open PySem PySem.Spec PyProof.Rows L2 G
theorem AtA.ci {K : PySem.W.Frag} {F : Hp} {d : D} {ds : List D} {us : List V} (h : AtA K F (d :: ds) us) : ∃ u us', us = u :: us' ∧ At K F d u ∧ AtA K F ds us' := by unfold AtA at h; exact h
theorem AtA.ni {K : PySem.W.Frag} {F : Hp} {us : List V} (h : AtA K F [] us) : us = [] := by unfold AtA at h; exact h
section
variable {K : PySem.W.Frag} {F F0 F1 F2 H H' : Hp} {Q : VK} {E : XK} {mg : Str → Option Value} {M : List (Addr × HO)} {x : V}
theorem rd_check_kind (T : Tx K mg) (hh : HH F H M) {k : Kp} {names : List (List Nat)} {fk nm : V} (hk : At K F (dKp k) fk) (hn : At K F (dTs names) nm) (q : (checkKind names k).on (fun d => ∀ F' H' v, Same F F' → HH F' H' M → At K F' (dKd d) v → Q v H') (Er K E F M)) : sp_check_kind K [fk, nm] H Q E := by
  refine ⟨rfl, ?_⟩
  unfold t_check_kind k_MOST_FIELDS k_MOST_KEYS
  unfold checkKind at q
  replace q := Rs.on_bind.mp q
  walk_at "go"
  refine o_lst hh (by decide) fun H1 lf hh => ?_
  walk_at "go"
  refine gi_list ?_
  walk_at "go"
  refine fk_fields T hk (by walk_at "sm") fun w hw => ?_
  refine a_forL (e := dFd) hw hh (fun rest σ H' => ∃ (acc : List Fd) (F' : Hp) (us : List V) (v3 v4 v5 v6 v7 v8 v9 v10 v11 : Option V), acc.length ≤ 8 ∧ σ = [some fk, some nm, some (.ref lf), v3, v4, v5, v6, v7, v8, v9, v10, v11] ∧ Same F F' ∧ HH F' H' ((lf, .lst us) :: M) ∧ AtA K F' (acc.map dFl) us ∧
      (fieldsL names rest acc).on (fun fs => ((keysL fs k.keys [] []).bind fun ks => Rs.ok (⟨k.tok.t, fs, ks⟩ : Kd)).on (fun d => ∀ F' H' v, Same F F' → HH F' H' M → At K F' (dKd d) v → Q v H') (Er K E F M)) (Er K E F M))
    (fun _ σ H' ⟨_, _, _, _, _, _, _, _, _, _, _, _, _, _, s, hh, _⟩ => s.trans hh.sub) ⟨[], F, [], none, none, none, none, none, none, none, none, none, by decide, rfl, Same.refl _, hh, AtA.nil, q⟩ ?_ ?_
  · clear hh q
    rintro f rest wv σ H' hf ⟨acc, F', us, v3, v4, v5, v6, v7, v8, v9, v10, v11, hl, rfl, s1, hh, hus, q⟩
    have hul : us.length = acc.length := by rw [hus.len, List.length_map]
    unfold fieldsL at q
    refine s_gtup hf (s1.trans hh.sub) rfl fun us3 h3 => ?_
    obtain ⟨u1, us3, rfl, hu1, h3⟩ := AtA.ci h3
    obtain ⟨u2, us3, rfl, hu2, h3⟩ := AtA.ci h3
    obtain ⟨u3, us3, rfl, hu3, h3⟩ := AtA.ci h3
    obtain rfl := AtA.ni h3
    walk_at "go"
    refine gi_list ?_
    walk_at "go"
    refine o_lcL (f := D.t) (i := 0) hh rfl hus (by omega) (fun k => some k.name) (fun y w F2 H2 c' P N hy hw sF hh' hP hN => ?_) fun F5 H5 u5 s5 hh hu5 => ?_
    · walk_at "go"
      refine ⟨rfl, ?_⟩
      walk_at "go"
      exact hP F2 H2 _ y.name (Same.refl _) hh' rfl At.of
    rw [List.filterMap_eq_map'] at hu5
    refine s_inL hu5 hh.sub ?_
    walk_at "go"
    cases h5 : (acc.map (·.name)).contains f.name with
    | true =>
      rw [h5, if_pos rfl] at q
      walk_at "go"
      exact Er.raiseT q (by walk_at "sm") hh.drop (by decide)
    | false =>
      rw [h5, if_neg (by decide)] at q
      walk_at "go"
      refine o_lenL (i := 0) hh rfl ?_
      walk_at "go"
      by_cases h6 : acc.length = 8
      · rw [if_pos h6] at q
        rw [decide_eq_true (by omega)]
        walk_at "go"
        exact Er.raiseT q (by walk_at "sm") hh.drop (by decide)
      rw [if_neg h6] at q
      rw [decide_eq_false (by omega)]
      replace q := Rs.on_bind.mp q
      walk_at "go"
      refine gi_list ?_
      walk_at "go"
      refine a_forL (e := dTk) (hu3.mono (by walk_at "sm")) hh (fun rest2 σ H' => ∃ (v4 v6 v7 v8 v9 v10 v11 : Option V), σ = [some fk, some nm, some (.ref lf), some u1, some u2, some u3, v6, v7, v8, v9, v10, v11] ∧ HH F5 H' ((lf, .lst us) :: M) ∧
          (tgtL names rest2).on (fun _ => (fieldsL names rest (acc ++ [f])).on (fun fs => ((keysL fs k.keys [] []).bind fun ks => Rs.ok (⟨k.tok.t, fs, ks⟩ : Kd)).on (fun d => ∀ F' H' v, Same F F' → HH F' H' M → At K F' (dKd d) v → Q v H') (Er K E F M)) (Er K E F M)) (Er K E F M))
        (fun _ σ H' ⟨_, _, _, _, _, _, _, _, hh, _⟩ => hh.sub) ⟨none, _, _, _, _, _, _, rfl, hh, q⟩ ?_ ?_
      · clear hh q
        rintro t rest2 tv σ H' ht ⟨v4, v6, v7, v8, v9, v10, v11, rfl, hh, q⟩
        unfold tgtL at q
        walk_at "go"
        refine s_notInL hn (by walk_at "sm") ?_
        walk_at "go"
        cases h7 : names.contains t.t with
        | true =>
          rw [h7, if_pos rfl] at q
          walk_at "go"
          exact ⟨none, _, _, _, _, _, _, rfl, hh, q⟩
        | false =>
          rw [h7, if_neg (by decide)] at q
          walk_at "go"
          exact Er.raiseT q (by walk_at "sm") hh.drop (by decide)
      · rintro σ H' ⟨v4, v6, v7, v8, v9, v10, v11, rfl, hh, q⟩
        walk_at "go"
        refine o_tyL (i := 0) hh rfl ?_
        walk_at "go"
        refine o_app0 hh (by omega) fun H7 hh => ?_
        exact ⟨acc ++ [f], F5, _, _, _, _, _, _, _, _, _, _, by rw [List.length_append]; show acc.length + 1 ≤ 8; omega, rfl, by walk_at "sm", hh, AtA.snocM (e := dFl) (hus.mono s5) (hu1.mono (s1.trans s5)), q⟩
  · clear hh q
    rintro σ H' ⟨fs, F', us, v3, v4, v5, v6, v7, v8, v9, v10, v11, hl, rfl, s1, hh, hus, q⟩
    replace q := Rs.on_bind.mp (show Rs.on (Rs.bind _ _) _ _ from q)
    have hul : us.length = fs.length := by rw [hus.len, List.length_map]
    walk_at "go"
    refine s_lst (K := K) (ds := []) hh AtA.nil (by decide) fun F2 H2 uu s2 hh huu => ?_
    walk_at "go"
    refine o_lst hh (by decide) fun H3 lk hh => ?_
    walk_at "go"
    refine gi_list ?_
    walk_at "go"
    refine fk_keys T hk (by walk_at "sm") fun w hw => ?_
    refine a_forL (e := dTks) (hw.mono (by walk_at "sm")) hh (fun rest σ H' => ∃ (used : List (List Nat)) (keys : List (List (List Nat))) (F' : Hp) (ws : List V) (uu : V) (v3 v4 v5 v6 v7 v10 v11 : Option V), keys.length ≤ 3 ∧ σ = [some fk, some nm, some (.ref lf), v3, v4, v5, v6, v7, some uu, some (.ref lk), v10, v11] ∧ Same F2 F' ∧ HH F' H' ((lk, .lst ws) :: (lf, .lst us) :: M) ∧ AtA K F' (keys.map dTs) ws ∧ At K F' (dTs used) uu ∧
        (keysL fs rest used keys).on (fun ks => (Rs.ok (⟨k.tok.t, fs, ks⟩ : Kd)).on (fun d => ∀ F' H' v, Same F F' → HH F' H' M → At K F' (dKd d) v → Q v H') (Er K E F M)) (Er K E F M))
      (fun _ σ H' ⟨_, _, _, _, _, _, _, _, _, _, _, _, _, _, s, hh, _⟩ => s.trans hh.sub) ⟨[], [], F2, [], uu, _, _, _, _, _, _, _, by decide, rfl, Same.refl _, hh, AtA.nil, huu, q⟩ ?_ ?_
    · clear hh q
      rintro row rest rv σ H' hrow ⟨used, keys, F3, ws, uu, v3, v4, v5, v6, v7, v10, v11, hkl, rfl, s3, hh, hws, huu, q⟩
      have hwl : ws.length = keys.length := by rw [hws.len, List.length_map]
      unfold keysL at q
      walk_at "go"
      refine o_lenL (i := 0) hh rfl ?_
      walk_at "go"
      by_cases h6 : keys.length = 3
      · rw [if_pos h6] at q
        rw [decide_eq_true (by omega)]
        walk_at "go"
        cases row with
        | nil => exact q.elim
        | cons t row =>
          refine s_ixL (e := dTk) (i := 0) hrow (by walk_at "sm") rfl rfl fun w hw => ?_
          walk_at "go"
          exact Er.raiseT q (by walk_at "sm") hh.drop.drop (by decide)
      rw [if_neg h6] at q
      rw [decide_eq_false (by omega)]
      by_cases h7 : 100000 < used.length ∨ 100000 < row.length
      · rw [if_pos h7] at q; exact q.elim
      rw [if_neg h7] at q
      walk_at "go"
      refine rd_check_key T hh (i := 1) rfl (hus.mono (s2.trans s3)) hrow (by walk_at "sm") (by omega) (q.step (by walk_at "er") fun key q hkey F4 H4 kv s4 hh hkv => ?_)
      replace q := Rs.on_bind.mp q
      walk_at "go"
      refine gi_list ?_
      walk_at "go"
      refine a_forL (e := dTk) (hrow.mono (by walk_at "sm")) hh (fun rest2 σ H' => ∃ (v3 v4 v5 v6 v7 : Option V), σ = [some fk, some nm, some (.ref lf), v3, v4, v5, v6, v7, some uu, some (.ref lk), some rv, some kv] ∧ HH F4 H' ((lk, .lst ws) :: (lf, .lst us) :: M) ∧
          (usedL used rest2).on (fun _ => (keysL fs rest (used ++ key) (keys ++ [key])).on (fun ks => (Rs.ok (⟨k.tok.t, fs, ks⟩ : Kd)).on (fun d => ∀ F' H' v, Same F F' → HH F' H' M → At K F' (dKd d) v → Q v H') (Er K E F M)) (Er K E F M)) (Er K E F M))
        (fun _ σ H' ⟨_, _, _, _, _, _, hh, _⟩ => hh.sub) ⟨_, _, _, _, _, rfl, hh, q⟩ ?_ ?_
      · clear hh q
        rintro t rest2 tv σ H' ht ⟨v3, v4, v5, v6, v7, rfl, hh, q⟩
        unfold usedL at q
        walk_at "go"
        refine s_inL huu (by walk_at "sm") ?_
        walk_at "go"
        cases h7 : used.contains t.t with
        | true =>
          rw [h7, if_pos rfl] at q
          walk_at "go"
          exact Er.raiseT q (by walk_at "sm") hh.drop.drop (by decide)
        | false =>
          rw [h7, if_neg (by decide)] at q
          walk_at "go"
          exact ⟨_, _, _, _, _, rfl, hh, q⟩
      · rintro σ H' ⟨v3, v4, v5, v6, v7, rfl, hh, q⟩
        walk_at "go"
        refine s_cat huu hkv hh s4 (Same.refl _) (by rw [List.length_map, List.length_map]; omega) fun F5 H5 u5 s5 hh hu5 => ?_
        rw [← List.map_append] at hu5
        walk_at "go"
        refine o_tyL (i := 0) hh rfl ?_
        walk_at "go"
        refine o_app0 hh (by omega) fun H7 hh => ?_
        exact ⟨used ++ key, keys ++ [key], F5, _, u5, _, _, _, _, _, _, _, by rw [List.length_append]; show keys.length + 1 ≤ 3; omega, rfl, by walk_at "sm", hh, AtA.snocM (e := dTs) (hws.mono (s4.trans s5)) (hkv.mono s5), hu5, q⟩
    · clear hh q
      rintro σ H' ⟨used, keys, F3, ws, uu, v3, v4, v5, v6, v7, v10, v11, hkl, rfl, s3, hh, hws, huu, q⟩
      walk_at "go"
      refine fk_token T hk (by walk_at "sm") fun w hw => ?_
      walk_at "go"
      have z1 := hh.frzS
      have z2 := hh.frz.frzS
      refine mk_Kind T hh.frz.frz (frz_lst (hh.frz.out (i := 0) rfl) (hus.mono (s2.trans (s3.trans z1)))) ((frz_lst (hh.out (i := 0) rfl) hws).mono z2) (by omega) fun F9 H9 u9 s9 hh9 hu9 => q F9 H9 u9 (by walk_at "sm") hh9 hu9
end
end Lw

-- rd
namespace Lw
open PySem PySem.Spec PyProof.Rows L2 G
/-! ### tokens are as the reader wants them -/
theorem isW_cwl {c : Nat} {r : List Nat} {f : Nat → Bool} (h : f c = true) : (c :: r).take (cwl f (c :: r)) ≠ [] := by
  rw [cwl_cons, if_pos h, show 1 + cwl f r = cwl f r + 1 by omega, List.take_succ_cons]
  exact fun z => nomatch z
theorem take_all {f : Nat → Bool} : ∀ {l : List Nat}, (l.take (cwl f l)).all f = true
  | [] => rfl
  | c :: l => by
    rw [cwl_cons]
    by_cases h : f c = true
    · rw [if_pos h, show 1 + cwl f l = cwl f l + 1 by omega, List.take_succ_cons, List.all_cons, h, take_all (l := l)]
      rfl
    · rw [if_neg h]
      rfl
theorem rq_len : ∀ {l t : List Nat} {n : Nat}, rq l = .ok t n → t.length ≤ l.length ∧ n ≤ l.length
  | [], _, _, h => by cases h
  | [c], t, n, h => by
    unfold rq at h
    split at h
    · injection h with h1 h2; subst h1 h2; exact ⟨Nat.zero_le _, Nat.le_refl _⟩
    · cases h
  | c :: d :: r, t, n, h => by
    rw [rq] at h
    split at h
    · injection h with h1 h2; subst h1 h2; exact ⟨Nat.zero_le _, by simp⟩
    · split at h
      · split at h
        · cases hr : rq r with
          | ok t' n' =>
            rw [hr] at h
            have := rq_len hr
            injection h with h1 h2
            subst h1 h2
            simp only [List.length_cons]
            omega
          | opn => rw [hr] at h; cases h
          | bad k => rw [hr] at h; cases h
        · cases h
      · cases hr : rq (d :: r) with
        | ok t' n' =>
          rw [hr] at h
          have := rq_len hr
          injection h with h1 h2
          subst h1 h2
          simp only [List.length_cons] at this ⊢
          omega
        | opn => rw [hr] at h; cases h
        | bad k => rw [hr] at h; cases h
theorem q_ne1 : ¬ q_word = q_number := by decide
theorem q_ne2 : ¬ q_number = q_word := by decide
theorem q_ne3 : ¬ q_text = q_word := by decide
theorem q_ne4 : ¬ q_text = q_number := by decide
theorem q_ne5 : ¬ q_sign = q_word := by decide
theorem q_ne6 : ¬ q_sign = q_number := by decide
theorem q_ne7 : ¬ q_end = q_word := by decide
theorem q_ne8 : ¬ q_end = q_number := by decide
theorem lx_ok {sg : List (List Nat)} {c : Nat} {r role t : List Nat} {n p : Nat} (h : lx sg c r = .tok role t n) (hp : p ≤ 100000) (hr : r.length < 100000) : TkOk ⟨role, t, p⟩ ∧ n ≤ r.length + 1 := by
  unfold lx at h
  split at h
  · rename_i hL
    unfold lxW at h
    split at h
    · cases h
    · injection h with h1 h2 h3
      subst h1 h2 h3
      have := cwl_le (f := isW) (l := c :: r)
      rw [List.length_cons] at this
      refine ⟨⟨fun _ => isW_cwl (by unfold isW; rw [hL]; rfl), fun z => absurd z q_ne1, ?_, hp⟩, this⟩
      show (List.take _ _).length ≤ _
      rw [List.length_take]
      omega
  split at h
  · rename_i hD
    unfold lxN at h
    split at h
    · cases h
    split at h
    · cases h
    split at h
    · cases h
    rename_i h18 _
    injection h with h1 h2 h3
    subst h1 h2 h3
    have := cwl_le (f := isD) (l := c :: r)
    rw [List.length_cons] at this
    refine ⟨⟨fun z => absurd z q_ne2, fun _ => ⟨isW_cwl hD, take_all, ?_⟩, ?_, hp⟩, this⟩
    · show (List.take _ _).length ≤ _
      rw [List.length_take]
      omega
    · show (List.take _ _).length ≤ _
      rw [List.length_take]
      omega
  split at h
  · unfold lxQ at h
    cases hq : rq r with
    | ok t' n' =>
      rw [hq] at h
      injection h with h1 h2 h3
      subst h1 h2 h3
      have := rq_len hq
      exact ⟨⟨fun z => absurd z q_ne3, fun z => absurd z q_ne4, by show t'.length ≤ _; omega, hp⟩, by omega⟩
    | opn => rw [hq] at h; cases h
    | bad k => rw [hq] at h; cases h
  · rename_i h1 h2 h3
    have hl : lx sg c r = .tok role t n := by unfold lx; rw [if_neg h1, if_neg h2, if_neg h3]; exact h
    have := lx_len h3 hl
    unfold lxS at h
    by_cases z : sg.foldl (stepS (c :: r)) [] = []
    · simp only [if_pos z] at h
      cases h
    · simp only [if_neg z] at h
      injection h with e1 e2 e3
      subst e1
      exact ⟨⟨fun z => absurd z q_ne5, fun z => absurd z q_ne6, by show t.length ≤ _; omega, hp⟩, by omega⟩
theorem toksL_ok {sg : List (List Nat)} : ∀ {m : Nat} {l : List Nat} {p : Nat} {acc ts : List Tk}, toksL sg m l p acc = .ok ts → (∀ t ∈ acc, TkOk t) → l.length + p ≤ 100000 → (∀ t ∈ ts, TkOk t) ∧ ts ≠ [] ∧ ts.length ≤ acc.length + m
  | 0, _, _, _, _, h, _, _ => by cases h
  | m + 1, [], p, acc, ts, h, ha, hl => by
    unfold toksL at h
    injection h with h
    subst h
    refine ⟨fun t ht => ?_, by simp, by rw [List.length_append]; show acc.length + 1 ≤ _; omega⟩
    rcases List.mem_append.mp ht with z | z
    · exact ha t z
    · rw [List.mem_singleton.mp z]
      exact ⟨fun z => absurd z q_ne7, fun z => absurd z q_ne8, Nat.zero_le _, by show p ≤ _; rw [List.length_nil] at hl; omega⟩
  | m + 1, c :: r, p, acc, ts, h, ha, hl => by
    rw [List.length_cons] at hl
    rw [toksL] at h
    by_cases h32 : c = 32
    · rw [if_pos h32] at h
      have := toksL_ok h ha (by omega)
      exact ⟨this.1, this.2.1, by omega⟩
    rw [if_neg h32] at h
    cases hx : lx sg c r with
    | bad k z => rw [hx] at h; cases h
    | tok role t n =>
      rw [hx] at h
      obtain ⟨ok, hn⟩ := lx_ok (p := p) hx (by omega) (by omega)
      have := toksL_ok (m := m) (l := (c :: r).drop n) (p := p + n) (acc := acc ++ [⟨role, t, p⟩]) h (fun t' ht => by
        rcases List.mem_append.mp ht with z | z
        · exact ha t' z
        · rw [List.mem_singleton.mp z]; exact ok) (by rw [List.length_drop, List.length_cons]; omega)
      refine ⟨this.1, this.2.1, ?_⟩
      have k := this.2.2
      rw [List.length_append] at k
      have e : [(⟨role, t, p⟩ : Tk)].length = 1 := rfl
      omega
theorem toks_ok {sg : List (List Nat)} {n : Nat} {zs : List Nat} {ts : List Tk} (h : toks sg n zs = .ok ts) (hz : zs.length ≤ 100000) : (∀ t ∈ ts, TkOk t) ∧ ts ≠ [] ∧ ts.length ≤ 100001 := by
  unfold toks at h
  split at h
  · cases h
  · have := toksL_ok h (fun t z => nomatch z) (by omega)
    exact ⟨this.1, this.2.1, by have := this.2.2; simp at this; omega⟩
/-! ### whole schemas -/
def kindsRead (res : List (List Nat)) : Nat → List Kp → List Tk → Rs (List Kp × List Tk)
  | 0, _, _ => .stuck
  | m + 1, acc, s => if (nowT s).r = q_end then .ok (acc, s) else (readKind res s).bind fun a => kindsRead res m (acc ++ [a.1]) a.2
def parseSchema (ts : List Tk) : Rs (List Kp) := (readKind ts_RESERVED ts).bind fun a => (kindsRead ts_RESERVED (ts.length + 1) [a.1] a.2).bind fun b => .ok b.1
def readSchema (zs : List Nat) : Rs (List Kd) := (toks ts_SIGNS 1000 zs).bind fun ts => (parseSchema ts).bind fun row => checkKinds row
section
variable {K : PySem.W.Frag} {F F0 F1 F2 H H' : Hp} {Q : VK} {E : XK} {mg : Str → Option Value} {M : List (Addr × HO)} {x : V}
theorem fd_Kind_name (T : Tx K mg) {k : Kd} (h : At K F0 (dKd k) x) (s : Same F0 H) (q : Q (svv k.name) H) : FldK K "name" x H Q := s_fld h s T.cl_Kind T.no_Kind_name (lk1 rfl) fun w e => by rw [At.v_.mp e]; exact q
theorem rd_check_kinds (T : Tx K mg) (hh : HH F H M) {row : List Kp} {rv : V} (hrow : At K F (.lst (row.map dKp)) rv) (q : (checkKinds row).on (fun ks => ∀ F' H' v, Same F F' → HH F' H' M → At K F' (.lst (ks.map dKd)) v → Q v H') (Er K E F M)) : sp_check_kinds K [rv] H Q E := by
  refine ⟨rfl, ?_⟩
  unfold t_check_kinds k_MOST_KINDS
  unfold checkKinds at q
  by_cases hl : 100000 < row.length
  · rw [if_pos hl] at q; exact q.elim
  rw [if_neg hl] at q
  walk_at "go"
  refine gi_list ?_
  walk_at "go"
  refine a_lcL (e := dKp) (f := D.t) hrow hh (by rw [sl16]; omega) (fun k => some k.tok.t) (fun y w F' H' c' P N hy hw sF hh' hP hN => ?_) fun F1 H1 nm s1 hh hnm => ?_
  · walk_at "go"
    refine ⟨rfl, ?_⟩
    walk_at "go"
    refine fk_token T hw (by walk_at "sm") fun w2 hw2 => ?_
    walk_at "go"
    exact hP F' H' _ y.tok.t (Same.refl _) hh' rfl At.of
  rw [List.filterMap_eq_map'] at hnm
  walk_at "go"
  refine o_lst hh (by decide) fun H2 lk hh => ?_
  walk_at "go"
  refine gi_list ?_
  walk_at "go"
  refine a_forL (e := dKp) (hrow.mono s1) hh (fun rest σ H' => ∃ (acc : List Kd) (F' : Hp) (us : List V) (v2 v4 : Option V), acc.length ≤ 8 ∧ σ = [some rv, some nm, v2, some (.ref lk), v4] ∧ Same F1 F' ∧ HH F' H' ((lk, .lst us) :: M) ∧ AtA K F' (acc.map dKd) us ∧
      (kindsL (row.map fun k => k.tok.t) rest acc).on (fun ks => ∀ F' H' v, Same F F' → HH F' H' M → At K F' (.lst (ks.map dKd)) v → Q v H') (Er K E F M))
    (fun _ σ H' ⟨_, _, _, _, _, _, _, s, hh, _⟩ => s.trans hh.sub) ⟨[], F1, [], none, none, by decide, rfl, Same.refl _, hh, AtA.nil, q⟩ ?_ ?_
  · clear hh q
    rintro k rest kv σ H' hk ⟨acc, F', us, v2, v4, hal, rfl, s2, hh, hus, q⟩
    have hul : us.length = acc.length := by rw [hus.len, List.length_map]
    unfold kindsL at q
    walk_at "go"
    refine fk_token T hk (by walk_at "sm") fun w hw => ?_
    walk_at "go"
    refine gi_list ?_
    walk_at "go"
    refine o_lcL (e := dKd) (f := D.t) (i := 0) hh rfl hus (by omega) (fun k => some k.name) (fun y w F2 H2 c' P N hy hw sF hh' hP hN => ?_) fun F5 H5 u5 s5 hh hu5 => ?_
    · walk_at "go"
      refine ⟨rfl, ?_⟩
      walk_at "go"
      refine fd_Kind_name T hw (by walk_at "sm") ?_
      walk_at "go"
      exact hP F2 H2 _ y.name (Same.refl _) hh' rfl At.of
    rw [List.filterMap_eq_map'] at hu5
    refine s_inL hu5 hh.sub ?_
    walk_at "go"
    cases h5 : (acc.map (·.name)).contains k.tok.t with
    | true =>
      rw [h5, if_pos rfl] at q
      walk_at "go"
      refine fk_token T hk (by walk_at "sm") fun w hw => ?_
      walk_at "go"
      exact Er.raiseT q (by walk_at "sm") hh.drop (by decide)
    | false =>
      rw [h5, if_neg (by decide)] at q
      walk_at "go"
      refine o_lenL (i := 0) hh rfl ?_
      walk_at "go"
      by_cases h6 : acc.length = 8
      · rw [if_pos h6] at q
        rw [decide_eq_true (by omega)]
        walk_at "go"
        refine fk_token T hk (by walk_at "sm") fun w hw => ?_
        walk_at "go"
        exact Er.raiseT q (by walk_at "sm") hh.drop (by decide)
      rw [if_neg h6] at q
      rw [decide_eq_false (by omega)]
      walk_at "go"
      refine o_tyL (i := 0) hh rfl ?_
      walk_at "go"
      refine rd_check_kind T hh (hk.mono (by walk_at "sm")) (hnm.mono (by walk_at "sm")) (q.step (by walk_at "er") fun d q F6 H6 dv s6 hh hdv => ?_)
      walk_at "go"
      refine o_app0 hh (by omega) fun H7 hh => ?_
      exact ⟨acc ++ [d], F6, _, _, _, by rw [List.length_append]; show acc.length + 1 ≤ 8; omega, rfl, by walk_at "sm", hh, AtA.snocM (e := dKd) (hus.mono (s5.trans s6)) hdv, q⟩
  · clear hh q
    rintro σ H' ⟨acc, F', us, v2, v4, hal, rfl, s2, hh, hus, q⟩
    walk_at "go"
    exact q _ _ _ (s1.trans (s2.trans hh.frzS)) hh.frz (frz_lst (hh.out (i := 0) rfl) hus)
/-- Reader(row, reserved) -/
theorem mk_Reader (T : Tx K mg) {ts : List Tk} {res : List (List Nat)} {rv sv : V} (hh : HH F H M) (hr : At K F (.lst (ts.map dTk)) rv) (hs : At K F (.tup (res.map D.t)) sv) (ok : ∀ t ∈ ts, TkOk t) (ne : ts ≠ []) (hl : ts.length ≤ 100001) (q : ∀ F' H' y o, Same F F' → HH F' H' ((y, o) :: M) → Rdr K F' o res ts → Q (.ref y) H') :
    MakeK (He.ga K "Reader") (sp_Reader_init K) [rv, sv] Q H E := by
  refine mk_start hh fun F1 H1 y dx s1 hh => ?_
  refine ⟨rfl, ?_⟩
  unfold t_Reader_init
  walk_at "go"
  refine s_sfld hh T.cl_Reader T.no_Reader_row [] rfl (by decide +kernel) (Nat.le_of_ble_eq_true rfl) fun H2 hh => ?_
  walk_at "go"
  refine s_sfld hh T.cl_Reader T.no_Reader_at ["row"] rfl (by decide +kernel) (Nat.le_of_ble_eq_true rfl) fun H4 hh => ?_
  walk_at "go"
  refine s_sfld hh T.cl_Reader T.no_Reader_reserved ["row", "at"] rfl (by decide +kernel) (Nat.le_of_ble_eq_true rfl) fun H6 hh => ?_
  exact ⟨rfl, q _ _ y _ s1 hh ⟨⟨dx, rv, sv, ts, 0, rfl, hr.mono s1, hs.mono s1, rfl, ne, ok⟩, hl⟩⟩
theorem sg_short : ∀ s ∈ ts_SIGNS, s.length ≤ 1000 := by decide
theorem rd_read_schema (T : Tx K mg) (hh : HH F H M) {zs : List Nat} (hz : zs.length ≤ 100000) (q : (readSchema zs).on (fun ks => ∀ F' H' v, Same F F' → HH F' H' M → At K F' (dSc ks) v → Q v H') (Er K E F M)) : sp_read_schema K [svv zs] H Q E := by
  refine ⟨rfl, ?_⟩
  unfold t_read_schema k_LONGEST_SCHEMA
  unfold readSchema at q
  walk_at "go"
  refine rd_tokens T (n := 1000) hh hz sg_short (At.mkT (T.tu_SIGNS F) (AtA.ofFlat (g := svv))) ?_
  cases ht : toks ts_SIGNS 1000 zs with
  | stuck => rw [ht] at q; exact q
  | bad i z => rw [ht] at q; exact q
  | ok ts =>
    rw [ht] at q
    change ((parseSchema ts).bind fun row => checkKinds row).on _ _ at q
    obtain ⟨ok, ne, tl⟩ := toks_ok ht hz
    intro F1 H1 tv s1 hh htv
    walk_at "go"
    refine mk_Reader T hh htv (At.mkT (T.tu_RESERVED F1) (AtA.ofFlat (g := svv))) ok ne tl fun F2 H2 r o s2 hh hr => ?_
    unfold parseSchema at q
    replace q := Rs.on_bind.mp q
    walk_at "rd"
    refine rd_read_kind T hh hr (q.step (by walk_at "er") fun a q F3 H3 o3 v3 s3 hh hr hv3 => ?_)
    walk_at "rd"
    refine o_lst1 hh (by show 1 ≤ 1000; decide) fun H4 l hh => ?_
    replace q := Rs.on_bind.mp q
    walk_at "rd"
    refine a_while (m := ts.length + 1) (fun m σ H' => ∃ (acc : List Kp) (s' : List Tk) (F' : Hp) (o' : HO) (vs : List V), acc.length + m ≤ ts.length + 2 ∧ σ = [some (svv zs), some (.ref r), some (.ref l)] ∧ Same F3 F' ∧ HH F' H' ((r, o') :: (l, .lst vs) :: M) ∧ Rdr K F' o' ts_RESERVED s' ∧ AtA K F' (acc.map dKp) vs ∧
      (kindsRead ts_RESERVED m acc s').on (fun b => (Rs.ok b.1 : Rs (List Kp)).on (fun row => (checkKinds row).on (fun ks => ∀ F' H' v, Same F F' → HH F' H' M → At K F' (dSc ks) v → Q v H') (Er K E F M)) (Er K E F M)) (Er K E F M)) ⟨[a.1], a.2, F3, o3, [v3], by show 1 + _ ≤ _; omega, rfl, Same.refl _, hh, hr, AtA.cons hv3 AtA.nil, q⟩ (fun σ H ⟨_, _, _, _, _, _, _, _, _, _, _, z⟩ => z) ?_
    clear hh hr q
    rintro m σ H' ⟨acc, s', F', o', vs, hl, rfl, s4, hh, hr, ha, q⟩
    have hvl : vs.length = acc.length := by rw [ha.len, List.length_map]
    unfold kindsRead at q
    walk_at "rd"
    by_cases h4 : (nowT s').r = q_end
    · rw [if_pos h4] at q
      rw [decide_eq_true h4]
      walk_at "rd"
      have hf := hh.frz1.drop
      have sf := hh.frz1S
      refine rd_check_kinds T hf (frz_lst (hh.out (i := 1) rfl) ha) ((show (checkKinds acc).on _ _ from q).imp (fun ks q F5 H5 v5 s5 hh hv5 => ?_) (by walk_at "er"))
      walk_at "rd"
      exact mk_Schema T hh hv5 fun F6 H6 u6 s6 hh6 hu6 => q _ _ _ (by walk_at "sm") hh6 hu6
    · rw [if_neg h4] at q
      rw [decide_eq_false h4]
      walk_at "rd"
      refine o_tyL (i := 1) hh rfl ?_
      walk_at "rd"
      refine rd_read_kind T hh hr (q.step (by walk_at "er") fun c q F6 H6 o6 v6 s6 hh hr hv6 => ?_)
      walk_at "rd"
      refine o_app1 hh (by omega) fun H7 hh => ?_
      exact ⟨acc ++ [c.1], c.2, F6, o6, _, by rw [List.length_append]; show acc.length + 1 + m ≤ _; omega, rfl, by walk_at "sm", hh, hr, AtA.snocM (e := dKp) (ha.mono s6) hv6, q⟩
end
end Lw

-- rd
namespace Lw
open PySem PySem.Spec PyProof.Rows L2 G
theorem HH.same {F H H' : Hp} {M : List (Addr × HO)} (h : HH F H M) (s : Same H H') : HH F H' M := ⟨h.sub.trans s, h.nd, fun p hp => ⟨s _ _ (h.cell p hp).1, (h.cell p hp).2⟩⟩
/-- the draws' cell: a list of ints, not empty -/
def DrO (o : HO) : Prop := ∃ xs : List Int, xs ≠ [] ∧ xs.length ≤ 64 ∧ o = .lst (xs.map V.int)
theorem mul_bl (n : Int) : Txt.mul ⟨q__.toArray⟩ n = ⟨(List.replicate n.toNat 32).toArray⟩ := by
  have h := mul_one_list 32 n
  have e : Txt.mul ⟨q__.toArray⟩ n = ⟨(Txt.mul ⟨q__.toArray⟩ n).cps.toList.toArray⟩ := by simp
  rw [e]
  exact congrArg (fun l : List Nat => (⟨l.toArray⟩ : Str)) h
section
variable {K : PySem.W.Frag} {F F0 F1 F2 H H' : Hp} {Q : VK} {E : XK} {mg : Str → Option Value} {M : List (Addr × HO)} {x : V} {o : HO} {d : Addr}
theorem rd_cells {a : Addr} {ns : List Int} {n : Nat} (hh : HH F H M) (hS : SqL K F a (ns.map V.int)) (hn0 : 0 < n) (hn : n ≤ 64)
    (q : ∀ H' d o, DrO o → HH F H' ((d, o) :: M) → Q (.ref d) H') : sp__law_cells K [.ref a, .int (n : Int)] H Q E := by
  refine ⟨rfl, ?_⟩
  unfold t__law_cells
  walk_at "go"
  refine o_lst hh (by decide) fun H1 p hh => ?_
  walk_at "go"
  refine g_rngN (n := n) (by omega) ?_
  refine l_range (fun i σ H' => i ≤ n ∧ ∃ (xs : List Int) (v4 v5 : Option V), xs.length = i ∧ σ = [some (.ref a), some (.int n), some (.ref p), v4, v5] ∧ HH F H' ((p, .lst (xs.map V.int)) :: M))
    ⟨Nat.zero_le _, [], none, none, rfl, rfl, hh⟩ ?_ ?_
  · clear hh
    rintro i σ H' hi ⟨_, xs, v4, v5, hl, rfl, hh⟩
    walk_at "go"
    refine g_cut (fun σ' H'' => H' = H'' ∧ ∃ c : Int, σ' = [some (.ref a), some (.int n), some (.ref p), some (.int (0 + i)), some (.int c)]) ?_ ?_
    · walk_at "go"
      refine v_lenSq (hh.sub.seq hS) ?_
      walk_at "go"
      refine ite2 (fun hlt => ?_) (fun hlt => ?_)
      · have hlt' := of_decide_eq_true hlt
        rw [List.length_map] at hlt'
        walk_at "go"
        refine v_ixSq (hh.sub.seq hS) (atN (i := i) (by omega) (List.getElem?_eq_getElem (by rw [List.length_map]; omega))) ?_
        rw [List.getElem_map]
        walk_at "go"
        refine ite2 (fun h0 => ?_) (fun h0 => ?_)
        · walk_at "go"
          exact ⟨rfl, _, rfl⟩
        · walk_at "go"
          exact ⟨rfl, _, rfl⟩
      · walk_at "go"
        exact ⟨rfl, _, rfl⟩
    rintro σ' H'' ⟨rfl, c, rfl⟩
    refine g_cut (fun σ' H'' => H' = H'' ∧ ∃ c : Int, σ' = [some (.ref a), some (.int n), some (.ref p), some (.int (0 + i)), some (.int c)]) ?_ ?_
    · walk_at "go"
      refine ite2 (fun hlt => ?_) (fun hlt => ?_)
      · walk_at "go"
        exact ⟨rfl, _, rfl⟩
      · walk_at "go"
        exact ⟨rfl, _, rfl⟩
    rintro σ' H'' ⟨rfl, c, rfl⟩
    walk_at "go"
    refine o_tyL (i := 0) hh rfl ?_
    walk_at "go"
    refine o_app0 hh (by rw [List.length_map]; omega) fun H7 hh => ?_
    refine ⟨by omega, xs ++ [c], some (.int (0 + i)), some (.int c), by simp [hl], rfl, ?_⟩
    rw [List.map_append]
    exact hh
  · rintro σ H' ⟨_, xs, v4, v5, hl, rfl, hh⟩
    walk_at "go"
    exact q _ p _ ⟨xs, fun z => by rw [z] at hl; simp at hl; omega, by omega, rfl⟩ hh
theorem rd_draw {b : Int} (hh : HH F H ((d, o) :: M)) (ho : DrO o) (hb : 0 < b ∧ b < 1073741824) (q : ∀ v H' o', 0 ≤ v → v < b → DrO o' → HH F H' ((d, o') :: M) → Q (.int v) H') : sp__law_draw K [.ref d, .int b] H Q E := by
  obtain ⟨xs, hx, hxl, rfl⟩ := ho
  refine ⟨rfl, ?_⟩
  unfold t__law_draw
  refine g_cut (fun σ' H' => σ' = [some (.ref d), some (.int b), none] ∧ ∃ (y : Int) (ys : List Int), ys.length + 1 ≤ 64 ∧ HH F H' ((d, .lst ((y :: ys).map V.int)) :: M)) ?_ ?_
  · obtain ⟨y, ys, rfl⟩ : ∃ y ys, xs = y :: ys := by
      cases xs with
      | nil => exact absurd rfl hx
      | cons y ys => exact ⟨y, ys, rfl⟩
    walk_at "go"
    refine v_ixL (hh.get (i := 0) rfl) (atN (i := 0) rfl rfl) ?_
    walk_at "go"
    refine ite2 (fun h0 => ?_) (fun h0 => ?_)
    · walk_at "go"
      refine o_lenL (i := 0) hh rfl ?_
      walk_at "go"
      refine ite2 (fun h1 => ?_) (fun h1 => ?_)
      · have h1' := of_decide_eq_true h1
        rw [List.length_map] at h1'
        cases ys with
        | nil => simp at h1'
        | cons z zs =>
          walk_at "go"
          refine o_tyL (i := 0) hh rfl ?_
          walk_at "go"
          refine .inr ⟨_, _, 0, 0, _, rfl, rfl, hh.get (i := 0) rfl, by decide, by decide, (ixN_seq (j := 0) (by simp [ixN]; omega)).1, rfl, ?_⟩
          exact ⟨rfl, z, zs, by simp at hxl ⊢; omega, hh.set0⟩
      · walk_at "go"
        exact ⟨rfl, y, ys, hxl, hh⟩
    · walk_at "go"
      exact ⟨rfl, y, ys, hxl, hh⟩
  clear hh
  rintro σ' H' ⟨rfl, y, ys, hl, hh⟩
  walk_at "go"
  refine v_ixL (hh.get (i := 0) rfl) (atN (i := 0) rfl rfl) ?_
  walk_at "go"
  refine v_ixL (hh.get (i := 0) rfl) (atN (i := 0) rfl rfl) ?_
  walk_at "go"
  refine v_setL (j := 0) (hh.get (i := 0) rfl) (by simp [ixN]) ?_
  walk_at "go"
  exact q _ _ _ (Int.emod_nonneg _ (by omega)) (Int.emod_lt_of_pos _ hb.1) ⟨y / b :: ys, by simp, by simpa using hl, rfl⟩ hh.set0
theorem rd_pick {ds : List D} (hh : HH F H ((d, o) :: M)) (ho : DrO o) (hx : At K F0 (.lst ds) x) (s : Same F0 F) (hn : 0 < ds.length) (hl : ds.length ≤ 1000000) (q : ∀ (i : Nat) (e : D) (v : V) H' o', ds[i]? = some e → At K F e v → DrO o' → HH F H' ((d, o') :: M) → Q v H') : sp__law_pick K [.ref d, x] H Q E := by
  refine ⟨rfl, ?_⟩
  unfold t__law_pick
  walk_at "go"
  refine a_lenL (hx.mono s) hh ?_
  walk_at "go"
  refine rd_draw hh ho ⟨by omega, by omega⟩ fun v H' o' h0 h1 ho hh => ?_
  obtain ⟨i, rfl⟩ := Int.eq_ofNat_of_zero_le h0
  have hi : i < ds.length := by omega
  refine a_ixL (i := i) (hx.mono s) hh rfl (List.getElem?_eq_getElem hi) fun w hw => ?_
  exact q i _ w H' o' (List.getElem?_eq_getElem hi) hw ho hh
/-! faults caught -/
theorem fa_place {i : Int} {r : Str} : (faD i r).lookup ("place" : Str) = some (.int i) := lk2 (by decide +kernel) (lk1 rfl)
theorem fa_reason {i : Int} {r : Str} : (faD i r).lookup ("reason" : Str) = some (.str r) := lk1 rfl
theorem g_try {c : Value} {i : Nat} {tb : WX → TS} {ts : Addr → Value → Option Addr → TS} {Wout : WX} {nx bk ct : L2.St → Hp → Prop} {rt : VK} {σ : L2.St} (h : tb (wAs K c i ts Wout ⟨nx, rt, bk, ct⟩) ⟨nx, rt, bk, ct⟩ σ H) : tTryAs K c i tb ts Wout ⟨nx, rt, bk, ct⟩ σ H := h
def XfK (a : Addr) (cls : Value) (d : Option Addr) (C : Addr) (f : Str) (x : V) (H1 : Hp) (Q : VK) : Prop := x = .ref a ∧ cls = .ref C ∧ ∃ (dd : Addr) (fs : List (Str × V)) (v : V), d = some dd ∧ H1 dd = some (.xd fs) ∧ fs.lookup f = some v ∧ Q v H1
theorem g_xf {a : Addr} {cls : Value} {d : Option Addr} {C : Addr} {f : Str} {te : TE} {σ : L2.St} (h : te σ H fun x H1 => XfK a cls d C f x H1 Q) : tXf a cls d C f te σ H Q := h
end
end Lw

-- rd
namespace Lw
open PySem PySem.Spec PyProof.Rows L2 G
/-! ### schemas are written: plain functions, sizes -/
def sepL (m : List Nat) : List (List Nat) → List Nat
  | [] => []
  | k :: ks => k ++ ks.flatMap (m ++ ·)
def escW (c : Nat) : List Nat := if c = 34 ∨ c = 92 then [92, c] else [c]
def qtW (zs : List Nat) : List Nat := 34 :: (zs.flatMap escW ++ [34])
def wSo : So → List Nat
  | .int a b => q_int_ ++ decI a ++ q_x2ex2e ++ decI b
  | .text n none => q_text_ ++ decI n
  | .text n (some w) => q_text_ ++ decI n ++ q__without_ ++ qtW w
  | .choice cs => q_one_of_ ++ sepL q_x2c_ (cs.map qtW)
  | .ref ks r => if r = q_clears then q_ref_ ++ sepL q__or_ ks else q_ref_ ++ sepL q__or_ ks ++ q__ ++ r
  | .list ks => q_list_ ++ sepL q__or_ ks
def wFd (f : Fd) : List Nat := (if f.need = true then f.name ++ q_x3a_ ++ wSo f.sort ++ q__not_null else f.name ++ q_x3a_ ++ wSo f.sort) ++ q_x3b
def wKey (r : List (List Nat)) : List Nat := q_key_ ++ sepL q_x2c_ r ++ q_x3b
def wKd (k : Kd) : List Nat := sepL q__ ([q_kind_ ++ k.name ++ q__x7b] ++ (k.fields.map wFd ++ k.keys.map wKey) ++ [q_x7d])
def wSc (ks : List Kd) : List Nat := sepL q__ (ks.map wKd)
/-! sizes -/
def So.fine : So → Bool
  | .int a b => decide (a.natAbs ≤ 1000000000000000000) && decide (b.natAbs ≤ 1000000000000000000)
  | .text n w => decide (n.natAbs ≤ 1000000000000000000) && (match w with | none => true | some z => decide (z.length ≤ 50))
  | .choice cs => decide (cs.length ≤ 10) && cs.all fun c => decide (c.length ≤ 50)
  | .ref ks r => decide (ks.length ≤ 500) && (ks.all fun c => decide (c.length ≤ 20)) && decide (r.length ≤ 20)
  | .list ks => decide (ks.length ≤ 500) && ks.all fun c => decide (c.length ≤ 20)
def Fd.fine (f : Fd) : Bool := decide (f.name.length ≤ 20) && f.sort.fine
def Kd.fine (k : Kd) : Bool := decide (k.name.length ≤ 20) && decide (k.fields.length ≤ 10) && decide (k.keys.length ≤ 10) && (k.fields.all Fd.fine) && k.keys.all fun r => decide (r.length ≤ 20) && r.all fun c => decide (c.length ≤ 20)
theorem sepL_len {m : List Nat} {b : Nat} : ∀ {xs : List (List Nat)}, (∀ x ∈ xs, x.length ≤ b) → (sepL m xs).length ≤ xs.length * (b + m.length)
  | [], _ => Nat.zero_le _
  | x :: xs, h => by
    have hb : ∀ {ys : List (List Nat)}, (∀ x ∈ ys, x.length ≤ b) → (ys.flatMap (m ++ ·)).length ≤ ys.length * (b + m.length) := by
      intro ys
      induction ys with
      | nil => intro _; exact Nat.zero_le _
      | cons y ys ih =>
        intro h
        have h1 := h y (List.mem_cons_self ..)
        have h2 := ih fun z hz => h z (List.mem_cons_of_mem _ hz)
        rw [List.flatMap_cons, List.length_append, List.length_append, List.length_cons, Nat.succ_mul]
        omega
    have h1 := h x (List.mem_cons_self ..)
    have h2 := hb (ys := xs) fun z hz => h z (List.mem_cons_of_mem _ hz)
    unfold sepL
    rw [List.length_append, List.length_cons, Nat.succ_mul]
    omega
theorem sum_len {m : List Nat} : ∀ {xs : List (List Nat)}, (xs.map (·.length)).sum ≤ (sepL m xs).length
  | [] => Nat.le_refl _
  | x :: xs => by
    have hb : ∀ {ys : List (List Nat)}, (ys.map (·.length)).sum ≤ (ys.flatMap (m ++ ·)).length := by
      intro ys
      induction ys with
      | nil => exact Nat.le_refl _
      | cons y ys ih =>
        rw [List.flatMap_cons, List.length_append, List.length_append, List.map_cons, List.sum_cons]
        omega
    unfold sepL
    have := hb (ys := xs)
    rw [List.length_append, List.map_cons, List.sum_cons]
    omega
theorem escW_len {c : Nat} : (escW c).length ≤ 2 := by
  unfold escW
  split
  · exact Nat.le_refl _
  · exact Nat.le_succ _
theorem qtW_len : ∀ {zs : List Nat}, (qtW zs).length ≤ 2 * zs.length + 2 := by
  intro zs
  have h : (zs.flatMap escW).length ≤ 2 * zs.length := by
    induction zs with
    | nil => exact Nat.le_refl _
    | cons c zs ih =>
      have := escW_len (c := c)
      rw [List.flatMap_cons, List.length_append, List.length_cons]
      omega
  unfold qtW
  rw [List.length_cons, List.length_append]
  show _ + 1 + 1 ≤ _
  omega
theorem all_len {xs : List (List Nat)} {b : Nat} (h : (xs.all fun c => decide (c.length ≤ b)) = true) : ∀ x ∈ xs, x.length ≤ b := fun x hx => of_decide_eq_true (List.all_eq_true.mp h x hx)
theorem map_len {α : Type} {xs : List α} {f : α → List Nat} {b : Nat} (h : ∀ x ∈ xs, (f x).length ≤ b) : ∀ y ∈ xs.map f, y.length ≤ b := fun y hy => by
  obtain ⟨x, hx, rfl⟩ := List.mem_map.mp hy
  exact h x hx
theorem wSo_len {s : So} (h : s.fine = true) : (wSo s).length ≤ 13000 := by
  cases s with
  | int a b =>
    unfold So.fine at h
    rw [Bool.and_eq_true, decide_eq_true_iff, decide_eq_true_iff] at h
    have h1 := decI_len h.1
    have h2 := decI_len h.2
    unfold wSo
    simp only [List.length_append]
    have e1 : q_int_.length = 4 := rfl
    have e2 : q_x2ex2e.length = 2 := rfl
    omega
  | text n w =>
    unfold So.fine at h
    rw [Bool.and_eq_true, decide_eq_true_iff] at h
    have h1 := decI_len h.1
    have e1 : q_text_.length = 5 := rfl
    have e2 : q__without_.length = 9 := rfl
    cases w with
    | none =>
      unfold wSo
      simp only [List.length_append]
      omega
    | some z =>
      have h2 : z.length ≤ 50 := of_decide_eq_true h.2
      have h3 := qtW_len (zs := z)
      unfold wSo
      simp only [List.length_append]
      omega
  | choice cs =>
    unfold So.fine at h
    rw [Bool.and_eq_true, decide_eq_true_iff] at h
    have h2 := sepL_len (m := q_x2c_) (b := 102) (xs := cs.map qtW) (map_len fun x hx => Nat.le_trans qtW_len (by have := all_len h.2 x hx; omega))
    rw [List.length_map] at h2
    have e1 : q_one_of_.length = 7 := rfl
    have e2 : q_x2c_.length = 2 := rfl
    rw [e2] at h2
    have h3 : cs.length * (102 + 2) ≤ 10 * (102 + 2) := Nat.mul_le_mul_right _ h.1
    unfold wSo
    rw [List.length_append]
    omega
  | ref ks r =>
    unfold So.fine at h
    rw [Bool.and_eq_true, Bool.and_eq_true, decide_eq_true_iff, decide_eq_true_iff] at h
    have h2 := sepL_len (m := q__or_) (all_len h.1.2)
    have e1 : q_ref_.length = 4 := rfl
    have e2 : q__or_.length = 4 := rfl
    have e3 : q__.length = 1 := rfl
    rw [e2] at h2
    have h3 : ks.length * (20 + 4) ≤ 500 * (20 + 4) := Nat.mul_le_mul_right _ h.1.1
    have h4 := h.2
    show (if r = q_clears then q_ref_ ++ sepL q__or_ ks else q_ref_ ++ sepL q__or_ ks ++ q__ ++ r).length ≤ _
    split
    · rw [List.length_append]
      omega
    · simp only [List.length_append]
      omega
  | list ks =>
    unfold So.fine at h
    rw [Bool.and_eq_true, decide_eq_true_iff] at h
    have h2 := sepL_len (m := q__or_) (all_len h.2)
    have e1 : q_list_.length = 5 := rfl
    have e2 : q__or_.length = 4 := rfl
    rw [e2] at h2
    have h3 : ks.length * (20 + 4) ≤ 500 * (20 + 4) := Nat.mul_le_mul_right _ h.1
    unfold wSo
    rw [List.length_append]
    omega
theorem wFd_len {f : Fd} (h : f.fine = true) : (wFd f).length ≤ 13100 := by
  unfold Fd.fine at h
  rw [Bool.and_eq_true, decide_eq_true_iff] at h
  have h1 := wSo_len h.2
  have h2 := h.1
  have e1 : q_x3a_.length = 2 := rfl
  have e2 : q__not_null.length = 9 := rfl
  have e3 : q_x3b.length = 1 := rfl
  unfold wFd
  split <;> simp only [List.length_append] <;> omega
theorem wKey_len {r : List (List Nat)} (h : (decide (r.length ≤ 20) && r.all fun c => decide (c.length ≤ 20)) = true) : (wKey r).length ≤ 500 := by
  rw [Bool.and_eq_true, decide_eq_true_iff] at h
  have h2 := sepL_len (m := q_x2c_) (all_len h.2)
  have e1 : q_key_.length = 4 := rfl
  have e2 : q_x2c_.length = 2 := rfl
  have e3 : q_x3b.length = 1 := rfl
  rw [e2] at h2
  have h3 : r.length * (20 + 2) ≤ 20 * (20 + 2) := Nat.mul_le_mul_right _ h.1
  unfold wKey
  simp only [List.length_append]
  omega
structure KdFine (k : Kd) : Prop where
  n : k.name.length ≤ 20
  fl : k.fields.length ≤ 10
  kl : k.keys.length ≤ 10
  f : ∀ x ∈ k.fields, x.fine = true
  k : ∀ r ∈ k.keys, (decide (r.length ≤ 20) && r.all fun c => decide (c.length ≤ 20)) = true
theorem Kd.fine_ok {k : Kd} (h : k.fine = true) : KdFine k := by
  unfold Kd.fine at h
  rw [Bool.and_eq_true, Bool.and_eq_true, Bool.and_eq_true, Bool.and_eq_true, decide_eq_true_iff, decide_eq_true_iff, decide_eq_true_iff] at h
  exact ⟨h.1.1.1.1, h.1.1.1.2, h.1.1.2, List.all_eq_true.mp h.1.2, List.all_eq_true.mp h.2⟩
def kdParts (k : Kd) : List (List Nat) := [q_kind_ ++ k.name ++ q__x7b] ++ (k.fields.map wFd ++ k.keys.map wKey) ++ [q_x7d]
theorem kdParts_len {k : Kd} (h : k.fine = true) : (kdParts k).length ≤ 22 ∧ ∀ x ∈ kdParts k, x.length ≤ 13100 := by
  have F := Kd.fine_ok h
  have h1 := F.fl
  have h2 := F.kl
  constructor
  · unfold kdParts
    simp only [List.length_append, List.length_map, List.length_cons, List.length_nil]
    omega
  · intro x hx
    unfold kdParts at hx
    simp only [List.mem_append, List.mem_cons, List.not_mem_nil, or_false] at hx
    rcases hx with (hx | hx | hx) | hx
    · rw [hx]
      have := F.n
      have e1 : q_kind_.length = 5 := rfl
      have e2 : q__x7b.length = 2 := rfl
      simp only [List.length_append]
      omega
    · exact map_len (fun y hy => wFd_len (F.f y hy)) x hx
    · exact map_len (fun y hy => Nat.le_trans (wKey_len (F.k y hy)) (by decide)) x hx
    · rw [hx]; decide
theorem wKd_len {k : Kd} (h : k.fine = true) : (wKd k).length ≤ 300000 := by
  have F := kdParts_len h
  have h2 := sepL_len (m := q__) F.2
  have e1 : q__.length = 1 := rfl
  rw [e1] at h2
  have h3 : (kdParts k).length * (13100 + 1) ≤ 22 * (13100 + 1) := Nat.mul_le_mul_right _ F.1
  show (sepL q__ (kdParts k)).length ≤ _
  omega
end Lw

-- rd
namespace G
open PySem PySem.Spec PyProof.Rows L2
section
variable {K : PySem.W.Frag} {F F0 F' H H' : Hp} {u x w : V} {d : D} {ds es : List D} {us vs : List V} {M : List (Addr × HO)} {Q : VK} {S : Hp → Prop} {σ : L2.St}
/-- a comprehension whose list will be filled on -/
theorem a_lcC {α β : Type} {e : α → D} {f : β → D} {xs : List α} {g : TG} {tt : TT} {te : TE} {vs : List Nat} (hx : At K F (.lst (xs.map e)) x) (hh : HH F H M) (hz : xs.length < 16777216) (r : α → Option β)
    (hs : ∀ y (w : V) F' H' c (P : V → Hp → Prop) (N : Hp → Prop), y ∈ xs → At K F' (e y) w → Same F F' → HH F' H' (c :: M) → (∀ F4 H4 v z, Same F' F4 → HH F4 H4 (c :: M) → r y = some z → At K F4 (f z) v → P v H4) →
      (∀ F4 H4, Same F' F4 → HH F4 H4 (c :: M) → r y = none → N H4) → g w (wipe σ vs) H' fun σ2 H2 => wipe σ2 vs = wipe σ vs ∧ tt σ2 H2 fun b H3 => if b = true then te σ2 H3 (fun v H4 => P v H4) else N H3)
    (q : ∀ F' H' p ws, Same F F' → HH F' H' ((p, .lst ws) :: M) → ws.length ≤ xs.length → AtA K F' ((xs.filterMap r).map f) ws → Q (.ref p) H') : OvL K (fun J H1 => LcK J g tt te σ vs H1 Q) x H := by
  obtain ⟨a, us, rfl, h, t⟩ := hx.lst_
  have hl : us.length = xs.length := by rw [t.len, List.length_map]
  refine v_ovL (hh.sub.seq h) fun D hD => ?_
  refine c_list (fun i H' => ∃ F' ws, Same F F' ∧ HH F' H' ((D, .lst ws) :: M) ∧ ws.length ≤ i ∧ AtA K F' (((xs.take i).filterMap r).map f) ws) ⟨F, [], Same.refl F, hh.new hD, Nat.zero_le _, AtA.nil⟩
    (fun i H' _ ⟨F', ws, s, h', _⟩ => h'.sub.seq (s.seq h)) (fun i v H' hv ⟨F', ws, s, h', hw, ha⟩ => ?_) (fun H' ⟨F', ws, s, h', hw, ha⟩ => ?_)
  · obtain ⟨d, hd', hat⟩ := t.at_ hv
    rw [List.getElem?_map] at hd'
    cases ex : xs[i]? with
    | none => rw [ex] at hd'; cases hd'
    | some y =>
      rw [ex] at hd'
      cases hd'
      have hi : i < xs.length := by
        rcases Nat.lt_or_ge i xs.length with z | z
        · exact z
        · rw [List.getElem?_eq_none z] at ex; cases ex
      have e1 : xs[i] = y := by rw [List.getElem?_eq_getElem hi] at ex; exact Option.some.inj ex
      have et : xs.take (i + 1) = xs.take i ++ [y] := by rw [← e1]; exact (List.take_append_getElem hi).symm
      refine hs y v F' H' _ _ _ (e1 ▸ List.getElem_mem hi) (hat.mono s) s h' (fun F4 H4 v z s4 h4 er hz => ?_) (fun F4 H4 s4 h4 er => ?_)
      · refine v_put (h4.get (i := 0) rfl) (by rw [sl16]; omega) ⟨F4, ws ++ [v], s.trans s4, h4.set0, by rw [List.length_append]; show _ + 1 ≤ _; omega, ?_⟩
        rw [et, List.filterMap_append, List.filterMap_cons, er]
        exact AtA.snocM (ha.mono s4) hz
      · refine ⟨F4, ws, s.trans s4, h4, by omega, ?_⟩
        rw [et, List.filterMap_append, List.filterMap_cons, er]
        show AtA K F4 ((_ ++ []).map f) ws
        rw [List.append_nil]
        exact ha.mono s4
  · rw [hl, List.take_length] at ha
    exact q _ _ D ws s h' (by omega) ha
theorem AtF.non {f : Str} : ∀ {fs : List (Str × D)} {gs : List (Str × V)}, AtF K F fs gs → (fs.map (·.1)).contains f = false → gs.lookup f = none
  | [], gs, h, _ => by unfold AtF at h; rw [h]; rfl
  | (g, d') :: fs, gs, h, e => by
    unfold AtF at h
    obtain ⟨u, us, rfl, h1, h⟩ := h
    rw [List.map_cons, List.contains_cons, Bool.or_eq_false_iff] at e
    rw [List.lookup_cons, e.1]
    exact AtF.non h e.2
/-- a method of an object that stands -/
theorem s_meth {c m : Str} {fs : List (Str × D)} (h : At K F0 (.obj c fs) x) (s : Same F0 H) (ks : List Str) (e : fs.map (·.1) = ks) (n : ks.contains m = false) (q : S H) : MethK (He.ga K c) m x H S := by
  obtain ⟨a, dx, vs, rfl, hF, hv⟩ := h.obj_
  exact v_meth (s _ _ hF) (hv.non (by rw [e]; exact n)) q
end
end G
namespace Lw
open PySem PySem.Spec PyProof.Rows L2 G
theorem join_svv {m : List Nat} : ∀ {xs : List (List Nat)}, Txt.join ⟨m.toArray⟩ (xs.map fun t => (⟨t.toArray⟩ : Str)) = ⟨(sepL m xs).toArray⟩ := by
  intro xs
  unfold Txt.join
  rw [StrLaws.glued_eq_join]
  cases xs with
  | nil => rfl
  | cons x xs =>
    induction xs generalizing x with
    | nil =>
      show (⟨x.toArray⟩ : Str) = ⟨(x ++ []).toArray⟩
      rw [List.append_nil]
    | cons y ys ih =>
      show (⟨x.toArray⟩ : Str) ++ ⟨m.toArray⟩ ++ Str.join ⟨m.toArray⟩ (((y :: ys).map fun t => (⟨t.toArray⟩ : Str))) = _
      rw [ih y, app_svv, app_svv]
      refine congrArg (fun l : List Nat => (⟨l.toArray⟩ : Str)) ?_
      show x ++ m ++ (y ++ ys.flatMap (m ++ ·)) = x ++ (y :: ys).flatMap (m ++ ·)
      rw [List.flatMap_cons]
      simp only [List.append_assoc]
theorem strs_sum {xs : List (List Nat)} : ((xs.map fun t => (⟨t.toArray⟩ : Str)).map (·.length)).sum = (xs.map (·.length)).sum := by
  rw [List.map_map]
  congr 1
section
variable {K : PySem.W.Frag} {F F0 F1 F2 H H' : Hp} {Q : VK} {E : XK} {mg : Str → Option Value} {M : List (Addr × HO)} {x y : V} {o : HO} {d : Addr} {m : List Nat} {xs : List (List Nat)}
theorem v_joinV {a : Addr} (h : SqL K H a (xs.map svv)) (hl : xs.length ≤ 100000) (hm : m.length ≤ 10) (hs : (sepL m xs).length ≤ 10000000) (q : Q (svv (sepL m xs)) H) : rJoin K (.str ⟨m.toArray⟩) [.ref a] H Q := by
  refine ⟨_, a, xs.map fun t => (⟨t.toArray⟩ : Str), rfl, rfl, .inl ?_, ?_, ?_⟩
  · rw [List.map_map]
    exact h
  · rw [strs_sum, List.length_map, len_svv]
    have h1 := sum_len (m := m) (xs := xs)
    have h2 : xs.length * m.length ≤ 100000 * 10 := Nat.mul_le_mul hl hm
    omega
  · rw [join_svv]
    exact q
theorem s_join (hx : At K F0 (.lst (xs.map D.t)) x) (s : Same F0 H) (hl : xs.length ≤ 100000) (hm : m.length ≤ 10) (hs : (sepL m xs).length ≤ 10000000) (q : Q (svv (sepL m xs)) H) : rJoin K (.str ⟨m.toArray⟩) [x] H Q := by
  obtain ⟨a, vs, rfl, h, t⟩ := hx.lst_
  have e := t.flat (g := svv)
  subst e
  exact v_joinV (s.seq h) hl hm hs q
theorem o_join {l : Addr} {i : Nat} {us : List V} (hh : HH F H M) (hm' : M[i]? = some (l, .lst us)) (t : AtA K F (xs.map D.t) us) (hl : xs.length ≤ 100000) (hm : m.length ≤ 10) (hs : (sepL m xs).length ≤ 10000000) (q : Q (svv (sepL m xs)) H) : rJoin K (.str ⟨m.toArray⟩) [.ref l] H Q := by
  have e := t.flat (g := svv)
  subst e
  exact v_joinV (SqL.of (hh.get hm')) hl hm hs q
theorem two_inW (d : Nat) : inV (.str ⟨[d].toArray⟩) [.str ⟨([34] : List Nat).toArray⟩, .str ⟨([92] : List Nat).toArray⟩] = decide (d = 34 ∨ d = 92) := two_in d
theorem rd_quoted (hh : HH F H M) {zs : List Nat} (hz : zs.length ≤ 100000) (q : ∀ F' H', Same F F' → HH F' H' M → Q (svv (qtW zs)) H') : sp_quoted K [svv zs] H Q E := by
  refine ⟨rfl, ?_⟩
  unfold t_quoted
  walk_at "go"
  refine o_lst hh (by decide) fun H1 p hh => ?_
  walk_at "go"
  refine gi_str ?_
  walk_at "go"
  refine v_ovS ?_
  refine l_str (zs := zs) (fun i σ H' => i ≤ zs.length ∧ ∃ (F' : Hp) (v : Option V), σ = [some (svv zs), some (.ref p), v] ∧ Same F F' ∧ HH F' H' ((p, .lst (((34 :: (zs.take i).flatMap escW).map fun c => (⟨[c].toArray⟩ : Str)).map V.str)) :: M)) ⟨Nat.zero_le _, F, none, rfl, Same.refl _, hh⟩ ?_ ?_
  · clear hh
    rintro i c σ H' hc ⟨hi, F', v, rfl, s, hh⟩
    have hi' : i < zs.length := (List.getElem?_eq_some_iff.mp hc).1
    have et : (zs.take (i + 1)).flatMap escW = (zs.take i).flatMap escW ++ escW c := by
      have e1 : zs[i] = c := (List.getElem?_eq_some_iff.mp hc).2
      rw [← e1, ← List.take_append_getElem hi', List.flatMap_append]
      simp
    have hlen : ((zs.take i).flatMap escW).length ≤ 2 * i := by
      have h := qtW_len (zs := zs.take i)
      unfold qtW at h
      rw [List.length_cons, List.length_append, List.length_take, Nat.min_eq_left hi] at h
      have e1 : ([34] : List Nat).length = 1 := rfl
      omega
    walk_at "go"
    unfold q_x22 q_x5c
    walk_at "go"
    refine g_cut (fun σ' H'' => σ' = [some (svv zs), some (.ref p), some (.str ⟨[c].toArray⟩)] ∧ ∃ F'', Same F' F'' ∧ HH F'' H'' ((p, .lst (((34 :: ((zs.take i).flatMap escW ++ (if c = 34 ∨ c = 92 then [92] else []))).map fun c => (⟨[c].toArray⟩ : Str)).map V.str)) :: M)) ?_ ?_
    · walk_at "go"
      refine o_tup (by show 2 ≤ 1000; decide) fun t ht => ?_
      have h2 := hh.newF (o := .tup [svv [34], svv [92]]) ht
      have s2 := hh.grow (o := .tup [svv [34], svv [92]]) ht
      refine v_inT upd_same rfl rfl ?_
      rw [two_inW c]
      walk_at "go"
      by_cases hc2 : c = 34 ∨ c = 92
      · rw [decide_eq_true hc2, if_pos hc2]
        walk_at "go"
        refine o_tyL (i := 0) h2 rfl ?_
        walk_at "go"
        refine o_app0 h2 (by simp only [List.length_map, List.length_cons]; omega) fun H7 h3 => ?_
        refine ⟨rfl, _, s2, ?_⟩
        rw [← List.cons_append, List.map_append, List.map_append]
        exact h3
      · rw [decide_eq_false hc2, if_neg hc2]
        walk_at "go"
        refine ⟨rfl, _, s2, ?_⟩
        rw [List.append_nil]
        exact h2
    · rintro σ' H'' ⟨rfl, F'', s2, h2⟩
      walk_at "go"
      refine o_tyL (i := 0) h2 rfl ?_
      walk_at "go"
      have hle : (if c = 34 ∨ c = 92 then [92] else ([] : List Nat)).length ≤ 1 := by
        split
        · exact Nat.le_refl _
        · exact Nat.zero_le _
      refine o_app0 h2 (by rw [List.length_map, List.length_map, List.length_cons, List.length_append]; omega) fun H7 h3 => ?_
      refine ⟨hi', F'', _, rfl, s.trans s2, ?_⟩
      have e2 : (34 :: (zs.take (i + 1)).flatMap escW) = (34 :: ((zs.take i).flatMap escW ++ (if c = 34 ∨ c = 92 then [92] else []))) ++ [c] := by
        rw [et]
        unfold escW
        split <;> simp
      rw [e2, List.map_append, List.map_append]
      exact h3
  · rintro σ H' ⟨_, F', v, rfl, s, hh⟩
    rw [List.take_length] at hh
    have hlen : (zs.flatMap escW).length ≤ 2 * zs.length := by
      have h := qtW_len (zs := zs)
      unfold qtW at h
      rw [List.length_cons, List.length_append] at h
      have e1 : ([34] : List Nat).length = 1 := rfl
      omega
    walk_at "go"
    refine o_tyL (i := 0) hh rfl ?_
    walk_at "go"
    refine o_app0 hh (by simp only [List.length_map, List.length_cons]; omega) fun H7 hh => ?_
    walk_at "go"
    unfold q_empty
    have e3 : ((34 :: zs.flatMap escW).map fun c => (⟨[c].toArray⟩ : Str)).map V.str ++ [V.str ⟨q_x22.toArray⟩] = ((qtW zs).map fun c => (⟨[c].toArray⟩ : Str)).map V.str := by
      unfold qtW q_x22
      rw [← List.cons_append, List.map_append, List.map_append]
      rfl
    rw [e3] at hh
    refine v_join (ys := (qtW zs).map fun c => (⟨[c].toArray⟩ : Str)) (hh.get (i := 0) rfl) ?_ ?_
    · rw [ones_len, List.length_map, len_svv]
      have := qtW_len (zs := zs)
      show _ + _ * 0 ≤ _
      omega
    · rw [join_ones]
      exact q F' H7 s hh.drop
theorem w_int (T : Tx K mg) {a b : Int} (hx : At K F (o_IntSort (.i a) (.i b)) x) (hh : HH F H M) (hf : (So.int a b).fine = true) (q : ∀ F' H', Same F F' → HH F' H' M → Q (svv (wSo (.int a b))) H') : sp_IntSort_written K [x] H Q E := by
  unfold So.fine at hf
  rw [Bool.and_eq_true, decide_eq_true_iff, decide_eq_true_iff] at hf
  have h1 := decI_len hf.1
  have h2 := decI_len hf.2
  have s0 := hh.sub
  have e1 : q_int_.length = 4 := rfl
  have e2 : q_x2ex2e.length = 2 := rfl
  refine ⟨rfl, ?_⟩
  unfold t_IntSort_written
  walk_at "rd"
  refine v_js (by rw [List.length_nil]; omega) ?_
  walk_at "rd"
  refine v_fmtI hf.1 ?_
  refine v_js (by simp only [List.length_append, List.length_nil]; omega) ?_
  walk_at "rd"
  refine v_js (by simp only [List.length_append, List.length_nil]; omega) ?_
  walk_at "rd"
  refine v_fmtI hf.2 ?_
  refine v_js (by simp only [List.length_append, List.length_nil]; omega) ?_
  walk_at "rd"
  exact q F H (Same.refl _) hh
theorem w_text (T : Tx K mg) {n : Int} {w : Option (List Nat)} (hx : At K F (o_TextSort (.i n) (dOp w)) x) (hh : HH F H M) (hf : (So.text n w).fine = true) (q : ∀ F' H', Same F F' → HH F' H' M → Q (svv (wSo (.text n w))) H') : sp_TextSort_written K [x] H Q E := by
  unfold So.fine at hf
  rw [Bool.and_eq_true, decide_eq_true_iff] at hf
  have h1 := decI_len hf.1
  have s0 := hh.sub
  have e1 : q_text_.length = 5 := rfl
  have e2 : q__without_.length = 9 := rfl
  refine ⟨rfl, ?_⟩
  unfold t_TextSort_written
  cases w with
  | none =>
    unfold dOp at hx
    walk_at "rd"
    rw [decide_eq_true rfl]
    walk_at "rd"
    refine v_js (by rw [List.length_nil]; omega) ?_
    walk_at "rd"
    refine v_fmtI hf.1 ?_
    refine v_js (by simp only [List.length_append, List.length_nil]; omega) ?_
    walk_at "rd"
    exact q F H (Same.refl _) hh
  | some z =>
    have hz : z.length ≤ 50 := of_decide_eq_true hf.2
    have h3 := qtW_len (zs := z)
    unfold dOp at hx
    walk_at "rd"
    rw [decide_eq_false (fun e => nomatch e)]
    walk_at "rd"
    refine v_js (by rw [List.length_nil]; omega) ?_
    walk_at "rd"
    refine v_fmtI hf.1 ?_
    refine v_js (by simp only [List.length_append, List.length_nil]; omega) ?_
    walk_at "rd"
    refine v_js (by simp only [List.length_append, List.length_nil]; omega) ?_
    walk_at "rd"
    refine rd_quoted hh (by omega) fun F1 H1 s1 hh => ?_
    refine v_fmtT (by omega) ?_
    refine v_js (by simp only [List.length_append, List.length_nil]; omega) ?_
    walk_at "rd"
    exact q F1 H1 s1 hh
theorem w_choice (T : Tx K mg) {cs : List (List Nat)} (hx : At K F (o_ChoiceSort (dTs cs)) x) (hh : HH F H M) (hf : (So.choice cs).fine = true) (q : ∀ F' H', Same F F' → HH F' H' M → Q (svv (wSo (.choice cs))) H') : sp_ChoiceSort_written K [x] H Q E := by
  have hw := wSo_len hf
  unfold wSo at hw
  rw [List.length_append] at hw
  unfold So.fine at hf
  rw [Bool.and_eq_true, decide_eq_true_iff] at hf
  have s0 := hh.sub
  have e1 : q_one_of_.length = 7 := rfl
  refine ⟨rfl, ?_⟩
  unfold t_ChoiceSort_written
  walk_at "rd"
  refine gi_list ?_
  walk_at "rd"
  rename_i u hu
  refine a_lcL (e := D.t) (f := D.t) hu hh (by rw [sl16]; omega) (fun c => some (qtW c)) (fun y w F' H' c' P N hy hw' sF hh' hP hN => ?_) fun F5 H5 u5 s5 hh hu5 => ?_
  · obtain rfl := At.v_.mp hw'
    have := all_len hf.2 y hy
    walk_at "rd"
    refine ⟨rfl, ?_⟩
    walk_at "rd"
    refine rd_quoted hh' (by omega) fun F1 H1 s1 hh1 => ?_
    exact hP F1 H1 _ (qtW y) s1 hh1 rfl At.of
  rw [List.filterMap_eq_map'] at hu5
  refine s_join hu5 hh.sub (by rw [List.length_map]; omega) (by decide) (by omega) ?_
  refine v_addT (by omega) ?_
  walk_at "rd"
  exact q F5 H5 s5 hh
theorem w_ref (T : Tx K mg) {ks : List (List Nat)} {r : List Nat} (hx : At K F (o_RefSort (dTs ks) (.t r)) x) (hh : HH F H M) (hf : (So.ref ks r).fine = true) (q : ∀ F' H', Same F F' → HH F' H' M → Q (svv (wSo (.ref ks r))) H') : sp_RefSort_written K [x] H Q E := by
  unfold So.fine at hf
  rw [Bool.and_eq_true, Bool.and_eq_true, decide_eq_true_iff, decide_eq_true_iff] at hf
  have h2 := sepL_len (m := q__or_) (all_len hf.1.2)
  have e1 : q_ref_.length = 4 := rfl
  have e2 : q__or_.length = 4 := rfl
  have e3 : q__.length = 1 := rfl
  rw [e2] at h2
  have h3 : ks.length * (20 + 4) ≤ 500 * (20 + 4) := Nat.mul_le_mul_right _ hf.1.1
  have h4 := hf.2
  have h5 := hf.1.1
  have s0 := hh.sub
  change ∀ F' H', Same F F' → HH F' H' M → Q (svv (if r = q_clears then q_ref_ ++ sepL q__or_ ks else q_ref_ ++ sepL q__or_ ks ++ q__ ++ r)) H' at q
  refine ⟨rfl, ?_⟩
  unfold t_RefSort_written
  walk_at "rd"
  rename_i u hu
  refine s_join hu hh.sub (by omega) (by decide) (by omega) ?_
  refine v_addT (by omega) ?_
  walk_at "rd"
  by_cases hr : r = q_clears
  · rw [decide_eq_true hr]
    rw [if_pos hr] at q
    walk_at "rd"
    exact q F H (Same.refl _) hh
  · rw [decide_eq_false hr]
    rw [if_neg hr] at q
    walk_at "rd"
    refine v_addT (by rw [List.length_append]; omega) ?_
    walk_at "rd"
    refine v_addT (by rw [List.length_append, List.length_append]; omega) ?_
    walk_at "rd"
    exact q F H (Same.refl _) hh
theorem w_list (T : Tx K mg) {ks : List (List Nat)} (hx : At K F (o_ListSort (dTs ks)) x) (hh : HH F H M) (hf : (So.list ks).fine = true) (q : ∀ F' H', Same F F' → HH F' H' M → Q (svv (wSo (.list ks))) H') : sp_ListSort_written K [x] H Q E := by
  unfold So.fine at hf
  rw [Bool.and_eq_true, decide_eq_true_iff] at hf
  have h2 := sepL_len (m := q__or_) (all_len hf.2)
  have e1 : q_list_.length = 5 := rfl
  have e2 : q__or_.length = 4 := rfl
  rw [e2] at h2
  have h3 : ks.length * (20 + 4) ≤ 500 * (20 + 4) := Nat.mul_le_mul_right _ hf.1
  have h5 := hf.1
  have s0 := hh.sub
  refine ⟨rfl, ?_⟩
  unfold t_ListSort_written
  walk_at "rd"
  rename_i u hu
  refine s_join hu hh.sub (by omega) (by decide) (by omega) ?_
  refine v_addT (by omega) ?_
  walk_at "rd"
  exact q F H (Same.refl _) hh
theorem w_field (T : Tx K mg) {f : Fd} (hx : At K F (dFl f) x) (hh : HH F H M) (hf : f.fine = true) (q : ∀ F' H', Same F F' → HH F' H' M → Q (svv (wFd f)) H') : sp_Field_written K [x] H Q E := by
  obtain ⟨name, so, need, tok, tgs⟩ := f
  unfold Fd.fine at hf
  rw [Bool.and_eq_true, decide_eq_true_iff] at hf
  obtain ⟨h1, h2⟩ := hf
  have h1 : name.length ≤ 20 := h1
  have h2 : so.fine = true := h2
  have h3 := wSo_len h2
  have e1 : q_x3a_.length = 2 := rfl
  have e2 : q__not_null.length = 9 := rfl
  have e3 : q_x3b.length = 1 := rfl
  have s0 := hh.sub
  change At K F (o_Field (.t name) (dSo so) (.b need)) x at hx
  refine ⟨rfl, ?_⟩
  unfold t_Field_written
  walk_at "rd"
  refine v_addT (by omega) ?_
  -- behind the shape
  have hend : ∀ F1 H1, Same F F1 → HH F1 H1 M → rAddX K (.str ⟨(name ++ q_x3a_).toArray⟩) (svv (wSo so)) H1 (fun v H2 => (C8.tCut (tIfS (tTru K (tFld K (tVar 0) ("needed" : Str))) (tAsg (tOp (rAddX K) (tVar 1) (tC (.str ⟨q__not_null.toArray⟩))) (gName 1)) tNext) (tRet (tOp (rAddX K) (tVar 1) (tC (.str ⟨q_x3b.toArray⟩))))) ⟨fun _ H' => Q .non H', Q, fun _ _ => False, fun _ _ => False⟩ [some x, some v] H2) := by
    intro F1 H1 s1 hh
    have sx := s1.trans hh.sub
    refine v_addT (by rw [List.length_append]; omega) ?_
    refine g_thr ?_
    walk_at "rd"
    cases need with
    | true =>
      walk_at "rd"
      refine v_addT (by rw [List.length_append, List.length_append]; omega) ?_
      walk_at "rd"
      refine v_addT (by simp only [List.length_append]; omega) ?_
      walk_at "rd"
      exact q F1 H1 s1 hh
    | false =>
      walk_at "rd"
      refine v_addT (by simp only [List.length_append]; omega) ?_
      walk_at "rd"
      exact q F1 H1 s1 hh
  cases so with
  | int a b =>
    unfold dSo at hx
    refine g_orL (g_orL (g_orL (g_orL ?_)))
    walk_at "rd"
    rename_i u hu
    refine s_meth hu hh.sub ["low", "high"] rfl (by decide +kernel) ?_
    walk_at "rd"
    exact w_int T hu hh h2 hend
  | text n w =>
    unfold dSo at hx
    refine g_orL (g_orL (g_orL (g_orR ?_)))
    walk_at "rd"
    rename_i u hu
    refine s_meth hu hh.sub ["longest", "without"] rfl (by decide +kernel) ?_
    walk_at "rd"
    exact w_text T hu hh h2 hend
  | choice cs =>
    unfold dSo at hx
    refine g_orL (g_orL (g_orR ?_))
    walk_at "rd"
    rename_i u hu
    refine s_meth hu hh.sub ["choices"] rfl (by decide +kernel) ?_
    walk_at "rd"
    exact w_choice T hu hh h2 hend
  | ref ks r =>
    unfold dSo at hx
    refine g_orL (g_orR ?_)
    walk_at "rd"
    rename_i u hu
    refine s_meth hu hh.sub ["kinds", "rule"] rfl (by decide +kernel) ?_
    walk_at "rd"
    exact w_ref T hu hh h2 hend
  | list ks =>
    unfold dSo at hx
    refine g_orR ?_
    walk_at "rd"
    rename_i u hu
    refine s_meth hu hh.sub ["kinds"] rfl (by decide +kernel) ?_
    walk_at "rd"
    exact w_list T hu hh h2 hend
end
end Lw

-- rd
namespace Lw
open PySem PySem.Spec PyProof.Rows L2 G
section
variable {K : PySem.W.Frag} {F F0 F1 F2 H H' : Hp} {Q : VK} {E : XK} {mg : Str → Option Value} {M : List (Addr × HO)} {x y : V} {o : HO} {d : Addr} {ds es : List D}
/-- a list that stands, and one that is being filled, one behind the other -/
theorem o_cat {l : Addr} {i : Nat} {us : List V} (hx : At K F0 (.lst ds) x) (hh : HH F H M) (s0 : Same F0 F) (hm : M[i]? = some (l, .lst us)) (t : AtA K F es us) (hl : ds.length + es.length ≤ 16777216)
    (q : ∀ F' H' u, Same F F' → HH F' H' M → At K F' (.lst (ds ++ es)) u → Q u H') : rAddX K x (.ref l) H Q := by
  obtain ⟨a, vs, rfl, h, t1⟩ := hx.lstR
  exact v_cat (hh.sub _ _ (s0 _ _ h)) (hh.get hm) (by rw [t1.len, t.len, sl16]; exact hl) fun p hp => q _ _ _ (hh.grow hp) (hh.newF hp) (At.mkL upd_same ((t1.mono (s0.trans (hh.grow hp))).app (t.mono (hh.grow hp))))
theorem kd_name (T : Tx K mg) {k : Kd} (hx : At K F0 (dKd k) x) (s : Same F0 H) (q : Q (svv k.name) H) : FldK K "name" x H Q := s_fld hx s T.cl_Kind T.no_Kind_name (lk1 rfl) fun w hw => by rw [At.v_.mp hw]; exact q
theorem kd_fields (T : Tx K mg) {k : Kd} (hx : At K F0 (dKd k) x) (s : Same F0 H) (q : ∀ w, At K F0 (.lst (k.fields.map dFl)) w → Q w H) : FldK K "fields" x H Q := s_fld hx s T.cl_Kind T.no_Kind_fields (lk2 (by decide +kernel) (lk1 rfl)) q
theorem kd_rows (T : Tx K mg) {k : Kd} (hx : At K F0 (dKd k) x) (s : Same F0 H) (q : ∀ w, At K F0 (.lst (k.keys.map dTs)) w → Q w H) : FldK K "key_rows" x H Q := s_fld hx s T.cl_Kind T.no_Kind_key_rows (lk2 (by decide +kernel) (lk2 (by decide +kernel) (lk1 rfl))) q
theorem w_kind (T : Tx K mg) {k : Kd} (hx : At K F (dKd k) x) (hh : HH F H M) (hf : k.fine = true) (q : ∀ F' H', Same F F' → HH F' H' M → Q (svv (wKd k)) H') : sp_Kind_written K [x] H Q E := by
  have Fn := Kd.fine_ok hf
  have hp := kdParts_len hf
  have hw := wKd_len hf
  have h1 := Fn.n
  have h2 := Fn.fl
  have h3 := Fn.kl
  refine ⟨rfl, ?_⟩
  unfold t_Kind_written
  walk_at "go"
  refine gi_list ?_
  walk_at "go"
  refine kd_fields T hx hh.sub fun u hu => ?_
  refine a_lcC (e := dFl) (f := D.t) hu hh (by omega) (fun f => some (wFd f)) (fun y w F' H' c' P N hy hw' sF hh' hP hN => ?_) fun F1 H1 p ws s1 hh hwl hws => ?_
  · walk_at "go"
    refine ⟨rfl, ?_⟩
    walk_at "go"
    refine s_meth hw' hh'.sub ["name", "shape", "needed"] rfl (by decide +kernel) ?_
    walk_at "go"
    exact w_field T hw' hh' (Fn.f y hy) fun F4 H4 s4 h4 => hP F4 H4 _ (wFd y) s4 h4 rfl At.of
  rw [List.filterMap_eq_map'] at hws
  walk_at "go"
  refine gi_list ?_
  walk_at "go"
  refine kd_rows T hx (s1.trans hh.sub) fun u2 hu2 => ?_
  refine a_forL (e := dTs) (xs := k.keys) (hu2.mono s1) hh (fun rest σ H' => ∃ (acc : List (List Nat)) (us : List V) (v2 v3 : Option V), acc ++ rest.map wKey = k.fields.map wFd ++ k.keys.map wKey ∧
      (∀ r ∈ rest, (decide (r.length ≤ 20) && r.all fun c => decide (c.length ≤ 20)) = true) ∧ σ = [some x, some (.ref p), v2, v3] ∧ HH F1 H' ((p, .lst us) :: M) ∧ AtA K F1 (acc.map D.t) us)
    (fun _ σ H' ⟨_, _, _, _, _, _, _, hh, _⟩ => hh.sub) ⟨k.fields.map wFd, ws, _, _, rfl, Fn.k, rfl, hh, hws⟩ ?_ ?_
  · clear hh hws
    rintro r rest w σ H' hr ⟨acc, us, v2, v3, he, hrs, rfl, hh, hus⟩
    have hr1 := hrs r (List.mem_cons_self ..)
    have hkl := wKey_len hr1
    rw [Bool.and_eq_true, decide_eq_true_iff] at hr1
    have hrl := hr1.1
    have hul : us.length = acc.length := by rw [hus.len, List.length_map]
    have hal : acc.length ≤ 20 := by
      have := congrArg List.length he
      simp only [List.length_append, List.length_map, List.length_cons] at this
      omega
    have hkl2 : q_key_.length + (sepL q_x2c_ r).length + q_x3b.length ≤ 500 := by
      unfold wKey at hkl
      simp only [List.length_append] at hkl
      omega
    walk_at "go"
    refine o_tyL (i := 0) hh rfl ?_
    walk_at "go"
    refine s_join hr hh.sub (by omega) (by decide) (by omega) ?_
    refine v_addT (by omega) ?_
    walk_at "go"
    refine v_addT (by rw [List.length_append]; omega) ?_
    walk_at "go"
    refine o_app0 hh (by omega) fun H7 hh => ?_
    refine ⟨acc ++ [wKey r], _, _, _, ?_, fun z hz => hrs z (List.mem_cons_of_mem _ hz), rfl, hh, AtA.snocM (e := D.t) hus At.of⟩
    rw [← he, List.map_cons, List.append_assoc]
    rfl
  · clear hh hws
    rintro σ H' ⟨acc, us, v2, v3, he, _, rfl, hh, hus⟩
    rw [List.map_nil, List.append_nil] at he
    subst he
    walk_at "go"
    refine kd_name T hx (s1.trans hh.sub) ?_
    have e1 : q_kind_.length = 5 := rfl
    have e2 : q__x7b.length = 2 := rfl
    refine v_addT (by omega) ?_
    walk_at "go"
    refine v_addT (by rw [List.length_append]; omega) ?_
    walk_at "go"
    refine s_lst (K := K) (ds := [q_kind_ ++ k.name ++ q__x7b].map D.t) hh (AtA.ofFlat (g := svv)) (by show 1 ≤ 1000; decide) fun F2 H2 u s2 hh hu => ?_
    walk_at "go"
    refine o_cat (i := 0) hu hh (Same.refl _) rfl (hus.mono s2) (by simp only [List.length_map, List.length_append, List.length_cons, List.length_nil]; omega) fun F3 H3 u3 s3 hh hu3 => ?_
    walk_at "go"
    refine s_lst (K := K) (ds := [q_x7d].map D.t) hh (AtA.ofFlat (g := svv)) (by show 1 ≤ 1000; decide) fun F4 H4 u4 s4 hh hu4 => ?_
    refine s_cat hu3 hu4 hh s4 (Same.refl _) (by simp only [List.length_map, List.length_append, List.length_cons, List.length_nil]; omega) fun F5 H5 u5 s5 hh hu5 => ?_
    rw [← List.map_append, ← List.map_append] at hu5
    have hu6 : At K F5 (.lst ((kdParts k).map D.t)) u5 := hu5
    refine s_join hu6 hh.sub (by omega) (by decide) (Nat.le_trans hw (by decide)) ?_
    walk_at "go"
    exact q F5 H5 (s1.trans (s2.trans (s3.trans (s4.trans s5)))) hh.drop
theorem wSc_len {ks : List Kd} (hl : ks.length ≤ 10) (h : ∀ k ∈ ks, k.fine = true) : (wSc ks).length ≤ 3000010 := by
  have h2 := sepL_len (m := q__) (xs := ks.map wKd) (map_len fun x hx => wKd_len (h x hx))
  rw [List.length_map] at h2
  have e1 : q__.length = 1 := rfl
  rw [e1] at h2
  have h3 : ks.length * (300000 + 1) ≤ 10 * (300000 + 1) := Nat.mul_le_mul_right _ hl
  show (sepL q__ (ks.map wKd)).length ≤ _
  omega
theorem w_schema (T : Tx K mg) {ks : List Kd} (hx : At K F (dSc ks) x) (hh : HH F H M) (hl : ks.length ≤ 10) (h : ∀ k ∈ ks, k.fine = true) (q : ∀ F' H', Same F F' → HH F' H' M → Q (svv (wSc ks)) H') : sp_write_schema K [x] H Q E := by
  have hw := wSc_len hl h
  have s0 := hh.sub
  refine ⟨rfl, ?_⟩
  unfold t_write_schema
  walk_at "go"
  refine s_meth hx hh.sub ["kinds"] rfl (by decide +kernel) ?_
  walk_at "go"
  refine ⟨rfl, ?_⟩
  unfold t_Schema_written
  walk_at "go"
  refine gi_list ?_
  walk_at "rd"
  rename_i u hu
  refine a_lcL (e := dKd) (f := D.t) hu hh (by rw [sl16]; omega) (fun f => some (wKd f)) (fun y w F' H' c' P N hy hw' sF hh' hP hN => ?_) fun F1 H1 u1 s1 hh hu1 => ?_
  · walk_at "go"
    refine ⟨rfl, ?_⟩
    walk_at "go"
    refine s_meth hw' hh'.sub ["name", "fields", "key_rows"] rfl (by decide +kernel) ?_
    walk_at "go"
    exact w_kind T hw' hh' (h y hy) fun F4 H4 s4 h4 => hP F4 H4 _ (wKd y) s4 h4 rfl At.of
  rw [List.filterMap_eq_map'] at hu1
  refine s_join hu1 hh.sub (by rw [List.length_map]; omega) (by decide) (Nat.le_trans hw (by decide)) ?_
  walk_at "go"
  exact q F1 H1 s1 hh
end
end Lw

-- rd
namespace Lw
open PySem PySem.Spec PyProof.Rows L2 G
/-! ### a text that is written from tokens and blanks is read as these tokens -/
inductive It where
  | word (t : List Nat)
  | num (t : List Nat)
  | sig (t : List Nat)
  | txt (t : List Nat)
def esc (c : Nat) : List Nat := if c = 34 ∨ c = 92 then [92, c] else [c]
def qt (zs : List Nat) : List Nat := 34 :: (zs.flatMap esc ++ [34])
def It.role : It → List Nat
  | .word _ => q_word
  | .num _ => q_number
  | .sig _ => q_sign
  | .txt _ => q_text
def It.val : It → List Nat
  | .word t => t
  | .num t => t
  | .sig t => t
  | .txt t => t
def It.raw : It → List Nat
  | .word t => t
  | .num t => t
  | .sig t => t
  | .txt t => qt t
/-- what may follow it at once, and what it is itself -/
def It.fits (sg : List (List Nat)) (rest : List Nat) : It → Prop
  | .word t => (∃ c r, t = c :: r ∧ isL c = true) ∧ t.all isW = true ∧ t.length ≤ 12 ∧ cwl isW rest = 0
  | .num t => (∃ c r, t = c :: r ∧ isD c = true ∧ (c = 48 → r = [])) ∧ t.all isD = true ∧ t.length ≤ 18 ∧ cwl isW rest = 0
  | .sig t => (∃ c r, t = c :: r ∧ isL c = false ∧ isD c = false ∧ c ≠ 34 ∧ c ≠ 32) ∧ sg.foldl (stepS (t ++ rest)) [] = t
  | .txt _ => True
/-- so many signs from here on are read as these tokens -/
inductive Lexes (sg : List (List Nat)) : List Nat → Nat → List Tk → Prop where
  | nil {p : Nat} : Lexes sg [] p [⟨q_end, [], p⟩]
  | blank {r : List Nat} {p : Nat} {ts : List Tk} (h : Lexes sg r (p + 1) ts) : Lexes sg (32 :: r) p ts
  | tok {c : Nat} {r role t : List Nat} {n p : Nat} {ts : List Tk} (hc : c ≠ 32) (hx : lx sg c r = .tok role t n) (hn : 1 ≤ n) (h : Lexes sg ((c :: r).drop n) (p + n) ts) : Lexes sg (c :: r) p (⟨role, t, p⟩ :: ts)
theorem Lexes.run {sg : List (List Nat)} {l : List Nat} {p : Nat} {ts : List Tk} (h : Lexes sg l p ts) : ∀ (m : Nat) (acc : List Tk), l.length < m → toksL sg m l p acc = .ok (acc ++ ts) := by
  induction h with
  | nil =>
    intro m acc hm
    cases m with
    | zero => exact absurd hm (Nat.not_lt_zero _)
    | succ m => rfl
  | blank h ih =>
    intro m acc hm
    rw [List.length_cons] at hm
    cases m with
    | zero => exact absurd hm (Nat.not_lt_zero _)
    | succ m =>
      rw [toksL, if_pos rfl]
      exact ih m acc (by omega)
  | @tok c r role t n p ts hc hx hn h ih =>
    intro m acc hm
    rw [List.length_cons] at hm
    cases m with
    | zero => exact absurd hm (Nat.not_lt_zero _)
    | succ m =>
      rw [toksL, if_neg hc, hx]
      show toksL sg m ((c :: r).drop n) (p + n) (acc ++ [⟨role, t, p⟩]) = _
      rw [ih m _ (by rw [List.length_drop, List.length_cons]; omega), List.append_assoc]
      rfl
theorem Lexes.toks {sg : List (List Nat)} {l : List Nat} {n : Nat} {ts : List Tk} (h : Lexes sg l 0 ts) (hn : l.length ≤ n) : toks sg n l = .ok ts := by
  unfold Lw.toks
  rw [if_neg (by omega), h.run _ _ (Nat.lt_succ_self _)]
  rfl
theorem Lexes.blanks {sg : List (List Nat)} {r : List Nat} {ts : List Tk} : ∀ {n p : Nat}, Lexes sg r (p + n) ts → Lexes sg (List.replicate n 32 ++ r) p ts
  | 0, p, h => h
  | n + 1, p, h => by
    rw [List.replicate_succ, List.cons_append]
    exact .blank (Lexes.blanks (by rw [Nat.add_assoc, Nat.add_comm 1 n]; exact h))
theorem cwl_app {f : Nat → Bool} {t rest : List Nat} (h : t.all f = true) (hr : cwl f rest = 0) : cwl f (t ++ rest) = t.length := by
  induction t with
  | nil => exact hr
  | cons c t ih =>
    rw [List.all_cons, Bool.and_eq_true] at h
    rw [List.cons_append, cwl_cons, if_pos h.1, ih h.2, List.length_cons]
    omega
theorem cwl_sub {rest : List Nat} (h : cwl isW rest = 0) : cwl isD rest = 0 := by
  cases rest with
  | nil => rfl
  | cons c r =>
    rw [cwl_cons] at h ⊢
    by_cases e : isD c = true
    · rw [if_pos (by unfold isW; rw [e, Bool.true_or, Bool.or_true])] at h
      omega
    · rw [if_neg e]
theorem rq_esc (zs post : List Nat) : rq (zs.flatMap esc ++ 34 :: post) = .ok zs ((zs.flatMap esc).length + 1) := by
  induction zs with
  | nil => cases post <;> simp [rq]
  | cons c zs ih =>
    rw [List.flatMap_cons]
    by_cases h : c = 34 ∨ c = 92
    · have e : esc c = [92, c] := if_pos h
      rw [e]
      show rq (92 :: c :: (zs.flatMap esc ++ 34 :: post)) = _
      rw [rq, if_neg (by decide), if_pos rfl, if_pos h, ih]
      simp [Rq.more]
    · have e : esc c = [c] := if_neg h
      rw [e]
      have h1 : c ≠ 34 := fun z => h (.inl z)
      have h2 : c ≠ 92 := fun z => h (.inr z)
      have : ∀ l : List Nat, l ≠ [] → rq (c :: l) = (rq l).more c 1 := by
        intro l hl
        cases l with
        | nil => exact absurd rfl hl
        | cons d r => rw [rq, if_neg h1, if_neg h2]
      show rq (c :: (zs.flatMap esc ++ 34 :: post)) = _
      rw [this _ (by simp), ih]
      simp [Rq.more]
theorem isL_ne {c : Nat} (h : isL c = true) : c ≠ 32 ∧ c ≠ 34 := by
  constructor <;> (intro e; rw [e] at h; cases h)
theorem isD_ne {c : Nat} (h : isD c = true) : c ≠ 32 ∧ c ≠ 34 ∧ isL c = false := by
  refine ⟨fun e => (by rw [e] at h; cases h), fun e => (by rw [e] at h; cases h), ?_⟩
  unfold isD at h
  rw [Bool.and_eq_true, decide_eq_true_iff, decide_eq_true_iff] at h
  unfold isL
  have e1 : decide (97 ≤ c) = false := decide_eq_false (by omega)
  have e2 : decide (65 ≤ c) = false := decide_eq_false (by omega)
  rw [e1, e2]
  rfl
theorem Lexes.item {sg : List (List Nat)} {x : It} {rest : List Nat} {p : Nat} {ts : List Tk} (hf : x.fits sg rest) (h : Lexes sg rest (p + x.raw.length) ts) : Lexes sg (x.raw ++ rest) p (⟨x.role, x.val, p⟩ :: ts) := by
  cases x with
  | word t =>
    obtain ⟨⟨c, r, rfl, hL⟩, hw, hl, hr⟩ := hf
    have e := cwl_app hw hr
    refine .tok (n := (c :: r).length) (isL_ne hL).1 ?_ (by rw [List.length_cons]; omega) ?_
    · show lx sg c (r ++ rest) = _
      unfold lx lxW
      rw [if_pos hL]
      have e' : cwl isW (c :: (r ++ rest)) = (c :: r).length := e
      have e2 : (c :: (r ++ rest)).take (c :: r).length = c :: r := List.take_left (l₁ := c :: r) (l₂ := rest)
      simp only [e', e2]
      rw [if_neg (by omega)]
      rfl
    · show Lexes sg (((c :: r) ++ rest).drop _) _ _
      rw [List.drop_left]
      exact h
  | num t =>
    obtain ⟨⟨c, r, rfl, hD, h0⟩, hw, hl, hr⟩ := hf
    have e := cwl_app hw (cwl_sub hr)
    obtain ⟨n1, n2, n3⟩ := isD_ne hD
    refine .tok (n := (c :: r).length) n1 ?_ (by rw [List.length_cons]; omega) ?_
    · show lx sg c (r ++ rest) = _
      unfold lx lxN
      rw [if_neg (by rw [n3]; decide), if_pos hD]
      have e' : cwl isD (c :: (r ++ rest)) = (c :: r).length := e
      have e2 : (c :: (r ++ rest)).take (c :: r).length = c :: r := List.take_left (l₁ := c :: r) (l₂ := rest)
      have e3 : (c :: (r ++ rest)).drop (c :: r).length = rest := List.drop_left (l₁ := c :: r) (l₂ := rest)
      simp only [e', e2, e3, hr]
      rw [if_neg (fun z => by have := h0 z.2; rw [this] at z; exact Nat.lt_irrefl _ z.1), if_neg (by omega), if_neg (by omega)]
      rfl
    · show Lexes sg (((c :: r) ++ rest).drop _) _ _
      rw [List.drop_left]
      exact h
  | sig t =>
    obtain ⟨⟨c, r, rfl, hL, hD, h34, h32⟩, hs⟩ := hf
    refine .tok (n := (c :: r).length) h32 ?_ (by rw [List.length_cons]; omega) ?_
    · show lx sg c (r ++ rest) = _
      unfold lx lxS
      rw [if_neg (by rw [hL]; decide), if_neg (by rw [hD]; decide), if_neg h34]
      have hs' : sg.foldl (stepS (c :: (r ++ rest))) [] = c :: r := hs
      simp only [hs']
      rw [if_neg (fun z => nomatch z)]
      rfl
    · show Lexes sg (((c :: r) ++ rest).drop _) _ _
      rw [List.drop_left]
      exact h
  | txt t =>
    have e : (It.txt t).raw ++ rest = 34 :: (t.flatMap esc ++ 34 :: rest) := by
      show (34 :: (t.flatMap esc ++ [34])) ++ rest = _
      simp
    have hlen : (It.txt t).raw.length = (t.flatMap esc).length + 2 := by
      show (34 :: (t.flatMap esc ++ [34])).length = _
      simp
    rw [e]
    refine .tok (n := (t.flatMap esc).length + 2) (by decide) ?_ (by omega) ?_
    · unfold lx lxQ
      rw [if_neg (by decide), if_neg (by decide), if_pos rfl, rq_esc]
      rfl
    · have e2 : (34 :: (t.flatMap esc ++ 34 :: rest)).drop ((t.flatMap esc).length + 2) = rest := by
        rw [← e, ← hlen, List.drop_left]
      rw [e2, ← hlen]
      exact h
/-- items with the blanks ahead of each; blanks behind the last -/
def textI (b : Nat) : List (Nat × It) → List Nat
  | [] => List.replicate b 32
  | x :: r => List.replicate x.1 32 ++ (x.2.raw ++ textI b r)
def tksI (b : Nat) : Nat → List (Nat × It) → List Tk
  | p, [] => [⟨q_end, [], p + b⟩]
  | p, x :: r => ⟨x.2.role, x.2.val, p + x.1⟩ :: tksI b (p + x.1 + x.2.raw.length) r
def fitsI (sg : List (List Nat)) (b : Nat) : List (Nat × It) → Prop
  | [] => True
  | x :: r => x.2.fits sg (textI b r) ∧ fitsI sg b r
theorem lexI {sg : List (List Nat)} {b : Nat} : ∀ {l : List (Nat × It)} {p : Nat}, fitsI sg b l → Lexes sg (textI b l) p (tksI b p l)
  | [], p, _ => by
    have h : Lexes sg (List.replicate b 32 ++ []) p [⟨q_end, [], p + b⟩] := Lexes.blanks .nil
    rw [List.append_nil] at h
    exact h
  | x :: r, p, hf => Lexes.blanks (Lexes.item hf.1 (lexI hf.2))
end Lw

-- rd
namespace Lw
open PySem PySem.Spec PyProof.Rows L2 G
/-! ### items as tokens at places; what the parser finds in written items -/
def tkP (pl : Nat → Nat) : Nat → List It → List Tk
  | i, [] => [⟨q_end, [], pl i⟩]
  | i, x :: r => ⟨x.role, x.val, pl i⟩ :: tkP pl (i + 1) r
section
variable {pl : Nat → Nat} {i : Nat} {r : List It} {z t : List Nat} {res : List (List Nat)} {x : It}
theorem tkP_ne : tkP pl i r ≠ [] := by cases r <;> exact fun h => nomatch h
theorem tkP_len : ∀ {r : List It} {i : Nat}, (tkP pl i r).length = r.length + 1
  | [], _ => rfl
  | x :: r, i => by rw [tkP, List.length_cons, tkP_len, List.length_cons]
theorem stepR_P : stepR (tkP pl i (x :: r)) = tkP pl (i + 1) r := by
  rw [tkP]
  cases h : tkP pl (i + 1) r with
  | nil => exact absurd h tkP_ne
  | cons a b => rfl
theorem nowT_P : nowT (tkP pl i (x :: r)) = ⟨x.role, x.val, pl i⟩ := rfl
theorem takeT_P : takeT (tkP pl i (x :: r)) = .ok (⟨x.role, x.val, pl i⟩, tkP pl (i + 1) r) := by
  unfold takeT
  rw [stepR_P]
  rfl
theorem isSign_s : isSign z (tkP pl i (.sig t :: r)) = decide (t = z) := by
  show (decide (q_sign = q_sign) && decide (t = z)) = _
  rw [decide_eq_true rfl, Bool.true_and]
theorem isSign_w : isSign z (tkP pl i (.word t :: r)) = false := by
  show (decide (q_word = q_sign) && decide (t = z)) = _
  rw [show decide (q_word = q_sign) = false from by decide, Bool.false_and]
theorem isSign_n : isSign z (tkP pl i (.num t :: r)) = false := by
  show (decide (q_number = q_sign) && decide (t = z)) = _
  rw [show decide (q_number = q_sign) = false from by decide, Bool.false_and]
theorem isSign_t : isSign z (tkP pl i (.txt t :: r)) = false := by
  show (decide (q_text = q_sign) && decide (t = z)) = _
  rw [show decide (q_text = q_sign) = false from by decide, Bool.false_and]
theorem isWord_w : isWord z (tkP pl i (.word t :: r)) = decide (t = z) := by
  show (decide (q_word = q_word) && decide (t = z)) = _
  rw [decide_eq_true rfl, Bool.true_and]
theorem isWord_s : isWord z (tkP pl i (.sig t :: r)) = false := by
  show (decide (q_sign = q_word) && decide (t = z)) = _
  rw [show decide (q_sign = q_word) = false from by decide, Bool.false_and]
theorem takeSign_P : takeSign z (tkP pl i (.sig z :: r)) = .ok (⟨q_sign, z, pl i⟩, tkP pl (i + 1) r) := by
  unfold takeSign
  rw [isSign_s, if_pos (decide_eq_true rfl), takeT_P]
  rfl
theorem takeWord_P : takeWord z (tkP pl i (.word z :: r)) = .ok (⟨q_word, z, pl i⟩, tkP pl (i + 1) r) := by
  unfold takeWord
  rw [isWord_w, if_pos (decide_eq_true rfl), takeT_P]
  rfl
theorem takeNumber_P : takeNumber (tkP pl i (.num z :: r)) = .ok (⟨q_number, z, pl i⟩, tkP pl (i + 1) r) := by
  unfold takeNumber
  rw [if_pos (show (nowT (tkP pl i (.num z :: r))).r = q_number from rfl), takeT_P]
  rfl
theorem takeText_P : takeText (tkP pl i (.txt z :: r)) = .ok (⟨q_text, z, pl i⟩, tkP pl (i + 1) r) := by
  unfold takeText
  rw [if_pos (show (nowT (tkP pl i (.txt z :: r))).r = q_text from rfl), takeT_P]
  rfl
/-- a name of a kind; of a field -/
def Big (res : List (List Nat)) (t : List Nat) : Prop := res.contains t = false ∧ great t = true
def Low (res : List (List Nat)) (t : List Nat) : Prop := res.contains t = false ∧ great t = false
theorem isName_P (h : res.contains t = false) : isName res (tkP pl i (.word t :: r)) = true := by
  show (decide (q_word = q_word) && !res.contains t) = _
  rw [h, decide_eq_true rfl]
  rfl
theorem takeKind_P (h : Big res t) : takeKind res (tkP pl i (.word t :: r)) = .ok (⟨q_word, t, pl i⟩, tkP pl (i + 1) r) := by
  unfold takeKind
  rw [isName_P h.1, if_pos rfl, if_pos (show great (nowT (tkP pl i (.word t :: r))).t = true from h.2), takeT_P]
  rfl
theorem takeField_P (h : Low res t) : takeField res (tkP pl i (.word t :: r)) = .ok (⟨q_word, t, pl i⟩, tkP pl (i + 1) r) := by
  unfold takeField
  rw [isName_P h.1, if_pos rfl, if_neg (show ¬great (nowT (tkP pl i (.word t :: r))).t = true from fun e => by rw [show great (nowT (tkP pl i (.word t :: r))).t = great t from rfl, h.2] at e; cases e), takeT_P]
  rfl
def intIt : Bool → List Nat → List It
  | true, a => [.sig q_x2d, .num a]
  | false, a => [.num a]
def intV : Bool → List Nat → Int
  | true, a => -(numT a : Int)
  | false, a => (numT a : Int)
theorem takeInteger_P {n : Bool} : takeInteger (tkP pl i (intIt n z ++ r)) = .ok (intV n z, tkP pl (i + (intIt n z).length) r) := by
  cases n with
  | true =>
    show takeInteger (tkP pl i (.sig q_x2d :: .num z :: r)) = _
    unfold takeInteger
    rw [isSign_s, if_pos (decide_eq_true rfl), stepR_P, takeNumber_P]
    rfl
  | false =>
    show takeInteger (tkP pl i (.num z :: r)) = _
    unfold takeInteger
    rw [isSign_n, if_neg (by decide), takeNumber_P]
    rfl
/-- what stands behind a sort -/
def Stop (r : List It) : Prop := ∃ r', r = .sig q_x3b :: r' ∨ r = .word q_not :: r'
theorem Stop.word (h : Stop r) (hz : q_not ≠ z) : isWord z (tkP pl i r) = false := by
  obtain ⟨r', rfl | rfl⟩ := h
  · exact isWord_s
  · rw [isWord_w, decide_eq_false hz]
theorem Stop.sign (h : Stop r) (hz : q_x3b ≠ z) : isSign z (tkP pl i r) = false := by
  obtain ⟨r', rfl | rfl⟩ := h
  · rw [isSign_s, decide_eq_false hz]
  · exact isSign_w
/-! ### sorts as they are written -/
inductive Sx where
  | int (n1 : Bool) (a : List Nat) (n2 : Bool) (b : List Nat)
  | text (a : List Nat) (w : Option (List Nat))
  | choice (c : List Nat) (cs : List (List Nat))
  | ref (k : List Nat) (ks : List (List Nat)) (rule : List Nat)
  | list (k : List Nat) (ks : List (List Nat))
def Sx.so : Sx → So
  | .int n1 a n2 b => .int (intV n1 a) (intV n2 b)
  | .text a w => .text (numT a) w
  | .choice c cs => .choice (c :: cs)
  | .ref k ks rule => .ref (k :: ks) rule
  | .list k ks => .list (k :: ks)
def orIt (ks : List (List Nat)) : List It := ks.flatMap fun k => [.word q_or, .word k]
def comT (cs : List (List Nat)) : List It := cs.flatMap fun k => [.sig q_x2c, .txt k]
def comW (cs : List (List Nat)) : List It := cs.flatMap fun k => [.sig q_x2c, .word k]
def ruleIt (rule : List Nat) : List It := if rule = q_clears then [] else [.word rule]
def woIt : Option (List Nat) → List It
  | none => []
  | some z => [.word q_without, .txt z]
def Sx.its : Sx → List It
  | .int n1 a n2 b => .word q_int :: (intIt n1 a ++ .sig q_x2ex2e :: intIt n2 b)
  | .text a w => .word q_text :: .num a :: woIt w
  | .choice c cs => .word q_one :: .word q_of :: .txt c :: comT cs
  | .ref k ks rule => .word q_ref :: .word k :: (orIt ks ++ ruleIt rule)
  | .list k ks => .word q_list :: .word k :: orIt ks
/-- every second token from here on -/
def evTk (pl : Nat → Nat) : Nat → List (List Nat) → List Tk
  | _, [] => []
  | i, k :: ks => ⟨q_word, k, pl (i + 1)⟩ :: evTk pl (i + 2) ks
theorem evTk_t : ∀ {ks : List (List Nat)} {i : Nat}, (evTk pl i ks).map (fun k => k.t) = ks
  | [], _ => rfl
  | k :: ks, i => by rw [evTk, List.map_cons, evTk_t]
def Sx.tgs (pl : Nat → Nat) (i : Nat) : Sx → List Tk
  | .ref k ks _ => evTk pl i (k :: ks)
  | .list k ks => evTk pl i (k :: ks)
  | _ => []
def Sx.Ok (res : List (List Nat)) : Sx → Prop
  | .int n1 a n2 b => ¬(intV n2 b < intV n1 a ∨ intV n1 a < -1000000000 ∨ 1000000000 < intV n2 b)
  | .text a w => ¬(numT a < 1 ∨ 40 < numT a) ∧ ∀ z ∈ w, z.length = 1
  | .choice c cs => (∀ z ∈ c :: cs, z.length ≤ 40) ∧ (c :: cs).Nodup ∧ cs.length < 8
  | .ref k ks rule => (∀ z ∈ k :: ks, Big res z) ∧ (k :: ks).Nodup ∧ rule ∈ [q_clears, q_refuses, q_takes]
  | .list k ks => (∀ z ∈ k :: ks, Big res z) ∧ (k :: ks).Nodup
theorem bind_ok {α β : Type} {x : α} {k : α → Rs β} : (Rs.ok x).bind k = k x := rfl
theorem readInt_P {n1 n2 : Bool} {a b : List Nat} (h : (Sx.int n1 a n2 b).Ok res) : readInt (tkP pl i (intIt n1 a ++ .sig q_x2ex2e :: (intIt n2 b ++ r))) = .ok (.int (intV n1 a) (intV n2 b), tkP pl (i + (intIt n1 a).length + 1 + (intIt n2 b).length) r) := by
  unfold readInt
  rw [takeInteger_P, bind_ok, takeSign_P, bind_ok, takeInteger_P, bind_ok, if_neg h]
theorem readText_P {a : List Nat} {w : Option (List Nat)} (h : (Sx.text a w).Ok res) (hs : Stop r) : readTextSort (tkP pl i (.num a :: (woIt w ++ r))) = .ok (.text (numT a) w, tkP pl (i + 1 + (woIt w).length) r) := by
  unfold readTextSort
  rw [takeNumber_P, bind_ok, if_neg h.1]
  cases w with
  | none =>
    rw [if_neg (by rw [show woIt none ++ r = r from rfl, hs.word (by decide)]; decide)]
    rfl
  | some z =>
    rw [if_pos (by rw [show woIt (some z) ++ r = .word q_without :: .txt z :: r from rfl, isWord_w]; decide)]
    rw [show woIt (some z) ++ r = .word q_without :: .txt z :: r from rfl, takeT_P, bind_ok, takeText_P, bind_ok, if_pos (h.2 z rfl)]
    rfl
theorem choicesL_P (hs : Stop r) : ∀ {cs : List (List Nat)} {c : List Nat} {m i : Nat} {acc : List (List Nat)}, cs.length < m → (∀ z ∈ c :: cs, z.length ≤ 40) → (acc ++ c :: cs).Nodup → acc.length + cs.length < 8 →
    choicesL m acc (tkP pl i (.txt c :: (comT cs ++ r))) = .ok (.choice (acc ++ c :: cs), tkP pl (i + 1 + (comT cs).length) r)
  | cs, c, 0, _, _, h, _, _, _ => absurd h (Nat.not_lt_zero _)
  | cs, c, m + 1, i, acc, hm, hl, hn, h8 => by
    have nc : c ∉ acc := fun hc => by
      rw [List.nodup_append] at hn
      exact hn.2.2 c hc c (List.mem_cons_self ..) rfl
    rw [choicesL, takeText_P, bind_ok, if_neg (by have := hl c (List.mem_cons_self ..); exact Nat.not_lt.mpr this), if_neg (by rw [List.contains_iff_mem]; exact nc), if_neg (by omega)]
    cases cs with
    | nil =>
      rw [if_neg (by rw [show comT [] ++ r = r from rfl, hs.sign (by decide)]; decide)]
      rfl
    | cons d cs =>
      have e : comT (d :: cs) ++ r = .sig q_x2c :: .txt d :: (comT cs ++ r) := rfl
      rw [e, if_pos (by rw [isSign_s]; exact decide_eq_true rfl), takeT_P, bind_ok, choicesL_P hs (by rw [List.length_cons] at hm; omega) (fun z hz => hl z (List.mem_cons_of_mem _ hz)) (by rw [List.append_assoc]; exact hn) (by rw [List.length_append, List.length_cons] at *; simp at h8 ⊢; omega)]
      rw [List.append_assoc]
      show _ = Rs.ok (_, tkP pl (i + 1 + ((comT cs).length + 1 + 1)) r)
      rw [show i + 1 + ((comT cs).length + 1 + 1) = i + 1 + 1 + 1 + (comT cs).length by omega]
      rfl
theorem comT_len : ∀ {ks : List (List Nat)}, (comT ks).length = 2 * ks.length
  | [] => rfl
  | k :: ks => by show (comT ks).length + 1 + 1 = _; rw [comT_len, List.length_cons]; omega
theorem comW_len : ∀ {ks : List (List Nat)}, (comW ks).length = 2 * ks.length
  | [] => rfl
  | k :: ks => by show (comW ks).length + 1 + 1 = _; rw [comW_len, List.length_cons]; omega
theorem readChoices_P {c : List Nat} {cs : List (List Nat)} (h : (Sx.choice c cs).Ok res) (hs : Stop r) : readChoices (tkP pl i (.word q_of :: .txt c :: (comT cs ++ r))) = .ok (.choice (c :: cs), tkP pl (i + 2 + (comT cs).length) r) := by
  unfold readChoices
  rw [takeWord_P, bind_ok, choicesL_P hs (by rw [tkP_len, List.length_cons, List.length_cons, List.length_append, comT_len]; omega) h.1 h.2.1 (by rw [List.length_nil]; have := h.2.2; omega)]
  rfl
theorem orIt_len : ∀ {ks : List (List Nat)}, (orIt ks).length = 2 * ks.length
  | [] => rfl
  | k :: ks => by show (orIt ks).length + 1 + 1 = _; rw [orIt_len, List.length_cons]; omega
theorem targetsL_P (hs : ∀ j, isWord q_or (tkP pl j r) = false) : ∀ {ks : List (List Nat)} {m i : Nat} {acc : List Tk}, ks.length < m → (∀ z ∈ ks, Big res z) → (acc.map (·.t) ++ ks).Nodup →
    targetsL res m acc (tkP pl i (orIt ks ++ r)) = .ok (acc ++ evTk pl i ks, tkP pl (i + (orIt ks).length) r)
  | _, 0, _, _, h, _, _ => absurd h (Nat.not_lt_zero _)
  | [], m + 1, i, acc, _, _, _ => by
    rw [targetsL, if_neg (by rw [show orIt [] ++ r = r from rfl, hs]; decide)]
    show _ = Rs.ok (acc ++ [], _)
    rw [List.append_nil]
    rfl
  | k :: ks, m + 1, i, acc, hm, hb, hn => by
    have nc : k ∉ acc.map (·.t) := fun hc => by
      rw [List.nodup_append] at hn
      exact hn.2.2 k hc k (List.mem_cons_self ..) rfl
    have e : orIt (k :: ks) ++ r = .word q_or :: .word k :: (orIt ks ++ r) := rfl
    rw [targetsL, e, if_pos (by rw [isWord_w]; exact decide_eq_true rfl), takeT_P, bind_ok, takeKind_P (hb k (List.mem_cons_self ..)), bind_ok, if_neg (by rw [List.contains_iff_mem]; exact nc)]
    rw [targetsL_P hs (by rw [List.length_cons] at hm; omega) (fun z hz => hb z (List.mem_cons_of_mem _ hz)) (by rw [List.map_append, List.append_assoc]; exact hn)]
    rw [List.append_assoc, orIt_len, orIt_len, List.length_cons]
    show Rs.ok (acc ++ evTk pl i (k :: ks), _) = _
    rw [show i + 1 + 1 + 2 * ks.length = i + 2 * (ks.length + 1) by omega]
theorem readTargets_P {k : List Nat} {ks : List (List Nat)} (hs : ∀ j, isWord q_or (tkP pl j r) = false) (hb : ∀ z ∈ k :: ks, Big res z) (hn : (k :: ks).Nodup) : readTargets res (tkP pl (i + 1) (.word k :: (orIt ks ++ r))) = .ok (evTk pl i (k :: ks), tkP pl (i + 2 + (orIt ks).length) r) := by
  unfold readTargets
  rw [takeKind_P (hb k (List.mem_cons_self ..)), bind_ok, targetsL_P (acc := [⟨q_word, k, pl (i + 1)⟩]) hs (by rw [tkP_len, List.length_cons, List.length_append, orIt_len]; omega) (fun z hz => hb z (List.mem_cons_of_mem _ hz)) hn]
  rfl
theorem ruleL_P {rule : List Nat} (h : rule ∈ [q_clears, q_refuses, q_takes]) (hs : Stop r) : ruleL [q_clears, q_refuses, q_takes] (tkP pl i (ruleIt rule ++ r)) = (rule, tkP pl (i + (ruleIt rule).length) r) := by
  have h3 : rule = q_clears ∨ rule = q_refuses ∨ rule = q_takes := by
    rw [List.mem_cons, List.mem_cons, List.mem_cons] at h
    rcases h with h | h | h | h
    · exact .inl h
    · exact .inr (.inl h)
    · exact .inr (.inr h)
    · cases h
  rcases h3 with rfl | rfl | rfl
  · have e : ruleIt q_clears = [] := if_pos rfl
    rw [e, List.nil_append, ruleL, if_neg (by rw [hs.word (by decide)]; decide), ruleL, if_neg (by rw [hs.word (by decide)]; decide), ruleL, if_neg (by rw [hs.word (by decide)]; decide)]
    rfl
  · have e : ruleIt q_refuses ++ r = .word q_refuses :: r := by rw [show ruleIt q_refuses = [.word q_refuses] from if_neg (by decide)]; rfl
    rw [e, ruleL, if_neg (by rw [isWord_w]; decide), ruleL, if_pos (by rw [isWord_w]; decide), stepR_P]
    rfl
  · have e : ruleIt q_takes ++ r = .word q_takes :: r := by rw [show ruleIt q_takes = [.word q_takes] from if_neg (by decide)]; rfl
    rw [e, ruleL, if_neg (by rw [isWord_w]; decide), ruleL, if_neg (by rw [isWord_w]; decide), ruleL, if_pos (by rw [isWord_w]; decide), stepR_P]
    rfl
theorem noOr_rule {rule : List Nat} (h : rule ∈ [q_clears, q_refuses, q_takes]) (hs : Stop r) (j : Nat) : isWord q_or (tkP pl j (ruleIt rule ++ r)) = false := by
  by_cases e : rule = q_clears
  · rw [show ruleIt rule = [] from if_pos e]
    exact hs.word (by decide)
  · rw [show ruleIt rule = [.word rule] from if_neg e]
    show isWord q_or (tkP pl j (.word rule :: r)) = false
    rw [isWord_w, decide_eq_false]
    intro z
    subst z
    revert h
    decide
theorem eqP {α : Type} {x : α} {a b : Nat} (h : a = b) : Rs.ok (x, tkP pl a r) = Rs.ok (x, tkP pl b r) := by rw [h]
theorem readSort_P {x : Sx} (h : x.Ok res) (hs : Stop r) : readSort res (tkP pl i (x.its ++ r)) = .ok ((x.so, x.tgs pl i), tkP pl (i + x.its.length) r) := by
  unfold readSort
  cases x with
  | int n1 a n2 b =>
    have e : (Sx.int n1 a n2 b).its ++ r = .word q_int :: (intIt n1 a ++ .sig q_x2ex2e :: (intIt n2 b ++ r)) := by simp [Sx.its]
    rw [e, sortL, if_pos (by rw [isWord_w]; decide), takeT_P, bind_ok]
    unfold sortBody
    rw [if_pos rfl, readInt_P h, bind_ok]
    exact eqP (by simp [Sx.its]; omega)
  | text a w =>
    have e : (Sx.text a w).its ++ r = .word q_text :: .num a :: (woIt w ++ r) := by simp [Sx.its]
    rw [e, sortL, if_neg (by rw [isWord_w]; decide), sortL, if_pos (by rw [isWord_w]; decide), takeT_P, bind_ok]
    unfold sortBody
    rw [if_neg (by decide), if_pos rfl, readText_P h hs, bind_ok]
    exact eqP (by simp [Sx.its]; omega)
  | choice c cs =>
    have e : (Sx.choice c cs).its ++ r = .word q_one :: .word q_of :: .txt c :: (comT cs ++ r) := by simp [Sx.its]
    rw [e, sortL, if_neg (by rw [isWord_w]; decide), sortL, if_neg (by rw [isWord_w]; decide), sortL, if_pos (by rw [isWord_w]; decide), takeT_P, bind_ok]
    unfold sortBody
    rw [if_neg (by decide), if_neg (by decide), if_pos rfl, readChoices_P h hs, bind_ok]
    exact eqP (by simp [Sx.its]; omega)
  | ref k ks rule =>
    have e : (Sx.ref k ks rule).its ++ r = .word q_ref :: .word k :: (orIt ks ++ (ruleIt rule ++ r)) := by simp [Sx.its]
    rw [e, sortL, if_neg (by rw [isWord_w]; decide), sortL, if_neg (by rw [isWord_w]; decide), sortL, if_neg (by rw [isWord_w]; decide), sortL, if_pos (by rw [isWord_w]; decide), takeT_P, bind_ok]
    unfold sortBody
    rw [if_neg (by decide), if_neg (by decide), if_neg (by decide), readTargets_P (noOr_rule h.2.2 hs) h.1 h.2.1, bind_ok, if_neg (by decide)]
    show Rs.ok ((So.ref ((evTk pl i (k :: ks)).map (fun k => k.t)) _, _), _) = _
    rw [evTk_t, ruleL_P h.2.2 hs]
    exact eqP (by simp [Sx.its]; omega)
  | list k ks =>
    have e : (Sx.list k ks).its ++ r = .word q_list :: .word k :: (orIt ks ++ r) := by simp [Sx.its]
    rw [e, sortL, if_neg (by rw [isWord_w]; decide), sortL, if_neg (by rw [isWord_w]; decide), sortL, if_neg (by rw [isWord_w]; decide), sortL, if_neg (by rw [isWord_w]; decide), sortL, if_pos (by rw [isWord_w]; decide), takeT_P, bind_ok]
    unfold sortBody
    rw [if_neg (by decide), if_neg (by decide), if_neg (by decide), readTargets_P (fun j => hs.word (by decide)) h.1 h.2, bind_ok, if_pos rfl]
    show Rs.ok ((So.list ((evTk pl i (k :: ks)).map (fun k => k.t)), _), _) = _
    rw [evTk_t]
    exact eqP (by simp [Sx.its]; omega)
end
end Lw

-- rd
namespace Lw
open PySem PySem.Spec PyProof.Rows L2 G
section
variable {pl : Nat → Nat} {i : Nat} {r : List It} {z t : List Nat} {res : List (List Nat)}
/-! ### fields, keys, kinds, schemas as they are written -/
structure Fx where
  name : List Nat
  sort : Sx
  need : Bool
def needIt : Bool → List It
  | true => [.word q_not, .word q_null]
  | false => []
def Fx.its (f : Fx) : List It := .word f.name :: .sig q_x3a :: (f.sort.its ++ (needIt f.need ++ [.sig q_x3b]))
def Sx.isList : Sx → Bool
  | .list .. => true
  | _ => false
theorem Sx.isList_so {x : Sx} : x.so.isList = x.isList := by cases x <;> rfl
def Fx.Ok (res : List (List Nat)) (f : Fx) : Prop := Low res f.name ∧ f.sort.Ok res ∧ ¬(f.need = true ∧ f.sort.isList = true)
def Fx.fd (pl : Nat → Nat) (i : Nat) (f : Fx) : Fd := ⟨f.name, f.sort.so, f.need, ⟨q_word, f.name, pl i⟩, f.sort.tgs pl (i + 2)⟩
theorem readField_P {f : Fx} (h : f.Ok res) : readField res (tkP pl i (f.its ++ r)) = .ok (f.fd pl i, tkP pl (i + f.its.length) r) := by
  obtain ⟨n, x, b⟩ := f
  have e : (Fx.mk n x b).its ++ r = .word n :: .sig q_x3a :: (x.its ++ (needIt b ++ (.sig q_x3b :: r))) := by simp [Fx.its]
  have hs : Stop (needIt b ++ (.sig q_x3b :: r)) := by
    cases b with
    | true => exact ⟨_, .inr rfl⟩
    | false => exact ⟨_, .inl rfl⟩
  unfold readField
  rw [e, takeField_P h.1, bind_ok, takeSign_P, bind_ok, readSort_P h.2.1 hs, bind_ok]
  cases b with
  | true =>
    have e2 : needIt true ++ (It.sig q_x3b :: r) = .word q_not :: .word q_null :: .sig q_x3b :: r := rfl
    rw [e2, if_pos (by rw [isWord_w]; decide), takeT_P, bind_ok, takeWord_P, bind_ok, if_neg (show ¬x.so.isList = true from fun z => h.2.2 ⟨rfl, by rw [← Sx.isList_so]; exact z⟩)]
    unfold fieldEnd
    rw [takeSign_P, bind_ok]
    exact eqP (by simp [Fx.its, needIt]; omega)
  | false =>
    have e2 : needIt false ++ (It.sig q_x3b :: r) = .sig q_x3b :: r := rfl
    rw [e2, if_neg (by rw [isWord_s]; decide)]
    unfold fieldEnd
    rw [takeSign_P, bind_ok]
    exact eqP (by simp [Fx.its, needIt]; omega)
/-- a key: its first name and the others -/
abbrev Kx := List Nat × List (List Nat)
def Kx.its (k : Kx) : List It := .word q_key :: .word k.1 :: (comW k.2 ++ [.sig q_x3b])
def Kx.Ok (res : List (List Nat)) (k : Kx) : Prop := ∀ z ∈ k.1 :: k.2, Low res z
def Kx.tks (pl : Nat → Nat) (i : Nat) (k : Kx) : List Tk := evTk pl i (k.1 :: k.2)
theorem keyL_P : ∀ {ks : List (List Nat)} {m i : Nat} {acc : List Tk}, ks.length < m → (∀ z ∈ ks, Low res z) →
    keyL res m acc (tkP pl i (comW ks ++ (.sig q_x3b :: r))) = .ok (acc ++ evTk pl i ks, tkP pl (i + (comW ks).length + 1) r)
  | _, 0, _, _, h, _ => absurd h (Nat.not_lt_zero _)
  | [], m + 1, i, acc, _, _ => by
    rw [keyL, show comW [] ++ (It.sig q_x3b :: r) = .sig q_x3b :: r from rfl, if_neg (by rw [isSign_s]; decide), takeSign_P, bind_ok]
    show _ = Rs.ok (acc ++ [], _)
    rw [List.append_nil]
    rfl
  | k :: ks, m + 1, i, acc, hm, hb => by
    have e : comW (k :: ks) ++ (It.sig q_x3b :: r) = .sig q_x2c :: .word k :: (comW ks ++ (.sig q_x3b :: r)) := rfl
    rw [keyL, e, if_pos (by rw [isSign_s]; decide), takeT_P, bind_ok, takeField_P (hb k (List.mem_cons_self ..)), bind_ok]
    rw [keyL_P (by rw [List.length_cons] at hm; omega) (fun z hz => hb z (List.mem_cons_of_mem _ hz))]
    rw [List.append_assoc, comW_len, comW_len, List.length_cons]
    show Rs.ok (acc ++ evTk pl i (k :: ks), _) = _
    exact eqP (by omega)
theorem readKey_P {k : Kx} (h : k.Ok res) : readKey res (tkP pl (i + 1) (.word k.1 :: (comW k.2 ++ (.sig q_x3b :: r)))) = .ok (k.tks pl i, tkP pl (i + k.its.length) r) := by
  unfold readKey
  rw [takeField_P (h k.1 (List.mem_cons_self ..)), bind_ok, keyL_P (acc := [⟨q_word, k.1, pl (i + 1)⟩]) (by rw [tkP_len, List.length_cons, List.length_append, comW_len]; omega) (fun z hz => h z (List.mem_cons_of_mem _ hz))]
  show Rs.ok (k.tks pl i, _) = _
  exact eqP (by simp [Kx.its]; omega)
structure Kix where
  name : List Nat
  fields : List Fx
  keys : List Kx
def fsIt (fs : List Fx) : List It := fs.flatMap Fx.its
def ksIt (ks : List Kx) : List It := ks.flatMap Kx.its
def fsFd (pl : Nat → Nat) : Nat → List Fx → List Fd
  | _, [] => []
  | i, f :: fs => f.fd pl i :: fsFd pl (i + f.its.length) fs
def ksTk (pl : Nat → Nat) : Nat → List Kx → List (List Tk)
  | _, [] => []
  | i, k :: ks => k.tks pl i :: ksTk pl (i + k.its.length) ks
def Kix.its (k : Kix) : List It := .word q_kind :: .word k.name :: .sig q_x7b :: (fsIt k.fields ++ (ksIt k.keys ++ [.sig q_x7d]))
def Kix.Ok (res : List (List Nat)) (k : Kix) : Prop := Big res k.name ∧ (∀ f ∈ k.fields, f.Ok res) ∧ ∀ x ∈ k.keys, x.Ok res
def Kix.kp (pl : Nat → Nat) (i : Nat) (k : Kix) : Kp := ⟨⟨q_word, k.name, pl (i + 1)⟩, fsFd pl (i + 3) k.fields, ksTk pl (i + 3 + (fsIt k.fields).length) k.keys⟩
theorem kindL_keys {tok : Tk} {fs : List Fd} : ∀ {ks : List Kx} {m i : Nat} {acc : List (List Tk)}, ks.length < m → (∀ x ∈ ks, x.Ok res) →
    kindL res m tok fs acc (tkP pl i (ksIt ks ++ (.sig q_x7d :: r))) = .ok (⟨tok, fs, acc ++ ksTk pl i ks⟩, tkP pl (i + (ksIt ks).length + 1) r)
  | _, 0, _, _, h, _ => absurd h (Nat.not_lt_zero _)
  | [], m + 1, i, acc, _, _ => by
    rw [kindL, show ksIt [] ++ (It.sig q_x7d :: r) = .sig q_x7d :: r from rfl, if_pos (by rw [isSign_s]; decide), takeT_P, bind_ok]
    show _ = Rs.ok (Kp.mk tok fs (acc ++ []), _)
    rw [List.append_nil]
    rfl
  | k :: ks, m + 1, i, acc, hm, hb => by
    have e : ksIt (k :: ks) ++ (It.sig q_x7d :: r) = .word q_key :: .word k.1 :: (comW k.2 ++ (.sig q_x3b :: (ksIt ks ++ (.sig q_x7d :: r)))) := by
      show (Kx.its k ++ ksIt ks) ++ _ = _
      simp [Kx.its]
    rw [kindL, e, if_neg (by rw [isSign_w]; decide), if_pos (by rw [isWord_w]; decide), takeT_P, bind_ok, readKey_P (hb k (List.mem_cons_self ..)), bind_ok]
    rw [kindL_keys (by rw [List.length_cons] at hm; omega) (fun z hz => hb z (List.mem_cons_of_mem _ hz))]
    rw [List.append_assoc]
    show Rs.ok (Kp.mk tok fs (acc ++ ksTk pl i (k :: ks)), _) = _
    refine eqP ?_
    show _ = i + (Kx.its k ++ ksIt ks).length + 1
    rw [List.length_append]
    omega
theorem kindL_P {tok : Tk} {ks : List Kx} (hk : ∀ x ∈ ks, x.Ok res) (hkey : res.contains q_key = true) : ∀ {fs : List Fx} {m i : Nat} {acc : List Fd}, fs.length + ks.length < m → (∀ f ∈ fs, f.Ok res) →
    kindL res m tok acc [] (tkP pl i (fsIt fs ++ (ksIt ks ++ (.sig q_x7d :: r)))) = .ok (⟨tok, acc ++ fsFd pl i fs, ksTk pl (i + (fsIt fs).length) ks⟩, tkP pl (i + (fsIt fs).length + (ksIt ks).length + 1) r)
  | _, 0, _, _, h, _ => absurd h (Nat.not_lt_zero _)
  | [], m + 1, i, acc, hm, _ => by
    rw [show fsIt [] ++ (ksIt ks ++ (It.sig q_x7d :: r)) = ksIt ks ++ (.sig q_x7d :: r) from rfl, kindL_keys (by rw [List.length_nil] at hm; omega) hk]
    show _ = Rs.ok (Kp.mk tok (acc ++ []) _, _)
    rw [List.append_nil]
    rfl
  | f :: fs, m + 1, i, acc, hm, hb => by
    have hf := hb f (List.mem_cons_self ..)
    have nk : f.name ≠ q_key := fun z => by
      have := hf.1.1
      rw [z, hkey] at this
      cases this
    have e : fsIt (f :: fs) ++ (ksIt ks ++ (It.sig q_x7d :: r)) = f.its ++ (fsIt fs ++ (ksIt ks ++ (.sig q_x7d :: r))) := by
      show (Fx.its f ++ fsIt fs) ++ _ = _
      rw [List.append_assoc]
    have e2 : ∃ q, f.its ++ (fsIt fs ++ (ksIt ks ++ (It.sig q_x7d :: r))) = .word f.name :: q := ⟨_, rfl⟩
    rw [kindL, e]
    rw [if_neg (by obtain ⟨q, hq⟩ := e2; rw [hq, isSign_w]; decide), if_neg (by obtain ⟨q, hq⟩ := e2; rw [hq, isWord_w, decide_eq_false nk]; decide), readField_P hf, bind_ok]
    rw [kindL_P hk hkey (by rw [List.length_cons] at hm; omega) (fun z hz => hb z (List.mem_cons_of_mem _ hz))]
    rw [List.append_assoc]
    have e3 : (fsIt (f :: fs)).length = f.its.length + (fsIt fs).length := by
      show (Fx.its f ++ fsIt fs).length = _
      rw [List.length_append]
    rw [e3, ← Nat.add_assoc]
    rfl
theorem fsIt_len : ∀ {fs : List Fx}, fs.length ≤ (fsIt fs).length
  | [] => Nat.le_refl _
  | f :: fs => by
    show _ ≤ (Fx.its f ++ fsIt fs).length
    rw [List.length_append, List.length_cons]
    have := fsIt_len (fs := fs)
    have h1 : 1 ≤ f.its.length := by unfold Fx.its; rw [List.length_cons]; omega
    omega
theorem ksIt_len : ∀ {fs : List Kx}, fs.length ≤ (ksIt fs).length
  | [] => Nat.le_refl _
  | f :: fs => by
    show _ ≤ (Kx.its f ++ ksIt fs).length
    rw [List.length_append, List.length_cons]
    have := ksIt_len (fs := fs)
    have h1 : 1 ≤ (Kx.its f).length := by unfold Kx.its; rw [List.length_cons]; omega
    omega
theorem readKind_P {k : Kix} (h : k.Ok res) (hkey : res.contains q_key = true) : readKind res (tkP pl i (k.its ++ r)) = .ok (k.kp pl i, tkP pl (i + k.its.length) r) := by
  have e : k.its ++ r = .word q_kind :: .word k.name :: .sig q_x7b :: (fsIt k.fields ++ (ksIt k.keys ++ (.sig q_x7d :: r))) := by simp [Kix.its]
  unfold readKind
  rw [e, takeWord_P, bind_ok, takeKind_P h.1, bind_ok, takeSign_P, bind_ok, kindL_P h.2.2 hkey (by
    rw [tkP_len, List.length_cons, List.length_cons, List.length_cons, List.length_append, List.length_append]
    have := fsIt_len (fs := k.fields)
    have := ksIt_len (fs := k.keys)
    omega) h.2.1]
  exact eqP (by simp [Kix.its]; omega)
def scIt (ks : List Kix) : List It := ks.flatMap Kix.its
def scKp (pl : Nat → Nat) : Nat → List Kix → List Kp
  | _, [] => []
  | i, k :: ks => k.kp pl i :: scKp pl (i + k.its.length) ks
theorem kindsRead_P (hkey : res.contains q_key = true) : ∀ {ks : List Kix} {m i : Nat} {acc : List Kp}, ks.length < m → (∀ k ∈ ks, k.Ok res) →
    ∃ s, kindsRead res m acc (tkP pl i (scIt ks)) = .ok (acc ++ scKp pl i ks, s)
  | _, 0, _, _, h, _ => absurd h (Nat.not_lt_zero _)
  | [], m + 1, i, acc, _, _ => by
    refine ⟨tkP pl i [], ?_⟩
    rw [kindsRead, if_pos (show (nowT (tkP pl i (scIt []))).r = q_end from rfl)]
    show _ = Rs.ok (acc ++ [], _)
    rw [List.append_nil]
    rfl
  | k :: ks, m + 1, i, acc, hm, hb => by
    obtain ⟨s, hs⟩ := kindsRead_P hkey (ks := ks) (m := m) (i := i + k.its.length) (acc := acc ++ [k.kp pl i]) (by rw [List.length_cons] at hm; omega) (fun z hz => hb z (List.mem_cons_of_mem _ hz))
    refine ⟨s, ?_⟩
    have e : scIt (k :: ks) = k.its ++ scIt ks := rfl
    rw [kindsRead, if_neg (show ¬(nowT (tkP pl i (scIt (k :: ks)))).r = q_end from by show ¬q_word = q_end; decide), e, readKind_P (hb k (List.mem_cons_self ..)) hkey, bind_ok, hs, List.append_assoc]
    rfl
theorem scIt_len : ∀ {fs : List Kix}, fs.length ≤ (scIt fs).length
  | [] => Nat.le_refl _
  | f :: fs => by
    show _ ≤ (Kix.its f ++ scIt fs).length
    rw [List.length_append, List.length_cons]
    have := scIt_len (fs := fs)
    have h1 : 1 ≤ (Kix.its f).length := by unfold Kix.its; rw [List.length_cons]; omega
    omega
theorem parseSchema_P {k : Kix} {ks : List Kix} (h : ∀ x ∈ k :: ks, x.Ok ts_RESERVED) : parseSchema (tkP pl 0 (scIt (k :: ks))) = .ok (scKp pl 0 (k :: ks)) := by
  have hkey : ts_RESERVED.contains q_key = true := by decide
  unfold parseSchema
  have e : scIt (k :: ks) = k.its ++ scIt ks := rfl
  obtain ⟨s, hs⟩ := kindsRead_P (pl := pl) hkey (ks := ks) (m := (tkP pl 0 (scIt (k :: ks))).length + 1) (i := 0 + k.its.length) (acc := [k.kp pl 0]) (by
    rw [tkP_len]
    have := scIt_len (fs := k :: ks)
    rw [List.length_cons] at this
    omega) (fun z hz => h z (List.mem_cons_of_mem _ hz))
  rw [show tkP pl 0 (scIt (k :: ks)) = tkP pl 0 (k.its ++ scIt ks) from rfl] at hs ⊢
  rw [readKind_P (h k (List.mem_cons_self ..)) hkey, bind_ok, hs, bind_ok]
  rfl
end
end Lw

-- rd
namespace Lw
open PySem PySem.Spec PyProof.Rows L2 G
/-! ### from the text to the kinds -/
/-- the place of each token of a written text -/
def plI (b : Nat) : Nat → List (Nat × It) → Nat → Nat
  | p, [], _ => p + b
  | p, x :: _, 0 => p + x.1
  | p, x :: r, i + 1 => plI b (p + x.1 + x.2.raw.length) r i
theorem tkP_shift {pl : Nat → Nat} : ∀ {r : List It} {i : Nat}, tkP pl (i + 1) r = tkP (fun j => pl (j + 1)) i r
  | [], _ => rfl
  | x :: r, i => by rw [tkP, tkP, tkP_shift]
theorem tksI_P {b : Nat} : ∀ {l : List (Nat × It)} {p : Nat}, tksI b p l = tkP (plI b p l) 0 (l.map (·.2))
  | [], _ => rfl
  | x :: r, p => by
    rw [tksI, tksI_P, List.map_cons, tkP, tkP_shift]
    rfl
theorem readSchema_W {l : List (Nat × It)} {b : Nat} {k : Kix} {ks : List Kix} (hf : fitsI ts_SIGNS b l) (hl : l.map (·.2) = scIt (k :: ks)) (hn : (textI b l).length ≤ 1000) (h : ∀ x ∈ k :: ks, x.Ok ts_RESERVED) :
    readSchema (textI b l) = checkKinds (scKp (plI b 0 l) 0 (k :: ks)) := by
  unfold readSchema
  rw [(lexI hf).toks hn, bind_ok, tksI_P, hl, parseSchema_P h, bind_ok]
/-! ### what fits -/
theorem textI_app {b : Nat} {l2 : List (Nat × It)} : ∀ {l1 : List (Nat × It)}, textI b (l1 ++ l2) = textI 0 l1 ++ textI b l2
  | [] => rfl
  | x :: r => by
    rw [List.cons_append, textI, textI, textI_app]
    simp
/-- a name: a word that fits wherever no word's sign follows -/
def Nm (t : List Nat) : Prop := (∃ c r, t = c :: r ∧ isL c = true) ∧ t.all isW = true ∧ t.length ≤ 12
def Dg (t : List Nat) : Prop := (∃ c r, t = c :: r ∧ isD c = true ∧ (c = 48 → r = [])) ∧ t.all isD = true ∧ t.length ≤ 18
/-- an item that may stand behind a word or a number with no blank between, or with one -/
def Sep (x : Nat × It) : Prop := 0 < x.1 ∨ ∃ c r, x.2 = .sig (c :: r) ∧ isW c = false
theorem Sep.cwl {x : Nat × It} (h : Sep x) {b : Nat} {l : List (Nat × It)} : cwl isW (textI b (x :: l)) = 0 := by
  obtain ⟨n, y⟩ := x
  rcases h with h | ⟨c, r, rfl, h⟩
  · cases n with
    | zero => exact absurd h (Nat.lt_irrefl _)
    | succ n =>
      rw [textI, List.replicate_succ]
      exact (cwl_cons (f := isW) (c := 32)).trans (if_neg (by decide))
  · cases n with
    | zero => exact (cwl_cons (f := isW) (c := c)).trans (if_neg (by rw [h]; decide))
    | succ n =>
      rw [textI, List.replicate_succ]
      exact (cwl_cons (f := isW) (c := 32)).trans (if_neg (by decide))
theorem end_cwl {b : Nat} : cwl isW (textI b []) = 0 := by
  cases b with
  | zero => rfl
  | succ n =>
    rw [textI, List.replicate_succ]
    exact (cwl_cons (f := isW) (c := 32)).trans (if_neg (by decide))
/-- one item is good by itself; next to what follows -/
def It.one : It → Prop
  | .word t => Nm t
  | .num t => Dg t
  | .sig t => t ∈ ts_SIGNS
  | .txt _ => True
def It.wordy : It → Bool
  | .word _ => true
  | .num _ => true
  | _ => false
/-- all items are good, and behind a word or a number stands a blank or a sign -/
def Good : List (Nat × It) → Prop
  | [] => True
  | [x] => x.2.one
  | x :: y :: r => x.2.one ∧ (x.2.wordy = true → Sep y) ∧ Good (y :: r)
theorem sig_fits {t : List Nat} (h : t ∈ ts_SIGNS) (rest : List Nat) : (It.sig t).fits ts_SIGNS rest := by
  have h7 : t = [123] ∨ t = [125] ∨ t = [58] ∨ t = [59] ∨ t = [44] ∨ t = [45] ∨ t = [46, 46] := by
    have e : ts_SIGNS = [[123], [125], [58], [59], [44], [45], [46, 46]] := rfl
    rw [e] at h
    simpa using h
  rcases h7 with rfl | rfl | rfl | rfl | rfl | rfl | rfl <;> exact ⟨⟨_, _, rfl, by decide, by decide, by decide, by decide⟩, rfl⟩
theorem one_fits {x : It} {rest : List Nat} (h : x.one) (hr : x.wordy = true → cwl isW rest = 0) : x.fits ts_SIGNS rest := by
  cases x with
  | word t => exact ⟨h.1, h.2.1, h.2.2, hr rfl⟩
  | num t => exact ⟨h.1, h.2.1, h.2.2, hr rfl⟩
  | sig t => exact sig_fits h rest
  | txt t => trivial
theorem Good.fits {b : Nat} : ∀ {l : List (Nat × It)}, Good l → fitsI ts_SIGNS b l
  | [], _ => trivial
  | [x], h => ⟨one_fits h fun _ => end_cwl, trivial⟩
  | x :: y :: r, h => ⟨one_fits h.1 fun w => (h.2.1 w).cwl, Good.fits h.2.2⟩
theorem Good.app : ∀ {l1 l2 : List (Nat × It)}, Good l1 → Good l2 → (∀ x y, l1.getLast? = some x → l2.head? = some y → x.2.wordy = true → Sep y) → Good (l1 ++ l2)
  | [], _, _, h, _ => h
  | [x], [], h, _, _ => h
  | [x], y :: r, h, h2, hs => ⟨h, hs x y rfl rfl, h2⟩
  | x :: y :: r, l2, h, h2, hs => ⟨h.1, h.2.1, Good.app (l1 := y :: r) h.2.2 h2 fun a c ha hc => hs a c (by rw [List.getLast?_cons_cons]; exact ha) hc⟩
end Lw

-- rd
namespace Lw
open PySem PySem.Spec PyProof.Rows L2 G
/-! ### the written form of schemas: items with their blanks -/
def intB (n : Nat) : Bool → List Nat → List (Nat × It)
  | true, a => [(n, .sig q_x2d), (0, .num a)]
  | false, a => [(n, .num a)]
def orB (ks : List (List Nat)) : List (Nat × It) := ks.flatMap fun k => [(1, .word q_or), (1, .word k)]
def comTB (cs : List (List Nat)) : List (Nat × It) := cs.flatMap fun k => [(0, .sig q_x2c), (1, .txt k)]
def comWB (cs : List (List Nat)) : List (Nat × It) := cs.flatMap fun k => [(0, .sig q_x2c), (1, .word k)]
def ruleB (rule : List Nat) : List (Nat × It) := if rule = q_clears then [] else [(1, .word rule)]
def woB : Option (List Nat) → List (Nat × It)
  | none => []
  | some z => [(1, .word q_without), (1, .txt z)]
def Sx.itb : Sx → List (Nat × It)
  | .int n1 a n2 b => (1, .word q_int) :: (intB 1 n1 a ++ (0, .sig q_x2ex2e) :: intB 0 n2 b)
  | .text a w => (1, .word q_text) :: (1, .num a) :: woB w
  | .choice c cs => (1, .word q_one) :: (1, .word q_of) :: (1, .txt c) :: comTB cs
  | .ref k ks rule => (1, .word q_ref) :: (1, .word k) :: (orB ks ++ ruleB rule)
  | .list k ks => (1, .word q_list) :: (1, .word k) :: orB ks
def needB : Bool → List (Nat × It)
  | true => [(1, .word q_not), (1, .word q_null)]
  | false => []
def Fx.itb (f : Fx) : List (Nat × It) := (1, .word f.name) :: (0, .sig q_x3a) :: (f.sort.itb ++ (needB f.need ++ [(0, .sig q_x3b)]))
def Kx.itb (k : Kx) : List (Nat × It) := (1, .word q_key) :: (1, .word k.1) :: (comWB k.2 ++ [(0, .sig q_x3b)])
def fsB (fs : List Fx) : List (Nat × It) := fs.flatMap Fx.itb
def ksB (ks : List Kx) : List (Nat × It) := ks.flatMap Kx.itb
def Kix.itb (n : Nat) (k : Kix) : List (Nat × It) := (n, .word q_kind) :: (1, .word k.name) :: (1, .sig q_x7b) :: (fsB k.fields ++ (ksB k.keys ++ [(1, .sig q_x7d)]))
def scB1 (ks : List Kix) : List (Nat × It) := ks.flatMap (Kix.itb 1)
def scB (n : Nat) (k : Kix) (ks : List Kix) : List (Nat × It) := k.itb n ++ scB1 ks
theorem fm_snd {α : Type} {f : α → List (Nat × It)} {g : α → List It} (h : ∀ x, (f x).map (·.2) = g x) : ∀ {l : List α}, (l.flatMap f).map (·.2) = l.flatMap g
  | [] => rfl
  | x :: l => by rw [List.flatMap_cons, List.flatMap_cons, List.map_append, h, fm_snd h]
theorem intB_its {n : Nat} {s : Bool} {a : List Nat} : (intB n s a).map (·.2) = intIt s a := by cases s <;> rfl
theorem orB_its {ks : List (List Nat)} : (orB ks).map (·.2) = orIt ks := fm_snd fun _ => rfl
theorem comTB_its {ks : List (List Nat)} : (comTB ks).map (·.2) = comT ks := fm_snd fun _ => rfl
theorem comWB_its {ks : List (List Nat)} : (comWB ks).map (·.2) = comW ks := fm_snd fun _ => rfl
theorem ruleB_its {z : List Nat} : (ruleB z).map (·.2) = ruleIt z := by unfold ruleB ruleIt; split <;> rfl
theorem woB_its {z : Option (List Nat)} : (woB z).map (·.2) = woIt z := by cases z <;> rfl
theorem needB_its {b : Bool} : (needB b).map (·.2) = needIt b := by cases b <;> rfl
theorem Sx.itb_its {x : Sx} : x.itb.map (·.2) = x.its := by
  cases x <;> simp only [Sx.itb, Sx.its, List.map_cons, List.map_append, intB_its, orB_its, comTB_its, ruleB_its, woB_its]
theorem Fx.itb_its {x : Fx} : x.itb.map (·.2) = x.its := by
  simp only [Fx.itb, Fx.its, List.map_cons, List.map_append, Sx.itb_its, needB_its, List.map_nil]
theorem Kx.itb_its {x : Kx} : (Kx.itb x).map (·.2) = Kx.its x := by
  simp only [Kx.itb, Kx.its, List.map_cons, List.map_append, comWB_its, List.map_nil]
theorem Kix.itb_its {n : Nat} {x : Kix} : (x.itb n).map (·.2) = x.its := by
  have h1 : (fsB x.fields).map (·.2) = fsIt x.fields := fm_snd fun _ => Fx.itb_its
  have h2 : (ksB x.keys).map (·.2) = ksIt x.keys := fm_snd fun _ => Kx.itb_its
  simp only [Kix.itb, Kix.its, List.map_cons, List.map_append, h1, h2, List.map_nil]
theorem scB_its {n : Nat} {k : Kix} {ks : List Kix} : (scB n k ks).map (·.2) = scIt (k :: ks) := by
  have h1 : (scB1 ks).map (·.2) = scIt ks := fm_snd fun _ => Kix.itb_its
  unfold scB
  rw [List.map_append, Kix.itb_its, h1]
  rfl
/-- good items that may stand behind a word -/
def GS (l : List (Nat × It)) : Prop := Good l ∧ ∀ y, l.head? = some y → Sep y
theorem GS.nil : GS [] := ⟨trivial, fun _ h => nomatch h⟩
theorem GS.app {l1 l2 : List (Nat × It)} (h1 : GS l1) (h2 : GS l2) : GS (l1 ++ l2) := by
  refine ⟨h1.1.app h2.1 fun x y _ hy _ => h2.2 y hy, fun y hy => ?_⟩
  cases l1 with
  | nil => exact h2.2 y hy
  | cons a l => exact h1.2 y hy
theorem GS.cons {x : Nat × It} {l : List (Nat × It)} (h : x.2.one) (hs : Sep x) (hl : GS l) : GS (x :: l) := GS.app (l1 := [x]) ⟨h, fun y hy => by injection hy with hy; rw [← hy]; exact hs⟩ hl
theorem GS.w {n : Nat} {t : List Nat} {l : List (Nat × It)} (h : Nm t) (hl : GS l) : GS ((n + 1, .word t) :: l) := GS.cons h (.inl (Nat.succ_pos _)) hl
theorem GS.t {n : Nat} {t : List Nat} {l : List (Nat × It)} (hl : GS l) : GS ((n + 1, .txt t) :: l) := GS.cons trivial (.inl (Nat.succ_pos _)) hl
theorem GS.s {n c : Nat} {r : List Nat} {l : List (Nat × It)} (h : c :: r ∈ ts_SIGNS) (hc : isW c = false) (hl : GS l) : GS ((n, .sig (c :: r)) :: l) := GS.cons h (.inr ⟨c, r, rfl, hc⟩) hl
theorem GS.fm {α : Type} {f : α → List (Nat × It)} : ∀ {l : List α}, (∀ x ∈ l, GS (f x)) → GS (l.flatMap f)
  | [], _ => .nil
  | x :: l, h => by
    rw [List.flatMap_cons]
    exact (h x (List.mem_cons_self ..)).app (GS.fm fun y hy => h y (List.mem_cons_of_mem _ hy))
def Sx.Nms : Sx → Prop
  | .int _ a _ b => Dg a ∧ Dg b
  | .text a _ => Dg a
  | .choice _ _ => True
  | .ref k ks rule => (∀ z ∈ k :: ks, Nm z) ∧ rule ∈ [q_clears, q_refuses, q_takes]
  | .list k ks => ∀ z ∈ k :: ks, Nm z
theorem nm_of {c : Nat} {r : List Nat} (h : (isL c && (c :: r).all isW && decide ((c :: r).length ≤ 12)) = true) : Nm (c :: r) := by
  rw [Bool.and_eq_true, Bool.and_eq_true, decide_eq_true_iff] at h
  exact ⟨⟨c, r, rfl, h.1.1⟩, h.1.2, h.2⟩
theorem GS.orB {ks : List (List Nat)} (h : ∀ z ∈ ks, Nm z) : GS (orB ks) := .fm fun k hk => .w (nm_of (by decide)) (.w (h k hk) .nil)
theorem GS.comTB {ks : List (List Nat)} : GS (comTB ks) := .fm fun k hk => .s (by decide) (by decide) (.t .nil)
theorem GS.comWB {ks : List (List Nat)} (h : ∀ z ∈ ks, Nm z) : GS (comWB ks) := .fm fun k hk => .s (by decide) (by decide) (.w (h k hk) .nil)
theorem GS.ruleB {z : List Nat} (h : z ∈ [q_clears, q_refuses, q_takes]) : GS (ruleB z) := by
  unfold Lw.ruleB
  split
  · exact .nil
  · refine .w ?_ .nil
    have h3 : z = q_clears ∨ z = q_refuses ∨ z = q_takes := by simpa using h
    rcases h3 with rfl | rfl | rfl <;> exact nm_of (by decide)
theorem GS.needB {b : Bool} : GS (needB b) := by
  cases b with
  | true => exact .w (nm_of (by decide)) (.w (nm_of (by decide)) .nil)
  | false => exact .nil
theorem GS.intB {n : Nat} {s : Bool} {a : List Nat} (h : Dg a) : GS (intB (n + 1) s a) := by
  cases s with
  | true => exact ⟨⟨show q_x2d ∈ ts_SIGNS from (by decide), (fun z => nomatch z), h⟩, fun y hy => by injection hy with hy; rw [← hy]; exact .inl (Nat.succ_pos _)⟩
  | false => exact ⟨h, fun y hy => by injection hy with hy; rw [← hy]; exact .inl (Nat.succ_pos _)⟩
theorem GS.ddB {s : Bool} {a : List Nat} (h : Dg a) : GS ((0, It.sig q_x2ex2e) :: Lw.intB 0 s a) := by
  have hs : Sep (0, It.sig q_x2ex2e) := .inr ⟨_, _, rfl, by decide⟩
  have h1 : q_x2ex2e ∈ ts_SIGNS := by decide
  have h2 : q_x2d ∈ ts_SIGNS := by decide
  cases s with
  | true => exact ⟨⟨h1, (fun z => nomatch z), h2, (fun z => nomatch z), h⟩, fun y hy => by injection hy with hy; rw [← hy]; exact hs⟩
  | false => exact ⟨⟨h1, (fun z => nomatch z), h⟩, fun y hy => by injection hy with hy; rw [← hy]; exact hs⟩
theorem Sx.gs {x : Sx} (h : x.Nms) : GS x.itb := by
  cases x with
  | int n1 a n2 b => exact .w (nm_of (by decide)) ((GS.intB h.1).app (GS.ddB h.2))
  | text a w =>
    refine .w (nm_of (by decide)) (GS.cons h (.inl (Nat.succ_pos _)) ?_)
    cases w with
    | none => exact .nil
    | some z => exact .w (nm_of (by decide)) (.t .nil)
  | choice c cs => exact .w (nm_of (by decide)) (.w (nm_of (by decide)) (.t GS.comTB))
  | ref k ks rule => exact .w (nm_of (by decide)) (.w (h.1 k (List.mem_cons_self ..)) ((GS.orB fun z hz => h.1 z (List.mem_cons_of_mem _ hz)).app (GS.ruleB h.2)))
  | list k ks => exact .w (nm_of (by decide)) (.w (h k (List.mem_cons_self ..)) (GS.orB fun z hz => h z (List.mem_cons_of_mem _ hz)))
def Fx.Nms (f : Fx) : Prop := Nm f.name ∧ f.sort.Nms
def Kx.Nms (k : Kx) : Prop := ∀ z ∈ k.1 :: k.2, Nm z
def Kix.Nms (k : Kix) : Prop := Nm k.name ∧ (∀ f ∈ k.fields, f.Nms) ∧ ∀ x ∈ k.keys, Kx.Nms x
theorem Fx.gs {f : Fx} (h : f.Nms) : GS f.itb := .w h.1 (.s (by decide) (by decide) ((Sx.gs h.2).app (GS.needB.app (.s (by decide) (by decide) .nil))))
theorem Kx.gs {k : Kx} (h : Kx.Nms k) : GS (Kx.itb k) := .w (nm_of (by decide)) (.w (h _ (List.mem_cons_self ..)) ((GS.comWB fun z hz => h z (List.mem_cons_of_mem _ hz)).app (.s (by decide) (by decide) .nil)))
theorem Kix.gs0 {k : Kix} (h : k.Nms) : GS ((1, It.word k.name) :: (1, .sig q_x7b) :: (fsB k.fields ++ (ksB k.keys ++ [(1, .sig q_x7d)]))) :=
  .w h.1 (.s (by decide) (by decide) ((GS.fm fun f hf => Fx.gs (h.2.1 f hf)).app ((GS.fm fun f hf => Kx.gs (h.2.2 f hf)).app (.s (by decide) (by decide) .nil))))
theorem scB_good {n : Nat} {k : Kix} {ks : List Kix} (h : ∀ x ∈ k :: ks, x.Nms) : Good (scB n k ks) := by
  have h1 : GS (scB1 ks) := .fm fun x hx => .w (nm_of (by decide)) (Kix.gs0 (h x (List.mem_cons_of_mem _ hx)))
  have h2 := (Kix.gs0 (h k (List.mem_cons_self ..))).app h1
  have h3 : Good [(n, It.word q_kind)] := show Nm q_kind from nm_of (by decide)
  exact Good.app (l1 := [(n, It.word q_kind)]) h3 h2.1 fun x y _ hy _ => h2.2 y hy
/-- a text of kinds in this form is read as these kinds -/
theorem readSchema_B {n b : Nat} {k : Kix} {ks : List Kix} (hn : ∀ x ∈ k :: ks, x.Nms) (hl : (textI b (scB n k ks)).length ≤ 1000) (h : ∀ x ∈ k :: ks, x.Ok ts_RESERVED) :
    readSchema (textI b (scB n k ks)) = checkKinds (scKp (plI b 0 (scB n k ks)) 0 (k :: ks)) := readSchema_W (scB_good hn).fits scB_its hl h
end Lw

-- rd
namespace Lw
open PySem PySem.Spec PyProof.Rows L2 G
/-! ### the places of a written schema's tokens -/
def lenB (l : List (Nat × It)) : Nat := (textI 0 l).length
theorem lenB_nil : lenB [] = 0 := rfl
theorem lenB_cons {x : Nat × It} {l : List (Nat × It)} : lenB (x :: l) = x.1 + x.2.raw.length + lenB l := by
  unfold lenB
  rw [textI, List.length_append, List.length_append, List.length_replicate]
  omega
theorem lenB_app {l2 : List (Nat × It)} : ∀ {l1 : List (Nat × It)}, lenB (l1 ++ l2) = lenB l1 + lenB l2
  | [] => (Nat.zero_add _).symm
  | x :: l => by rw [List.cons_append, lenB_cons, lenB_cons, lenB_app]; omega
/-- the tokens from this index on stand where these items stand, behind this place -/
def Agr (pl : Nat → Nat) : Nat → Nat → List (Nat × It) → Prop
  | _, _, [] => True
  | i, p, x :: r => pl i = p + x.1 ∧ Agr pl (i + 1) (p + x.1 + x.2.raw.length) r
theorem Agr.shift {pl : Nat → Nat} : ∀ {l : List (Nat × It)} {i p : Nat}, Agr (fun j => pl (j + 1)) i p l → Agr pl (i + 1) p l
  | [], _, _, _ => trivial
  | _ :: _, _, _, h => ⟨h.1, Agr.shift h.2⟩
theorem Agr.base {b : Nat} : ∀ {l : List (Nat × It)} {p : Nat}, Agr (plI b p l) 0 p l
  | [], _ => trivial
  | x :: r, p => ⟨rfl, Agr.shift (Agr.base (l := r))⟩
theorem Agr.app {pl : Nat → Nat} {l2 : List (Nat × It)} : ∀ {l1 : List (Nat × It)} {i p : Nat}, Agr pl i p (l1 ++ l2) → Agr pl i p l1 ∧ Agr pl (i + l1.length) (p + lenB l1) l2
  | [], _, _, h => ⟨trivial, h⟩
  | x :: l, i, p, h => by
    have := Agr.app h.2
    refine ⟨⟨h.1, this.1⟩, ?_⟩
    rw [List.length_cons, lenB_cons, show i + (l.length + 1) = i + 1 + l.length by omega, show p + (x.1 + x.2.raw.length + lenB l) = p + x.1 + x.2.raw.length + lenB l by omega]
    exact this.2
/-- names with so many signs ahead of each -/
def evA (d : Nat) : Nat → List (List Nat) → List Tk
  | _, [] => []
  | p, k :: ks => ⟨q_word, k, p + d⟩ :: evA d (p + d + k.length) ks
def Sx.tgsA (p : Nat) : Sx → List Tk
  | .ref k ks _ => ⟨q_word, k, p + 5⟩ :: evA 4 (p + 5 + k.length) ks
  | .list k ks => ⟨q_word, k, p + 6⟩ :: evA 4 (p + 6 + k.length) ks
  | _ => []
def Fx.fdA (p : Nat) (f : Fx) : Fd := ⟨f.name, f.sort.so, f.need, ⟨q_word, f.name, p + 1⟩, f.sort.tgsA (p + 2 + f.name.length)⟩
def Kx.tksA (p : Nat) (k : Kx) : List Tk := ⟨q_word, k.1, p + 5⟩ :: evA 2 (p + 5 + k.1.length) k.2
def fsA : Nat → List Fx → List Fd
  | _, [] => []
  | p, f :: fs => f.fdA p :: fsA (p + lenB f.itb) fs
def ksA : Nat → List Kx → List (List Tk)
  | _, [] => []
  | p, k :: ks => Kx.tksA p k :: ksA (p + lenB (Kx.itb k)) ks
def Kix.kpA (n p : Nat) (k : Kix) : Kp := ⟨⟨q_word, k.name, p + n + 5⟩, fsA (p + n + 7 + k.name.length) k.fields, ksA (p + n + 7 + k.name.length + lenB (fsB k.fields)) k.keys⟩
def scA1 : Nat → List Kix → List Kp
  | _, [] => []
  | p, k :: ks => k.kpA 1 p :: scA1 (p + lenB (k.itb 1)) ks
section
variable {pl : Nat → Nat}
theorem evTk_or : ∀ {ks : List (List Nat)} {i p : Nat}, Agr pl i p (orB ks) → evTk pl i ks = evA 4 p ks
  | [], _, _, _ => rfl
  | k :: ks, i, p, h => by
    have h' : Agr pl i p ((1, .word q_or) :: (1, .word k) :: orB ks) := h
    rw [evTk, evA, h'.2.1, evTk_or h'.2.2]
    rfl
theorem evTk_comW : ∀ {ks : List (List Nat)} {i p : Nat}, Agr pl i p (comWB ks) → evTk pl i ks = evA 2 p ks
  | [], _, _, _ => rfl
  | k :: ks, i, p, h => by
    have h' : Agr pl i p ((0, .sig q_x2c) :: (1, .word k) :: comWB ks) := h
    rw [evTk, evA, h'.2.1, evTk_comW h'.2.2]
    rfl
theorem Sx.tgs_A {x : Sx} {i p : Nat} (h : Agr pl i p x.itb) : x.tgs pl i = x.tgsA p := by
  cases x with
  | ref k ks rule =>
    show evTk pl i (k :: ks) = _
    rw [evTk, h.2.1, evTk_or h.2.2.app.1]
    rfl
  | list k ks =>
    show evTk pl i (k :: ks) = _
    rw [evTk, h.2.1, evTk_or h.2.2]
    rfl
  | _ => rfl
theorem Fx.fd_A {f : Fx} {i p : Nat} (h : Agr pl i p f.itb) : f.fd pl i = f.fdA p := by
  unfold Fx.fd Fx.fdA
  rw [h.1, Sx.tgs_A h.2.2.app.1]
  have e : p + 1 + (It.word f.name).raw.length + 0 + (It.sig q_x3a).raw.length = p + 2 + f.name.length := by
    show p + 1 + f.name.length + 0 + 1 = _
    omega
  exact congrArg (fun q => Fd.mk f.name f.sort.so f.need ⟨q_word, f.name, p + 1⟩ (f.sort.tgsA q)) e
theorem Kx.tks_A {k : Kx} {i p : Nat} (h : Agr pl i p (Kx.itb k)) : k.tks pl i = Kx.tksA p k := by
  unfold Kx.tks Kx.tksA
  rw [evTk, h.2.1, evTk_comW h.2.2.app.1]
  rfl
theorem fm_len {α : Type} {f : α → List (Nat × It)} {g : α → List It} (h : ∀ x, (f x).map (·.2) = g x) {l : List α} : (l.flatMap f).length = (l.flatMap g).length := by
  rw [← fm_snd h, List.length_map]
theorem fsFd_A : ∀ {fs : List Fx} {i p : Nat}, Agr pl i p (fsB fs) → fsFd pl i fs = fsA p fs
  | [], _, _, _ => rfl
  | f :: fs, i, p, h => by
    have h' := (show Agr pl i p (f.itb ++ fsB fs) from h).app
    have e : f.its.length = f.itb.length := by rw [← Fx.itb_its, List.length_map]
    rw [fsFd, fsA, Fx.fd_A h'.1, e, fsFd_A h'.2]
theorem ksTk_A : ∀ {fs : List Kx} {i p : Nat}, Agr pl i p (ksB fs) → ksTk pl i fs = ksA p fs
  | [], _, _, _ => rfl
  | f :: fs, i, p, h => by
    have h' := (show Agr pl i p (Kx.itb f ++ ksB fs) from h).app
    have e : (Kx.its f).length = (Kx.itb f).length := by rw [← Kx.itb_its, List.length_map]
    rw [ksTk, ksA, Kx.tks_A h'.1, e, ksTk_A h'.2]
theorem Kix.kp_A {k : Kix} {n i p : Nat} (h : Agr pl i p (k.itb n)) : k.kp pl i = k.kpA n p := by
  have h3 := h.2.2.2.app
  have h4 := h3.2.app
  have e : (fsIt k.fields).length = (fsB k.fields).length := (fm_len fun _ => Fx.itb_its).symm
  unfold Kix.kp Kix.kpA
  have e2 : p + n + (It.word q_kind).raw.length + 1 + (It.word k.name).raw.length + 1 + (It.sig q_x7b).raw.length = p + n + 7 + k.name.length := by
    show p + n + 4 + 1 + k.name.length + 1 + 1 = _
    omega
  rw [h.2.1, fsFd_A h3.1, e, ksTk_A h4.1]
  show Kp.mk ⟨q_word, k.name, p + n + 4 + 1⟩ (fsA _ k.fields) (ksA (_ + lenB (fsB k.fields)) k.keys) = _
  exact congrArg (fun q => Kp.mk ⟨q_word, k.name, p + n + 5⟩ (fsA q k.fields) (ksA (q + lenB (fsB k.fields)) k.keys)) e2
theorem scKp_A : ∀ {ks : List Kix} {i p : Nat}, Agr pl i p (scB1 ks) → scKp pl i ks = scA1 p ks
  | [], _, _, _ => rfl
  | f :: fs, i, p, h => by
    have h' := (show Agr pl i p (f.itb 1 ++ scB1 fs) from h).app
    have e : f.its.length = (f.itb 1).length := by rw [← Kix.itb_its (n := 1), List.length_map]
    rw [scKp, scA1, Kix.kp_A h'.1, e, scKp_A h'.2]
end
theorem readSchema_A {n b : Nat} {k : Kix} {ks : List Kix} (hn : ∀ x ∈ k :: ks, x.Nms) (hl : (textI b (scB n k ks)).length ≤ 1000) (h : ∀ x ∈ k :: ks, x.Ok ts_RESERVED) :
    readSchema (textI b (scB n k ks)) = checkKinds (k.kpA n 0 :: scA1 (lenB (k.itb n)) ks) := by
  have hb : Agr (plI b 0 (scB n k ks)) 0 0 (k.itb n ++ scB1 ks) := Agr.base
  have h' := hb.app
  have e : k.its.length = (k.itb n).length := by rw [← Kix.itb_its (n := n), List.length_map]
  rw [readSchema_B hn hl h, scKp, Kix.kp_A h'.1, e, scKp_A h'.2, Nat.zero_add]
end Lw

-- rd
namespace Lw
open PySem PySem.Spec PyProof.Rows L2 G
/-! ### sound schemas pass the checks, wherever their tokens stand -/
abbrev Fd.core (f : Fd) : List Nat × So × Bool := (f.name, f.sort, f.need)
abbrev Kd.core (k : Kd) : List Nat × List (List Nat × So × Bool) × List (List (List Nat)) := (k.name, k.fields.map Fd.core, k.keys)
theorem dFl_core {f g : Fd} (h : f.core = g.core) : dFl f = dFl g := by
  have h1 : f.name = g.name := congrArg (fun x => x.1) h
  have h2 : f.sort = g.sort := congrArg (fun x => x.2.1) h
  have h3 : f.need = g.need := congrArg (fun x => x.2.2) h
  unfold dFl
  rw [h1, h2, h3]
theorem wFd_core {f g : Fd} (h : f.core = g.core) : wFd f = wFd g := by
  have h1 : f.name = g.name := congrArg (fun x => x.1) h
  have h2 : f.sort = g.sort := congrArg (fun x => x.2.1) h
  have h3 : f.need = g.need := congrArg (fun x => x.2.2) h
  unfold wFd
  rw [h1, h2, h3]
theorem map_core {α β γ : Type} {c : α → β} {d : α → γ} (h : ∀ {x y}, c x = c y → d x = d y) : ∀ {xs ys : List α}, xs.map c = ys.map c → xs.map d = ys.map d
  | [], [], _ => rfl
  | [], _ :: _, e => nomatch e
  | _ :: _, [], e => nomatch e
  | x :: xs, y :: ys, e => by
    rw [List.map_cons, List.map_cons, List.cons.injEq] at e
    rw [List.map_cons, List.map_cons, h e.1, map_core h e.2]
theorem dKd_core {k g : Kd} (h : k.core = g.core) : dKd k = dKd g := by
  have h1 : k.name = g.name := congrArg (fun x => x.1) h
  have h2 : k.fields.map Fd.core = g.fields.map Fd.core := congrArg (fun x => x.2.1) h
  have h3 : k.keys = g.keys := congrArg (fun x => x.2.2) h
  unfold dKd
  rw [h1, map_core dFl_core h2, h3]
theorem dSc_core {ks gs : List Kd} (h : ks.map Kd.core = gs.map Kd.core) : dSc ks = dSc gs := by
  unfold dSc
  rw [map_core dKd_core h]
theorem tgt_ok {names : List (List Nat)} : ∀ {ts : List Tk}, (∀ t ∈ ts, t.t ∈ names) → tgtL names ts = .ok ()
  | [], _ => rfl
  | t :: ts, h => by
    rw [tgtL, if_pos (by rw [List.contains_iff_mem]; exact h t (List.mem_cons_self ..))]
    exact tgt_ok fun x hx => h x (List.mem_cons_of_mem _ hx)
theorem flds_ok {names : List (List Nat)} : ∀ {fs acc : List Fd}, ((acc ++ fs).map (·.name)).Nodup → acc.length + fs.length ≤ 8 → (∀ f ∈ fs, ∀ t ∈ f.tgs, t.t ∈ names) → fieldsL names fs acc = .ok (acc ++ fs)
  | [], acc, _, _, _ => by rw [fieldsL, List.append_nil]
  | f :: fs, acc, hn, hl, ht => by
    have e : (acc ++ [f]) ++ fs = acc ++ f :: fs := by simp
    have hnot : ¬(acc.map (·.name)).contains f.name = true := by
      rw [List.contains_iff_mem]
      intro hm
      rw [List.map_append, List.map_cons, List.nodup_append] at hn
      exact hn.2.2 _ hm _ (List.mem_cons_self ..) rfl
    rw [fieldsL, if_neg hnot, if_neg (by rw [List.length_cons] at hl; omega), tgt_ok (ht f (List.mem_cons_self ..)), bind_ok,
      flds_ok (by rw [e]; exact hn) (by rw [List.length_append, List.length_cons, List.length_nil]; rw [List.length_cons] at hl; omega) fun x hx => ht x (List.mem_cons_of_mem _ hx), e]
theorem find_or {t : List Nat} : ∀ {fs : List Fd} {a : Option Fd}, (∃ f ∈ fs, f.name = t) → ∃ f, fs.foldl (fun acc f => if f.name = t then some f else acc) a = some f ∧ f ∈ fs ∧ f.name = t
  | [], _, h => by obtain ⟨_, z, _⟩ := h; cases z
  | g :: fs, a, h => by
    rw [List.foldl_cons]
    by_cases hx : ∃ f ∈ fs, f.name = t
    · obtain ⟨f, h1, h2, h3⟩ := find_or (a := if g.name = t then some g else a) hx
      exact ⟨f, h1, List.mem_cons_of_mem _ h2, h3⟩
    · obtain ⟨f, hf, e⟩ := h
      rcases List.mem_cons.mp hf with rfl | hf
      · rw [if_pos e]
        refine ⟨f, ?_, List.mem_cons_self .., e⟩
        have : ∀ {l : List Fd} {a : Option Fd}, (¬∃ f ∈ l, f.name = t) → l.foldl (fun acc f => if f.name = t then some f else acc) a = a := by
          intro l
          induction l with
          | nil => intro _ _; rfl
          | cons y l ih =>
            intro a hn
            rw [List.foldl_cons, if_neg (fun z => hn ⟨y, List.mem_cons_self .., z⟩)]
            exact ih fun ⟨f, h1, h2⟩ => hn ⟨f, List.mem_cons_of_mem _ h1, h2⟩
        exact this hx
      · exact absurd ⟨f, hf, e⟩ hx
theorem key_ok {fs : List Fd} : ∀ {ts : List Tk} {seen : List (List Nat)}, (∀ t ∈ ts, (∃ f ∈ fs, f.name = t.t) ∧ ∀ f ∈ fs, f.name = t.t → f.sort.isList = false) → (seen ++ ts.map (·.t)).Nodup → checkKeyL fs ts seen = .ok (seen ++ ts.map (·.t))
  | [], seen, _, _ => by rw [checkKeyL, List.map_nil, List.append_nil]
  | t :: ts, seen, h, hn => by
    obtain ⟨f, e, hf, en⟩ := find_or (a := none) (h t (List.mem_cons_self ..)).1
    have e2 : (seen ++ [t.t]) ++ ts.map (·.t) = seen ++ (t :: ts).map (·.t) := by simp
    have hnot : ¬seen.contains t.t = true := by
      rw [List.contains_iff_mem]
      intro hm
      rw [List.map_cons, List.nodup_append] at hn
      exact hn.2.2 _ hm _ (List.mem_cons_self ..) rfl
    rw [checkKeyL, show findFd fs t.t = some f from e]
    show (if f.sort.isList = true then _ else _) = _
    rw [if_neg (by rw [(h t (List.mem_cons_self ..)).2 f hf en]; decide), if_neg hnot, key_ok (fun x hx => h x (List.mem_cons_of_mem _ hx)) (by rw [e2]; exact hn), e2]
theorem used_ok {used : List (List Nat)} : ∀ {ts : List Tk}, (∀ t ∈ ts, t.t ∉ used) → usedL used ts = .ok ()
  | [], _ => rfl
  | t :: ts, h => by
    rw [usedL, if_neg (by rw [List.contains_iff_mem]; exact h t (List.mem_cons_self ..))]
    exact used_ok fun x hx => h x (List.mem_cons_of_mem _ hx)
theorem keys_ok {fs : List Fd} : ∀ {rows : List (List Tk)} {used : List (List Nat)} {keys : List (List (List Nat))}, (∀ r ∈ rows, r.length ≤ 1000 ∧ ∀ t ∈ r, (∃ f ∈ fs, f.name = t.t) ∧ ∀ f ∈ fs, f.name = t.t → f.sort.isList = false) →
    (used ++ rows.flatMap fun r => r.map (·.t)).Nodup → keys.length + rows.length ≤ 3 → used.length ≤ 1000 * keys.length → keysL fs rows used keys = .ok (keys ++ rows.map fun r => r.map (·.t))
  | [], _, keys, _, _, _, _ => by rw [keysL, List.map_nil, List.append_nil]
  | r :: rows, used, keys, h, hn, hl, hu => by
    have hr := h r (List.mem_cons_self ..)
    rw [List.length_cons] at hl
    rw [List.flatMap_cons] at hn
    have hn2 := List.nodup_append.mp hn
    have hn3 := List.nodup_append.mp hn2.2.1
    have e0 : keysL fs (r :: rows) used keys = if keys.length = 3 then (match r with
      | t :: _ => .badT t.p q_too_many_keys
      | [] => .stuck)
    else if 100000 < used.length ∨ 100000 < r.length then .stuck else (checkKeyL fs r []).bind fun key => (usedL used r).bind fun _ => keysL fs rows (used ++ key) (keys ++ [key]) := by
      cases r <;> rfl
    rw [e0, if_neg (by omega), if_neg (by omega), key_ok (seen := []) hr.2 (by rw [List.nil_append]; exact hn3.1), bind_ok, used_ok (fun t ht hm => hn2.2.2 _ hm _ (List.mem_append_left _ (List.mem_map.mpr ⟨t, ht, rfl⟩)) rfl), bind_ok,
      keys_ok (fun x hx => h x (List.mem_cons_of_mem _ hx)) (by rw [List.nil_append, List.append_assoc]; exact hn) (by rw [List.length_append, List.length_cons, List.length_nil]; omega) (by simp only [List.length_append, List.length_cons, List.length_nil, List.length_map]; have := hr.1; omega)]
    simp
/-- a kind that passes -/
structure KdOk (names : List (List Nat)) (k : Kd) : Prop where
  fl : k.fields.length ≤ 8
  fn : (k.fields.map (·.name)).Nodup
  kl : k.keys.length ≤ 3
  kr : ∀ r ∈ k.keys, r.length ≤ 1000 ∧ ∀ t ∈ r, (∃ f ∈ k.fields, f.name = t) ∧ ∀ f ∈ k.fields, f.name = t → f.sort.isList = false
  kn : (k.keys.flatMap id).Nodup
/-- as it is read -/
structure KpAs (names : List (List Nat)) (k : Kd) (x : Kp) : Prop where
  t : x.tok.t = k.name
  f : x.fields.map Fd.core = k.fields.map Fd.core
  g : ∀ f ∈ x.fields, ∀ t ∈ f.tgs, t.t ∈ names
  r : (x.keys.map fun r => r.map (·.t)) = k.keys
theorem mem_core {fs gs : List Fd} (h : fs.map Fd.core = gs.map Fd.core) {f : Fd} (hf : f ∈ fs) : ∃ g ∈ gs, g.name = f.name ∧ g.sort = f.sort := by
  have : f.core ∈ gs.map Fd.core := by rw [← h]; exact List.mem_map.mpr ⟨f, hf, rfl⟩
  obtain ⟨g, hg, e⟩ := List.mem_map.mp this
  exact ⟨g, hg, congrArg (fun x => x.1) e, congrArg (fun x => x.2.1) e⟩
theorem flat_id {rows : List (List Tk)} : (rows.flatMap fun r => r.map (·.t)) = (rows.map fun r => r.map (·.t)).flatMap id := by
  induction rows with
  | nil => rfl
  | cons r rows ih => rw [List.flatMap_cons, List.map_cons, List.flatMap_cons, ih]; rfl
theorem kind_ok {names : List (List Nat)} {k : Kd} {x : Kp} (h : KdOk names k) (a : KpAs names k x) : checkKind names x = .ok ⟨k.name, x.fields, k.keys⟩ := by
  have hl : x.fields.length = k.fields.length := by
    have := congrArg List.length a.f
    rw [List.length_map, List.length_map] at this
    exact this
  have hn : x.fields.map (·.name) = k.fields.map (·.name) := map_core (fun e => congrArg (fun x => x.1) e) a.f
  unfold checkKind
  rw [flds_ok (acc := []) (by rw [List.nil_append, hn]; exact h.fn) (by rw [List.length_nil, hl]; have := h.fl; omega) a.g, bind_ok, List.nil_append,
    keys_ok (used := []) (keys := []) (fun r hr => ?_) (by rw [List.nil_append, flat_id, a.r]; exact h.kn) (by have := congrArg List.length a.r; rw [List.length_map] at this; rw [List.length_nil, this]; have := h.kl; omega) (Nat.zero_le _), bind_ok, a.t, a.r, List.nil_append]
  have hm : r.map (·.t) ∈ k.keys := by rw [← a.r]; exact List.mem_map.mpr ⟨r, hr, rfl⟩
  have h2 := h.kr _ hm
  rw [List.length_map] at h2
  refine ⟨h2.1, fun t ht => ?_⟩
  have h3 := h2.2 t.t (List.mem_map.mpr ⟨t, ht, rfl⟩)
  refine ⟨?_, fun f hf e => ?_⟩
  · obtain ⟨f, hf, e⟩ := h3.1
    obtain ⟨g, hg, e1, _⟩ := mem_core a.f.symm hf
    exact ⟨g, hg, e1.trans e⟩
  · obtain ⟨g, hg, e1, e2⟩ := mem_core a.f hf
    rw [← e2]
    exact h3.2 g hg (e1.trans e)
/-- kinds and what is read of them, one by one -/
def KpsAs (names : List (List Nat)) : List Kd → List Kp → Prop
  | [], [] => True
  | k :: ks, x :: xs => KpAs names k x ∧ KpsAs names ks xs
  | _, _ => False
theorem kinds_ok {names : List (List Nat)} : ∀ {ks acc : List Kd} {xs : List Kp}, (∀ k ∈ ks, KdOk names k) → KpsAs names ks xs → ((acc ++ ks).map (·.name)).Nodup → acc.length + ks.length ≤ 8 →
    ∃ rs, kindsL names xs acc = .ok (acc ++ rs) ∧ rs.map Kd.core = ks.map Kd.core
  | [], acc, [], _, _, _, _ => ⟨[], by rw [kindsL, List.append_nil], rfl⟩
  | k :: ks, acc, x :: xs, h, a, hn, hl => by
    have hk := kind_ok (h k (List.mem_cons_self ..)) a.1
    have hnot : ¬(acc.map (·.name)).contains x.tok.t = true := by
      rw [List.contains_iff_mem, a.1.t]
      intro hm
      rw [List.map_append, List.map_cons, List.nodup_append] at hn
      exact hn.2.2 _ hm _ (List.mem_cons_self ..) rfl
    rw [List.length_cons] at hl
    obtain ⟨rs, e, ec⟩ := kinds_ok (acc := acc ++ [⟨k.name, x.fields, k.keys⟩]) (fun y hy => h y (List.mem_cons_of_mem _ hy)) a.2 (by
      have e2 : ((acc ++ [(⟨k.name, x.fields, k.keys⟩ : Kd)]) ++ ks).map (·.name) = (acc ++ k :: ks).map (·.name) := by simp
      rw [e2]; exact hn) (by rw [List.length_append, List.length_cons, List.length_nil]; omega)
    refine ⟨⟨k.name, x.fields, k.keys⟩ :: rs, ?_, ?_⟩
    · rw [kindsL, if_neg hnot, if_neg (by omega), hk, bind_ok, e, List.append_assoc]
      rfl
    · rw [List.map_cons, List.map_cons, ec]
      show (k.name, x.fields.map Fd.core, k.keys) :: _ = (k.name, k.fields.map Fd.core, k.keys) :: _
      rw [a.1.f]
theorem KpsAs.names {names : List (List Nat)} : ∀ {ks : List Kd} {xs : List Kp}, KpsAs names ks xs → xs.map (fun k => k.tok.t) = ks.map (·.name)
  | [], [], _ => rfl
  | k :: ks, x :: xs, h => by rw [List.map_cons, List.map_cons, h.1.t, KpsAs.names h.2]
theorem checked {ks : List Kd} {xs : List Kp} (h : ∀ k ∈ ks, KdOk (ks.map (·.name)) k) (a : KpsAs (ks.map (·.name)) ks xs) (hn : (ks.map (·.name)).Nodup) (hl : ks.length ≤ 8) :
    ∃ rs, checkKinds xs = .ok rs ∧ rs.map Kd.core = ks.map Kd.core := by
  have el := congrArg List.length a.names
  rw [List.length_map, List.length_map] at el
  unfold checkKinds
  rw [if_neg (by omega), a.names]
  obtain ⟨rs, e, ec⟩ := kinds_ok (acc := []) h a hn (by rw [List.length_nil]; omega)
  exact ⟨rs, e, ec⟩
end Lw

-- rd
namespace Lw
open PySem PySem.Spec PyProof.Rows L2 G
/-! ### the schemas that k03 draws: as they are written; as items -/
def dg (v : Int) : List Nat := [48 + v.natAbs]
def sxOf : So → Sx
  | .int a b => .int (decide (a < 0)) (dg a) (decide (b < 0)) (dg b)
  | .text n w => .text (dg n) w
  | .choice (c :: cs) => .choice c cs
  | .choice [] => .choice [] []
  | .ref (k :: ks) r => .ref k ks r
  | .ref [] r => .ref [] [] r
  | .list (k :: ks) => .list k ks
  | .list [] => .list [] []
def fxOf (f : Fd) : Fx := ⟨f.name, sxOf f.sort, f.need⟩
def kxOf (r : List (List Nat)) : Kx := (r.headD [], r.tail)
def kixOf (k : Kd) : Kix := ⟨k.name, k.fields.map fxOf, k.keys.map kxOf⟩
def l_int : List Int := [-3, -2, -1, 0, 1, 2, 3, 4, 5, 6, 7]
def l_len : List Int := [1, 2, 3, 4, 5, 6]
def l_wo : List (Option (List Nat)) := [none, none, some q_x2c, some q_x22]
def l_ch : List (List Nat) := [q_a, q_b_c, q_x22, q_dx5c]
def l_kn : List (List Nat) := [q_K, q_Ll, q_Mx5f2]
def l_fn : List (List Nat) := [q_a, q_bx5f1, q_cC, q_d]
def l_ru : List (List Nat) := [q_clears, q_refuses, q_takes]
structure KsOk (names ks : List (List Nat)) : Prop where
  ne : ks ≠ []
  nd : ks.Nodup
  m : ∀ k ∈ ks, k ∈ names
def SoOk (names : List (List Nat)) : So → Prop
  | .int a b => a ∈ l_int ∧ b ∈ l_int ∧ a ≤ b
  | .text n w => n ∈ l_len ∧ w ∈ l_wo
  | .choice cs => ∃ i < 4, cs = l_ch.take (i + 1)
  | .ref ks r => KsOk names ks ∧ r ∈ l_ru
  | .list ks => KsOk names ks
/-- digits -/
def dgT (v : Int) : Bool := decide (intV (decide (v < 0)) (dg v) = v) && ((dg v).all isD && decide (decI v = (if decide (v < 0) = true then [45] else []) ++ dg v))
theorem int_all : (l_int.all dgT) = true := by decide +kernel
theorem len_all : (l_len.all fun v => dgT v && decide (numT (dg v) = v)) = true := by decide +kernel
structure DgOk (n : Int) : Prop where
  v : intV (decide (n < 0)) (dg n) = n
  d : Dg (dg n)
  t : decI n = (if decide (n < 0) = true then [45] else []) ++ dg n
theorem dgT_ok {v : Int} (h : dgT v = true) : DgOk v := by
  unfold dgT at h
  rw [Bool.and_eq_true, Bool.and_eq_true, decide_eq_true_iff, decide_eq_true_iff] at h
  refine ⟨h.1, ⟨⟨48 + v.natAbs, [], rfl, ?_, fun _ => rfl⟩, h.2.1, (by decide : 1 ≤ 18)⟩, h.2.2⟩
  have := h.2.1
  unfold dg at this
  rw [List.all_cons, Bool.and_eq_true] at this
  exact this.1
theorem int_ok {v : Int} (h : v ∈ l_int) : DgOk v := dgT_ok (List.all_eq_true.mp int_all v h)
theorem len_ok {v : Int} (h : v ∈ l_len) : DgOk v ∧ (numT (dg v) : Int) = v ∧ 1 ≤ v ∧ v ≤ 6 ∧ ¬v < 0 := by
  have h1 := List.all_eq_true.mp len_all v h
  rw [Bool.and_eq_true, decide_eq_true_iff] at h1
  have h2 : ∀ v ∈ l_len, (1 ≤ v ∧ v ≤ 6 ∧ ¬v < 0) := by decide
  have h3 := h2 v h
  exact ⟨dgT_ok h1.1, h1.2, h3.1, h3.2.1, h3.2.2⟩
theorem int_in : ∀ v ∈ l_int, (-3 ≤ v ∧ v ≤ 7) := by decide
theorem ch_ok : ∀ i < 4, (∀ z ∈ l_ch.take (i + 1), z.length ≤ 40) ∧ (l_ch.take (i + 1)).Nodup ∧ (l_ch.take (i + 1)).length ≤ 4 ∧ l_ch.take (i + 1) ≠ [] := by decide
theorem kn_ok : ∀ t ∈ l_kn, (ts_RESERVED.contains t = false ∧ great t = true) := by decide
theorem fn_ok : ∀ t ∈ l_fn, (ts_RESERVED.contains t = false ∧ great t = false) := by decide
theorem nm3 : ∀ t ∈ l_kn ++ l_fn, (match t with | c :: r => isL c && (c :: r).all isW && decide ((c :: r).length ≤ 12) | [] => false) = true := by decide
theorem nm3_ok {t : List Nat} (h : t ∈ l_kn ++ l_fn) : Nm t := by
  have := nm3 t h
  cases t with
  | nil => cases this
  | cons c r => exact nm_of this
theorem kn_nm {t : List Nat} (h : t ∈ l_kn) : Nm t := nm3_ok (List.mem_append_left _ h)
theorem fn_nm {t : List Nat} (h : t ∈ l_fn) : Nm t := nm3_ok (List.mem_append_right _ h)
theorem sx_so {names : List (List Nat)} {s : So} (h : SoOk names s) : (sxOf s).so = s := by
  cases s with
  | int a b =>
    show So.int (intV _ (dg a)) (intV _ (dg b)) = _
    rw [(int_ok h.1).v, (int_ok h.2.1).v]
  | text n w =>
    show So.text (numT (dg n)) w = _
    rw [(len_ok h.1).2.1]
  | choice cs =>
    cases cs with
    | nil => obtain ⟨i, hi, e⟩ := h; exact absurd e.symm (ch_ok i hi).2.2.2
    | cons c cs => rfl
  | ref ks r =>
    cases ks with
    | nil => exact absurd rfl h.1.ne
    | cons c cs => rfl
  | list ks =>
    cases ks with
    | nil => exact absurd rfl h.ne
    | cons c cs => rfl
theorem sx_ok {names : List (List Nat)} (hn : ∀ t ∈ names, t ∈ l_kn) {s : So} (h : SoOk names s) : (sxOf s).Ok ts_RESERVED := by
  cases s with
  | int a b =>
    show ¬(intV _ (dg b) < intV _ (dg a) ∨ intV _ (dg a) < -1000000000 ∨ 1000000000 < intV _ (dg b))
    rw [(int_ok h.1).v, (int_ok h.2.1).v]
    have h1 := int_in a h.1
    have h2 := int_in b h.2.1
    have h3 := h.2.2
    omega
  | text n w =>
    have h1 := len_ok h.1
    refine ⟨fun z => ?_, fun z hz => ?_⟩
    · have := h1.2
      omega
    · have : ∀ w ∈ l_wo, ∀ z, w = some z → z.length = 1 := by
        intro w hw z e
        subst e
        simp only [l_wo, List.mem_cons, List.not_mem_nil, or_false, reduceCtorEq, false_or, Option.some.injEq] at hw
        rcases hw with rfl | rfl <;> rfl
      exact this w h.2 z hz
  | choice cs =>
    obtain ⟨i, hi, e⟩ := h
    have h4 := ch_ok i hi
    rw [← e] at h4
    cases cs with
    | nil => exact absurd rfl h4.2.2.2
    | cons c cs => exact ⟨h4.1, h4.2.1, by have := h4.2.2.1; rw [List.length_cons] at this; omega⟩
  | ref ks r =>
    cases ks with
    | nil => exact absurd rfl h.1.ne
    | cons c cs => exact ⟨fun z hz => kn_ok z (hn z (h.1.m z hz)), h.1.nd, h.2⟩
  | list ks =>
    cases ks with
    | nil => exact absurd rfl h.ne
    | cons c cs => exact ⟨fun z hz => kn_ok z (hn z (h.m z hz)), h.nd⟩
theorem sx_nms {names : List (List Nat)} (hn : ∀ t ∈ names, t ∈ l_kn) {s : So} (h : SoOk names s) : (sxOf s).Nms := by
  cases s with
  | int a b => exact ⟨(int_ok h.1).d, (int_ok h.2.1).d⟩
  | text n w => exact (len_ok h.1).1.d
  | choice cs => cases cs <;> exact trivial
  | ref ks r =>
    cases ks with
    | nil => exact absurd rfl h.1.ne
    | cons c cs => exact ⟨fun z hz => kn_nm (hn z (h.1.m z hz)), h.2⟩
  | list ks =>
    cases ks with
    | nil => exact absurd rfl h.ne
    | cons c cs => exact fun z hz => kn_nm (hn z (h.m z hz))
/-! texts -/
theorem orB_txt3 : ∀ {ks : List (List Nat)}, textI 0 (orB ks) = ks.flatMap (q__or_ ++ ·)
  | [] => rfl
  | k :: ks => by
    show textI 0 ((1, .word q_or) :: (1, .word k) :: orB ks) = (q__or_ ++ k) ++ ks.flatMap (q__or_ ++ ·)
    rw [← orB_txt3, List.append_assoc]
    rfl
theorem comWB_txt3 : ∀ {ks : List (List Nat)}, textI 0 (comWB ks) = ks.flatMap (q_x2c_ ++ ·)
  | [] => rfl
  | k :: ks => by
    show textI 0 ((0, .sig q_x2c) :: (1, .word k) :: comWB ks) = (q_x2c_ ++ k) ++ ks.flatMap (q_x2c_ ++ ·)
    rw [← comWB_txt3, List.append_assoc]
    rfl
theorem comTB_txt3 : ∀ {ks : List (List Nat)}, textI 0 (comTB ks) = (ks.map qtW).flatMap (q_x2c_ ++ ·)
  | [] => rfl
  | k :: ks => by
    show textI 0 ((0, .sig q_x2c) :: (1, .txt k) :: comTB ks) = (q_x2c_ ++ qtW k) ++ (ks.map qtW).flatMap (q_x2c_ ++ ·)
    rw [← comTB_txt3, List.append_assoc]
    rfl
theorem intB_txt {v : Int} (h : DgOk v) {n : Nat} : textI 0 (intB n (decide (v < 0)) (dg v)) = List.replicate n 32 ++ decI v := by
  rw [h.t]
  cases decide (v < 0) with
  | true => rfl
  | false => exact congrArg (List.replicate n 32 ++ ·) (List.append_nil _)
theorem ruleB_txt {r : List Nat} : textI 0 (ruleB r) = if r = q_clears then [] else q__ ++ r := by
  unfold ruleB
  split
  · rfl
  · exact congrArg (q__ ++ ·) (List.append_nil r)
theorem woB_txt {w : Option (List Nat)} : textI 0 (woB w) = match w with | none => [] | some z => q__without_ ++ qtW z := by
  cases w with
  | none => rfl
  | some z => exact congrArg (q__without_ ++ ·) (List.append_nil (qtW z))
theorem sx_txt {names : List (List Nat)} {s : So} (h : SoOk names s) : textI 0 (sxOf s).itb = 32 :: wSo s := by
  cases s with
  | int a b =>
    show 32 :: (q_int ++ textI 0 (intB 1 (decide (a < 0)) (dg a) ++ ((0, .sig q_x2ex2e) :: intB 0 (decide (b < 0)) (dg b)))) = _
    rw [textI_app, intB_txt (int_ok h.1)]
    show 32 :: (q_int ++ ((32 :: decI a) ++ (q_x2ex2e ++ textI 0 (intB 0 (decide (b < 0)) (dg b))))) = _
    rw [intB_txt (int_ok h.2.1)]
    show 32 :: (q_int ++ ((32 :: decI a) ++ (q_x2ex2e ++ decI b))) = 32 :: (q_int_ ++ decI a ++ q_x2ex2e ++ decI b)
    rw [show q_int_ = q_int ++ [32] from rfl]
    simp
  | text n w =>
    have hd := (len_ok h.1)
    have et : decI n = dg n := by
      rw [hd.1.t, if_neg (by rw [decide_eq_false hd.2.2.2.2]; decide)]
      rfl
    show 32 :: (q_text ++ (32 :: (dg n ++ textI 0 (woB w)))) = 32 :: wSo (.text n w)
    rw [woB_txt]
    cases w with
    | none =>
      show 32 :: (q_text ++ (32 :: (dg n ++ []))) = 32 :: (q_text_ ++ decI n)
      rw [et, show q_text_ = q_text ++ [32] from rfl]
      simp
    | some z =>
      show 32 :: (q_text ++ (32 :: (dg n ++ (q__without_ ++ qtW z)))) = 32 :: (q_text_ ++ decI n ++ q__without_ ++ qtW z)
      rw [et, show q_text_ = q_text ++ [32] from rfl]
      simp
  | choice cs =>
    cases cs with
    | nil => obtain ⟨i, hi, e⟩ := h; exact absurd e.symm (ch_ok i hi).2.2.2
    | cons c cs =>
      show 32 :: (q_one ++ (32 :: (q_of ++ (32 :: (qtW c ++ textI 0 (comTB cs)))))) = 32 :: (q_one_of_ ++ (qtW c ++ (cs.map qtW).flatMap (q_x2c_ ++ ·)))
      rw [comTB_txt3, show q_one_of_ = q_one ++ [32] ++ q_of ++ [32] from rfl]
      simp
  | ref ks r =>
    cases ks with
    | nil => exact absurd rfl h.1.ne
    | cons k ks =>
      show 32 :: (q_ref ++ (32 :: (k ++ textI 0 (orB ks ++ ruleB r)))) = 32 :: (if r = q_clears then q_ref_ ++ (k ++ ks.flatMap (q__or_ ++ ·)) else q_ref_ ++ (k ++ ks.flatMap (q__or_ ++ ·)) ++ q__ ++ r)
      rw [textI_app, orB_txt3, ruleB_txt, show q_ref_ = q_ref ++ [32] from rfl]
      split <;> simp
  | list ks =>
    cases ks with
    | nil => exact absurd rfl h.ne
    | cons k ks =>
      show 32 :: (q_list ++ (32 :: (k ++ textI 0 (orB ks)))) = 32 :: (q_list_ ++ (k ++ ks.flatMap (q__or_ ++ ·)))
      rw [orB_txt3, show q_list_ = q_list ++ [32] from rfl]
      simp
structure FdOk3 (names : List (List Nat)) (x : Fd) : Prop where
  n : x.name ∈ l_fn
  s : SoOk names x.sort
  b : ¬(x.need = true ∧ x.sort.isList = true)
structure KdOk3 (names : List (List Nat)) (k : Kd) : Prop where
  n : k.name ∈ l_kn
  f : ∀ f ∈ k.fields, FdOk3 names f
  fn : (k.fields.map (·.name)).Nodup
  fl : k.fields.length ≤ 4
  kl : k.keys.length ≤ 2
  kr : ∀ r ∈ k.keys, r ≠ [] ∧ r.length ≤ 4 ∧ ∀ t ∈ r, t ∈ l_fn ∧ (∃ f ∈ k.fields, f.name = t) ∧ ∀ f ∈ k.fields, f.name = t → f.sort.isList = false
  kn : (k.keys.flatMap id).Nodup
theorem fx_txt {names : List (List Nat)} {f : Fd} (h : FdOk3 names f) : textI 0 (fxOf f).itb = 32 :: wFd f := by
  have e : textI 0 (fxOf f).itb = 32 :: (f.name ++ (58 :: (textI 0 (sxOf f.sort).itb ++ (textI 0 (needB f.need) ++ [59])))) := by
    show textI 0 ((1, .word f.name) :: (0, .sig q_x3a) :: ((sxOf f.sort).itb ++ (needB f.need ++ [(0, .sig q_x3b)]))) = _
    show 32 :: (f.name ++ (58 :: textI 0 ((sxOf f.sort).itb ++ (needB f.need ++ [(0, .sig q_x3b)])))) = _
    rw [textI_app, textI_app]
    rfl
  have e2 : textI 0 (needB f.need) = if f.need = true then q__not_null else [] := by
    cases f.need <;> rfl
  rw [e, sx_txt h.s, e2]
  unfold wFd
  rw [show q_x3a_ = [58, 32] from rfl, show q_x3b = [59] from rfl]
  split <;> simp
theorem kx_txt {r : List (List Nat)} (h : r ≠ []) : textI 0 (Kx.itb (kxOf r)) = 32 :: wKey r := by
  cases r with
  | nil => exact absurd rfl h
  | cons k ks =>
    show textI 0 ((1, .word q_key) :: (1, .word k) :: (comWB ks ++ [(0, .sig q_x3b)])) = _
    show 32 :: (q_key ++ (32 :: (k ++ textI 0 (comWB ks ++ [(0, .sig q_x3b)])))) = _
    rw [textI_app, comWB_txt3]
    show 32 :: (q_key ++ (32 :: (k ++ (ks.flatMap (q_x2c_ ++ ·) ++ [59])))) = 32 :: (q_key_ ++ (k ++ ks.flatMap (q_x2c_ ++ ·)) ++ q_x3b)
    rw [show q_key_ = q_key ++ [32] from rfl, show q_x3b = [59] from rfl]
    simp
theorem fm_txt3 {α β : Type} {g : α → β} {h : β → List (Nat × It)} {f : α → List Nat} : ∀ {l : List α}, (∀ x ∈ l, textI 0 (h (g x)) = 32 :: f x) → textI 0 ((l.map g).flatMap h) = (l.map f).flatMap (q__ ++ ·)
  | [], _ => rfl
  | x :: l, e => by
    rw [List.map_cons, List.flatMap_cons, textI_app, fm_txt3 fun y hy => e y (List.mem_cons_of_mem _ hy), e x (List.mem_cons_self ..)]
    rfl
theorem kix_txt {names : List (List Nat)} {n : Nat} {k : Kd} (h : KdOk3 names k) : textI 0 ((kixOf k).itb n) = List.replicate n 32 ++ wKd k := by
  have e : textI 0 ((kixOf k).itb n) = List.replicate n 32 ++ (q_kind ++ (32 :: (k.name ++ (32 :: 123 :: (textI 0 (fsB (k.fields.map fxOf)) ++ (textI 0 (ksB (k.keys.map kxOf)) ++ [32, 125])))))) := by
    show List.replicate n 32 ++ (q_kind ++ (32 :: (k.name ++ (32 :: 123 :: textI 0 (fsB (k.fields.map fxOf) ++ (ksB (k.keys.map kxOf) ++ [(1, .sig q_x7d)])))))) = _
    rw [textI_app, textI_app]
    rfl
  have hf : textI 0 (fsB (k.fields.map fxOf)) = (k.fields.map wFd).flatMap (q__ ++ ·) := fm_txt3 fun x hx => fx_txt (h.f x hx)
  have hk : textI 0 (ksB (k.keys.map kxOf)) = (k.keys.map wKey).flatMap (q__ ++ ·) := fm_txt3 fun x hx => kx_txt (h.kr x hx).1
  rw [e, hf, hk]
  show _ = _ ++ ((q_kind_ ++ k.name ++ q__x7b) ++ (([] ++ (k.fields.map wFd ++ k.keys.map wKey)) ++ [q_x7d]).flatMap (q__ ++ ·))
  rw [show q_kind_ = q_kind ++ [32] from rfl, show q__x7b = [32, 123] from rfl, List.nil_append, List.flatMap_append, List.flatMap_append]
  rw [show [q_x7d].flatMap (q__ ++ ·) = [32, 125] from rfl]
  simp
theorem scB1_txt {names : List (List Nat)} : ∀ {ks : List Kd}, (∀ k ∈ ks, KdOk3 names k) → textI 0 (scB1 (ks.map kixOf)) = (ks.map wKd).flatMap (q__ ++ ·)
  | [], _ => rfl
  | k :: ks, h => by
    show textI 0 ((kixOf k).itb 1 ++ scB1 (ks.map kixOf)) = _
    rw [textI_app, scB1_txt fun y hy => h y (List.mem_cons_of_mem _ hy), kix_txt (h k (List.mem_cons_self ..))]
    rfl
theorem sc_txt {names : List (List Nat)} {k : Kd} {ks : List Kd} (h : ∀ x ∈ k :: ks, KdOk3 names x) : textI 0 (scB 0 (kixOf k) (ks.map kixOf)) = wSc (k :: ks) := by
  unfold scB
  rw [textI_app, scB1_txt fun y hy => h y (List.mem_cons_of_mem _ hy), kix_txt (h k (List.mem_cons_self ..))]
  rfl
theorem kix_ok {names : List (List Nat)} (hn : ∀ t ∈ names, t ∈ l_kn) {k : Kd} (h : KdOk3 names k) : (kixOf k).Ok ts_RESERVED := by
  refine ⟨kn_ok _ h.n, fun x hx => ?_, fun x hx z hz => ?_⟩
  · obtain ⟨f, hf, rfl⟩ := List.mem_map.mp (show x ∈ k.fields.map fxOf from hx)
    have h1 := h.f f hf
    refine ⟨fn_ok _ h1.n, sx_ok hn h1.s, fun e => h1.b ⟨e.1, ?_⟩⟩
    have e2 : (sxOf f.sort).isList = true := e.2
    rw [← Sx.isList_so, sx_so h1.s] at e2
    exact e2
  · obtain ⟨r, hr, rfl⟩ := List.mem_map.mp (show x ∈ k.keys.map kxOf from hx)
    have h1 := h.kr r hr
    cases r with
    | nil => exact absurd rfl h1.1
    | cons a r => exact fn_ok _ (h1.2.2 z hz).1
theorem kix_nms {names : List (List Nat)} (hn : ∀ t ∈ names, t ∈ l_kn) {k : Kd} (h : KdOk3 names k) : (kixOf k).Nms := by
  refine ⟨kn_nm h.n, fun x hx => ?_, fun x hx z hz => ?_⟩
  · obtain ⟨f, hf, rfl⟩ := List.mem_map.mp (show x ∈ k.fields.map fxOf from hx)
    exact ⟨fn_nm (h.f f hf).n, sx_nms hn (h.f f hf).s⟩
  · obtain ⟨r, hr, rfl⟩ := List.mem_map.mp (show x ∈ k.keys.map kxOf from hx)
    have h1 := h.kr r hr
    cases r with
    | nil => exact absurd rfl h1.1
    | cons a r => exact fn_nm (h1.2.2 z hz).1
theorem kd_ok {names : List (List Nat)} {k : Kd} (h : KdOk3 names k) : KdOk names k := ⟨Nat.le_trans h.fl (by decide), h.fn, Nat.le_trans h.kl (by decide), fun r hr => ⟨Nat.le_trans (h.kr r hr).2.1 (by decide), fun t ht => ((h.kr r hr).2.2 t ht).2⟩, h.kn⟩
section
variable {pl : Nat → Nat} {names : List (List Nat)}
theorem fsFd_core : ∀ {fs : List Fd} {i : Nat}, (∀ f ∈ fs, FdOk3 names f) → (fsFd pl i (fs.map fxOf)).map Fd.core = fs.map Fd.core
  | [], _, _ => rfl
  | f :: fs, i, h => by
    rw [List.map_cons, fsFd, List.map_cons, List.map_cons, fsFd_core fun y hy => h y (List.mem_cons_of_mem _ hy)]
    show (f.name, (sxOf f.sort).so, f.need) :: _ = (f.name, f.sort, f.need) :: _
    rw [sx_so (h f (List.mem_cons_self ..)).s]
theorem ev_in {ks : List (List Nat)} {i : Nat} (h : ∀ k ∈ ks, k ∈ names) : ∀ t ∈ evTk pl i ks, t.t ∈ names := fun t ht => by
  have : t.t ∈ (evTk pl i ks).map (·.t) := List.mem_map.mpr ⟨t, ht, rfl⟩
  rw [evTk_t] at this
  exact h _ this
theorem sx_tgs {s : So} {i : Nat} (h : SoOk names s) : ∀ t ∈ (sxOf s).tgs pl i, t.t ∈ names := by
  cases s with
  | int a b => exact fun t ht => nomatch ht
  | text n w => exact fun t ht => nomatch ht
  | choice cs => cases cs <;> exact fun t ht => nomatch ht
  | ref ks r =>
    cases ks with
    | nil => exact absurd rfl h.1.ne
    | cons k ks => exact ev_in h.1.m
  | list ks =>
    cases ks with
    | nil => exact absurd rfl h.ne
    | cons k ks => exact ev_in h.m
theorem fsFd_tgs : ∀ {fs : List Fd} {i : Nat}, (∀ f ∈ fs, FdOk3 names f) → ∀ d ∈ fsFd pl i (fs.map fxOf), ∀ t ∈ d.tgs, t.t ∈ names
  | [], _, _, _, hd => nomatch hd
  | f :: fs, i, h, d, hd => by
    rw [List.map_cons, fsFd] at hd
    rcases List.mem_cons.mp hd with rfl | hd
    · exact sx_tgs (h f (List.mem_cons_self ..)).s
    · exact fsFd_tgs (fun y hy => h y (List.mem_cons_of_mem _ hy)) d hd
theorem ksTk_t : ∀ {rs : List (List (List Nat))} {i : Nat}, (∀ r ∈ rs, r ≠ []) → ((ksTk pl i (rs.map kxOf)).map fun r => r.map (·.t)) = rs
  | [], _, _ => rfl
  | r :: rs, i, h => by
    rw [List.map_cons, ksTk, List.map_cons, ksTk_t fun y hy => h y (List.mem_cons_of_mem _ hy)]
    cases r with
    | nil => exact absurd rfl (h [] (List.mem_cons_self ..))
    | cons k ks =>
      show (evTk pl i (k :: ks)).map (·.t) :: rs = _
      rw [evTk_t]
theorem scKp_as : ∀ {ks : List Kd} {i : Nat}, (∀ k ∈ ks, KdOk3 names k) → KpsAs names ks (scKp pl i (ks.map kixOf))
  | [], _, _ => trivial
  | k :: ks, i, h => by
    have hk := h k (List.mem_cons_self ..)
    exact ⟨⟨rfl, fsFd_core hk.f, fsFd_tgs hk.f, ksTk_t fun r hr => (hk.kr r hr).1⟩, scKp_as fun y hy => h y (List.mem_cons_of_mem _ hy)⟩
end
/-- drawn kinds -/
structure DsOk (ds : List Kd) : Prop where
  ne : ds ≠ []
  l : ds.length ≤ 3
  n : (ds.map (·.name)).Nodup
  m : ∀ t ∈ ds.map (·.name), t ∈ l_kn
  k : ∀ x ∈ ds, KdOk3 (ds.map (·.name)) x
/-- any text with these items in order is read as these kinds -/
theorem read3 {ds : List Kd} (h : DsOk ds) {l : List (Nat × It)} {b : Nat} (hl : l.map (·.2) = scIt (ds.map kixOf)) (hg : Good l) (hn : (textI b l).length ≤ 1000) : ∃ rs, readSchema (textI b l) = .ok rs ∧ rs.map Kd.core = ds.map Kd.core := by
  have hk : ∃ k ks, ds = k :: ks := by
    cases ds with
    | nil => exact absurd rfl h.ne
    | cons k ks => exact ⟨k, ks, rfl⟩
  obtain ⟨k, ks, rfl⟩ := hk
  rw [readSchema_W hg.fits hl hn (fun x hx => by
    obtain ⟨y, hy, rfl⟩ := List.mem_map.mp (show x ∈ (k :: ks).map kixOf from hx)
    exact kix_ok h.m (h.k y hy))]
  exact checked (fun x hx => kd_ok (h.k x hx)) (scKp_as (ks := k :: ks) h.k) h.n (Nat.le_trans h.l (by decide))
theorem items3 {ds : List Kd} (h : DsOk ds) : ∃ l, textI 0 l = wSc ds ∧ l.map (·.2) = scIt (ds.map kixOf) ∧ Good l ∧ ∃ x r, l = (0, x) :: r := by
  have hk : ∃ k ks, ds = k :: ks := by
    cases ds with
    | nil => exact absurd rfl h.ne
    | cons k ks => exact ⟨k, ks, rfl⟩
  obtain ⟨k, ks, rfl⟩ := hk
  refine ⟨scB 0 (kixOf k) (ks.map kixOf), sc_txt h.k, scB_its, scB_good fun x hx => ?_, _, _, rfl⟩
  obtain ⟨y, hy, rfl⟩ := List.mem_map.mp (show x ∈ (k :: ks).map kixOf from hx)
  exact kix_nms h.m (h.k y hy)
end Lw

-- rd
namespace Lw
open PySem PySem.Spec PyProof.Rows L2 G
/-! ### a text with more blanks between its tokens -/
theorem sp_no : ((List.range 128).all fun c => !(isW c || (c == 34 || (ts_SIGNS.any fun t => t.contains c))) || !Unicode.isSpace c) = true := by decide +kernel
theorem sp_32 : Unicode.isSpace 32 = true := by decide +kernel
theorem isW_lt {c : Nat} (h : isW c = true) : c < 128 := by
  unfold isW isL isD at h
  simp only [Bool.or_eq_true, Bool.and_eq_true, decide_eq_true_iff] at h
  omega
theorem sp_w {c : Nat} (h : isW c = true) : Unicode.isSpace c = false := by
  have := List.all_eq_true.mp sp_no c (List.mem_range.mpr (isW_lt h))
  rw [h] at this
  simpa using this
theorem sp_q : Unicode.isSpace 34 = false := by
  have := List.all_eq_true.mp sp_no 34 (by decide)
  simpa using this
theorem sp_s : (ts_SIGNS.all fun t => match t.getLast? with | some c => !Unicode.isSpace c | none => false) = true := by decide +kernel
/-- the text's last sign is none that is stripped -/
def Ends (t : List Nat) : Prop := ∃ r c, t = r ++ [c] ∧ Unicode.isSpace c = false
theorem rstrip_ends {t : List Nat} (h : Ends t) (n : Nat) : Txt.rstrip ⟨(t ++ List.replicate n 32).toArray⟩ = ⟨t.toArray⟩ := by
  obtain ⟨r, c, rfl, hc⟩ := h
  generalize hx : (⟨((r ++ [c]) ++ List.replicate n 32).toArray⟩ : Str) = x
  have hl : x.length = r.length + 1 + n := by
    rw [← hx]
    show (((r ++ [c]) ++ List.replicate n 32).toArray).size = _
    simp
    omega
  have hget : ∀ k, x.cps.getD k 0 = ((r ++ [c]) ++ List.replicate n 32).getD k 0 := fun k => by
    rw [← hx]
    simp [Array.getD, List.getD]
    split
    · rename_i h
      simp [List.getElem?_eq_getElem, h]
    · rename_i h
      rw [List.getElem?_eq_none (by simp; omega)]
      rfl
  have e : Txt.rstrip x = PySem.Builtin.Str.strSub x 0 (stripHi Unicode.isSpace true x 0) := by
    unfold Txt.rstrip
    rw [PyProof.Rows.stripBy_eq]
    rfl
  obtain ⟨_, h0, h1, h2⟩ := hi_facts Unicode.isSpace x 0 (Nat.zero_le _)
  have hlast : x.cps.getD r.length 0 = c := by
    rw [hget, List.getD_eq_getElem?_getD, List.append_assoc, List.getElem?_append_right (Nat.le_refl _)]
    simp
  have hi : stripHi Unicode.isSpace true x 0 = r.length + 1 := by
    generalize stripHi Unicode.isSpace true x 0 = hi at *
    rcases Nat.lt_trichotomy hi (r.length + 1) with z | z | z
    · have := h1 r.length (by omega) (by omega)
      rw [hlast, hc] at this
      cases this
    · exact z
    · have hs : x.cps.getD (hi - 1) 0 = 32 := by
        rw [hget, List.getD_eq_getElem?_getD, List.getElem?_append_right (by simp; omega), List.getElem?_replicate, if_pos (by simp; omega)]
        rfl
      rcases h2 with h2 | h2
      · omega
      · rw [hs, sp_32] at h2
        cases h2
  rw [e, hi, strSub_mk, ← hx]
  refine congrArg (fun l : List Nat => (⟨l.toArray⟩ : Str)) ?_
  show (((r ++ [c]) ++ List.replicate n 32).toArray.toList.drop 0).take (r.length + 1 - 0) = _
  rw [List.drop_zero, Nat.sub_zero, List.toList_toArray]
  have : r.length + 1 = (r ++ [c]).length := by simp
  rw [this, List.take_left]
theorem all_last {t : List Nat} {f : Nat → Bool} (ne : t ≠ []) (h : t.all f = true) : ∃ r c, t = r ++ [c] ∧ f c = true := by
  refine ⟨t.dropLast, t.getLast ne, (List.dropLast_concat_getLast ne).symm, List.all_eq_true.mp h _ (List.getLast_mem ne)⟩
theorem one_ends {x : It} (h : x.one) : Ends x.raw := by
  cases x with
  | word t =>
    obtain ⟨⟨c, r, e, _⟩, h2, _⟩ := h
    obtain ⟨r, c, e, hc⟩ := all_last (t := t) (by rw [e]; exact fun z => nomatch z) h2
    exact ⟨r, c, e, sp_w hc⟩
  | num t =>
    obtain ⟨⟨c, r, e, _⟩, h2, _⟩ := h
    obtain ⟨r, c, e, hc⟩ := all_last (t := t) (by rw [e]; exact fun z => nomatch z) h2
    refine ⟨r, c, e, sp_w ?_⟩
    unfold isW
    rw [hc]
    simp
  | sig t =>
    have h1 := List.all_eq_true.mp sp_s t h
    cases hl : t.getLast? with
    | none => rw [hl] at h1; cases h1
    | some c =>
      rw [hl] at h1
      obtain ⟨r, e⟩ := List.getLast?_eq_some_iff.mp hl
      exact ⟨r, c, e, by simpa using h1⟩
  | txt t => exact ⟨34 :: t.flatMap esc, 34, rfl, sp_q⟩
/-- the items with these blanks behind each; so many ahead of the first -/
def wideI : Nat → List It → List Nat → List (Nat × It)
  | n, x :: r, b :: bs => (n, x) :: wideI b r bs
  | _, _, _ => []
def wideB : Nat → List Nat → Nat
  | n, [] => n
  | _, b :: bs => wideB b bs
def wideT : List It → List Nat → List Nat
  | x :: r, b :: bs => x.raw ++ (List.replicate b 32 ++ wideT r bs)
  | _, _ => []
theorem wide_txt : ∀ {r : List It} {bs : List Nat} {n : Nat}, bs.length = r.length → textI (wideB n bs) (wideI n r bs) = List.replicate n 32 ++ wideT r bs
  | [], [], n, _ => (List.append_nil _).symm
  | x :: r, b :: bs, n, h => by
    show List.replicate n 32 ++ (x.raw ++ textI (wideB b bs) (wideI b r bs)) = _
    rw [wide_txt (Nat.succ.inj h)]
    rfl
theorem wide_its : ∀ {r : List It} {bs : List Nat} {n : Nat}, bs.length = r.length → (wideI n r bs).map (·.2) = r
  | [], [], n, _ => rfl
  | x :: r, b :: bs, n, h => by
    show x :: (wideI b r bs).map (·.2) = _
    rw [wide_its (Nat.succ.inj h)]
theorem wide_good : ∀ {r : List It} {bs : List Nat} {n : Nat}, bs.length = r.length → (∀ x ∈ r, x.one) → (∀ b ∈ bs, 0 < b) → Good (wideI n r bs)
  | [], [], n, _, _, _ => trivial
  | [x], [b], n, _, h, _ => h x (List.mem_cons_self ..)
  | x :: y :: r, b :: c :: bs, n, hl, h, hb => ⟨h x (List.mem_cons_self ..), fun _ => .inl (hb b (List.mem_cons_self ..)), wide_good (r := y :: r) (bs := c :: bs) (n := b) (Nat.succ.inj hl) (fun z hz => h z (List.mem_cons_of_mem _ hz)) fun z hz => hb z (List.mem_cons_of_mem _ hz)⟩
theorem wide_snoc {x : It} {b : Nat} : ∀ {r : List It} {bs : List Nat}, bs.length = r.length → wideT (r ++ [x]) (bs ++ [b]) = wideT r bs ++ (x.raw ++ List.replicate b 32)
  | [], [], _ => by
    show x.raw ++ (List.replicate b 32 ++ []) = _
    rw [List.append_nil]
    rfl
  | y :: r, c :: bs, h => by
    show y.raw ++ (List.replicate c 32 ++ wideT (r ++ [x]) (bs ++ [b])) = (y.raw ++ (List.replicate c 32 ++ wideT r bs)) ++ _
    rw [wide_snoc (Nat.succ.inj h)]
    simp
theorem Good.ones : ∀ {l : List (Nat × It)}, Good l → ∀ x ∈ l, x.2.one
  | [], _, _, h => nomatch h
  | [x], h, y, hy => by rw [List.mem_singleton.mp hy]; exact h
  | x :: y :: r, h, z, hz => by
    rcases List.mem_cons.mp hz with rfl | hz
    · exact h.1
    · exact Good.ones (l := y :: r) h.2.2 z hz
/-! the tokens of the text, the piece of text from each to the next -/
def plAt (l : List (Nat × It)) (i : Nat) : Nat := (textI 0 (l.take i)).length + (match l[i]? with | some x => x.1 | none => 0)
theorem tks_len {b : Nat} : ∀ {l : List (Nat × It)} {p : Nat}, (tksI b p l).length = l.length + 1
  | [], _ => rfl
  | x :: r, p => by rw [tksI, List.length_cons, tks_len, List.length_cons]
theorem tks_at : ∀ {l : List (Nat × It)} {p i : Nat}, i ≤ l.length → ∃ t, (tksI 0 p l)[i]? = some t ∧ t.p = p + plAt l i
  | [], p, i, h => by
    obtain rfl : i = 0 := Nat.le_zero.mp h
    exact ⟨_, rfl, rfl⟩
  | x :: r, p, 0, _ => ⟨_, rfl, by unfold plAt; show p + x.1 = p + (0 + x.1); omega⟩
  | x :: r, p, i + 1, h => by
    obtain ⟨t, e, ep⟩ := tks_at (l := r) (p := p + x.1 + x.2.raw.length) (i := i) (Nat.le_of_succ_le_succ h)
    refine ⟨t, e, ?_⟩
    rw [ep]
    unfold plAt
    rw [List.take_succ_cons, textI, List.length_append, List.length_append, List.length_replicate, List.getElem?_cons_succ]
    omega
theorem piece {l : List (Nat × It)} {i : Nat} {x : Nat × It} (h : l[i]? = some x) : ∃ n, plAt l (i + 1) = plAt l i + (x.2.raw.length + n) ∧ ((textI 0 l).drop (plAt l i)).take (x.2.raw.length + n) = x.2.raw ++ List.replicate n 32 ∧ plAt l i + (x.2.raw.length + n) ≤ (textI 0 l).length := by
  have hi : i < l.length := by
    rcases Nat.lt_or_ge i l.length with z | z
    · exact z
    · rw [List.getElem?_eq_none z] at h; cases h
  have e1 : l[i] = x := by rw [List.getElem?_eq_getElem hi] at h; exact Option.some.inj h
  have et : l.take (i + 1) = l.take i ++ [x] := by rw [← e1]; exact (List.take_append_getElem hi).symm
  have ed : l = l.take i ++ x :: l.drop (i + 1) := by
    rw [← e1, List.getElem_cons_drop, List.take_append_drop]
  have e2 : textI 0 l = textI 0 (l.take i) ++ (List.replicate x.1 32 ++ (x.2.raw ++ textI 0 (l.drop (i + 1)))) := by
    conv => lhs; rw [ed]
    rw [textI_app]
    rfl
  have ep : plAt l i = (textI 0 (l.take i)).length + x.1 := by unfold plAt; rw [h]
  have e3 : (textI 0 (l.take (i + 1))).length = (textI 0 (l.take i)).length + x.1 + x.2.raw.length := by
    rw [et, textI_app, List.length_append]
    show _ + (List.replicate x.1 32 ++ (x.2.raw ++ [])).length = _
    rw [List.append_nil, List.length_append, List.length_replicate]
    omega
  have hdrop : (textI 0 l).drop (plAt l i) = x.2.raw ++ textI 0 (l.drop (i + 1)) := by
    rw [e2, ep, ← List.append_assoc, List.drop_left' (by rw [List.length_append, List.length_replicate])]
  have hlen : (textI 0 l).length = plAt l i + x.2.raw.length + (textI 0 (l.drop (i + 1))).length := by
    rw [e2, ep]
    simp only [List.length_append, List.length_replicate]
    omega
  cases hy : l[i + 1]? with
  | none =>
    refine ⟨0, by rw [ep]; unfold plAt; rw [hy]; show _ + 0 = _; omega, ?_, by omega⟩
    have : l.drop (i + 1) = [] := List.drop_eq_nil_of_le (by
      rcases Nat.lt_or_ge (i + 1) l.length with z | z
      · rw [List.getElem?_eq_getElem z] at hy; cases hy
      · exact z)
    rw [hdrop, this]
    show (x.2.raw ++ []).take (x.2.raw.length + 0) = x.2.raw ++ []
    rw [List.append_nil, Nat.add_zero, List.take_length]
  | some y =>
    have hi2 : i + 1 < l.length := by
      rcases Nat.lt_or_ge (i + 1) l.length with z | z
      · exact z
      · rw [List.getElem?_eq_none z] at hy; cases hy
    have e4 : l.drop (i + 1) = y :: l.drop (i + 2) := by
      have : l[i + 1] = y := by rw [List.getElem?_eq_getElem hi2] at hy; exact Option.some.inj hy
      rw [← this]
      exact List.drop_eq_getElem_cons hi2
    refine ⟨y.1, by rw [ep]; unfold plAt; rw [hy]; show _ + y.1 = _; omega, ?_, ?_⟩
    · rw [hdrop, e4]
      show (x.2.raw ++ (List.replicate y.1 32 ++ (y.2.raw ++ textI 0 (l.drop (i + 2))))).take (x.2.raw.length + y.1) = _
      rw [← List.append_assoc]
      exact List.take_left' (by rw [List.length_append, List.length_replicate])
    · rw [hlen, e4]
      show _ ≤ _ + (List.replicate y.1 32 ++ (y.2.raw ++ textI 0 (l.drop (i + 2)))).length
      rw [List.length_append, List.length_replicate]
      omega
end Lw

-- rd
namespace G
open PySem PySem.Spec PyProof.Rows L2
/-- a list's part -/
def cutD {α : Type} (xs : List α) (lo hi : Option Int) : List α := (xs.drop (HT.sIx xs.length 0 lo)).take (HT.sIx xs.length xs.length hi - HT.sIx xs.length 0 lo)
theorem cutD_map {α β : Type} {f : α → β} {xs : List α} {lo hi : Option Int} : cutD (xs.map f) lo hi = (cutD xs lo hi).map f := by
  unfold cutD
  rw [List.length_map, ← List.map_drop, ← List.map_take]
theorem cutD_to {α : Type} {xs : List α} {n : Nat} : cutD xs none (some (n : Int)) = xs.take n := by
  unfold cutD
  rw [HT.sIx_none, HT.sIx_nat, List.drop_zero, Nat.sub_zero]
  rcases Nat.le_total n xs.length with h | h
  · rw [Nat.min_eq_left h]
  · rw [Nat.min_eq_right h, List.take_length, List.take_of_length_le h]
theorem cutD_from {α : Type} {xs : List α} {n : Nat} (h : n ≤ xs.length) : cutD xs (some (n : Int)) none = xs.drop n := by
  unfold cutD
  rw [HT.sIx_none, HT.sIx_nat, Nat.min_eq_left h]
  exact List.take_of_length_le (by rw [List.length_drop]; exact Nat.le_refl _)
theorem AtA.takeD {K : PySem.W.Frag} {F : Hp} : ∀ {n : Nat} {ds : List D} {us : List V}, AtA K F ds us → AtA K F (ds.take n) (us.take n)
  | 0, ds, us, h => AtA.nil
  | n + 1, [], us, h => by
    unfold AtA at h
    rw [h]
    exact AtA.nil
  | n + 1, d :: ds, us, h => by
    unfold AtA at h
    obtain ⟨u, us, rfl, h1, h⟩ := h
    exact AtA.cons h1 (AtA.takeD h)
theorem AtA.dropD {K : PySem.W.Frag} {F : Hp} : ∀ {n : Nat} {ds : List D} {us : List V}, AtA K F ds us → AtA K F (ds.drop n) (us.drop n)
  | 0, ds, us, h => h
  | n + 1, [], us, h => by
    unfold AtA at h
    rw [h]
    exact AtA.nil
  | n + 1, d :: ds, us, h => by
    unfold AtA at h
    obtain ⟨u, us, rfl, h1, h⟩ := h
    show AtA K F (ds.drop n) (us.drop n)
    exact AtA.dropD h
section
variable {K : PySem.W.Frag} {F F0 H : Hp} {x : V} {ds : List D} {M : List (Addr × HO)} {Q : VK}
/-- a part of a list that stands -/
theorem s_slG {lo hi : Option Int} (hx : At K F0 (.lst ds) x) (hh : HH F H M) (s : Same F0 F) (q : ∀ F' H' u, Same F F' → HH F' H' M → At K F' (.lst (cutD ds lo hi)) u → Q u H') : rSlX K x lo hi H Q := by
  obtain ⟨a, vs, rfl, h, t⟩ := hx.lstR
  refine v_slL (hh.sub _ _ (s _ _ h)) ?_
  have e : AtA K F0 (cutD ds lo hi) (cutV vs lo hi) := by
    unfold cutD cutV
    rw [t.len]
    exact t.dropD.takeD
  exact a_lst hh (e.mono s) q
end
end G
namespace Lw
open PySem PySem.Spec PyProof.Rows L2 G
/-! ### k03's draws -/
def dSh : So → D
  | .int a b => .tup [.t q_int, .i a, .i b]
  | .text n w => .tup [.t q_text, .i n, dOp w]
  | .choice cs => .tup [.t q_one, dTs cs]
  | .ref ks r => .tup [.t q_ref, dTs ks, .t r]
  | .list ks => .tup [.t q_list, dTs ks]
abbrev dLf (f : Fd) : D := .tup [.t f.name, dSh f.sort, .b f.need]
abbrev dLk (k : Kd) : D := .tup [.t k.name, .lst (k.fields.map dLf), .lst (k.keys.map dTs)]
theorem pick_mem3 {α : Type} {f : α → D} {xs : List α} {i : Nat} {e : D} (h : (xs.map f)[i]? = some e) : ∃ x ∈ xs, e = f x := by
  obtain ⟨x, hx, rfl⟩ := List.mem_map.mp (List.mem_of_getElem? h)
  exact ⟨x, hx, rfl⟩
theorem int_mem {a : Int} (h1 : -3 ≤ a) (h2 : a ≤ 7) : a ∈ l_int := by
  have : a = -3 ∨ a = -2 ∨ a = -1 ∨ a = 0 ∨ a = 1 ∨ a = 2 ∨ a = 3 ∨ a = 4 ∨ a = 5 ∨ a = 6 ∨ a = 7 := by omega
  simp only [l_int, List.mem_cons, List.not_mem_nil, or_false]
  exact this
theorem len_mem {a : Int} (h1 : 1 ≤ a) (h2 : a ≤ 6) : a ∈ l_len := by
  have : a = 1 ∨ a = 2 ∨ a = 3 ∨ a = 4 ∨ a = 5 ∨ a = 6 := by omega
  simp only [l_len, List.mem_cons, List.not_mem_nil, or_false]
  exact this
def told3 (n s e : Nat) : List (List Nat) := cutD (l_kn.take n ++ l_kn.take n) (some (s : Int)) (some ((s + 1 + e : Nat) : Int))
theorem told_all : ((List.range 4).all fun n => (List.range n).all fun s => (List.range n).all fun e => decide (told3 n s e ≠ []) && (decide (told3 n s e).Nodup && (told3 n s e).all fun k => decide (k ∈ l_kn.take n))) = true := by decide +kernel
theorem told_ok (n : Nat) (hn : n < 4) (s : Nat) (hs : s < n) (e : Nat) (he : e < n) : told3 n s e ≠ [] ∧ (told3 n s e).Nodup ∧ ∀ k ∈ told3 n s e, k ∈ l_kn.take n := by
  have h := List.all_eq_true.mp (List.all_eq_true.mp (List.all_eq_true.mp told_all n (List.mem_range.mpr hn)) s (List.mem_range.mpr hs)) e (List.mem_range.mpr he)
  rw [Bool.and_eq_true, Bool.and_eq_true, decide_eq_true_iff, decide_eq_true_iff] at h
  exact ⟨h.1, h.2.1, fun k hk => of_decide_eq_true (List.all_eq_true.mp h.2.2 k hk)⟩
section
variable {K : PySem.W.Frag} {F F0 F1 F2 H H' : Hp} {Q : VK} {E : XK} {mg : Str → Option Value} {M : List (Addr × HO)} {x y : V} {o : HO} {d : Addr}
theorem rd_shape {n : Nat} {nv : V} (hh : HH F H ((d, o) :: M)) (ho : DrO o) (hn : At K F (dTs (l_kn.take n)) nv) (hn0 : 0 < n) (hn3 : n < 4) (q : ∀ s F' H' o' v, SoOk (l_kn.take n) s → Same F F' → DrO o' → HH F' H' ((d, o') :: M) → At K F' (dSh s) v → Q v H') : sp__law_shape K [.ref d, nv] H Q E := by
  have hnl : (l_kn.take n).length = n := by rw [List.length_take]; show min n 3 = n; omega
  refine ⟨rfl, ?_⟩
  unfold t__law_shape
  walk_at "go"
  refine rd_draw hh ho ⟨by decide, by decide⟩ fun v1 H1 o h0 h1 ho hh => ?_
  walk_at "go"
  by_cases c0 : v1 = 0
  · rw [decide_eq_true c0]
    walk_at "go"
    refine rd_draw hh ho ⟨by decide, by decide⟩ fun v2 H2 o h2 h3 ho hh => ?_
    walk_at "go"
    refine rd_draw hh ho ⟨by decide, by decide⟩ fun v3 H3 o h4 h5 ho hh => ?_
    walk_at "go"
    refine s_tup (K := K) (ds := [.t q_int, .i (v2 - 3), .i (v2 - 3 + v3)]) hh (AtA.cons At.of (AtA.cons At.of (AtA.cons At.of AtA.nil))) (by show 3 ≤ 1000; decide) fun F1 H4 u s1 hh hu => ?_
    exact q (.int (v2 - 3) (v2 - 3 + v3)) F1 H4 o u ⟨int_mem (by omega) (by omega), int_mem (by omega) (by omega), by omega⟩ s1 ho hh hu
  rw [decide_eq_false c0]
  walk_at "go"
  by_cases c1 : v1 = 1
  · rw [decide_eq_true c1]
    walk_at "go"
    refine rd_draw hh ho ⟨by decide, by decide⟩ fun v2 H2 o h2 h3 ho hh => ?_
    walk_at "go"
    refine s_lst (K := K) (ds := l_wo.map dOp) hh (AtA.cons At.of (AtA.cons At.of (AtA.cons At.of (AtA.cons At.of AtA.nil)))) (by show 4 ≤ 1000; decide) fun F1 H3 u s1 hh hu => ?_
    walk_at "go"
    refine rd_pick hh ho hu (Same.refl _) (by decide) (by decide) fun i e w H4 o he hw ho hh => ?_
    obtain ⟨wo, hwo, rfl⟩ := pick_mem3 he
    walk_at "go"
    refine s_tup (K := K) (ds := [.t q_text, .i (1 + v2), dOp wo]) hh (AtA.cons At.of (AtA.cons At.of (AtA.cons hw AtA.nil))) (by show 3 ≤ 1000; decide) fun F2 H5 u s2 hh hu => ?_
    exact q (.text (1 + v2) wo) F2 H5 o u ⟨len_mem (by omega) (by omega), hwo⟩ (s1.trans s2) ho hh hu
  rw [decide_eq_false c1]
  walk_at "go"
  by_cases c2 : v1 = 2
  · rw [decide_eq_true c2]
    walk_at "go"
    refine s_lst (K := K) (ds := l_ch.map D.t) hh (AtA.ofFlat (g := svv) (xs := l_ch)) (by show 4 ≤ 1000; decide) fun F1 H3 u s1 hh hu => ?_
    walk_at "go"
    refine rd_draw hh ho ⟨by decide, by decide⟩ fun v2 H2 o h2 h3 ho hh => ?_
    obtain ⟨j, rfl⟩ := Int.eq_ofNat_of_zero_le h2
    walk_at "go"
    refine s_slG hu hh (Same.refl _) fun F2 H4 w s2 hh hw => ?_
    rw [show (1 + (j : Int)) = ((j + 1 : Nat) : Int) by omega, cutD_map, cutD_to] at hw
    walk_at "go"
    refine s_tup (K := K) (ds := [.t q_one, dTs (l_ch.take (j + 1))]) hh (AtA.cons At.of (AtA.cons hw AtA.nil)) (by show 2 ≤ 1000; decide) fun F3 H5 u s3 hh hu => ?_
    exact q (.choice (l_ch.take (j + 1))) F3 H5 o u ⟨j, by omega, rfl⟩ (s1.trans (s2.trans s3)) ho hh hu
  rw [decide_eq_false c2]
  walk_at "go"
  refine s_lenL (e := D.t) hn hh.sub ?_
  rw [hnl]
  walk_at "go"
  refine rd_draw hh ho ⟨by omega, by omega⟩ fun v2 H2 o h2 h3 ho hh => ?_
  obtain ⟨j, rfl⟩ := Int.eq_ofNat_of_zero_le h2
  walk_at "go"
  refine s_cat hn hn hh (Same.refl _) (Same.refl _) (by rw [List.length_map, hnl]; omega) fun F1 H3 u s1 hh hu => ?_
  rw [← List.map_append] at hu
  walk_at "go"
  refine s_lenL (e := D.t) (hn.mono s1) hh.sub ?_
  rw [hnl]
  walk_at "go"
  refine rd_draw hh ho ⟨by omega, by omega⟩ fun v3 H4 o h4 h5 ho hh => ?_
  obtain ⟨e, rfl⟩ := Int.eq_ofNat_of_zero_le h4
  walk_at "go"
  refine s_slG hu hh (Same.refl _) fun F2 H5 w s2 hh hw => ?_
  rw [show ((j : Int) + 1 + (e : Int)) = ((j + 1 + e : Nat) : Int) by omega, cutD_map] at hw
  have ht := told_ok n hn3 j (by omega) e (by omega)
  rw [show cutD (l_kn.take n ++ l_kn.take n) (some (j : Int)) (some ((j + 1 + e : Nat) : Int)) = told3 n j e from rfl] at hw
  generalize told3 n j e = ks at hw ht
  have hks : KsOk (l_kn.take n) ks := ⟨ht.1, ht.2.1, ht.2.2⟩
  walk_at "go"
  by_cases c3 : v1 = 3
  · rw [decide_eq_true c3]
    walk_at "go"
    refine s_tup (K := K) (ds := [.t q_list, dTs ks]) hh (AtA.cons At.of (AtA.cons hw AtA.nil)) (by show 2 ≤ 1000; decide) fun F3 H6 u s3 hh hu => ?_
    exact q (.list ks) F3 H6 o u hks (s1.trans (s2.trans s3)) ho hh hu
  rw [decide_eq_false c3]
  walk_at "go"
  refine s_lst (K := K) (ds := l_ru.map D.t) hh (AtA.ofFlat (g := svv) (xs := l_ru)) (by show 3 ≤ 1000; decide) fun F3 H6 u s3 hh hu => ?_
  walk_at "go"
  refine rd_pick hh ho hu (Same.refl _) (by decide) (by decide) fun i e w2 H7 o he hw2 ho hh => ?_
  obtain ⟨r, hr, rfl⟩ := pick_mem3 he
  walk_at "go"
  refine s_tup (K := K) (ds := [.t q_ref, dTs ks, .t r]) hh (AtA.cons At.of (AtA.cons (hw.mono s3) (AtA.cons hw2 AtA.nil))) (by show 3 ≤ 1000; decide) fun F4 H8 u s4 hh hu => ?_
  exact q (.ref ks r) F4 H8 o u ⟨hks, hr⟩ (s1.trans (s2.trans (s3.trans s4))) ho hh hu
end
end Lw

-- rd
namespace G
open PySem PySem.Spec PyProof.Rows L2
section
variable {K : PySem.W.Frag} {F F0 H : Hp} {x : V} {M : List (Addr × HO)} {Q : VK} {σ : L2.St} {d : Addr} {o : HO}
/-- a comprehension that draws: a cell changes on the way -/
theorem a_lcS {α β : Type} {e : α → D} {f : β → D} {xs : List α} {g : TG} {tt : TT} {te : TE} {vs : List Nat} (P0 : HO → Prop) (R : List α → List β → Prop) (hx : At K F (.lst (xs.map e)) x) (hh : HH F H ((d, o) :: M)) (ho : P0 o) (h0 : R [] []) (hz : xs.length < sizeLine)
    (hs : ∀ pre y post acc (w : V) F' H' c o (P : V → Hp → Prop) (N : Hp → Prop), pre ++ y :: post = xs → R pre acc → At K F' (e y) w → Same F F' → P0 o → HH F' H' (c :: (d, o) :: M) → (∀ F4 H4 v z o4, Same F' F4 → P0 o4 → HH F4 H4 (c :: (d, o4) :: M) → R (pre ++ [y]) (acc ++ [z]) → At K F4 (f z) v → P v H4) →
      g w (wipe σ vs) H' fun σ2 H2 => wipe σ2 vs = wipe σ vs ∧ tt σ2 H2 fun b H3 => if b = true then te σ2 H3 (fun v H4 => P v H4) else N H3)
    (q : ∀ F' H' u o acc, Same F F' → P0 o → HH F' H' ((d, o) :: M) → R xs acc → At K F' (.lst (acc.map f)) u → Q u H') : OvL K (fun J H1 => LcK J g tt te σ vs H1 Q) x H := by
  obtain ⟨a, us, rfl, h, t⟩ := hx.lst_
  have hl : us.length = xs.length := by rw [t.len, List.length_map]
  refine v_ovL (hh.sub.seq h) fun D hD => ?_
  refine c_list (fun i H' => ∃ F' ws o acc, Same F F' ∧ P0 o ∧ HH F' H' ((D, .lst ws) :: (d, o) :: M) ∧ ws.length ≤ i ∧ R (xs.take i) acc ∧ AtA K F' (acc.map f) ws) ⟨F, [], o, [], Same.refl F, ho, hh.new hD, Nat.zero_le _, h0, AtA.nil⟩
    (fun i H' _ ⟨F', ws, o, acc, s, _, h', _⟩ => h'.sub.seq (s.seq h)) (fun i v H' hv ⟨F', ws, o, acc, s, ho, h', hw, hR, ha⟩ => ?_) (fun H' ⟨F', ws, o, acc, s, ho, h', hw, hR, ha⟩ => ?_)
  · obtain ⟨d', hd', hat⟩ := t.at_ hv
    rw [List.getElem?_map] at hd'
    cases ex : xs[i]? with
    | none => rw [ex] at hd'; cases hd'
    | some y =>
      rw [ex] at hd'
      cases hd'
      have hi : i < xs.length := by
        rcases Nat.lt_or_ge i xs.length with z | z
        · exact z
        · rw [List.getElem?_eq_none z] at ex; cases ex
      have e1 : xs[i] = y := by rw [List.getElem?_eq_getElem hi] at ex; exact Option.some.inj ex
      have et : xs.take (i + 1) = xs.take i ++ [y] := by rw [← e1]; exact (List.take_append_getElem hi).symm
      have ed : xs.take i ++ y :: xs.drop (i + 1) = xs := by rw [← e1, List.getElem_cons_drop, List.take_append_drop]
      refine hs (xs.take i) y (xs.drop (i + 1)) acc v F' H' (D, .lst ws) o _ _ ed hR (hat.mono s) s ho h' (fun F4 H4 v z o4 s4 ho4 h4 hR4 hz => ?_)
      refine v_put (h4.get (i := 0) rfl) (by omega) ⟨F4, ws ++ [v], o4, acc ++ [z], s.trans s4, ho4, h4.set0, by rw [List.length_append]; show _ + 1 ≤ _; omega, by rw [et]; exact hR4, AtA.snocM (ha.mono s4) hz⟩
  · rw [hl, List.take_length] at hR
    exact q _ _ _ _ _ (s.trans h'.frzS) ho h'.frz hR (frz_lst (h'.out (i := 0) rfl) ha)
end
end G
namespace Lw
open PySem PySem.Spec PyProof.Rows L2 G
def tag3 : So → List Nat
  | .int _ _ => q_int
  | .text _ _ => q_text
  | .choice _ => q_one
  | .ref _ _ => q_ref
  | .list _ => q_list
theorem tag_list {s : So} : decide (tag3 s = q_list) = s.isList := by
  cases s with
  | int a b => exact (by decide : decide (q_int = q_list) = false)
  | text n w => exact (by decide : decide (q_text = q_list) = false)
  | choice cs => exact (by decide : decide (q_one = q_list) = false)
  | ref ks r => exact (by decide : decide (q_ref = q_list) = false)
  | list ks => exact (by decide : decide (q_list = q_list) = true)
/-- the free fields -/
def free3 (fs : List Fd) : List (List Nat) := fs.filterMap fun f => if f.sort.isList = true then none else some f.name
theorem free_sub : ∀ {fs : List Fd}, (free3 fs).Sublist (fs.map (·.name))
  | [] => .slnil
  | f :: fs => by
    unfold free3
    rw [List.filterMap_cons, List.map_cons]
    cases e : f.sort.isList with
    | true => exact .cons _ free_sub
    | false => exact .cons₂ _ free_sub
theorem free_in {fs : List Fd} {t : List Nat} (h : t ∈ free3 fs) : ∃ f ∈ fs, f.name = t ∧ f.sort.isList = false := by
  unfold free3 at h
  obtain ⟨f, hf, e⟩ := List.mem_filterMap.mp h
  cases el : f.sort.isList with
  | true => rw [el, if_pos rfl] at e; cases e
  | false =>
    rw [el, if_neg (by decide)] at e
    injection e with e
    exact ⟨f, hf, e, el⟩
theorem nd_eq : ∀ {fs : List Fd} {f g : Fd}, (fs.map (·.name)).Nodup → f ∈ fs → g ∈ fs → f.name = g.name → f = g
  | [], _, _, _, h, _, _ => nomatch h
  | x :: fs, f, g, hn, hf, hg, e => by
    rw [List.map_cons, List.nodup_cons] at hn
    rcases List.mem_cons.mp hf with ef | hf1
    · rcases List.mem_cons.mp hg with eg | hg1
      · exact ef.trans eg.symm
      · exact (hn.1 (List.mem_map.mpr ⟨g, hg1, by rw [← e, ef]⟩)).elim
    · rcases List.mem_cons.mp hg with eg | hg1
      · exact (hn.1 (List.mem_map.mpr ⟨f, hf1, by rw [e, eg]⟩)).elim
      · exact nd_eq hn.2 hf1 hg1 e
theorem rows_ok {names : List (List Nat)} {name : List Nat} {fs : List Fd} {rows : List (List (List Nat))} {c : Nat} (hk : name ∈ l_kn) (hf : ∀ f ∈ fs, FdOk3 names f) (hn : (fs.map (·.name)).Nodup) (hl : fs.length ≤ 4) (hr : rows.flatMap id = (free3 fs).take c) (ne : ∀ r ∈ rows, r ≠ []) (h2 : rows.length ≤ 2) : KdOk3 names ⟨name, fs, rows⟩ where
  n := hk
  f := hf
  fn := hn
  fl := hl
  kl := h2
  kn := by
    show (rows.flatMap id).Nodup
    rw [hr]
    exact ((free_sub.nodup hn)).sublist (List.take_sublist _ _)
  kr := fun r hrm => by
    have hsub : r.Sublist (rows.flatMap id) := by
      rw [List.flatMap_id]
      exact List.sublist_flatten_of_mem hrm
    have hfl : (free3 fs).length ≤ 4 := by
      have := free_sub (fs := fs).length_le
      rw [List.length_map] at this
      omega
    refine ⟨ne r hrm, ?_, fun t ht => ?_⟩
    · have h1 := hsub.length_le
      rw [hr, List.length_take] at h1
      omega
    · have hm : t ∈ free3 fs := by
        have := hsub.subset ht
        rw [hr] at this
        exact List.mem_of_mem_take this
      obtain ⟨f, hfm, e, el⟩ := free_in hm
      refine ⟨by rw [← e]; exact (hf f hfm).n, ⟨f, hfm, e⟩, fun g hg eg => ?_⟩
      rw [nd_eq hn hg hfm (eg.trans e.symm)]
      exact el
theorem fn_take : ∀ m < 5, (l_fn.take m).Nodup ∧ ∀ t ∈ l_fn.take m, t ∈ l_fn := by decide
section
variable {K : PySem.W.Frag} {F F0 F1 F2 H H' : Hp} {Q : VK} {E : XK} {mg : Str → Option Value} {M : List (Addr × HO)} {x y : V} {o : HO} {d : Addr}
theorem s_tag {s : So} (h : At K F0 (dSh s) x) (ss : Same F0 H) (q : Q (svv (tag3 s)) H) : rIx K x (.int 0) H Q := by
  cases s with
  | int a b => exact s_ixT (i := 0) (show At K F0 (.tup [.t q_int, .i a, .i b]) x from h) ss rfl rfl fun w hw => by rw [At.v_.mp hw]; exact q
  | text n w => exact s_ixT (i := 0) (show At K F0 (.tup [.t q_text, .i n, dOp w]) x from h) ss rfl rfl fun w hw => by rw [At.v_.mp hw]; exact q
  | choice cs => exact s_ixT (i := 0) (show At K F0 (.tup [.t q_one, dTs cs]) x from h) ss rfl rfl fun w hw => by rw [At.v_.mp hw]; exact q
  | ref ks r => exact s_ixT (i := 0) (show At K F0 (.tup [.t q_ref, dTs ks, .t r]) x from h) ss rfl rfl fun w hw => by rw [At.v_.mp hw]; exact q
  | list ks => exact s_ixT (i := 0) (show At K F0 (.tup [.t q_list, dTs ks]) x from h) ss rfl rfl fun w hw => by rw [At.v_.mp hw]; exact q
theorem rd_kind3 {n : Nat} {nv : V} {name : List Nat} (hh : HH F H ((d, o) :: M)) (ho : DrO o) (hn : At K F (dTs (l_kn.take n)) nv) (hn0 : 0 < n) (hn3 : n < 4) (hk : name ∈ l_kn) (q : ∀ k F' H' o' v, k.name = name → KdOk3 (l_kn.take n) k → Same F F' → DrO o' → HH F' H' ((d, o') :: M) → At K F' (dLk k) v → Q v H') : sp__law_kind K [.ref d, svv name, nv] H Q E := by
  refine ⟨rfl, ?_⟩
  unfold t__law_kind
  walk_at "go"
  refine o_lst1 hh (by decide) fun H1 p hh => ?_
  walk_at "go"
  refine gi_list ?_
  walk_at "go"
  refine s_lst (K := K) (ds := l_fn.map D.t) hh (AtA.ofFlat (g := svv) (xs := l_fn)) (by show 4 ≤ 1000; decide) fun F1 H2 u s1 hh hu => ?_
  walk_at "go"
  refine rd_draw hh ho ⟨by decide, by decide⟩ fun vm H3 o m0 m1 ho hh => ?_
  obtain ⟨m, rfl⟩ := Int.eq_ofNat_of_zero_le m0
  walk_at "go"
  refine s_slG hu hh (Same.refl _) fun F2 H4 w s2 hh hw => ?_
  rw [cutD_map, cutD_to] at hw
  have hfm := fn_take m (by omega)
  refine a_forL (e := D.t) hw hh (fun rest σ H' => ∃ (F' : Hp) (o : HO) (fs : List Fd) (us : List V) (v4 v5 : Option V), fs.map (·.name) ++ rest = l_fn.take m ∧ (∀ f ∈ fs, FdOk3 (l_kn.take n) f) ∧ σ = [some (.ref d), some (svv name), some nv, some (.ref p), v4, v5, none, none, none] ∧ Same F2 F' ∧ DrO o ∧
      HH F' H' ((d, o) :: (p, .lst us) :: M) ∧ AtA K F' (fs.map dLf) us) (fun _ σ H' ⟨_, _, _, _, _, _, _, _, _, s, _, hh, _⟩ => s.trans hh.sub)
    ⟨F2, o, [], [], none, none, rfl, fun x hx => (nomatch hx), rfl, Same.refl _, ho, hh, AtA.nil⟩ ?_ ?_
  · clear hh ho
    rintro f rest fv σ H' hf ⟨F', o, fs, us, v4, v5, hnm, hfs, rfl, s3, ho, hh, hus⟩
    obtain rfl := At.v_.mp hf
    have hul : us.length = fs.length := by rw [hus.len, List.length_map]
    have hfl : fs.length + (rest.length + 1) ≤ 4 := by
      have h1 := congrArg List.length hnm
      rw [List.length_append, List.length_map, List.length_cons, List.length_take] at h1
      have h2 : l_fn.length = 4 := rfl
      omega
    have hfi : f ∈ l_fn := hfm.2 f (by rw [← hnm]; exact List.mem_append_right _ (List.mem_cons_self ..))
    walk_at "go"
    refine rd_shape hh ho (hn.mono (s1.trans (s2.trans s3))) hn0 hn3 fun sh F3 H5 o sv hsh s4 ho hh hsv => ?_
    walk_at "go"
    refine o_tyL (i := 1) hh rfl ?_
    walk_at "go"
    refine s_tag hsv hh.sub ?_
    have fin : ∀ (b : Bool) (o : HO) (H6 : Hp), DrO o → HH F3 H6 ((d, o) :: (p, .lst us) :: M) → ¬(b = true ∧ sh.isList = true) → ∀ S : VK, (∀ F5 H7 u, Same F3 F5 → HH F5 H7 ((d, o) :: (p, .lst us) :: M) → At K F5 (dLf ⟨f, sh, b, ⟨[], [], 0⟩, []⟩) u → S u H7) → TupK [svv f, sv, .bl b] S H6 := by
      intro b o H6 ho hh hb S qS
      exact s_tup (K := K) (ds := [.t f, dSh sh, .b b]) hh (AtA.cons At.of (AtA.cons hsv (AtA.cons At.of AtA.nil))) (by show 3 ≤ 1000; decide) qS
    walk_at "go"
    rw [tag_list]
    cases hl : sh.isList with
    | true =>
      walk_at "go"
      refine fin false o H5 ho hh (fun z => nomatch z.1) _ fun F5 H7 u s5 hh hu => ?_
      walk_at "go"
      refine o_app1 hh (by omega) fun H8 hh => ?_
      refine ⟨F5, o, fs ++ [⟨f, sh, false, ⟨[], [], 0⟩, []⟩], _, _, _, by rw [List.map_append, List.append_assoc]; exact hnm, fun g hg => ?_, rfl, s3.trans (s4.trans s5), ho, hh, AtA.snocM (e := dLf) (hus.mono (s4.trans s5)) hu⟩
      rcases List.mem_append.mp hg with hg | hg
      · exact hfs g hg
      · rw [List.mem_singleton.mp hg]
        exact ⟨hfi, hsh, fun z => nomatch z.1⟩
    | false =>
      walk_at "go"
      refine rd_draw hh ho ⟨by decide, by decide⟩ fun vd H6 o d0 d1 ho hh => ?_
      walk_at "go"
      refine fin (decide (vd = 0)) o H6 ho hh (fun z => by rw [hl] at z; exact nomatch z.2) _ fun F5 H7 u s5 hh hu => ?_
      walk_at "go"
      refine o_app1 hh (by omega) fun H8 hh => ?_
      refine ⟨F5, o, fs ++ [⟨f, sh, decide (vd = 0), ⟨[], [], 0⟩, []⟩], _, _, _, by rw [List.map_append, List.append_assoc]; exact hnm, fun g hg => ?_, rfl, s3.trans (s4.trans s5), ho, hh, AtA.snocM (e := dLf) (hus.mono (s4.trans s5)) hu⟩
      rcases List.mem_append.mp hg with hg | hg
      · exact hfs g hg
      · rw [List.mem_singleton.mp hg]
        exact ⟨hfi, hsh, fun z => by rw [hl] at z; exact nomatch z.2⟩
  clear hh ho
  rintro σ H' ⟨F', o, fs, us, v4, v5, hnm, hfs, rfl, s3, ho, hh, hus⟩
  rw [List.append_nil] at hnm
  have hfl : fs.length ≤ 4 := by
    have h1 := congrArg List.length hnm
    rw [List.length_map, List.length_take] at h1
    have h2 : l_fn.length = 4 := rfl
    omega
  have hnd : (fs.map (·.name)).Nodup := by rw [hnm]; exact hfm.1
  have hfv := frz_lst (hh.out (i := 1) rfl) hus
  have s4 := hh.frz1S
  replace hh := hh.frz1
  generalize upd F' p (.lst us) = F3 at hfv s4 hh
  walk_at "go"
  refine gi_list ?_
  walk_at "go"
  refine a_lcL (e := dLf) (f := D.t) hfv hh (by rw [sl16]; omega) (fun f => if f.sort.isList = true then none else some f.name) (fun y w F' H' c' P N hy hw sF hh' hP hN => ?_) fun F4 H5 fv s5 hh hfr => ?_
  · walk_at "go"
    refine ⟨rfl, ?_⟩
    walk_at "go"
    refine s_ixT (i := 1) hw hh'.sub rfl rfl fun w1 hw1 => ?_
    walk_at "go"
    refine s_tag hw1 hh'.sub ?_
    walk_at "go"
    rw [tag_list]
    cases hl : y.sort.isList with
    | true =>
      walk_at "go"
      exact hN F' H' (Same.refl _) hh' (by rw [hl, if_pos rfl])
    | false =>
      walk_at "go"
      refine s_ixT (i := 0) hw hh'.sub rfl rfl fun w2 hw2 => ?_
      exact hP F' H' w2 y.name (Same.refl _) hh' (by rw [hl, if_neg (by decide)]) hw2
  have hfree : At K F4 (dTs (free3 fs)) fv := hfr
  have hfrl : (free3 fs).length ≤ 4 := by
    have := free_sub (fs := fs).length_le
    rw [List.length_map] at this
    omega
  walk_at "go"
  refine o_lst1 hh (by decide) fun H6 r hh => ?_
  have send : Same F F4 := s1.trans (s2.trans (s3.trans (s4.trans s5)))
  have fend : ∀ (rows : List (List (List Nat))) (c : Nat) (F5 H7 : Hp) (o : HO) (us : List V), Same F4 F5 → DrO o → HH F5 H7 ((d, o) :: (r, .lst us) :: M) → AtA K F5 (rows.map dTs) us → rows.flatMap id = (free3 fs).take c → (∀ r ∈ rows, r ≠ []) → rows.length ≤ 2 → TupK [svv name, .ref p, .ref r] Q H7 := by
    intro rows c F5 H7 o us s6 ho hh hus hfl2 hne h2
    have hrv := frz_lst (hh.out (i := 1) rfl) hus
    have s7 := hh.frz1S
    refine s_tup (K := K) (ds := [.t name, .lst (fs.map dLf), .lst (rows.map dTs)]) hh.frz1 (AtA.cons At.of (AtA.cons (hfv.mono (s5.trans (s6.trans s7))) (AtA.cons hrv AtA.nil))) (by show 3 ≤ 1000; decide) fun F6 H8 u s8 hh hu => ?_
    exact q ⟨name, fs, rows⟩ F6 H8 o u rfl (rows_ok hk hfs hnd hfl hfl2 hne h2) (send.trans (s6.trans (s7.trans s8))) ho hh hu
  walk_at "go"
  refine g_thr ?_
  walk_at "go"
  refine s_lenL (e := D.t) hfree hh.sub ?_
  walk_at "go"
  refine ite2 (fun z1 => ?_) (fun z1 => ?_)
  · have hfr0 : 0 < (free3 fs).length := by have := of_decide_eq_true z1; omega
    walk_at "go"
    refine rd_draw hh ho ⟨by decide, by decide⟩ fun vd H7 o d0 d1 ho hh => ?_
    walk_at "go"
    refine ite2 (fun z2 => ?_) (fun z2 => ?_)
    · walk_at "go"
      refine s_lenL (e := D.t) hfree hh.sub ?_
      walk_at "go"
      refine rd_draw hh ho ⟨by omega, by omega⟩ fun vc H8 o c0 c1 ho hh => ?_
      obtain ⟨c, rfl⟩ := Int.eq_ofNat_of_zero_le c0
      walk_at "go"
      rw [show (1 + (c : Int)) = ((c + 1 : Nat) : Int) by omega]
      refine o_tyL (i := 1) hh rfl ?_
      walk_at "go"
      refine s_slG hfree hh (Same.refl _) fun F5 H9 u6 s6 hh hu6 => ?_
      rw [cutD_map, cutD_to] at hu6
      walk_at "go"
      refine o_app1 hh (by show 0 < 16777216; decide) fun H10 hh => ?_
      walk_at "go"
      have hc1 : (free3 fs).take (c + 1) ≠ [] := fun z => by
        have := congrArg List.length z
        rw [List.length_take, List.length_nil] at this
        omega
      refine s_lenL (e := D.t) hfree (s6.trans hh.sub) ?_
      walk_at "go"
      refine ite2 (fun z3 => ?_) (fun z3 => ?_)
      · have hc2 : c + 1 < (free3 fs).length := by have := of_decide_eq_true z3; omega
        walk_at "go"
        refine rd_draw hh ho ⟨by decide, by decide⟩ fun ve H11 o e0 e1 ho hh => ?_
        walk_at "go"
        refine ite2 (fun z4 => ?_) (fun z4 => ?_)
        · walk_at "go"
          refine o_tyL (i := 1) hh rfl ?_
          walk_at "go"
          refine s_slG hfree hh s6 fun F6 H12 u7 s7 hh hu7 => ?_
          rw [cutD_map, cutD_from (by omega)] at hu7
          walk_at "go"
          refine o_app1 hh (by show 1 < 16777216; decide) fun H13 hh => ?_
          walk_at "go"
          refine fend [(free3 fs).take (c + 1), (free3 fs).drop (c + 1)] (free3 fs).length F6 _ o _ (s6.trans s7) ho hh (AtA.cons (hu6.mono s7) (AtA.cons hu7 AtA.nil)) ?_ ?_ (Nat.le_refl 2)
          · show (free3 fs).take (c + 1) ++ ((free3 fs).drop (c + 1) ++ []) = _
            rw [List.append_nil, List.take_append_drop, List.take_length]
          · intro r hr
            rcases List.mem_cons.mp hr with rfl | hr
            · exact hc1
            · rw [List.mem_singleton.mp hr]
              intro z
              have := congrArg List.length z
              rw [List.length_drop, List.length_nil] at this
              omega
        · walk_at "go"
          refine fend [(free3 fs).take (c + 1)] (c + 1) F5 _ o _ s6 ho hh (AtA.cons hu6 AtA.nil) (List.append_nil _) ?_ (by show 1 ≤ 2; decide)
          intro r hr
          rw [List.mem_singleton.mp hr]
          exact hc1
      · walk_at "go"
        refine fend [(free3 fs).take (c + 1)] (c + 1) F5 _ o _ s6 ho hh (AtA.cons hu6 AtA.nil) (List.append_nil _) ?_ (by show 1 ≤ 2; decide)
        intro r hr
        rw [List.mem_singleton.mp hr]
        exact hc1
    · walk_at "go"
      exact fend [] 0 F4 _ o _ (Same.refl _) ho hh AtA.nil rfl (fun r hr => nomatch hr) (Nat.zero_le _)
  · walk_at "go"
    exact fend [] 0 F4 _ o _ (Same.refl _) ho hh AtA.nil rfl (fun r hr => nomatch hr) (Nat.zero_le _)
end
end Lw

-- rd
namespace Lw
open PySem PySem.Spec PyProof.Rows L2 G
section
variable {K : PySem.W.Frag} {F F0 F1 F2 H H' : Hp} {Q : VK} {E : XK} {mg : Str → Option Value} {M : List (Addr × HO)} {x y : V} {o : HO} {d : Addr}
theorem kn_take : ∀ n < 4, (l_kn.take n).Nodup ∧ (∀ t ∈ l_kn.take n, t ∈ l_kn) ∧ (l_kn.take n).length = n := by decide
theorem rd_schema3 (hh : HH F H ((d, o) :: M)) (ho : DrO o) (q : ∀ ds n F' H' o' v, n < 4 → ds.map (·.name) = l_kn.take n → DsOk ds → Same F F' → DrO o' → HH F' H' ((d, o') :: M) → At K F' (.lst (ds.map dLk)) v → Q v H') : sp__law_schema K [.ref d] H Q E := by
  refine ⟨rfl, ?_⟩
  unfold t__law_schema
  walk_at "go"
  refine s_lst (K := K) (ds := l_kn.map D.t) hh (AtA.ofFlat (g := svv) (xs := l_kn)) (by show 3 ≤ 1000; decide) fun F1 H2 u s1 hh hu => ?_
  walk_at "go"
  refine rd_draw hh ho ⟨by decide, by decide⟩ fun vm H3 o m0 m1 ho hh => ?_
  obtain ⟨m, rfl⟩ := Int.eq_ofNat_of_zero_le m0
  walk_at "go"
  rw [show (1 + (m : Int)) = ((m + 1 : Nat) : Int) by omega]
  refine s_slG hu hh (Same.refl _) fun F2 H4 nv s2 hh hnv => ?_
  rw [cutD_map, cutD_to] at hnv
  have hkt := kn_take (m + 1) (by omega)
  walk_at "go"
  refine gi_list ?_
  walk_at "go"
  refine a_lcS (e := D.t) (f := dLk) DrO (fun pre acc => acc.map (·.name) = pre ∧ ∀ k ∈ acc, KdOk3 (l_kn.take (m + 1)) k) hnv hh ho ⟨rfl, fun k hk => nomatch hk⟩ (by rw [hkt.2.2, sl16]; omega)
    (fun pre y post acc w F' H' c o P N epp hR hw sF ho hh' hP => ?_) fun F3 H5 u o acc s3 ho hh hR hu => ?_
  · obtain rfl := At.v_.mp hw
    have hyk : y ∈ l_kn := hkt.2.1 y (by rw [← epp]; exact List.mem_append_right _ (List.mem_cons_self ..))
    walk_at "go"
    refine ⟨rfl, ?_⟩
    walk_at "go"
    refine rd_kind3 hh'.swap ho (hnv.mono sF) (Nat.succ_pos _) (by omega) hyk fun k F4 H6 o v en hk s4 ho hh hv => ?_
    refine hP F4 H6 v k o s4 ho hh.swap ⟨by rw [List.map_append, hR.1, List.map_cons, en]; rfl, fun z hz => ?_⟩ hv
    rcases List.mem_append.mp hz with hz | hz
    · exact hR.2 z hz
    · rw [List.mem_singleton.mp hz]
      exact hk
  · refine q acc (m + 1) F3 H5 o u (by omega) hR.1 ⟨fun z => ?_, ?_, ?_, ?_, ?_⟩ (s1.trans (s2.trans s3)) ho hh hu
    · have := hkt.2.2
      rw [← hR.1, z] at this
      exact nomatch this
    · have := hkt.2.2
      rw [← hR.1, List.length_map] at this
      omega
    · rw [hR.1]; exact hkt.1
    · rw [hR.1]; exact hkt.2.1
    · rw [hR.1]; exact hR.2
end
end Lw

-- rd
namespace Lw
open PySem PySem.Spec PyProof.Rows L2 G
/-! ### k03's own texts of what it drew -/
def quT (z : List Nat) : Bool := decide (34 :: (replL q_x22 q_x5cx22 (replL q_x5c q_x5cx5c z) ++ [34]) = qtW z) && decide (z.length ≤ 3 ∧ (replL q_x5c q_x5cx5c z).length ≤ 10 ∧ (replL q_x22 q_x5cx22 (replL q_x5c q_x5cx5c z)).length ≤ 10)
theorem qu_all : ((l_ch ++ [q_x2c, q_x22]).all quT) = true := by decide +kernel
structure QuOk (z : List Nat) : Prop where
  e : 34 :: (replL q_x22 q_x5cx22 (replL q_x5c q_x5cx5c z) ++ [34]) = qtW z
  l0 : z.length ≤ 3
  l1 : (replL q_x5c q_x5cx5c z).length ≤ 10
  l2 : (replL q_x22 q_x5cx22 (replL q_x5c q_x5cx5c z)).length ≤ 10
theorem qu_ok {z : List Nat} (h : z ∈ l_ch ++ [q_x2c, q_x22]) : QuOk z := by
  have h1 := List.all_eq_true.mp qu_all z h
  unfold quT at h1
  rw [Bool.and_eq_true, decide_eq_true_iff, decide_eq_true_iff] at h1
  exact ⟨h1.1, h1.2.1, h1.2.2.1, h1.2.2.2⟩
theorem wo_qu {names : List (List Nat)} {n : Int} {z : List Nat} (h : SoOk names (.text n (some z))) : z ∈ l_ch ++ [q_x2c, q_x22] := by
  have := h.2
  simp only [l_wo, List.mem_cons, List.not_mem_nil, or_false, reduceCtorEq, false_or, Option.some.injEq] at this
  rcases this with rfl | rfl
  · exact List.mem_append_right _ (List.mem_cons_self ..)
  · exact List.mem_append_right _ (List.mem_cons_of_mem _ (List.mem_cons_self ..))
theorem ch_qu {names : List (List Nat)} {cs : List (List Nat)} (h : SoOk names (.choice cs)) : ∀ z ∈ cs, z ∈ l_ch ++ [q_x2c, q_x22] := by
  obtain ⟨i, hi, rfl⟩ := h
  exact fun z hz => List.mem_append_left _ (List.mem_of_mem_take hz)
/-- sizes: what is drawn is fine -/
theorem so_fine {n : Nat} (hn : n < 4) {s : So} (h : SoOk (l_kn.take n) s) : s.fine = true := by
  cases s with
  | int a b =>
    have h1 := int_in a h.1
    have h2 := int_in b h.2.1
    unfold So.fine
    rw [Bool.and_eq_true, decide_eq_true_iff, decide_eq_true_iff]
    omega
  | text v w =>
    have h1 := (len_ok h.1).2
    unfold So.fine
    rw [Bool.and_eq_true, decide_eq_true_iff]
    refine ⟨by omega, ?_⟩
    cases w with
    | none => rfl
    | some z => exact decide_eq_true (Nat.le_trans (qu_ok (wo_qu h)).l0 (by decide))
  | choice cs =>
    have hq := ch_qu h
    obtain ⟨i, hi, rfl⟩ := h
    have h4 := ch_ok i hi
    unfold So.fine
    rw [Bool.and_eq_true, decide_eq_true_iff]
    refine ⟨by have := h4.2.2.1; omega, List.all_eq_true.mpr fun z hz => decide_eq_true (Nat.le_trans (qu_ok (hq z hz)).l0 (by decide))⟩
  | ref ks r =>
    have hl := (h.1.nd).length_le_of_subset (l₂ := l_kn.take n) fun z hz => h.1.m z hz
    have hr : ∀ r ∈ l_ru, r.length ≤ 20 := by decide
    have hk : ∀ t ∈ l_kn, t.length ≤ 20 := by decide
    rw [List.length_take] at hl
    unfold So.fine
    rw [Bool.and_eq_true, Bool.and_eq_true, decide_eq_true_iff, decide_eq_true_iff]
    exact ⟨⟨by omega, List.all_eq_true.mpr fun z hz => decide_eq_true (hk z (List.mem_of_mem_take (h.1.m z hz)))⟩, hr r h.2⟩
  | list ks =>
    have hl := (h.nd).length_le_of_subset (l₂ := l_kn.take n) fun z hz => h.m z hz
    have hk : ∀ t ∈ l_kn, t.length ≤ 20 := by decide
    rw [List.length_take] at hl
    unfold So.fine
    rw [Bool.and_eq_true, decide_eq_true_iff]
    exact ⟨by omega, List.all_eq_true.mpr fun z hz => decide_eq_true (hk z (List.mem_of_mem_take (h.m z hz)))⟩
theorem fd_fine {n : Nat} (hn : n < 4) {f : Fd} (h : FdOk3 (l_kn.take n) f) : f.fine = true := by
  have hf : ∀ t ∈ l_fn, t.length ≤ 20 := by decide
  unfold Fd.fine
  rw [Bool.and_eq_true, decide_eq_true_iff]
  exact ⟨hf _ h.n, so_fine hn h.s⟩
theorem kd_fine {n : Nat} (hn : n < 4) {k : Kd} (h : KdOk3 (l_kn.take n) k) : k.fine = true := by
  have hk : ∀ t ∈ l_kn, t.length ≤ 20 := by decide
  have hf : ∀ t ∈ l_fn, t.length ≤ 20 := by decide
  unfold Kd.fine
  rw [Bool.and_eq_true, Bool.and_eq_true, Bool.and_eq_true, Bool.and_eq_true, decide_eq_true_iff, decide_eq_true_iff, decide_eq_true_iff]
  refine ⟨⟨⟨⟨hk _ h.n, Nat.le_trans h.fl (by decide)⟩, Nat.le_trans h.kl (by decide)⟩, List.all_eq_true.mpr fun x hx => fd_fine hn (h.f x hx)⟩, List.all_eq_true.mpr fun r hr => ?_⟩
  rw [Bool.and_eq_true, decide_eq_true_iff]
  exact ⟨Nat.le_trans (h.kr r hr).2.1 (by decide), List.all_eq_true.mpr fun t ht => decide_eq_true (hf t ((h.kr r hr).2.2 t ht).1)⟩
section
variable {K : PySem.W.Frag} {F F0 F1 F2 H H' : Hp} {Q : VK} {E : XK} {mg : Str → Option Value} {M : List (Addr × HO)} {x y : V} {o : HO} {d : Addr}
theorem rd_quote {z : List Nat} (h : z ∈ l_ch ++ [q_x2c, q_x22]) (q : Q (svv (qtW z)) H) : sp__law_quote K [svv z] H Q E := by
  have hq := qu_ok h
  have h0 := hq.l0
  have h1 := hq.l1
  have h2 := hq.l2
  refine ⟨rfl, ?_⟩
  unfold t__law_quote
  walk_at "go"
  refine ⟨_, rfl, z, rfl, by show z.length + (z.length + 1) * 2 ≤ _; omega, ?_⟩
  refine ⟨replL q_x5c q_x5cx5c z, rfl, by show (replL q_x5c q_x5cx5c z).length + ((replL q_x5c q_x5cx5c z).length + 1) * 2 ≤ _; omega, ?_⟩
  walk_at "go"
  refine v_addT (by show 1 + _ ≤ _; omega) ?_
  walk_at "go"
  refine v_addT (by rw [List.length_append]; show 1 + _ + 1 ≤ _; omega) ?_
  walk_at "go"
  rw [← hq.e] at q
  exact q
theorem rd_shape_text {n : Nat} (hn : n < 4) {s : So} (hs : SoOk (l_kn.take n) s) (hh : HH F H M) (hx : At K F (dSh s) x) (q : ∀ F' H', Same F F' → HH F' H' M → Q (svv (wSo s)) H') : sp__law_shape_text K [x] H Q E := by
  have hf := so_fine hn hs
  have hw := wSo_len hf
  refine ⟨rfl, ?_⟩
  unfold t__law_shape_text
  walk_at "go"
  refine s_tag hx hh.sub ?_
  walk_at "go"
  cases s with
  | int a b =>
    have hx : At K F (.tup [.t q_int, .i a, .i b]) x := hx
    have h1 := int_in a hs.1
    have h2 := int_in b hs.2.1
    have e1 : q_int_.length = 4 := rfl
    have e2 : q_x2ex2e.length = 2 := rfl
    have d1 := decI_len (i := a) (by omega)
    have d2 := decI_len (i := b) (by omega)
    rw [show decide (tag3 (.int a b) = q_int) = true from rfl]
    walk_at "go"
    refine s_ixT (i := 1) hx hh.sub rfl rfl fun w1 hw1 => ?_
    obtain rfl := At.v_.mp hw1
    walk_at "go"
    refine v_strI (by omega) ?_
    walk_at "go"
    refine v_addT (by omega) ?_
    walk_at "go"
    refine v_addT (by rw [List.length_append]; omega) ?_
    walk_at "go"
    refine s_ixT (i := 2) hx hh.sub rfl rfl fun w2 hw2 => ?_
    obtain rfl := At.v_.mp hw2
    walk_at "go"
    refine v_strI (by omega) ?_
    walk_at "go"
    refine v_addT (by simp only [List.length_append]; omega) ?_
    walk_at "go"
    exact q F H (Same.refl _) hh
  | text v w =>
    have hx : At K F (.tup [.t q_text, .i v, dOp w]) x := hx
    have h1 := (len_ok hs.1).2
    have e1 : q_text_.length = 5 := rfl
    have e2 : q__without_.length = 9 := rfl
    have d1 := decI_len (i := v) (by omega)
    rw [show decide (tag3 (.text v w) = q_int) = false from (by decide : decide (q_text = q_int) = false)]
    walk_at "go"
    refine s_ixT (i := 0) hx hh.sub rfl rfl fun w1 hw1 => ?_
    obtain rfl := At.v_.mp hw1
    walk_at "go"
    rw [decide_eq_true rfl]
    walk_at "go"
    refine s_ixT (i := 2) hx hh.sub rfl rfl fun w2 hw2 => ?_
    cases w with
    | none =>
      obtain rfl := At.v_.mp (show At K F (.v .non) w2 from hw2)
      walk_at "go"
      rw [decide_eq_true rfl]
      walk_at "go"
      refine s_ixT (i := 1) hx hh.sub rfl rfl fun w3 hw3 => ?_
      obtain rfl := At.v_.mp hw3
      walk_at "go"
      refine v_strI (by omega) ?_
      walk_at "go"
      refine v_addT (by omega) ?_
      walk_at "go"
      exact q F H (Same.refl _) hh
    | some z =>
      obtain rfl := At.v_.mp (show At K F (.t z) w2 from hw2)
      have hz := wo_qu hs
      have hz2 := (qu_ok hz).l2
      have hql := qtW_len (zs := z)
      have hz0 := (qu_ok hz).l0
      walk_at "go"
      rw [decide_eq_false (fun z => nomatch z)]
      walk_at "go"
      refine s_ixT (i := 1) hx hh.sub rfl rfl fun w3 hw3 => ?_
      obtain rfl := At.v_.mp hw3
      walk_at "go"
      refine v_strI (by omega) ?_
      walk_at "go"
      refine v_addT (by omega) ?_
      walk_at "go"
      refine v_addT (by rw [List.length_append]; omega) ?_
      walk_at "go"
      refine s_ixT (i := 2) hx hh.sub rfl rfl fun w4 hw4 => ?_
      obtain rfl := At.v_.mp (show At K F (.t z) w4 from hw4)
      walk_at "go"
      refine rd_quote hz ?_
      refine v_addT (by simp only [List.length_append]; omega) ?_
      walk_at "go"
      exact q F H (Same.refl _) hh
  | choice cs =>
    have hx : At K F (.tup [.t q_one, dTs cs]) x := hx
    have hqu := ch_qu hs
    have e1 : q_one_of_.length = 7 := rfl
    have hcl : cs.length ≤ 4 := by
      obtain ⟨i, hi, rfl⟩ := hs
      exact (ch_ok i hi).2.2.1
    have hwl : q_one_of_.length + (sepL q_x2c_ (cs.map qtW)).length ≤ 13000 := by
      have : (wSo (.choice cs)).length = _ := List.length_append
      rw [← this]
      exact hw
    rw [show decide (tag3 (.choice cs) = q_int) = false from (by decide : decide (q_one = q_int) = false)]
    walk_at "go"
    refine s_ixT (i := 0) hx hh.sub rfl rfl fun w1 hw1 => ?_
    obtain rfl := At.v_.mp hw1
    walk_at "go"
    rw [show decide (q_one = q_text) = false by decide]
    walk_at "go"
    refine s_ixT (i := 0) hx hh.sub rfl rfl fun w1 hw1 => ?_
    obtain rfl := At.v_.mp hw1
    walk_at "go"
    rw [decide_eq_true rfl]
    walk_at "go"
    refine gi_list ?_
    walk_at "go"
    refine s_ixT (i := 1) hx hh.sub rfl rfl fun w2 hw2 => ?_
    refine a_lcL (e := D.t) (f := D.t) hw2 hh (by rw [sl16]; omega) (fun c => some (qtW c)) (fun y w F' H' c' P N hy hw' sF hh' hP hN => ?_) fun F5 H5 u5 s5 hh hu5 => ?_
    · obtain rfl := At.v_.mp hw'
      walk_at "go"
      refine ⟨rfl, ?_⟩
      walk_at "go"
      refine rd_quote (hqu y hy) ?_
      exact hP F' H' _ (qtW y) (Same.refl _) hh' rfl At.of
    rw [List.filterMap_eq_map'] at hu5
    refine s_join hu5 hh.sub (by rw [List.length_map]; omega) (by decide) (by omega) ?_
    refine v_addT (by omega) ?_
    walk_at "go"
    exact q F5 H5 s5 hh
  | ref ks r =>
    have hx : At K F (.tup [.t q_ref, dTs ks, .t r]) x := hx
    have hf2 := hf
    unfold So.fine at hf2
    rw [Bool.and_eq_true, Bool.and_eq_true, decide_eq_true_iff, decide_eq_true_iff] at hf2
    have h2 := sepL_len (m := q__or_) (all_len hf2.1.2)
    have e0 : q_ref.length = 3 := rfl
    have e2 : q__or_.length = 4 := rfl
    have e3 : q__.length = 1 := rfl
    rw [e2] at h2
    have h3 : ks.length * (20 + 4) ≤ 500 * (20 + 4) := Nat.mul_le_mul_right _ hf2.1.1
    have h4 := hf2.2
    have h5 := hf2.1.1
    change ∀ F' H', Same F F' → HH F' H' M → Q (svv (if r = q_clears then q_ref_ ++ sepL q__or_ ks else q_ref_ ++ sepL q__or_ ks ++ q__ ++ r)) H' at q
    rw [show decide (tag3 (.ref ks r) = q_int) = false from (by decide : decide (q_ref = q_int) = false)]
    walk_at "go"
    refine s_ixT (i := 0) hx hh.sub rfl rfl fun w1 hw1 => ?_
    obtain rfl := At.v_.mp hw1
    walk_at "go"
    rw [show decide (q_ref = q_text) = false by decide]
    walk_at "go"
    refine s_ixT (i := 0) hx hh.sub rfl rfl fun w1 hw1 => ?_
    obtain rfl := At.v_.mp hw1
    walk_at "go"
    rw [show decide (q_ref = q_one) = false by decide]
    walk_at "go"
    refine s_ixT (i := 0) hx hh.sub rfl rfl fun w1 hw1 => ?_
    obtain rfl := At.v_.mp hw1
    walk_at "go"
    refine v_addT (by omega) ?_
    walk_at "go"
    refine s_ixT (i := 1) hx hh.sub rfl rfl fun w2 hw2 => ?_
    refine s_join hw2 hh.sub (by omega) (by decide) (by omega) ?_
    refine v_addT (by rw [List.length_append]; omega) ?_
    walk_at "go"
    refine g_thr ?_
    walk_at "go"
    refine s_ixT (i := 0) hx hh.sub rfl rfl fun w1 hw1 => ?_
    obtain rfl := At.v_.mp hw1
    walk_at "go"
    rw [decide_eq_true rfl]
    walk_at "go"
    refine s_ixT (i := 2) hx hh.sub rfl rfl fun w3 hw3 => ?_
    obtain rfl := At.v_.mp hw3
    walk_at "go"
    by_cases hr : r = q_clears
    · rw [decide_eq_true hr]
      rw [if_pos hr] at q
      walk_at "go"
      exact q F H (Same.refl _) hh
    · rw [decide_eq_false hr]
      rw [if_neg hr] at q
      walk_at "go"
      refine v_addT (by simp only [List.length_append]; omega) ?_
      walk_at "go"
      refine s_ixT (i := 2) hx hh.sub rfl rfl fun w4 hw4 => ?_
      obtain rfl := At.v_.mp hw4
      refine v_addT (by simp only [List.length_append]; omega) ?_
      walk_at "go"
      exact q F H (Same.refl _) hh
  | list ks =>
    have hx : At K F (.tup [.t q_list, dTs ks]) x := hx
    have hf2 := hf
    unfold So.fine at hf2
    rw [Bool.and_eq_true, decide_eq_true_iff] at hf2
    have h2 := sepL_len (m := q__or_) (all_len hf2.2)
    have e0 : q_list.length = 4 := rfl
    have e2 : q__or_.length = 4 := rfl
    have e3 : q__.length = 1 := rfl
    rw [e2] at h2
    have h3 : ks.length * (20 + 4) ≤ 500 * (20 + 4) := Nat.mul_le_mul_right _ hf2.1
    have h5 := hf2.1
    rw [show decide (tag3 (.list ks) = q_int) = false from (by decide : decide (q_list = q_int) = false)]
    walk_at "go"
    refine s_ixT (i := 0) hx hh.sub rfl rfl fun w1 hw1 => ?_
    obtain rfl := At.v_.mp hw1
    walk_at "go"
    rw [show decide (q_list = q_text) = false by decide]
    walk_at "go"
    refine s_ixT (i := 0) hx hh.sub rfl rfl fun w1 hw1 => ?_
    obtain rfl := At.v_.mp hw1
    walk_at "go"
    rw [show decide (q_list = q_one) = false by decide]
    walk_at "go"
    refine s_ixT (i := 0) hx hh.sub rfl rfl fun w1 hw1 => ?_
    obtain rfl := At.v_.mp hw1
    walk_at "go"
    refine v_addT (by omega) ?_
    walk_at "go"
    refine s_ixT (i := 1) hx hh.sub rfl rfl fun w2 hw2 => ?_
    refine s_join hw2 hh.sub (by omega) (by decide) (by omega) ?_
    refine v_addT (by rw [List.length_append]; omega) ?_
    walk_at "go"
    refine g_thr ?_
    walk_at "go"
    refine s_ixT (i := 0) hx hh.sub rfl rfl fun w1 hw1 => ?_
    obtain rfl := At.v_.mp hw1
    walk_at "go"
    rw [show decide (q_list = q_ref) = false by decide]
    walk_at "go"
    exact q F H (Same.refl _) hh
end
end Lw

-- rd
namespace Lw
open PySem PySem.Spec PyProof.Rows L2 G
theorem kd_law {k : Kd} : sepL q__ (([q_kind, k.name, q_x7b] ++ k.fields.map wFd) ++ (k.keys.map wKey) ++ [q_x7d]) = wKd k := by
  show q_kind ++ ([k.name, q_x7b] ++ k.fields.map wFd ++ k.keys.map wKey ++ [q_x7d]).flatMap (q__ ++ ·) = (q_kind_ ++ k.name ++ q__x7b) ++ (([] ++ (k.fields.map wFd ++ k.keys.map wKey)) ++ [q_x7d]).flatMap (q__ ++ ·)
  rw [show q_kind_ = q_kind ++ [32] from rfl, show q__x7b = [32, 123] from rfl, List.nil_append]
  simp only [List.flatMap_append, List.append_assoc]
  rw [show [k.name, q_x7b].flatMap (q__ ++ ·) = 32 :: (k.name ++ [32, 123]) from by
    show 32 :: (k.name ++ ([32, 123] ++ [])) = _
    rfl]
  simp
section
variable {K : PySem.W.Frag} {F F0 F1 F2 H H' : Hp} {Q : VK} {E : XK} {mg : Str → Option Value} {M : List (Addr × HO)} {x y : V} {o : HO} {d : Addr}
theorem rd_field_text {n : Nat} (hn : n < 4) {f : Fd} (hf : FdOk3 (l_kn.take n) f) (hh : HH F H M) (hx : At K F (dLf f) x) (q : ∀ F' H', Same F F' → HH F' H' M → Q (svv (wFd f)) H') : sp__law_field_text K [x] H Q E := by
  have h3 := wSo_len (so_fine hn hf.s)
  have h1 : f.name.length ≤ 20 := (by decide : ∀ t ∈ l_fn, t.length ≤ 20) _ hf.n
  have e1 : q_x3a_.length = 2 := rfl
  have e2 : q__not_null.length = 9 := rfl
  have e3 : q_x3b.length = 1 := rfl
  have h2 := hf.s
  obtain ⟨name, so, need, tok, tgs⟩ := f
  have h1 : name.length ≤ 20 := h1
  have h3 : (wSo so).length ≤ 13000 := h3
  have h2 : SoOk (l_kn.take n) so := h2
  have hx : At K F (.tup [.t name, dSh so, .b need]) x := hx
  refine ⟨rfl, ?_⟩
  unfold t__law_field_text
  walk_at "go"
  refine s_ixT (i := 0) hx hh.sub rfl rfl fun w1 hw1 => ?_
  obtain rfl := At.v_.mp hw1
  walk_at "go"
  refine v_addT (by omega) ?_
  walk_at "go"
  refine s_ixT (i := 1) hx hh.sub rfl rfl fun w2 hw2 => ?_
  walk_at "go"
  refine rd_shape_text hn h2 hh hw2 fun F1 H1 s1 hh => ?_
  refine v_addT (by rw [List.length_append]; omega) ?_
  walk_at "go"
  refine g_thr ?_
  walk_at "go"
  refine s_ixT (i := 2) hx (s1.trans hh.sub) rfl rfl fun w3 hw3 => ?_
  obtain rfl := At.v_.mp hw3
  refine v_truB ?_
  cases need with
  | true =>
    walk_at "go"
    refine v_addT (by simp only [List.length_append]; omega) ?_
    walk_at "go"
    refine v_addT (by simp only [List.length_append]; omega) ?_
    walk_at "go"
    exact q F1 H1 s1 hh
  | false =>
    walk_at "go"
    refine v_addT (by simp only [List.length_append]; omega) ?_
    walk_at "go"
    exact q F1 H1 s1 hh
theorem rd_kind_text {n : Nat} (hn : n < 4) {k : Kd} (hk : KdOk3 (l_kn.take n) k) (hh : HH F H M) (hx : At K F (dLk k) x) (q : ∀ F' H', Same F F' → HH F' H' M → Q (svv (wKd k)) H') : sp__law_kind_text K [x] H Q E := by
  have hfl := hk.fl
  have hkl := hk.kl
  have hkn : k.name.length ≤ 20 := (by decide : ∀ t ∈ l_kn, t.length ≤ 20) _ hk.n
  have hwl := wKd_len (kd_fine hn hk)
  refine ⟨rfl, ?_⟩
  unfold t__law_kind_text
  walk_at "go"
  refine s_ixT (i := 0) hx hh.sub rfl rfl fun w1 hw1 => ?_
  obtain rfl := At.v_.mp hw1
  walk_at "go"
  refine s_lst (K := K) (ds := [q_kind, k.name, q_x7b].map D.t) hh (AtA.ofFlat (g := svv) (xs := [q_kind, k.name, q_x7b])) (by show 3 ≤ 1000; decide) fun F1 H1 u1 s1 hh hu1 => ?_
  walk_at "go"
  refine gi_list ?_
  walk_at "go"
  refine s_ixT (i := 1) hx (s1.trans hh.sub) rfl rfl fun w2 hw2 => ?_
  refine a_lcL (e := dLf) (f := D.t) (hw2.mono s1) hh (by rw [sl16]; omega) (fun f => some (wFd f)) (fun y w F' H' c' P N hy hw' sF hh' hP hN => ?_) fun F2 H2 u2 s2 hh hu2 => ?_
  · walk_at "go"
    refine ⟨rfl, ?_⟩
    walk_at "go"
    refine rd_field_text hn (hk.f y hy) hh' hw' fun F4 H4 s4 hh4 => ?_
    exact hP F4 H4 _ (wFd y) s4 hh4 rfl At.of
  rw [List.filterMap_eq_map'] at hu2
  refine s_cat hu1 hu2 hh s2 (Same.refl _) (by simp only [List.length_map, List.length_cons, List.length_nil]; omega) fun F3 H3 u3 s3 hh hu3 => ?_
  rw [← List.map_append] at hu3
  walk_at "go"
  refine gi_list ?_
  walk_at "go"
  refine s_ixT (i := 2) hx (s1.trans (s2.trans (s3.trans hh.sub))) rfl rfl fun w3 hw3 => ?_
  refine a_lcL (e := dTs) (f := D.t) (hw3.mono (s1.trans (s2.trans s3))) hh (by rw [sl16]; omega) (fun r => some (wKey r)) (fun y w F' H' c' P N hy hw' sF hh' hP hN => ?_) fun F4 H4 u4 s4 hh hu4 => ?_
  · have hr := hk.kr y hy
    have hrl := sepL_len (m := q_x2c_) (b := 20) (xs := y) fun t ht => (by decide : ∀ t ∈ l_fn, t.length ≤ 20) t (hr.2.2 t ht).1
    have e1 : q_key_.length = 4 := rfl
    have e2 : q_x2c_.length = 2 := rfl
    have e3 : q_x3b.length = 1 := rfl
    rw [e2] at hrl
    have hr2 := hr.2.1
    walk_at "go"
    refine ⟨rfl, ?_⟩
    walk_at "go"
    refine s_join hw' hh'.sub (by omega) (by decide) (by omega) ?_
    refine v_addT (by omega) ?_
    walk_at "go"
    refine v_addT (by rw [List.length_append]; omega) ?_
    exact hP F' H' _ (wKey y) (Same.refl _) hh' rfl At.of
  rw [List.filterMap_eq_map'] at hu4
  refine s_cat hu3 hu4 hh s4 (Same.refl _) (by simp only [List.length_map, List.length_append, List.length_cons, List.length_nil]; omega) fun F5 H5 u5 s5 hh hu5 => ?_
  rw [← List.map_append] at hu5
  walk_at "go"
  refine s_lst (K := K) (ds := [q_x7d].map D.t) hh (AtA.ofFlat (g := svv) (xs := [q_x7d])) (by show 1 ≤ 1000; decide) fun F6 H6 u6 s6 hh hu6 => ?_
  walk_at "go"
  refine s_cat hu5 hu6 hh s6 (Same.refl _) (by simp only [List.length_map, List.length_append, List.length_cons, List.length_nil]; omega) fun F7 H7 u7 s7 hh hu7 => ?_
  rw [← List.map_append] at hu7
  walk_at "go"
  refine s_join hu7 hh.sub (by simp only [List.length_map, List.length_append, List.length_cons, List.length_nil]; omega) (by decide) (by rw [kd_law]; omega) ?_
  rw [kd_law]
  exact q F7 H7 (s1.trans (s2.trans (s3.trans (s4.trans (s5.trans (s6.trans s7)))))) hh
theorem rd_text3 {ds : List Kd} {n : Nat} (hn : n < 4) (hd : ∀ k ∈ ds, KdOk3 (l_kn.take n) k) (hl : ds.length ≤ 3) (hh : HH F H M) (hx : At K F (.lst (ds.map dLk)) x) (q : ∀ F' H', Same F F' → HH F' H' M → Q (svv (wSc ds)) H') : sp__law_text K [x] H Q E := by
  have hwl := wSc_len (ks := ds) (by omega) (fun k hk => kd_fine hn (hd k hk))
  refine ⟨rfl, ?_⟩
  unfold t__law_text
  walk_at "go"
  refine gi_list ?_
  walk_at "go"
  refine a_lcL (e := dLk) (f := D.t) hx hh (by rw [sl16]; omega) (fun k => some (wKd k)) (fun y w F' H' c' P N hy hw' sF hh' hP hN => ?_) fun F2 H2 u2 s2 hh hu2 => ?_
  · walk_at "go"
    refine ⟨rfl, ?_⟩
    walk_at "go"
    refine rd_kind_text hn (hd y hy) hh' hw' fun F4 H4 s4 hh4 => ?_
    exact hP F4 H4 _ (wKd y) s4 hh4 rfl At.of
  rw [List.filterMap_eq_map'] at hu2
  refine s_join hu2 hh.sub (by rw [List.length_map]; omega) (by decide) (Nat.le_trans hwl (by decide)) ?_
  exact q F2 H2 s2 hh
end
end Lw

-- rd
namespace G
open PySem PySem.Spec PyProof.Rows L2
def Rs.good {α : Type} (N : Nat) (P : α → Prop) : Rs α → Prop
  | .ok x => P x
  | .bad i _ => i ≤ N
  | .stuck => False
theorem Rs.good.bind {α β : Type} {N : Nat} {P : α → Prop} {Q : β → Prop} {r : Rs α} {k : α → Rs β} (h : r.good N P) (hk : ∀ x, P x → (k x).good N Q) : (r.bind k).good N Q := by
  cases r with
  | ok x => exact hk x h
  | bad i z => exact h
  | stuck => exact h
theorem Rs.good.imp {α : Type} {N : Nat} {P Q : α → Prop} {r : Rs α} (h : r.good N P) (hk : ∀ x, P x → Q x) : r.good N Q := by
  cases r with
  | ok x => exact hk x h
  | bad i z => exact h
  | stuck => exact h
end G
namespace Lw
open PySem PySem.Spec PyProof.Rows L2 G
/-! ### any text: what the reader gives, or a fault within the text -/
abbrev Sml (z : List Nat) : Prop := z.all (· < 1114112) = true
theorem Sml.sub {a b : List Nat} (h : Sml b) (s : ∀ c ∈ a, c ∈ b) : Sml a := List.all_eq_true.mpr fun c hc => List.all_eq_true.mp h c (s c hc)
theorem Sml.take {n : Nat} {b : List Nat} (h : Sml b) : Sml (b.take n) := h.sub fun _ hc => List.mem_of_mem_take hc
theorem Sml.drop {n : Nat} {b : List Nat} (h : Sml b) : Sml (b.drop n) := h.sub fun _ hc => List.mem_of_mem_drop hc
theorem Sml.tl {c : Nat} {b : List Nat} (h : Sml (c :: b)) : Sml b := h.sub fun _ hc => List.mem_cons_of_mem _ hc
theorem Sml.cons {c : Nat} {b l : List Nat} (h : Sml (c :: l)) (h2 : Sml b) : Sml (c :: b) := by
  show (decide (c < 1114112) && b.all _) = true
  have : (decide (c < 1114112) && l.all (· < 1114112)) = true := h
  rw [Bool.and_eq_true] at this
  rw [this.1]
  exact h2
def TkW (t : Tk) : Prop := (t.r = q_word → Nm t.t) ∧ (t.r = q_number → Dg t.t) ∧ Sml t.t
/-- tokens that end with the end -/
def St (N : Nat) : List Tk → Prop
  | [] => False
  | [t] => t.r = q_end ∧ t.p ≤ N
  | t :: u :: r => (TkW t ∧ t.r ≠ q_end ∧ t.p ≤ N) ∧ St N (u :: r)
theorem St.of {N p : Nat} (hp : p ≤ N) : ∀ {acc : List Tk}, (∀ t ∈ acc, TkW t ∧ t.r ≠ q_end ∧ t.p ≤ N) → St N (acc ++ [⟨q_end, [], p⟩])
  | [], _ => ⟨rfl, hp⟩
  | [t], h => ⟨h t (List.mem_cons_self ..), rfl, hp⟩
  | t :: u :: r, h => ⟨h t (List.mem_cons_self ..), St.of hp (acc := u :: r) fun x hx => h x (List.mem_cons_of_mem _ hx)⟩
theorem rq_sml : ∀ {l t : List Nat} {n : Nat}, rq l = .ok t n → Sml l → Sml t
  | [], _, _, h, _ => by cases h
  | [c], t, n, h, _ => by
    unfold rq at h
    split at h
    · injection h with h1 h2; subst h1; rfl
    · cases h
  | c :: d :: r, t, n, h, hs => by
    rw [rq] at h
    split at h
    · injection h with h1 h2; subst h1; rfl
    · split at h
      · split at h
        · cases hr : rq r with
          | ok t' n' =>
            rw [hr] at h
            injection h with h1 h2
            subst h1
            exact Sml.cons (l := r) hs.tl (rq_sml hr hs.tl.tl)
          | opn => rw [hr] at h; cases h
          | bad k => rw [hr] at h; cases h
        · cases h
      · cases hr : rq (d :: r) with
        | ok t' n' =>
          rw [hr] at h
          injection h with h1 h2
          subst h1
          exact Sml.cons (l := d :: r) hs (rq_sml hr hs.tl)
        | opn => rw [hr] at h; cases h
        | bad k => rw [hr] at h; cases h
theorem fold_in {D : List Nat} : ∀ {sg : List (List Nat)} {a : List Nat}, sg.foldl (stepS D) a = a ∨ sg.foldl (stepS D) a ∈ sg
  | [], _ => .inl rfl
  | s :: sg, a => by
    rw [List.foldl_cons]
    rcases fold_in (D := D) (sg := sg) (a := stepS D a s) with z | z
    · rw [z]
      unfold stepS
      split
      · exact .inr (List.mem_cons_self ..)
      · exact .inl rfl
    · exact .inr (List.mem_cons_of_mem _ z)
theorem rq_bad : ∀ {l : List Nat} {k : Nat}, rq l = .bad k → k ≤ l.length
  | [], _, h => by cases h
  | [c], k, h => by
    unfold rq at h
    split at h <;> cases h
  | c :: d :: r, k, h => by
    rw [rq] at h
    split at h
    · cases h
    · split at h
      · split at h
        · cases hr : rq r with
          | ok t' n' => rw [hr] at h; cases h
          | opn => rw [hr] at h; cases h
          | bad k' =>
            rw [hr] at h
            have := rq_bad hr
            injection h with h1
            subst h1
            simp only [List.length_cons]
            omega
        · injection h with h1
          subst h1
          simp only [List.length_cons]
          omega
      · cases hr : rq (d :: r) with
        | ok t' n' => rw [hr] at h; cases h
        | opn => rw [hr] at h; cases h
        | bad k' =>
          rw [hr] at h
          have := rq_bad hr
          injection h with h1
          subst h1
          simp only [List.length_cons] at this ⊢
          omega
theorem lx_bad {sg : List (List Nat)} {c : Nat} {r z : List Nat} {k : Nat} (h : lx sg c r = .bad k z) : k ≤ r.length + 1 := by
  unfold lx at h
  split at h
  · unfold lxW at h
    split at h
    · injection h with h1; omega
    · cases h
  split at h
  · unfold lxN at h
    split at h
    · injection h with h1; omega
    split at h
    · injection h with h1; omega
    split at h
    · injection h with h1
      have := cwl_le (f := isD) (l := c :: r)
      rw [List.length_cons] at this
      omega
    · cases h
  split at h
  · unfold lxQ at h
    cases hq : rq r with
    | ok t' n' => rw [hq] at h; cases h
    | opn => rw [hq] at h; injection h with h1; omega
    | bad k' =>
      rw [hq] at h
      injection h with h1
      have := rq_bad hq
      omega
  · unfold lxS at h
    by_cases zz : sg.foldl (stepS (c :: r)) [] = []
    · simp only [if_pos zz] at h
      injection h with h1
      omega
    · simp only [if_neg zz] at h
      cases h
theorem q_en1 : q_word ≠ q_end := by decide
theorem q_en2 : q_number ≠ q_end := by decide
theorem q_en3 : q_text ≠ q_end := by decide
theorem q_en4 : q_sign ≠ q_end := by decide
theorem take_hd {f : Nat → Bool} {c : Nat} {r : List Nat} (h : f c = true) : ∃ s, (c :: r).take (cwl f (c :: r)) = c :: s ∧ s.length + 1 = cwl f (c :: r) := by
  have hle := cwl_le (f := f) (l := r)
  rw [cwl_cons, if_pos h, show 1 + cwl f r = cwl f r + 1 by omega, List.take_succ_cons]
  exact ⟨_, rfl, by rw [List.length_take]; omega⟩
theorem lx_w {sg : List (List Nat)} {c : Nat} {r role t : List Nat} {n p : Nat} (hsg : ∀ s ∈ sg, Sml s) (hs : Sml (c :: r)) (h : lx sg c r = .tok role t n) : TkW ⟨role, t, p⟩ ∧ role ≠ q_end ∧ 0 < n ∧ n ≤ r.length + 1 := by
  unfold lx at h
  split at h
  · rename_i hL
    unfold lxW at h
    split at h
    · cases h
    · rename_i h12
      injection h with h1 h2 h3
      subst h1 h2 h3
      have hle := cwl_le (f := isW) (l := c :: r)
      rw [List.length_cons] at hle
      have hw : isW c = true := by unfold isW; rw [hL]; rfl
      obtain ⟨s, es, el⟩ := take_hd (r := r) hw
      refine ⟨⟨fun _ => ⟨⟨c, s, es, hL⟩, take_all, ?_⟩, fun z => absurd z q_ne1, hs.take⟩, q_en1, by omega, hle⟩
      show (List.take _ _).length ≤ 12
      rw [List.length_take]
      omega
  split at h
  · rename_i hD
    unfold lxN at h
    split at h
    · cases h
    rename_i h0
    split at h
    · cases h
    rename_i h18
    split at h
    · cases h
    injection h with h1 h2 h3
    subst h1 h2 h3
    have hle := cwl_le (f := isD) (l := c :: r)
    rw [List.length_cons] at hle
    obtain ⟨s, es, el⟩ := take_hd (f := isD) (r := r) hD
    refine ⟨⟨fun z => absurd z q_ne2, fun _ => ⟨⟨c, s, es, hD, fun h48 => ?_⟩, take_all, ?_⟩, hs.take⟩, q_en2, by omega, hle⟩
    · have : ¬1 < cwl isD (c :: r) := fun z => h0 ⟨z, h48⟩
      exact List.eq_nil_of_length_eq_zero (by omega)
    · show (List.take _ _).length ≤ 18
      rw [List.length_take]
      omega
  split at h
  · unfold lxQ at h
    cases hq : rq r with
    | ok t' n' =>
      rw [hq] at h
      injection h with h1 h2 h3
      subst h1 h2 h3
      have := rq_len hq
      exact ⟨⟨fun z => absurd z q_ne3, fun z => absurd z q_ne4, rq_sml hq hs.tl⟩, q_en3, Nat.succ_pos _, by omega⟩
    | opn => rw [hq] at h; cases h
    | bad k => rw [hq] at h; cases h
  · rename_i h1 h2 h3
    have hl : lx sg c r = .tok role t n := by unfold lx; rw [if_neg h1, if_neg h2, if_neg h3]; exact h
    have := lx_len h3 hl
    unfold lxS at h
    by_cases z : sg.foldl (stepS (c :: r)) [] = []
    · simp only [if_pos z] at h
      cases h
    · simp only [if_neg z] at h
      injection h with e1 e2 e3
      have hpos : t ≠ [] := by rw [← e2]; exact z
      have hin : t ∈ sg := by
        rcases fold_in (D := c :: r) (sg := sg) (a := []) with y | y
        · exact absurd y z
        · rw [← e2]; exact y
      subst e1
      refine ⟨⟨fun z => absurd z q_ne5, fun z => absurd z q_ne6, hsg t hin⟩, q_en4, ?_, by omega⟩
      have := List.length_pos_iff.mpr hpos
      omega
theorem toksL_good {sg : List (List Nat)} {N : Nat} (hsg : ∀ s ∈ sg, Sml s) : ∀ {m : Nat} {l : List Nat} {p : Nat} {acc : List Tk}, Sml l → l.length < m → p + l.length ≤ N → (∀ t ∈ acc, TkW t ∧ t.r ≠ q_end ∧ t.p ≤ N) → (toksL sg m l p acc).good N fun ts => St N ts ∧ ts.length ≤ acc.length + l.length + 1
  | 0, _, _, _, _, h, _, _ => absurd h (Nat.not_lt_zero _)
  | m + 1, [], p, acc, _, _, hp, ha => ⟨St.of (by rw [List.length_nil] at hp; omega) ha, by rw [List.length_append]; exact Nat.le_refl _⟩
  | m + 1, c :: r, p, acc, hs, hm, hp, ha => by
    rw [List.length_cons] at hm hp
    rw [toksL]
    by_cases h32 : c = 32
    · rw [if_pos h32]
      exact (toksL_good (N := N) hsg hs.tl (by omega) (by omega) ha).imp fun ts h => ⟨h.1, by rw [List.length_cons]; have := h.2; omega⟩
    rw [if_neg h32]
    cases hx : lx sg c r with
    | bad k z =>
      have := lx_bad hx
      show p + k ≤ N
      omega
    | tok role t n =>
      obtain ⟨ok, he, h0, hn⟩ := lx_w (p := p) hsg hs hx
      have g := toksL_good (sg := sg) (N := N) hsg (m := m) (l := (c :: r).drop n) (p := p + n) (acc := acc ++ [⟨role, t, p⟩]) hs.drop (by rw [List.length_drop, List.length_cons]; omega) (by rw [List.length_drop, List.length_cons]; omega) (fun t' ht => by
        rcases List.mem_append.mp ht with z | z
        · exact ha t' z
        · rw [List.mem_singleton.mp z]
          exact ⟨ok, he, by show p ≤ N; omega⟩)
      show (toksL sg m ((c :: r).drop n) (p + n) (acc ++ [⟨role, t, p⟩])).good N _
      refine g.imp fun ts h => ⟨h.1, ?_⟩
      have h2 := h.2
      simp only [List.length_append, List.length_drop, List.length_cons, List.length_nil] at h2 ⊢
      omega
theorem toks_good {sg : List (List Nat)} {n : Nat} {zs : List Nat} (hsg : ∀ s ∈ sg, Sml s) (hs : Sml zs) : (toks sg n zs).good zs.length fun ts => St zs.length ts ∧ ts.length ≤ zs.length + 1 ∧ zs.length ≤ n := by
  unfold toks
  split
  · exact Nat.zero_le _
  · exact (toksL_good (N := zs.length) hsg (acc := []) hs (Nat.lt_succ_self _) (by omega) fun t ht => nomatch ht).imp fun ts h => ⟨h.1, by have := h.2; rw [List.length_nil] at this; omega, by omega⟩
/-! taking tokens -/
section
variable {N : Nat} {s : List Tk} {z : List Nat} {res : List (List Nat)}
theorem St.step (h : St N s) (he : (nowT s).r ≠ q_end) : (TkW (nowT s) ∧ (nowT s).p ≤ N) ∧ St N (stepR s) ∧ (stepR s).length < s.length := by
  match s, h, he with
  | [], h, _ => exact h.elim
  | [t], h, he => exact absurd h.1 he
  | t :: u :: r, h, _ => exact ⟨⟨h.1.1, h.1.2.2⟩, h.2, Nat.lt_succ_self _⟩
theorem St.p (h : St N s) : (nowT s).p ≤ N := by
  match s, h with
  | [], h => exact h.elim
  | [t], h => exact h.2
  | t :: u :: r, h => exact h.1.2.2
/-- a token taken -/
def Tkn (N : Nat) (s : List Tk) (R : Tk → Prop) (x : Tk × List Tk) : Prop := (R x.1 ∧ x.1.p ≤ N) ∧ St N x.2 ∧ x.2.length < s.length
theorem take_good (h : St N s) (he : (nowT s).r ≠ q_end) {R : Tk → Prop} (hR : TkW (nowT s) → R (nowT s)) : (takeT s).good N (Tkn N s R) := by
  have := h.step he
  exact ⟨⟨hR this.1.1, this.1.2⟩, this.2⟩
theorem isSign_ne (h : isSign z s = true) : (nowT s).r ≠ q_end := by
  unfold isSign at h
  rw [Bool.and_eq_true, decide_eq_true_iff] at h
  rw [h.1]
  exact q_en4
theorem isWord_ne (h : isWord z s = true) : (nowT s).r = q_word ∧ (nowT s).t = z ∧ (nowT s).r ≠ q_end := by
  unfold isWord at h
  rw [Bool.and_eq_true, decide_eq_true_iff, decide_eq_true_iff] at h
  exact ⟨h.1, h.2, by rw [h.1]; exact q_en1⟩
theorem takeSign_good (h : St N s) : (takeSign z s).good N (Tkn N s fun _ => True) := by
  unfold takeSign
  split
  · rename_i e
    exact take_good h (isSign_ne e) fun _ => trivial
  · exact h.p
theorem takeWord_good (h : St N s) : (takeWord z s).good N (Tkn N s fun _ => True) := by
  unfold takeWord
  split
  · rename_i e
    exact take_good h (isWord_ne e).2.2 fun _ => trivial
  · exact h.p
theorem isName_ne (h : isName res s = true) : (nowT s).r = q_word ∧ res.contains (nowT s).t = false := by
  unfold isName at h
  rw [Bool.and_eq_true, decide_eq_true_iff] at h
  exact ⟨h.1, by simpa using h.2⟩
theorem takeKind_good (h : St N s) : (takeKind res s).good N (Tkn N s fun t => Big res t.t ∧ Nm t.t) := by
  unfold takeKind
  split
  · rename_i e
    split
    · rename_i g
      have e := isName_ne e
      exact take_good h (by rw [e.1]; exact q_en1) fun w => ⟨⟨e.2, g⟩, w.1 e.1⟩
    · exact h.p
  · exact h.p
theorem takeField_good (h : St N s) : (takeField res s).good N (Tkn N s fun t => Low res t.t ∧ Nm t.t) := by
  unfold takeField
  split
  · rename_i e
    split
    · exact h.p
    · rename_i g
      have e := isName_ne e
      exact take_good h (by rw [e.1]; exact q_en1) fun w => ⟨⟨e.2, by simpa using g⟩, w.1 e.1⟩
  · exact h.p
theorem takeNumber_good (h : St N s) : (takeNumber s).good N (Tkn N s fun t => Dg t.t) := by
  unfold takeNumber
  split
  · rename_i e
    exact take_good h (by rw [e]; exact q_en2) fun w => w.2.1 e
  · exact h.p
theorem takeText_good (h : St N s) : (takeText s).good N (Tkn N s fun t => Sml t.t) := by
  unfold takeText
  split
  · rename_i e
    exact take_good h (by rw [e]; exact q_en3) fun w => w.2.2
  · exact h.p
end
end Lw

-- rd
namespace Lw
open PySem PySem.Spec PyProof.Rows L2 G
/-! ### any text: sorts, fields, keys, kinds -/
structure NsW (res ks : List (List Nat)) : Prop where
  ne : ks ≠ []
  nd : ks.Nodup
  m : ∀ k ∈ ks, Big res k ∧ Nm k
def SoW (res : List (List Nat)) : So → Prop
  | .int a b => -1000000000 ≤ a ∧ a ≤ b ∧ b ≤ 1000000000
  | .text n w => 1 ≤ n ∧ n ≤ 40 ∧ ∀ z ∈ w, z.length = 1
  | .choice cs => cs ≠ [] ∧ cs.Nodup ∧ cs.length ≤ 8 ∧ ∀ z ∈ cs, z.length ≤ 40 ∧ Sml z
  | .ref ks r => NsW res ks ∧ r ∈ [q_clears, q_refuses, q_takes]
  | .list ks => NsW res ks
def So.told : So → List (List Nat)
  | .ref ks _ => ks
  | .list ks => ks
  | _ => []
def SoP (res : List (List Nat)) (c : So) : Prop := SoW res c ∧ c.told = []
def Out {α : Type} (N : Nat) (s : List Tk) (R : α → Prop) (x : α × List Tk) : Prop := R x.1 ∧ St N x.2 ∧ x.2.length < s.length
def OutE {α : Type} (N : Nat) (s : List Tk) (R : α → Prop) (x : α × List Tk) : Prop := R x.1 ∧ St N x.2 ∧ x.2.length ≤ s.length
section
variable {N : Nat} {s : List Tk} {z : List Nat} {res : List (List Nat)}
theorem takeInteger_good (h : St N s) : (takeInteger s).good N (Out N s fun _ => True) := by
  unfold takeInteger
  split
  · rename_i e
    have hs := h.step (isSign_ne e)
    exact (takeNumber_good hs.2.1).bind fun x hx => ⟨trivial, hx.2.1, Nat.lt_trans hx.2.2 hs.2.2⟩
  · exact (takeNumber_good h).bind fun x hx => ⟨trivial, hx.2⟩
theorem readInt_good (h : St N s) : (readInt s).good N (Out N s (SoP res)) := by
  unfold readInt
  refine (takeInteger_good h).bind fun a ha => (takeSign_good ha.2.1).bind fun b hb => (takeInteger_good hb.2.1).bind fun c hc => ?_
  by_cases e : c.1 < a.1 ∨ a.1 < -1000000000 ∨ 1000000000 < c.1
  · rw [if_pos e]
    exact h.p
  · rw [if_neg e]
    refine ⟨⟨?_, rfl⟩, hc.2.1, Nat.lt_trans hc.2.2 (Nat.lt_trans hb.2.2 ha.2.2)⟩
    show -1000000000 ≤ a.1 ∧ a.1 ≤ c.1 ∧ c.1 ≤ 1000000000
    omega
theorem readText_good (h : St N s) : (readTextSort s).good N (Out N s (SoP res)) := by
  unfold readTextSort
  refine (takeNumber_good h).bind fun a ha => ?_
  by_cases e : numT a.1.t < 1 ∨ 40 < numT a.1.t
  · rw [if_pos e]
    exact ha.1.2
  rw [if_neg e]
  by_cases ew : isWord q_without a.2 = true
  · rw [if_pos ew]
    refine (take_good (R := fun _ => True) ha.2.1 (isWord_ne ew).2.2 fun _ => trivial).bind fun b hb => (takeText_good hb.2.1).bind fun c hc => ?_
    by_cases e1 : c.1.t.length = 1
    · rw [if_pos e1]
      refine ⟨⟨⟨by omega, by omega, fun z hz => ?_⟩, rfl⟩, hc.2.1, Nat.lt_trans hc.2.2 (Nat.lt_trans hb.2.2 ha.2.2)⟩
      cases hz
      exact e1
    · rw [if_neg e1]
      exact hc.1.2
  · rw [if_neg ew]
    exact ⟨⟨⟨by omega, by omega, fun z hz => nomatch hz⟩, rfl⟩, ha.2.1, ha.2.2⟩
theorem nodup_snoc {α : Type} [DecidableEq α] {l : List α} {x : α} (h : l.Nodup) (hx : x ∉ l) : (l ++ [x]).Nodup := by
  rw [List.nodup_append]
  refine ⟨h, List.nodup_cons.mpr ⟨fun z => (nomatch z), .nil⟩, fun a ha b hb e => ?_⟩
  rw [List.mem_singleton.mp hb] at e
  exact hx (e ▸ ha)
theorem choicesL_good : ∀ {m : Nat} {acc : List (List Nat)} {s : List Tk}, s.length < m → St N s → acc.Nodup → (∀ z ∈ acc, z.length ≤ 40 ∧ Sml z) → acc.length ≤ 8 → (choicesL m acc s).good N (Out N s (SoP res))
  | 0, _, _, h, _, _, _, _ => absurd h (Nat.not_lt_zero _)
  | m + 1, acc, s, hm, h, hn, h4, h8 => by
    rw [choicesL]
    refine (takeText_good h).bind fun a ha => ?_
    by_cases e1 : 40 < a.1.t.length
    · rw [if_pos e1]; exact ha.1.2
    rw [if_neg e1]
    by_cases e2 : acc.contains a.1.t = true
    · rw [if_pos e2]; exact ha.1.2
    rw [if_neg e2]
    by_cases e3 : acc.length = 8
    · rw [if_pos e3]; exact ha.1.2
    rw [if_neg e3]
    have hn2 : (acc ++ [a.1.t]).Nodup := nodup_snoc hn fun z => e2 (List.contains_iff_mem.mpr z)
    have h42 : ∀ z ∈ acc ++ [a.1.t], z.length ≤ 40 ∧ Sml z := fun z hz => by
      rcases List.mem_append.mp hz with hz | hz
      · exact h4 z hz
      · rw [List.mem_singleton.mp hz]; exact ⟨by omega, ha.1.1⟩
    have h82 : (acc ++ [a.1.t]).length ≤ 8 := by rw [List.length_append]; show acc.length + 1 ≤ 8; omega
    by_cases e4 : isSign q_x2c a.2 = true
    · rw [if_pos e4]
      refine (take_good (R := fun _ => True) ha.2.1 (isSign_ne e4) fun _ => trivial).bind fun b hb => ?_
      have h1 := ha.2.2
      have h2 := hb.2.2
      exact (choicesL_good (m := m) (by omega) hb.2.1 hn2 h42 h82).imp fun x hx => ⟨hx.1, hx.2.1, by have := hx.2.2; omega⟩
    · rw [if_neg e4]
      exact ⟨⟨⟨by simp, hn2, h82, h42⟩, rfl⟩, ha.2.1, ha.2.2⟩
theorem readChoices_good (h : St N s) : (readChoices s).good N (Out N s (SoP res)) := by
  unfold readChoices
  refine (takeWord_good h).bind fun a ha => ?_
  have h1 := ha.2.2
  exact (choicesL_good (by omega) ha.2.1 .nil (fun z hz => nomatch hz) (Nat.zero_le _)).imp fun x hx => ⟨hx.1, hx.2.1, by have := hx.2.2; omega⟩
/-- tokens of kinds that are named -/
def TgW (res : List (List Nat)) (N : Nat) (ts : List Tk) : Prop := NsW res (tks ts) ∧ ∀ t ∈ ts, t.p ≤ N
theorem targetsL_good : ∀ {m : Nat} {acc s : List Tk}, s.length < m → St N s → TgW res N acc → (targetsL res m acc s).good N (OutE N s (TgW res N))
  | 0, _, _, h, _, _ => absurd h (Nat.not_lt_zero _)
  | m + 1, acc, s, hm, h, ha => by
    rw [targetsL]
    by_cases e : isWord q_or s = true
    · rw [if_pos e]
      refine (take_good (R := fun _ => True) h (isWord_ne e).2.2 fun _ => trivial).bind fun b hb => (takeKind_good hb.2.1).bind fun a hk => ?_
      by_cases e2 : (acc.map (·.t)).contains a.1.t = true
      · rw [if_pos e2]; exact hk.1.2
      rw [if_neg e2]
      have h1 := hb.2.2
      have h2 := hk.2.2
      refine (targetsL_good (m := m) (acc := acc ++ [a.1]) (by omega) hk.2.1 ⟨⟨?_, ?_, fun k hk2 => ?_⟩, fun t ht => ?_⟩).imp fun x hx => ⟨hx.1, hx.2.1, by have := hx.2.2; omega⟩
      · simp
      · unfold tks
        rw [List.map_append]
        exact nodup_snoc ha.1.nd fun z => e2 (List.contains_iff_mem.mpr z)
      · unfold tks at hk2
        rw [List.map_append] at hk2
        rcases List.mem_append.mp hk2 with z | z
        · exact ha.1.m k z
        · rw [List.mem_singleton.mp z]
          exact hk.1.1
      · rcases List.mem_append.mp ht with z | z
        · exact ha.2 t z
        · rw [List.mem_singleton.mp z]
          exact hk.1.2
    · rw [if_neg e]
      exact ⟨ha, h, Nat.le_refl _⟩
theorem readTargets_good (h : St N s) : (readTargets res s).good N (Out N s (TgW res N)) := by
  unfold readTargets
  refine (takeKind_good h).bind fun a ha => ?_
  have h1 := ha.2.2
  refine (targetsL_good (acc := [a.1]) (by omega) ha.2.1 ⟨⟨by simp, List.nodup_cons.mpr ⟨fun z => (nomatch z), .nil⟩, fun k hk => ?_⟩, fun t ht => ?_⟩).imp fun x hx => ⟨hx.1, hx.2.1, by have := hx.2.2; omega⟩
  · rw [List.mem_singleton.mp (show k ∈ [a.1.t] from hk)]
    exact ha.1.1
  · rw [List.mem_singleton.mp ht]
    exact ha.1.2
theorem ruleL_good (h : St N s) : ∀ {ws : List (List Nat)}, ((ruleL ws s).1 = q_clears ∨ (ruleL ws s).1 ∈ ws) ∧ St N (ruleL ws s).2 ∧ (ruleL ws s).2.length ≤ s.length
  | [] => ⟨.inl rfl, h, Nat.le_refl _⟩
  | w :: ws => by
    rw [ruleL]
    by_cases e : isWord w s = true
    · rw [if_pos e]
      have e2 := isWord_ne e
      have hs := h.step e2.2.2
      exact ⟨.inr (by rw [e2.2.1]; exact List.mem_cons_self ..), hs.2.1, Nat.le_of_lt hs.2.2⟩
    · rw [if_neg e]
      have := ruleL_good h (ws := ws)
      exact ⟨this.1.imp id fun z => List.mem_cons_of_mem _ z, this.2⟩
/-- a sort and its tokens -/
structure SrW (res : List (List Nat)) (N : Nat) (x : So × List Tk) : Prop where
  s : SoW res x.1
  t : tks x.2 = x.1.told
  p : ∀ t ∈ x.2, t.p ≤ N
theorem sortBody_good {w : List Nat} (h : St N s) : (sortBody res w s).good N (Out N s (SrW res N)) := by
  have plain : ∀ {r : Rs (So × List Tk)}, r.good N (Out N s (SoP res)) → (r.bind fun x => .ok ((x.1, ([] : List Tk)), x.2)).good N (Out N s (SrW res N)) := fun hr =>
    hr.bind fun x hx => ⟨⟨hx.1.1, hx.1.2.symm, fun t ht => nomatch ht⟩, hx.2⟩
  unfold sortBody
  by_cases e1 : w = q_int
  · rw [if_pos e1]; exact plain (readInt_good h)
  rw [if_neg e1]
  by_cases e2 : w = q_text
  · rw [if_pos e2]; exact plain (readText_good h)
  rw [if_neg e2]
  by_cases e3 : w = q_one
  · rw [if_pos e3]; exact plain (readChoices_good h)
  rw [if_neg e3]
  refine (readTargets_good h).bind fun x hx => ?_
  by_cases e4 : w = q_list
  · rw [if_pos e4]
    exact ⟨⟨hx.1.1, rfl, hx.1.2⟩, hx.2⟩
  · rw [if_neg e4]
    have hr := ruleL_good hx.2.1 (ws := [q_clears, q_refuses, q_takes])
    refine ⟨⟨⟨hx.1.1, ?_⟩, rfl, hx.1.2⟩, hr.2.1, Nat.lt_of_le_of_lt hr.2.2 hx.2.2⟩
    rcases hr.1 with z | z
    · rw [z]; exact List.mem_cons_self ..
    · exact z
theorem sortL_good (h : St N s) : ∀ {ws : List (List Nat)}, (sortL res ws s).good N (Out N s (SrW res N))
  | [] => h.p
  | w :: ws => by
    rw [sortL]
    by_cases e : isWord w s = true
    · rw [if_pos e]
      refine (take_good (R := fun _ => True) h (isWord_ne e).2.2 fun _ => trivial).bind fun b hb => ?_
      exact (sortBody_good hb.2.1).imp fun x hx => ⟨hx.1, hx.2.1, Nat.lt_trans hx.2.2 hb.2.2⟩
    · rw [if_neg e]
      exact sortL_good h
theorem readSort_good (h : St N s) : (readSort res s).good N (Out N s (SrW res N)) := sortL_good h
/-- a field as it may be read -/
structure FdW (res : List (List Nat)) (N : Nat) (f : Fd) : Prop where
  n : Low res f.name ∧ Nm f.name
  s : SoW res f.sort
  b : ¬(f.need = true ∧ f.sort.isList = true)
  t : tks f.tgs = f.sort.told
  p : f.tok.p ≤ N
  g : ∀ t ∈ f.tgs, t.p ≤ N
theorem readField_good (h : St N s) : (readField res s).good N (Out N s (FdW res N)) := by
  unfold readField
  refine (takeField_good h).bind fun a ha => (takeSign_good ha.2.1).bind fun b hb => (readSort_good hb.2.1).bind fun c hc => ?_
  have h1 := ha.2.2
  have h2 := hb.2.2
  have h3 := hc.2.2
  have fin : ∀ (need : Bool) (s' : List Tk), St N s' → s'.length ≤ c.2.length → ¬(need = true ∧ c.1.1.isList = true) → (fieldEnd a.1 c.1 need s').good N (Out N s (FdW res N)) := fun need s' hs hl hb => by
    unfold fieldEnd
    refine (takeSign_good hs).bind fun g hg => ⟨⟨ha.1.1, hc.1.s, hb, hc.1.t, ha.1.2, hc.1.p⟩, hg.2.1, ?_⟩
    have := hg.2.2
    show g.2.length < s.length
    omega
  by_cases e : isWord q_not c.2 = true
  · rw [if_pos e]
    refine (take_good (R := fun _ => True) hc.2.1 (isWord_ne e).2.2 fun _ => trivial).bind fun d hd => (takeWord_good hd.2.1).bind fun e2 he => ?_
    have h4 := hd.2.2
    have h5 := he.2.2
    by_cases el : c.1.1.isList = true
    · rw [if_pos el]
      exact hc.2.1.p
    · rw [if_neg el]
      exact fin true e2.2 he.2.1 (by omega) fun z => el z.2
  · rw [if_neg e]
    exact fin false c.2 hc.2.1 (Nat.le_refl _) fun z => nomatch z.1
/-- a key as it may be read -/
structure RwW (res : List (List Nat)) (N L : Nat) (r : List Tk) : Prop where
  ne : r ≠ []
  t : ∀ t ∈ r, (Low res t.t ∧ Nm t.t) ∧ t.p ≤ N
  l : r.length ≤ L
theorem keyL_good {L : Nat} : ∀ {m : Nat} {acc s : List Tk}, s.length < m → St N s → acc ≠ [] → (∀ t ∈ acc, (Low res t.t ∧ Nm t.t) ∧ t.p ≤ N) → acc.length + s.length ≤ L → (keyL res m acc s).good N (Out N s (RwW res N L))
  | 0, _, _, h, _, _, _, _ => absurd h (Nat.not_lt_zero _)
  | m + 1, acc, s, hm, h, hne, ha, hl => by
    rw [keyL]
    by_cases e : isSign q_x2c s = true
    · rw [if_pos e]
      refine (take_good (R := fun _ => True) h (isSign_ne e) fun _ => trivial).bind fun b hb => (takeField_good hb.2.1).bind fun a hk => ?_
      have h1 := hb.2.2
      have h2 := hk.2.2
      refine (keyL_good (m := m) (acc := acc ++ [a.1]) (by omega) hk.2.1 (by simp) (fun t ht => ?_) (by simp only [List.length_append, List.length_cons, List.length_nil]; omega)).imp fun x hx => ⟨hx.1, hx.2.1, by have := hx.2.2; omega⟩
      rcases List.mem_append.mp ht with z | z
      · exact ha t z
      · rw [List.mem_singleton.mp z]
        exact hk.1
    · rw [if_neg e]
      exact (takeSign_good h).bind fun b hb => ⟨⟨hne, ha, by show acc.length ≤ L; omega⟩, hb.2⟩
theorem readKey_good {L : Nat} (h : St N s) (hL : s.length ≤ L) : (readKey res s).good N (Out N s (RwW res N L)) := by
  unfold readKey
  refine (takeField_good h).bind fun a ha => ?_
  have h1 := ha.2.2
  refine (keyL_good (acc := [a.1]) (by omega) ha.2.1 (by simp) (fun t ht => ?_) (by simp only [List.length_cons, List.length_nil]; omega)).imp fun x hx => ⟨hx.1, hx.2.1, by have := hx.2.2; omega⟩
  rw [List.mem_singleton.mp ht]
  exact ha.1
structure KpW (res : List (List Nat)) (N L : Nat) (k : Kp) : Prop where
  n : (Big res k.tok.t ∧ Nm k.tok.t) ∧ k.tok.p ≤ N
  f : ∀ f ∈ k.fields, FdW res N f
  r : ∀ r ∈ k.keys, RwW res N L r
theorem kindL_good {L : Nat} {tok : Tk} (ht : (Big res tok.t ∧ Nm tok.t) ∧ tok.p ≤ N) : ∀ {m : Nat} {fs : List Fd} {ks : List (List Tk)} {s : List Tk}, s.length < m → St N s → s.length ≤ L → (∀ f ∈ fs, FdW res N f) → (∀ r ∈ ks, RwW res N L r) → (kindL res m tok fs ks s).good N (Out N s (KpW res N L))
  | 0, _, _, _, h, _, _, _, _ => absurd h (Nat.not_lt_zero _)
  | m + 1, fs, ks, s, hm, h, hL, hf, hk => by
    rw [kindL]
    by_cases e : isSign q_x7d s = true
    · rw [if_pos e]
      exact (take_good (R := fun _ => True) h (isSign_ne e) fun _ => trivial).bind fun b hb => ⟨⟨ht, hf, hk⟩, hb.2⟩
    rw [if_neg e]
    by_cases e2 : isWord q_key s = true
    · rw [if_pos e2]
      refine (take_good (R := fun _ => True) h (isWord_ne e2).2.2 fun _ => trivial).bind fun b hb => ?_
      have h1 := hb.2.2
      refine (readKey_good (L := L) hb.2.1 (by omega)).bind fun c hc => ?_
      have h2 := hc.2.2
      refine (kindL_good ht (m := m) (by omega) hc.2.1 (by omega) hf fun r hr => ?_).imp fun x hx => ⟨hx.1, hx.2.1, by have := hx.2.2; omega⟩
      rcases List.mem_append.mp hr with z | z
      · exact hk r z
      · rw [List.mem_singleton.mp z]; exact hc.1
    · rw [if_neg e2]
      refine (readField_good h).bind fun c hc => ?_
      have h2 := hc.2.2
      refine (kindL_good ht (m := m) (by omega) hc.2.1 (by omega) (fun f hf2 => ?_) hk).imp fun x hx => ⟨hx.1, hx.2.1, by have := hx.2.2; omega⟩
      rcases List.mem_append.mp hf2 with z | z
      · exact hf f z
      · rw [List.mem_singleton.mp z]; exact hc.1
theorem readKind_good {L : Nat} (h : St N s) (hL : s.length ≤ L) : (readKind res s).good N (Out N s (KpW res N L)) := by
  unfold readKind
  refine (takeWord_good h).bind fun a ha => (takeKind_good ha.2.1).bind fun b hb => (takeSign_good hb.2.1).bind fun c hc => ?_
  have h1 := ha.2.2
  have h2 := hb.2.2
  have h3 := hc.2.2
  exact (kindL_good hb.1 (by omega) hc.2.1 (by omega) (fun f (hf : f ∈ ([] : List Fd)) => nomatch hf) (fun r (hr : r ∈ ([] : List (List Tk))) => nomatch hr)).imp fun x hx => ⟨hx.1, hx.2.1, by have := hx.2.2; omega⟩
theorem kindsRead_good {L : Nat} : ∀ {m : Nat} {acc : List Kp} {s : List Tk}, s.length < m → St N s → s.length ≤ L → acc.length + s.length ≤ L → acc ≠ [] → (∀ k ∈ acc, KpW res N L k) → (kindsRead res m acc s).good N fun x => x.1 ≠ [] ∧ x.1.length ≤ L ∧ ∀ k ∈ x.1, KpW res N L k
  | 0, _, _, h, _, _, _, _, _ => absurd h (Nat.not_lt_zero _)
  | m + 1, acc, s, hm, h, hL, hl, hne, ha => by
    rw [kindsRead]
    by_cases e : (nowT s).r = q_end
    · rw [if_pos e]
      exact ⟨hne, by show acc.length ≤ L; omega, ha⟩
    rw [if_neg e]
    refine (readKind_good h hL).bind fun a hk => ?_
    have h1 := hk.2.2
    refine kindsRead_good (m := m) (by omega) hk.2.1 (by omega) (by simp only [List.length_append, List.length_cons, List.length_nil]; omega) (by simp) fun k hk2 => ?_
    rcases List.mem_append.mp hk2 with z | z
    · exact ha k z
    · rw [List.mem_singleton.mp z]; exact hk.1
theorem parse_good {L : Nat} (h : St N s) (hL : s.length ≤ L) : (parseSchema s).good N fun ks => ks ≠ [] ∧ ks.length ≤ L ∧ ∀ k ∈ ks, KpW ts_RESERVED N L k := by
  unfold parseSchema
  refine (readKind_good h hL).bind fun a ha => ?_
  have h1 := ha.2.2
  exact (kindsRead_good (L := L) (acc := [a.1]) (by omega) ha.2.1 (by omega) (by simp only [List.length_cons, List.length_nil]; omega) (by simp) fun k hk => by rw [List.mem_singleton.mp hk]; exact ha.1).bind fun x hx => hx
end
end Lw

-- rd
namespace Lw
open PySem PySem.Spec PyProof.Rows L2 G
/-! ### any text: the checks -/
theorem badT_good {α : Type} {N p : Nat} {z : List Nat} {P : α → Prop} (hN : N < 1000000000) (h : p ≤ N) : (Rs.badT p z : Rs α).good N P := by
  unfold Rs.badT
  rw [if_pos (by omega)]
  exact h
section
variable {N L : Nat} {res names : List (List Nat)}
theorem tgt_good (hN : N < 1000000000) : ∀ {ts : List Tk}, (∀ t ∈ ts, t.p ≤ N) → (tgtL names ts).good N fun _ => ∀ t ∈ tks ts, t ∈ names
  | [], _ => fun t ht => nomatch ht
  | t :: ts, h => by
    rw [tgtL]
    by_cases e : names.contains t.t = true
    · rw [if_pos e]
      refine (tgt_good hN fun x hx => h x (List.mem_cons_of_mem _ hx)).imp fun _ g x hx => ?_
      rcases List.mem_cons.mp (show x ∈ t.t :: tks ts from hx) with z | z
      · rw [z]; exact List.contains_iff_mem.mp e
      · exact g x z
    · rw [if_neg e]
      exact badT_good hN (h t (List.mem_cons_self ..))
structure FsW (names : List (List Nat)) (fs : List Fd) : Prop where
  n : (fs.map (·.name)).Nodup
  l : fs.length ≤ 8
  t : ∀ f ∈ fs, ∀ t ∈ f.sort.told, t ∈ names
theorem fields_good (hN : N < 1000000000) : ∀ {fs acc : List Fd}, (∀ f ∈ fs, FdW res N f) → FsW names acc → (fieldsL names fs acc).good N fun ds => ds = acc ++ fs ∧ FsW names ds
  | [], acc, _, ha => ⟨(List.append_nil _).symm, ha⟩
  | f :: fs, acc, h, ha => by
    have hf := h f (List.mem_cons_self ..)
    rw [fieldsL]
    by_cases e : (acc.map (·.name)).contains f.name = true
    · rw [if_pos e]; exact badT_good hN hf.p
    rw [if_neg e]
    by_cases e8 : acc.length = 8
    · rw [if_pos e8]; exact badT_good hN hf.p
    rw [if_neg e8]
    refine (tgt_good hN hf.g).bind fun _ g => ?_
    refine (fields_good hN (acc := acc ++ [f]) (fun x hx => h x (List.mem_cons_of_mem _ hx)) ⟨?_, ?_, fun x hx => ?_⟩).imp fun ds hd => ⟨by rw [hd.1, List.append_assoc]; rfl, hd.2⟩
    · rw [List.map_append]
      exact nodup_snoc ha.n fun z => e (List.contains_iff_mem.mpr z)
    · have := ha.l
      rw [List.length_append]
      show acc.length + 1 ≤ 8
      omega
    · rcases List.mem_append.mp hx with z | z
      · exact ha.t x z
      · rw [List.mem_singleton.mp z, ← hf.t]
        exact g
theorem find_mem {t : List Nat} {f : Fd} : ∀ {fs : List Fd} {a : Option Fd}, fs.foldl (fun acc f => if f.name = t then some f else acc) a = some f → (f ∈ fs ∧ f.name = t) ∨ a = some f
  | [], a, h => .inr h
  | g :: fs, a, h => by
    rw [List.foldl_cons] at h
    rcases find_mem h with z | z
    · exact .inl ⟨List.mem_cons_of_mem _ z.1, z.2⟩
    · by_cases e : g.name = t
      · rw [if_pos e] at z
        injection z with z
        exact .inl ⟨by rw [← z]; exact List.mem_cons_self .., by rw [← z]; exact e⟩
      · rw [if_neg e] at z
        exact .inr z
theorem nd_eq6 : ∀ {fs : List Fd} {f g : Fd}, (fs.map (·.name)).Nodup → f ∈ fs → g ∈ fs → f.name = g.name → f = g
  | [], _, _, _, h, _, _ => nomatch h
  | x :: fs, f, g, hn, hf, hg, e => by
    rw [List.map_cons, List.nodup_cons] at hn
    rcases List.mem_cons.mp hf with ef | hf1
    · rcases List.mem_cons.mp hg with eg | hg1
      · exact ef.trans eg.symm
      · exact (hn.1 (List.mem_map.mpr ⟨g, hg1, by rw [← e, ef]⟩)).elim
    · rcases List.mem_cons.mp hg with eg | hg1
      · exact (hn.1 (List.mem_map.mpr ⟨f, hf1, by rw [e, eg]⟩)).elim
      · exact nd_eq6 hn.2 hf1 hg1 e
/-- a key's name names a field that is no list -/
def KnW (fs : List Fd) (t : List Nat) : Prop := (∃ f ∈ fs, f.name = t) ∧ ∀ f ∈ fs, f.name = t → f.sort.isList = false
theorem key_good {fs : List Fd} (hN : N < 1000000000) (hf : (fs.map (·.name)).Nodup) : ∀ {ts : List Tk} {seen : List (List Nat)}, (∀ t ∈ ts, t.p ≤ N) → seen.Nodup → (checkKeyL fs ts seen).good N fun r => r = seen ++ tks ts ∧ r.Nodup ∧ ∀ t ∈ tks ts, KnW fs t
  | [], seen, _, hs => ⟨(List.append_nil _).symm, hs, fun t ht => nomatch ht⟩
  | t :: ts, seen, hp, hs => by
    rw [checkKeyL]
    have hpt := hp t (List.mem_cons_self ..)
    cases hfd : findFd fs t.t with
    | none => exact badT_good hN hpt
    | some f =>
      have hm : f ∈ fs ∧ f.name = t.t := (find_mem (a := none) hfd).elim id fun z => nomatch z
      show (if f.sort.isList = true then _ else _ : Rs _).good N _
      by_cases el : f.sort.isList = true
      · rw [if_pos el]; exact badT_good hN hpt
      rw [if_neg el]
      by_cases ec : seen.contains t.t = true
      · rw [if_pos ec]; exact badT_good hN hpt
      rw [if_neg ec]
      refine (key_good hN hf (seen := seen ++ [t.t]) (fun x hx => hp x (List.mem_cons_of_mem _ hx)) (nodup_snoc hs fun z => ec (List.contains_iff_mem.mpr z))).imp fun r hr => ⟨by rw [hr.1, List.append_assoc]; rfl, hr.2.1, fun x hx => ?_⟩
      rcases List.mem_cons.mp (show x ∈ t.t :: tks ts from hx) with z | z
      · rw [z]
        exact ⟨⟨f, hm.1, hm.2⟩, fun g hg eg => by rw [nd_eq6 hf hg hm.1 (eg.trans hm.2.symm)]; simpa using el⟩
      · exact hr.2.2 x z
theorem used_good (hN : N < 1000000000) {used : List (List Nat)} : ∀ {ts : List Tk}, (∀ t ∈ ts, t.p ≤ N) → (usedL used ts).good N fun _ => ∀ t ∈ tks ts, t ∉ used
  | [], _ => fun t ht => nomatch ht
  | t :: ts, hp => by
    rw [usedL]
    by_cases e : used.contains t.t = true
    · rw [if_pos e]; exact badT_good hN (hp t (List.mem_cons_self ..))
    · rw [if_neg e]
      refine (used_good hN fun x hx => hp x (List.mem_cons_of_mem _ hx)).imp fun _ g x hx => ?_
      rcases List.mem_cons.mp (show x ∈ t.t :: tks ts from hx) with z | z
      · rw [z]; exact fun y => e (List.contains_iff_mem.mpr y)
      · exact g x z
structure KsW (res : List (List Nat)) (L : Nat) (fs : List Fd) (keys : List (List (List Nat))) : Prop where
  l : keys.length ≤ 3
  r : ∀ r ∈ keys, r ≠ [] ∧ r.length ≤ L ∧ ∀ t ∈ r, (Low res t ∧ Nm t) ∧ KnW fs t
  n : (keys.flatMap id).Nodup
theorem keys_good {fs : List Fd} (hN : N < 1000000000) (hL : L ≤ 10000) (hf : (fs.map (·.name)).Nodup) : ∀ {rows : List (List Tk)} {keys : List (List (List Nat))}, (∀ r ∈ rows, RwW res N L r) → KsW res L fs keys → (keysL fs rows (keys.flatMap id) keys).good N fun ks => KsW res L fs ks
  | [], keys, _, hk => hk
  | r :: rows, keys, h, hk => by
    have hr := h r (List.mem_cons_self ..)
    have e0 : keysL fs (r :: rows) (keys.flatMap id) keys = if keys.length = 3 then (match r with
      | t :: _ => .badT t.p q_too_many_keys
      | [] => .stuck)
    else if 100000 < (keys.flatMap id).length ∨ 100000 < r.length then .stuck else (checkKeyL fs r []).bind fun key => (usedL (keys.flatMap id) r).bind fun _ => keysL fs rows (keys.flatMap id ++ key) (keys ++ [key]) := by
      cases r <;> rfl
    rw [e0]
    by_cases e3 : keys.length = 3
    · rw [if_pos e3]
      cases r with
      | nil => exact absurd rfl hr.ne
      | cons t ts => exact badT_good hN (hr.t t (List.mem_cons_self ..)).2
    rw [if_neg e3]
    have hfl : (keys.flatMap id).length ≤ keys.length * L := by
      have : ∀ {l : List (List (List Nat))}, (∀ r ∈ l, r.length ≤ L) → (l.flatMap id).length ≤ l.length * L := by
        intro l
        induction l with
        | nil => intro _; exact Nat.zero_le _
        | cons a l ih =>
          intro h
          have h1 := h a (List.mem_cons_self ..)
          have h2 := ih fun x hx => h x (List.mem_cons_of_mem _ hx)
          rw [List.flatMap_cons, List.length_append, List.length_cons, Nat.succ_mul]
          show a.length + _ ≤ _
          omega
      exact this fun r hr => (hk.r r hr).2.1
    have hk3 : keys.length * L ≤ 3 * 10000 := Nat.mul_le_mul hk.l hL
    have hrl := hr.l
    rw [if_neg (by omega)]
    refine (key_good hN hf (seen := []) (fun t ht => (hr.t t ht).2) .nil).bind fun key hkey => (used_good hN fun t ht => (hr.t t ht).2).bind fun _ hus => ?_
    have ek : key = tks r := hkey.1
    have ef : keys.flatMap id ++ key = (keys ++ [key]).flatMap id := by
      rw [List.flatMap_append]
      show _ = _ ++ (key ++ [])
      rw [List.append_nil]
    rw [ef]
    refine keys_good hN hL hf (keys := keys ++ [key]) (fun x hx => h x (List.mem_cons_of_mem _ hx)) ⟨?_, fun x hx => ?_, ?_⟩
    · have := hk.l
      rw [List.length_append]
      show keys.length + 1 ≤ 3
      omega
    · rcases List.mem_append.mp hx with z | z
      · exact hk.r x z
      · rw [List.mem_singleton.mp z, ek]
        refine ⟨fun y => hr.ne (List.map_eq_nil_iff.mp y), by rw [List.length_map]; exact hr.l, fun t ht => ⟨?_, hkey.2.2 t ht⟩⟩
        obtain ⟨y, hy, rfl⟩ := List.mem_map.mp ht
        exact (hr.t y hy).1
    · rw [← ef, List.nodup_append]
      exact ⟨hk.n, hkey.2.1, fun a ha b hb e => hus b (ek ▸ hb) (e ▸ ha)⟩
/-- a kind as it may be read -/
structure KdW (res : List (List Nat)) (L : Nat) (names : List (List Nat)) (k : Kd) : Prop where
  n : Big res k.name ∧ Nm k.name
  f : ∀ f ∈ k.fields, (Low res f.name ∧ Nm f.name) ∧ SoW res f.sort ∧ ¬(f.need = true ∧ f.sort.isList = true)
  fs : FsW names k.fields
  ks : KsW res L k.fields k.keys
theorem kind_good (hN : N < 1000000000) (hL : L ≤ 10000) {x : Kp} (h : KpW res N L x) : (checkKind names x).good N fun k => k.name = x.tok.t ∧ KdW res L names k := by
  unfold checkKind
  refine (fields_good hN (acc := []) h.f ⟨.nil, Nat.zero_le _, fun f hf => nomatch hf⟩).bind fun fs hfs => ?_
  have ef : fs = x.fields := hfs.1
  subst ef
  refine (keys_good (res := res) hN hL hfs.2.n (keys := []) h.r ⟨Nat.zero_le _, fun r hr => (nomatch hr), .nil⟩).bind fun ks hks => ?_
  exact ⟨rfl, h.n.1, fun f hf => ⟨(h.f f hf).n, (h.f f hf).s, (h.f f hf).b⟩, hfs.2, hks⟩
theorem kinds_good (hN : N < 1000000000) (hL : L ≤ 10000) : ∀ {xs : List Kp} {acc : List Kd}, (∀ x ∈ xs, KpW res N L x) → (∀ k ∈ acc, KdW res L names k) → (acc.map (·.name)).Nodup → acc.length ≤ 8 →
    (kindsL names xs acc).good N fun ks => ks.map (·.name) = acc.map (·.name) ++ xs.map (fun x => x.tok.t) ∧ (∀ k ∈ ks, KdW res L names k) ∧ (ks.map (·.name)).Nodup ∧ ks.length ≤ 8
  | [], acc, _, ha, hn, hl => ⟨(List.append_nil _).symm, ha, hn, hl⟩
  | x :: xs, acc, h, ha, hn, hl => by
    have hx := h x (List.mem_cons_self ..)
    rw [kindsL]
    by_cases e : (acc.map (·.name)).contains x.tok.t = true
    · rw [if_pos e]; exact badT_good hN hx.n.2
    rw [if_neg e]
    by_cases e8 : acc.length = 8
    · rw [if_pos e8]; exact badT_good hN hx.n.2
    rw [if_neg e8]
    refine (kind_good (names := names) hN hL hx).bind fun d hd => ?_
    refine (kinds_good hN hL (acc := acc ++ [d]) (fun y hy => h y (List.mem_cons_of_mem _ hy)) (fun k hk => ?_) ?_ ?_).imp fun ks hk => ⟨?_, hk.2⟩
    · rcases List.mem_append.mp hk with z | z
      · exact ha k z
      · rw [List.mem_singleton.mp z]; exact hd.2
    · rw [List.map_append]
      refine nodup_snoc hn fun z => e (List.contains_iff_mem.mpr ?_)
      rw [← hd.1]
      exact z
    · rw [List.length_append]
      show acc.length + 1 ≤ 8
      omega
    · rw [hk.1, List.map_append, List.append_assoc, List.map_cons, hd.1]
      rfl
/-- sound kinds -/
structure ScW (ks : List Kd) : Prop where
  ne : ks ≠ []
  l : ks.length ≤ 8
  n : (ks.map (·.name)).Nodup
  k : ∀ k ∈ ks, KdW ts_RESERVED 1001 (ks.map (·.name)) k
/-- any text: sound kinds, or a fault within the text -/
theorem sg_sml : ∀ s ∈ ts_SIGNS, Sml s := by decide
theorem read_good {zs : List Nat} (hs : Sml zs) : (readSchema zs).good zs.length fun ks => ScW ks ∧ zs.length ≤ 1000 := by
  unfold readSchema
  refine (toks_good (n := 1000) sg_sml hs).bind fun ts ht => ?_
  have hl := ht.2.2
  have hN : zs.length < 1000000000 := by omega
  refine (parse_good (L := 1001) ht.1 (by have := ht.2.1; omega)).bind fun xs hx => ?_
  unfold checkKinds
  rw [if_neg (by have := hx.2.1; omega)]
  refine (kinds_good (res := ts_RESERVED) (L := 1001) (acc := []) hN (by decide) hx.2.2 (fun k hk => nomatch hk) .nil (Nat.zero_le _)).imp fun ks hk => ⟨⟨fun z => ?_, hk.2.2.2, hk.2.2.1, ?_⟩, hl⟩
  · have h1 := hk.1
    rw [z] at h1
    exact hx.1 (List.map_eq_nil_iff.mp h1.symm)
  · rw [show ks.map (·.name) = xs.map (fun x => x.tok.t) from hk.1]
    exact hk.2.1
end
end Lw

-- rd
namespace Lw
open PySem PySem.Spec PyProof.Rows L2 G
/-! ### numbers written and read back -/
def dgN (n : Nat) : List Nat := (Nat.toDigits 10 n).map Char.toNat
theorem dgN_val (n : Nat) : numT (dgN n) = n := PySem.W.KIN.val_back n
theorem decI_nat (n : Nat) : decI (n : Int) = dgN n := PySem.W.KIN.signs_num n
theorem decI_neg (n : Nat) : decI (Int.negSucc n) = 45 :: dgN (n + 1) := by
  unfold decI dgN
  show ((Str.ofString (toString (Int.negSucc n))).cps.toList) = _
  rw [signs_ofString]
  show (("-" ++ Nat.repr (n + 1)).toList.map Char.toNat) = _
  rw [String.toList_append, List.map_append, Nat.toList_repr]
  rfl
theorem dch : ∀ d < 10, (48 ≤ (Nat.digitChar d).toNat ∧ (Nat.digitChar d).toNat ≤ 57) ∧ (1 ≤ d → 49 ≤ (Nat.digitChar d).toNat) := by decide
theorem dgN_form (n : Nat) : ∃ c r, dgN n = c :: r ∧ isD c = true ∧ (1 ≤ n → 49 ≤ c) ∧ (n < 10 → r = []) ∧ r.all isD = true := by
  induction n using Nat.strongRecOn with
  | _ n ih =>
    by_cases h : n < 10
    · have hd := dch n h
      refine ⟨(Nat.digitChar n).toNat, [], ?_, ?_, hd.2, fun _ => rfl, rfl⟩
      · unfold dgN
        rw [Nat.toDigits_of_lt_base h]
        rfl
      · unfold isD
        rw [decide_eq_true hd.1.1, decide_eq_true hd.1.2]
        rfl
    · have hm : n % 10 < 10 := Nat.mod_lt n (by decide)
      have t : Nat.toDigits 10 (n / 10) ++ Nat.toDigits 10 (n % 10) = Nat.toDigits 10 (10 * (n / 10) + n % 10) := Nat.toDigits_append_toDigits (by decide) (by omega) hm
      rw [Nat.div_add_mod] at t
      obtain ⟨c, r, e, hc, h1, _, hr⟩ := ih (n / 10) (by omega)
      have hd := dch (n % 10) hm
      refine ⟨c, r ++ [(Nat.digitChar (n % 10)).toNat], ?_, hc, fun _ => h1 (by omega), fun z => absurd z h, ?_⟩
      · unfold dgN at e ⊢
        rw [← t, List.map_append, e, Nat.toDigits_of_lt_base hm]
        rfl
      · rw [List.all_append, hr]
        show (isD _ && true) = true
        unfold isD
        rw [decide_eq_true hd.1.1, decide_eq_true hd.1.2]
        rfl
theorem dgN_dg {n : Nat} (h : n ≤ 1000000000) : Dg (dgN n) := by
  obtain ⟨c, r, e, hc, h1, h2, hr⟩ := dgN_form n
  refine ⟨⟨c, r, e, hc, fun z => ?_⟩, ?_, ?_⟩
  · rcases Nat.eq_zero_or_pos n with z0 | z0
    · exact h2 (by omega)
    · have := h1 z0
      omega
  · rw [e, List.all_cons, hc, hr]
    rfl
  · have := digits10_le (k := 10) (n := n) (by decide) (by omega)
    unfold dgN
    rw [List.length_map]
    omega
/-- an int as a sign and digits -/
def dg6 (v : Int) : List Nat := dgN v.natAbs
theorem dg6_v (v : Int) : intV (decide (v < 0)) (dg6 v) = v := by
  cases v with
  | ofNat n =>
    rw [decide_eq_false (by show ¬((n : Int) < 0); omega)]
    show ((numT (dgN n) : Nat) : Int) = _
    rw [dgN_val]
    rfl
  | negSucc n =>
    rw [decide_eq_true (Int.negSucc_lt_zero n)]
    show -((numT (dgN (n + 1)) : Nat) : Int) = _
    rw [dgN_val]
    rfl
theorem dg6_t (v : Int) : decI v = (if decide (v < 0) = true then [45] else []) ++ dg6 v := by
  cases v with
  | ofNat n =>
    rw [decide_eq_false (by show ¬((n : Int) < 0); omega)]
    exact decI_nat n
  | negSucc n =>
    rw [decide_eq_true (Int.negSucc_lt_zero n)]
    exact decI_neg n
theorem dg6_dg {v : Int} (h1 : -1000000000 ≤ v) (h2 : v ≤ 1000000000) : Dg (dg6 v) := dgN_dg (by omega)
end Lw

-- rd
namespace Lw
open PySem PySem.Spec PyProof.Rows L2 G
/-! ### sound kinds are written and read back -/
def sx6 : So → Sx
  | .int a b => .int (decide (a < 0)) (dg6 a) (decide (b < 0)) (dg6 b)
  | .text n w => .text (dg6 n) w
  | .choice (c :: cs) => .choice c cs
  | .choice [] => .choice [] []
  | .ref (k :: ks) r => .ref k ks r
  | .ref [] r => .ref [] [] r
  | .list (k :: ks) => .list k ks
  | .list [] => .list [] []
def fx6 (f : Fd) : Fx := ⟨f.name, sx6 f.sort, f.need⟩
def kx6 (r : List (List Nat)) : Kx := (r.headD [], r.tail)
def kix6 (k : Kd) : Kix := ⟨k.name, k.fields.map fx6, k.keys.map kx6⟩
theorem dg6_n {n : Int} (h : 1 ≤ n) : ((numT (dg6 n) : Nat) : Int) = n ∧ decI n = dg6 n := by
  have h1 := dg6_v n
  have h2 := dg6_t n
  rw [decide_eq_false (by omega)] at h1 h2
  exact ⟨h1, h2⟩
section
variable {res : List (List Nat)}
theorem sx6_so {s : So} (h : SoW res s) : (sx6 s).so = s := by
  cases s with
  | int a b =>
    show So.int (intV _ (dg6 a)) (intV _ (dg6 b)) = _
    rw [dg6_v, dg6_v]
  | text n w =>
    show So.text (numT (dg6 n)) w = _
    rw [(dg6_n h.1).1]
  | choice cs =>
    cases cs with
    | nil => exact absurd rfl h.1
    | cons c cs => rfl
  | ref ks r =>
    cases ks with
    | nil => exact absurd rfl h.1.ne
    | cons c cs => rfl
  | list ks =>
    cases ks with
    | nil => exact absurd rfl h.ne
    | cons c cs => rfl
theorem sx6_ok {s : So} (h : SoW res s) : (sx6 s).Ok res := by
  cases s with
  | int a b =>
    show ¬(intV _ (dg6 b) < intV _ (dg6 a) ∨ intV _ (dg6 a) < -1000000000 ∨ 1000000000 < intV _ (dg6 b))
    rw [dg6_v, dg6_v]
    have h1 := h.1
    have h2 := h.2.1
    have h3 := h.2.2
    omega
  | text n w =>
    have h1 := (dg6_n h.1).1
    have h2 := h.1
    have h3 := h.2.1
    exact ⟨fun z => by omega, h.2.2⟩
  | choice cs =>
    cases cs with
    | nil => exact absurd rfl h.1
    | cons c cs => exact ⟨fun z hz => (h.2.2.2 z hz).1, h.2.1, by have := h.2.2.1; rw [List.length_cons] at this; omega⟩
  | ref ks r =>
    cases ks with
    | nil => exact absurd rfl h.1.ne
    | cons c cs => exact ⟨fun z hz => (h.1.m z hz).1, h.1.nd, h.2⟩
  | list ks =>
    cases ks with
    | nil => exact absurd rfl h.ne
    | cons c cs => exact ⟨fun z hz => (h.m z hz).1, h.nd⟩
theorem sx6_nms {s : So} (h : SoW res s) : (sx6 s).Nms := by
  cases s with
  | int a b =>
    have h1 := h.1
    have h2 := h.2.1
    have h3 := h.2.2
    exact ⟨dg6_dg (by omega) (by omega), dg6_dg (by omega) (by omega)⟩
  | text n w =>
    have h1 := h.1
    have h2 := h.2.1
    exact dg6_dg (by omega) (by omega)
  | choice cs => cases cs <;> exact trivial
  | ref ks r =>
    cases ks with
    | nil => exact absurd rfl h.1.ne
    | cons c cs => exact ⟨fun z hz => (h.1.m z hz).2, h.2⟩
  | list ks =>
    cases ks with
    | nil => exact absurd rfl h.ne
    | cons c cs => exact fun z hz => (h.m z hz).2
theorem intB_txt6 {v : Int} {n : Nat} : textI 0 (intB n (decide (v < 0)) (dg6 v)) = List.replicate n 32 ++ decI v := by
  rw [dg6_t]
  cases decide (v < 0) with
  | true => exact congrArg (fun l : List Nat => List.replicate n 32 ++ (45 :: l)) (List.append_nil _)
  | false => exact congrArg (List.replicate n 32 ++ ·) (List.append_nil _)
theorem sx6_txt {s : So} (h : SoW res s) : textI 0 (sx6 s).itb = 32 :: wSo s := by
  cases s with
  | int a b =>
    show 32 :: (q_int ++ textI 0 (intB 1 (decide (a < 0)) (dg6 a) ++ ((0, .sig q_x2ex2e) :: intB 0 (decide (b < 0)) (dg6 b)))) = _
    rw [textI_app, intB_txt6]
    show 32 :: (q_int ++ ((32 :: decI a) ++ (q_x2ex2e ++ textI 0 (intB 0 (decide (b < 0)) (dg6 b))))) = _
    rw [intB_txt6]
    show 32 :: (q_int ++ ((32 :: decI a) ++ (q_x2ex2e ++ decI b))) = 32 :: (q_int_ ++ decI a ++ q_x2ex2e ++ decI b)
    rw [show q_int_ = q_int ++ [32] from rfl]
    simp
  | text n w =>
    have et := (dg6_n h.1).2
    show 32 :: (q_text ++ (32 :: (dg6 n ++ textI 0 (woB w)))) = 32 :: wSo (.text n w)
    rw [woB_txt]
    cases w with
    | none =>
      show 32 :: (q_text ++ (32 :: (dg6 n ++ []))) = 32 :: (q_text_ ++ decI n)
      rw [et, show q_text_ = q_text ++ [32] from rfl]
      simp
    | some z =>
      show 32 :: (q_text ++ (32 :: (dg6 n ++ (q__without_ ++ qtW z)))) = 32 :: (q_text_ ++ decI n ++ q__without_ ++ qtW z)
      rw [et, show q_text_ = q_text ++ [32] from rfl]
      simp
  | choice cs =>
    cases cs with
    | nil => exact absurd rfl h.1
    | cons c cs =>
      show 32 :: (q_one ++ (32 :: (q_of ++ (32 :: (qtW c ++ textI 0 (comTB cs)))))) = 32 :: (q_one_of_ ++ (qtW c ++ (cs.map qtW).flatMap (q_x2c_ ++ ·)))
      rw [comTB_txt3, show q_one_of_ = q_one ++ [32] ++ q_of ++ [32] from rfl]
      simp
  | ref ks r =>
    cases ks with
    | nil => exact absurd rfl h.1.ne
    | cons k ks =>
      show 32 :: (q_ref ++ (32 :: (k ++ textI 0 (orB ks ++ ruleB r)))) = 32 :: (if r = q_clears then q_ref_ ++ (k ++ ks.flatMap (q__or_ ++ ·)) else q_ref_ ++ (k ++ ks.flatMap (q__or_ ++ ·)) ++ q__ ++ r)
      rw [textI_app, orB_txt3, ruleB_txt, show q_ref_ = q_ref ++ [32] from rfl]
      split <;> simp
  | list ks =>
    cases ks with
    | nil => exact absurd rfl h.ne
    | cons k ks =>
      show 32 :: (q_list ++ (32 :: (k ++ textI 0 (orB ks)))) = 32 :: (q_list_ ++ (k ++ ks.flatMap (q__or_ ++ ·)))
      rw [orB_txt3, show q_list_ = q_list ++ [32] from rfl]
      simp
end
theorem fx6_txt {f : Fd} (h : SoW ts_RESERVED f.sort) : textI 0 (fx6 f).itb = 32 :: wFd f := by
  have e : textI 0 (fx6 f).itb = 32 :: (f.name ++ (58 :: (textI 0 (sx6 f.sort).itb ++ (textI 0 (needB f.need) ++ [59])))) := by
    show textI 0 ((1, .word f.name) :: (0, .sig q_x3a) :: ((sx6 f.sort).itb ++ (needB f.need ++ [(0, .sig q_x3b)]))) = _
    show 32 :: (f.name ++ (58 :: textI 0 ((sx6 f.sort).itb ++ (needB f.need ++ [(0, .sig q_x3b)])))) = _
    rw [textI_app, textI_app]
    rfl
  have e2 : textI 0 (needB f.need) = if f.need = true then q__not_null else [] := by
    cases f.need <;> rfl
  rw [e, sx6_txt h, e2]
  unfold wFd
  rw [show q_x3a_ = [58, 32] from rfl, show q_x3b = [59] from rfl]
  split <;> simp
section
variable {L : Nat} {names : List (List Nat)}
theorem kix6_txt {n : Nat} {k : Kd} (h : KdW ts_RESERVED L names k) : textI 0 ((kix6 k).itb n) = List.replicate n 32 ++ wKd k := by
  have e : textI 0 ((kix6 k).itb n) = List.replicate n 32 ++ (q_kind ++ (32 :: (k.name ++ (32 :: 123 :: (textI 0 (fsB (k.fields.map fx6)) ++ (textI 0 (ksB (k.keys.map kx6)) ++ [32, 125])))))) := by
    show List.replicate n 32 ++ (q_kind ++ (32 :: (k.name ++ (32 :: 123 :: textI 0 (fsB (k.fields.map fx6) ++ (ksB (k.keys.map kx6) ++ [(1, .sig q_x7d)])))))) = _
    rw [textI_app, textI_app]
    rfl
  have hf : textI 0 (fsB (k.fields.map fx6)) = (k.fields.map wFd).flatMap (q__ ++ ·) := fm_txt3 fun x hx => fx6_txt (h.f x hx).2.1
  have hk : textI 0 (ksB (k.keys.map kx6)) = (k.keys.map wKey).flatMap (q__ ++ ·) := fm_txt3 fun x hx => kx_txt (h.ks.r x hx).1
  rw [e, hf, hk]
  show _ = _ ++ ((q_kind_ ++ k.name ++ q__x7b) ++ (([] ++ (k.fields.map wFd ++ k.keys.map wKey)) ++ [q_x7d]).flatMap (q__ ++ ·))
  rw [show q_kind_ = q_kind ++ [32] from rfl, show q__x7b = [32, 123] from rfl, List.nil_append, List.flatMap_append, List.flatMap_append]
  rw [show [q_x7d].flatMap (q__ ++ ·) = [32, 125] from rfl]
  simp
theorem scB1_txt6 : ∀ {ks : List Kd}, (∀ k ∈ ks, KdW ts_RESERVED L names k) → textI 0 (scB1 (ks.map kix6)) = (ks.map wKd).flatMap (q__ ++ ·)
  | [], _ => rfl
  | k :: ks, h => by
    show textI 0 ((kix6 k).itb 1 ++ scB1 (ks.map kix6)) = _
    rw [textI_app, scB1_txt6 fun y hy => h y (List.mem_cons_of_mem _ hy), kix6_txt (h k (List.mem_cons_self ..))]
    rfl
theorem sc6_txt {k : Kd} {ks : List Kd} (h : ∀ x ∈ k :: ks, KdW ts_RESERVED L names x) : textI 0 (scB 0 (kix6 k) (ks.map kix6)) = wSc (k :: ks) := by
  unfold scB
  rw [textI_app, scB1_txt6 fun y hy => h y (List.mem_cons_of_mem _ hy), kix6_txt (h k (List.mem_cons_self ..))]
  rfl
theorem kix6_ok {k : Kd} (h : KdW ts_RESERVED L names k) : (kix6 k).Ok ts_RESERVED := by
  refine ⟨h.n.1, fun x hx => ?_, fun x hx z hz => ?_⟩
  · obtain ⟨f, hf, rfl⟩ := List.mem_map.mp (show x ∈ k.fields.map fx6 from hx)
    have h1 := h.f f hf
    refine ⟨h1.1.1, sx6_ok h1.2.1, fun e => h1.2.2 ⟨e.1, ?_⟩⟩
    have e2 : (sx6 f.sort).isList = true := e.2
    rw [← Sx.isList_so, sx6_so h1.2.1] at e2
    exact e2
  · obtain ⟨r, hr, rfl⟩ := List.mem_map.mp (show x ∈ k.keys.map kx6 from hx)
    have h1 := h.ks.r r hr
    cases r with
    | nil => exact absurd rfl h1.1
    | cons a r => exact (h1.2.2 z hz).1.1
theorem kix6_nms {k : Kd} (h : KdW ts_RESERVED L names k) : (kix6 k).Nms := by
  refine ⟨h.n.2, fun x hx => ?_, fun x hx z hz => ?_⟩
  · obtain ⟨f, hf, rfl⟩ := List.mem_map.mp (show x ∈ k.fields.map fx6 from hx)
    exact ⟨(h.f f hf).1.2, sx6_nms (h.f f hf).2.1⟩
  · obtain ⟨r, hr, rfl⟩ := List.mem_map.mp (show x ∈ k.keys.map kx6 from hx)
    have h1 := h.ks.r r hr
    cases r with
    | nil => exact absurd rfl h1.1
    | cons a r => exact (h1.2.2 z hz).1.2
theorem row_short {k : Kd} (h : KdW ts_RESERVED L names k) {r : List (List Nat)} (hr : r ∈ k.keys) : r.length ≤ 8 := by
  have hsub : r.Sublist (k.keys.flatMap id) := by
    rw [List.flatMap_id]
    exact List.sublist_flatten_of_mem hr
  have hnd : r.Nodup := h.ks.n.sublist hsub
  have := hnd.length_le_of_subset (l₂ := k.fields.map (·.name)) fun t ht => by
    obtain ⟨f, hf, e⟩ := ((h.ks.r r hr).2.2 t ht).2.1
    exact List.mem_map.mpr ⟨f, hf, e⟩
  rw [List.length_map] at this
  exact Nat.le_trans this h.fs.l
theorem kd6_ok {k : Kd} (h : KdW ts_RESERVED L names k) : KdOk names k := ⟨h.fs.l, h.fs.n, h.ks.l, fun r hr => ⟨Nat.le_trans (row_short h hr) (by decide), fun t ht => ((h.ks.r r hr).2.2 t ht).2⟩, h.ks.n⟩
end
section
variable {pl : Nat → Nat} {L : Nat} {names : List (List Nat)}
theorem fsFd6_core : ∀ {fs : List Fd} {i : Nat}, (∀ f ∈ fs, SoW ts_RESERVED f.sort) → (fsFd pl i (fs.map fx6)).map Fd.core = fs.map Fd.core
  | [], _, _ => rfl
  | f :: fs, i, h => by
    rw [List.map_cons, fsFd, List.map_cons, List.map_cons, fsFd6_core fun y hy => h y (List.mem_cons_of_mem _ hy)]
    show (f.name, (sx6 f.sort).so, f.need) :: _ = (f.name, f.sort, f.need) :: _
    rw [sx6_so (h f (List.mem_cons_self ..))]
theorem sx6_tgs {s : So} {i : Nat} (h : SoW ts_RESERVED s) (hn : ∀ t ∈ s.told, t ∈ names) : ∀ t ∈ (sx6 s).tgs pl i, t.t ∈ names := by
  cases s with
  | int a b => exact fun t ht => nomatch ht
  | text n w => exact fun t ht => nomatch ht
  | choice cs => cases cs <;> exact fun t ht => nomatch ht
  | ref ks r =>
    cases ks with
    | nil => exact absurd rfl h.1.ne
    | cons k ks => exact ev_in hn
  | list ks =>
    cases ks with
    | nil => exact absurd rfl h.ne
    | cons k ks => exact ev_in hn
theorem fsFd6_tgs : ∀ {fs : List Fd} {i : Nat}, (∀ f ∈ fs, SoW ts_RESERVED f.sort ∧ ∀ t ∈ f.sort.told, t ∈ names) → ∀ d ∈ fsFd pl i (fs.map fx6), ∀ t ∈ d.tgs, t.t ∈ names
  | [], _, _, _, hd => nomatch hd
  | f :: fs, i, h, d, hd => by
    rw [List.map_cons, fsFd] at hd
    have h1 := h f (List.mem_cons_self ..)
    rcases List.mem_cons.mp hd with rfl | hd
    · exact sx6_tgs h1.1 h1.2
    · exact fsFd6_tgs (fun y hy => h y (List.mem_cons_of_mem _ hy)) d hd
theorem scKp6_as : ∀ {ks : List Kd} {i : Nat}, (∀ k ∈ ks, KdW ts_RESERVED L names k) → KpsAs names ks (scKp pl i (ks.map kix6))
  | [], _, _ => trivial
  | k :: ks, i, h => by
    have hk := h k (List.mem_cons_self ..)
    exact ⟨⟨rfl, fsFd6_core fun f hf => (hk.f f hf).2.1, fsFd6_tgs fun f hf => ⟨(hk.f f hf).2.1, hk.fs.t f hf⟩, ksTk_t fun r hr => (hk.ks.r r hr).1⟩, scKp6_as fun y hy => h y (List.mem_cons_of_mem _ hy)⟩
end
/-- what is written of sound kinds is read as these kinds -/
theorem read6 {ks : List Kd} (h : ScW ks) (hl : (wSc ks).length ≤ 1000) : ∃ rs, readSchema (wSc ks) = .ok rs ∧ rs.map Kd.core = ks.map Kd.core := by
  have hk : ∃ k r, ks = k :: r := by
    cases ks with
    | nil => exact absurd rfl h.ne
    | cons k r => exact ⟨k, r, rfl⟩
  obtain ⟨k, r, rfl⟩ := hk
  have et := sc6_txt h.k
  have hnm : ∀ x ∈ kix6 k :: r.map kix6, x.Nms := fun x hx => by
    obtain ⟨y, hy, rfl⟩ := List.mem_map.mp (show x ∈ (k :: r).map kix6 from hx)
    exact kix6_nms (h.k y hy)
  have hok : ∀ x ∈ kix6 k :: r.map kix6, x.Ok ts_RESERVED := fun x hx => by
    obtain ⟨y, hy, rfl⟩ := List.mem_map.mp (show x ∈ (k :: r).map kix6 from hx)
    exact kix6_ok (h.k y hy)
  rw [← et, readSchema_W (Good.fits (scB_good hnm)) scB_its (by rw [et]; exact hl) hok]
  exact checked (fun x hx => kd6_ok (h.k x hx)) (scKp6_as (ks := k :: r) h.k) h.n h.l
/-- sizes -/
theorem so6_fine {names : List (List Nat)} (hn : names.length ≤ 8) {s : So} (h : SoW ts_RESERVED s) (ht : ∀ t ∈ s.told, t ∈ names) : s.fine = true := by
  cases s with
  | int a b =>
    have h1 := h.1
    have h2 := h.2.1
    have h3 := h.2.2
    unfold So.fine
    rw [Bool.and_eq_true, decide_eq_true_iff, decide_eq_true_iff]
    omega
  | text v w =>
    have h1 := h.1
    have h2 := h.2.1
    unfold So.fine
    rw [Bool.and_eq_true, decide_eq_true_iff]
    refine ⟨by omega, ?_⟩
    cases w with
    | none => rfl
    | some z => exact decide_eq_true (by rw [h.2.2 z rfl]; decide)
  | choice cs =>
    unfold So.fine
    rw [Bool.and_eq_true, decide_eq_true_iff]
    exact ⟨by have := h.2.2.1; omega, List.all_eq_true.mpr fun z hz => decide_eq_true (Nat.le_trans (h.2.2.2 z hz).1 (by decide))⟩
  | ref ks r =>
    have hl := (h.1.nd).length_le_of_subset (l₂ := names) fun z hz => ht z hz
    have hr : ∀ r ∈ [q_clears, q_refuses, q_takes], r.length ≤ 20 := by decide
    unfold So.fine
    rw [Bool.and_eq_true, Bool.and_eq_true, decide_eq_true_iff, decide_eq_true_iff]
    exact ⟨⟨by omega, List.all_eq_true.mpr fun z hz => decide_eq_true (Nat.le_trans (h.1.m z hz).2.2.2 (by decide))⟩, hr r h.2⟩
  | list ks =>
    have hl := (h.nd).length_le_of_subset (l₂ := names) fun z hz => ht z hz
    unfold So.fine
    rw [Bool.and_eq_true, decide_eq_true_iff]
    exact ⟨by omega, List.all_eq_true.mpr fun z hz => decide_eq_true (Nat.le_trans (h.m z hz).2.2.2 (by decide))⟩
theorem kd6_fine {names : List (List Nat)} (hn : names.length ≤ 8) {L : Nat} {k : Kd} (h : KdW ts_RESERVED L names k) : k.fine = true := by
  unfold Kd.fine
  rw [Bool.and_eq_true, Bool.and_eq_true, Bool.and_eq_true, Bool.and_eq_true, decide_eq_true_iff, decide_eq_true_iff, decide_eq_true_iff]
  refine ⟨⟨⟨⟨Nat.le_trans h.n.2.2.2 (by decide), Nat.le_trans h.fs.l (by decide)⟩, Nat.le_trans h.ks.l (by decide)⟩, List.all_eq_true.mpr fun x hx => ?_⟩, List.all_eq_true.mpr fun r hr => ?_⟩
  · unfold Fd.fine
    rw [Bool.and_eq_true, decide_eq_true_iff]
    exact ⟨Nat.le_trans (h.f x hx).1.2.2.2 (by decide), so6_fine hn (h.f x hx).2.1 (h.fs.t x hx)⟩
  · rw [Bool.and_eq_true, decide_eq_true_iff]
    exact ⟨Nat.le_trans (row_short h hr) (by decide), List.all_eq_true.mpr fun t ht => decide_eq_true (Nat.le_trans ((h.ks.r r hr).2.2 t ht).1.2.2.2 (by decide))⟩
end Lw

-- rd
namespace G
open PySem PySem.Spec PyProof.Rows L2
/-! ### plain data, equal or not -/
structure Pd {α : Type} (e : α → D) (f : α → PyData) (n : Nat) (ok : α → Prop) : Prop where
  dp : ∀ {K : PySem.W.Frag} {F : Hp} (x : α) (v : V), At K F (e x) v → Dp K F v (f x)
  lay : ∀ x, ok x → PyData.canLay0 (f x) = true
  dep : ∀ x, PyData.depth (f x) ≤ n
  eq : ∀ x y, PyData.eqv (f x) (f y) = true ↔ x = y
section
variable {α : Type} {e : α → D} {f : α → PyData} {n : Nat} {ok : α → Prop} {K : PySem.W.Frag} {F F0 F1 H : Hp} {Q : VK} {x y : V}
theorem Pd.all (P : Pd e f n ok) : ∀ {xs : List α} {vs : List V}, AtA K F (xs.map e) vs → DpAll K F vs (xs.map f)
  | [], vs, h => by rw [Lw.AtA.ni h]; exact .nil
  | a :: xs, vs, h => by
    obtain ⟨u, us, rfl, h1, h2⟩ := Lw.AtA.ci h
    exact .cons (P.dp a u h1) (P.all h2)
theorem Pd.layA (P : Pd e f n ok) : ∀ {xs : List α}, (∀ x ∈ xs, ok x) → PyData.canLayAll0 (xs.map f) = true
  | [], _ => by simp [PyData.canLayAll0]
  | a :: xs, h => by rw [List.map_cons, PyData.canLayAll0, P.lay a (h a (List.mem_cons_self ..)), P.layA fun x hx => h x (List.mem_cons_of_mem _ hx)]; rfl
theorem Pd.depA (P : Pd e f n ok) : ∀ {xs : List α}, PyData.depthAll (xs.map f) ≤ n
  | [] => by simp [PyData.depthAll]
  | a :: xs => by
    rw [List.map_cons, PyData.depthAll]
    exact Nat.max_le.mpr ⟨P.dep a, P.depA⟩
theorem Pd.eqA (P : Pd e f n ok) : ∀ {xs ys : List α}, PyData.eqvAll (xs.map f) (ys.map f) = true ↔ xs = ys
  | [], [] => by simp [PyData.eqvAll]
  | [], _ :: _ => by simp [PyData.eqvAll]
  | _ :: _, [] => by simp [PyData.eqvAll]
  | a :: xs, b :: ys => by rw [List.map_cons, List.map_cons, PyData.eqvAll, Bool.and_eq_true, P.eq, P.eqA, List.cons.injEq]
theorem Pd.list (P : Pd e f n ok) : Pd (fun xs : List α => .lst (xs.map e)) (fun xs => .list (xs.map f)) (n + 1) (fun xs => ∀ x ∈ xs, ok x) where
  dp := fun xs v h => by
    obtain ⟨a, vs, rfl, h, t⟩ := At.lst_ h
    exact .lst h (P.all t)
  lay := fun xs h => by rw [PyData.canLay0]; exact P.layA h
  dep := fun xs => by rw [PyData.depth]; exact Nat.succ_le_succ P.depA
  eq := fun xs ys => by rw [PyData.eqv, P.eqA, ]
theorem Pd.tup (P : Pd e f n ok) : Pd (fun xs : List α => .tup (xs.map e)) (fun xs => .tuple (xs.map f)) (n + 1) (fun xs => ∀ x ∈ xs, ok x) where
  dp := fun xs v h => by
    obtain ⟨a, vs, rfl, h, t⟩ := At.tup_ h
    exact .tup h (P.all t)
  lay := fun xs h => by rw [PyData.canLay0]; exact P.layA h
  dep := fun xs => by rw [PyData.depth]; exact Nat.succ_le_succ P.depA
  eq := fun xs ys => by rw [PyData.eqv, P.eqA]
/-- a text or a number -/
inductive Tn where
  | t (z : List Nat)
  | i (n : Int)
  deriving DecidableEq
def Tn.d : Tn → D
  | .t z => D.t z
  | .i n => D.i n
def Tn.p : Tn → PyData
  | .t z => .str ⟨z.toArray⟩
  | .i n => .int n
def Tn.small : Tn → Prop
  | .t z => z.all (· < 1114112) = true
  | .i _ => True
theorem sokT {z : List Nat} (h : z.all (· < 1114112) = true) : PyData.strOk ⟨z.toArray⟩ = true := by
  show z.toArray.all _ = true
  rw [List.all_toArray]
  exact h
theorem pd_tn : Pd Tn.d Tn.p 0 Tn.small where
  dp := fun x v h => by
    cases x with
    | t z => rw [At.v_.mp h]; exact .str _
    | i n => rw [At.v_.mp h]; exact .int _
  lay := fun x h => by
    cases x with
    | t z => unfold Tn.p; rw [PyData.canLay0]; exact sokT h
    | i n => unfold Tn.p; rw [PyData.canLay0]
  dep := fun x => by
    cases x with
    | t z => unfold Tn.p; rw [PyData.depth]; exact Nat.le_refl _
    | i n => unfold Tn.p; rw [PyData.depth]; exact Nat.le_refl _
  eq := fun x y => by
    cases x <;> cases y <;> simp [Tn.p, PyData.eqv]
theorem pd_t : Pd D.t (fun z => .str ⟨z.toArray⟩) 0 (fun z => z.all (· < 1114112) = true) where
  dp := fun x v h => by rw [At.v_.mp h]; exact .str _
  lay := fun x h => by rw [PyData.canLay0]; exact sokT h
  dep := fun x => by rw [PyData.depth]; exact Nat.le_refl _
  eq := fun x y => by simp [PyData.eqv]
theorem Pd.shp (P : Pd e f n ok) (hn : n ≤ 64) {a : α} (h : ok a) : SeqAt.shaped (f a) = true := by
  unfold SeqAt.shaped
  rw [P.lay a h, decide_eq_true (Nat.le_trans (P.dep a) hn)]
  rfl
theorem Pd.dec [DecidableEq α] (P : Pd e f n ok) (a b : α) : PyData.eqv (f a) (f b) = decide (a = b) := by
  by_cases h : a = b
  · rw [decide_eq_true h]; exact (P.eq a b).mpr h
  · rw [decide_eq_false h]
    cases e : PyData.eqv (f a) (f b) with
    | false => rfl
    | true => exact absurd ((P.eq a b).mp e) h
theorem s_neP [DecidableEq α] (P : Pd e f n ok) (hn : n ≤ 64) {a b : α} (hx : At K F0 (e a) x) (hy : At K F1 (e b) y) (s0 : Same F0 H) (s1 : Same F1 H) (oa : ok a) (ob : ok b) (q : Q (.bl (!decide (a = b))) H) : rNeX K x y H Q := by
  refine v_neD (P.dp a x (hx.mono s0)) (P.dp b y (hy.mono s1)) (P.shp hn oa) (P.shp hn ob) ?_
  rw [P.dec]
  exact q
theorem s_eqP [DecidableEq α] (P : Pd e f n ok) (hn : n ≤ 64) {a b : α} (hx : At K F0 (e a) x) (hy : At K F1 (e b) y) (s0 : Same F0 H) (s1 : Same F1 H) (oa : ok a) (ob : ok b) (q : Q (.bl (decide (a = b))) H) : rEqX K x y H Q := by
  refine v_eqD (P.dp a x (hx.mono s0)) (P.dp b y (hy.mono s1)) (P.shp hn oa) (P.shp hn ob) ?_
  rw [P.dec]
  exact q
end
end G

-- rd
namespace Lw
open PySem PySem.Spec PyProof.Rows L2 G
/-! ### k06: the text is changed -/
theorem Sml.app6 {a b : List Nat} (h : Sml a) (h2 : Sml b) : Sml (a ++ b) := by
  show (a ++ b).all _ = true
  rw [List.all_append, h, h2]
  rfl
theorem menu_sml : (q_aK0x2dx2ex3bx3ax2cx7bx7dx22_x5c19x5fxx3dor.all fun c => decide (Sml [c])) = true := by decide
theorem menu_at {i : Nat} (h : i < 20) : ∃ c, q_aK0x2dx2ex3bx3ax2cx7bx7dx22_x5c19x5fxx3dor[i]? = some c ∧ Sml [c] := by
  have hl : i < q_aK0x2dx2ex3bx3ax2cx7bx7dx22_x5c19x5fxx3dor.length := h
  refine ⟨_, List.getElem?_eq_getElem hl, ?_⟩
  exact of_decide_eq_true (List.all_eq_true.mp menu_sml _ (List.getElem_mem hl))
section
variable {K : PySem.W.Frag} {F F0 F1 F2 H H' : Hp} {Q : VK} {E : XK} {mg : Str → Option Value} {M : List (Addr × HO)} {x y : V} {o : HO} {d : Addr}
theorem v_slA {zs : List Nat} {lo hi : Option Int} (h : zs.length ≤ 16777216) (q : ∀ w : List Nat, w.length ≤ zs.length → (∀ c ∈ w, c ∈ zs) → Q (svv w) H) : rSlX K (svv zs) lo hi H Q := by
  refine v_slS (by rw [len_svv, sl16]; exact h) ?_
  refine q ((zs.drop (HT.sIx (⟨zs.toArray⟩ : Str).length 0 lo)).take (HT.sIx (⟨zs.toArray⟩ : Str).length (⟨zs.toArray⟩ : Str).length hi - HT.sIx (⟨zs.toArray⟩ : Str).length 0 lo)) ?_ fun c hc => List.mem_of_mem_drop (List.mem_of_mem_take hc)
  rw [List.length_take, List.length_drop]
  omega
theorem rd_changed {zs : List Nat} (hh : HH F H ((d, o) :: M)) (ho : DrO o) (hz : zs.length ≤ 100000) (hs : Sml zs) (q : ∀ w H' o', w.length ≤ 3 * zs.length + 1 → Sml w → DrO o' → HH F H' ((d, o') :: M) → Q (svv w) H') : sp__law_changed K [.ref d, svv zs] H Q E := by
  refine ⟨rfl, ?_⟩
  unfold t__law_changed
  walk_at "go"
  refine v_lenT' (by omega) ?_
  walk_at "go"
  refine rd_draw hh ho ⟨by omega, by omega⟩ fun v1 H1 o a0 a1 ho hh => ?_
  walk_at "go"
  refine rd_draw hh ho ⟨by decide, by decide⟩ fun v2 H2 o b0 b1 ho hh => ?_
  walk_at "go"
  refine rd_draw hh ho ⟨by decide, by decide⟩ fun v3 H3 o c0 c1 ho hh => ?_
  walk_at "go"
  refine ite2 (fun z1 => ?_) (fun z1 => ?_)
  · walk_at "go"
    refine v_slA (by omega) fun w1 l1 m1 => ?_
    walk_at "go"
    refine v_slA (by omega) fun w2 l2 m2 => ?_
    refine v_addT (by omega) ?_
    walk_at "go"
    exact q _ _ _ (by rw [List.length_append]; omega) ((hs.sub m1).app6 (hs.sub m2)) ho hh
  · walk_at "go"
    refine ite2 (fun z2 => ?_) (fun z2 => ?_)
    · walk_at "go"
      refine v_slA (by omega) fun w1 l1 m1 => ?_
      walk_at "go"
      refine v_slA (by omega) fun w2 l2 m2 => ?_
      refine v_addT (by omega) ?_
      walk_at "go"
      refine v_slA (by omega) fun w3 l3 m3 => ?_
      refine v_addT (by rw [List.length_append]; omega) ?_
      walk_at "go"
      exact q _ _ _ (by simp only [List.length_append]; omega) (((hs.sub m1).app6 (hs.sub m2)).app6 (hs.sub m3)) ho hh
    · walk_at "go"
      refine v_slA (by omega) fun w1 l1 m1 => ?_
      walk_at "go"
      refine rd_draw hh ho ⟨by decide, by decide⟩ fun v4 H4 o e0 e1 ho hh => ?_
      obtain ⟨i, rfl⟩ := Int.eq_ofNat_of_zero_le e0
      obtain ⟨c, hc, hcs⟩ := menu_at (i := i) (by omega)
      walk_at "go"
      refine v_ixT' (i := i) (by decide) rfl hc ?_
      refine v_addT (by show w1.length + 1 ≤ _; omega) ?_
      walk_at "go"
      refine v_slA (by omega) fun w3 l3 m3 => ?_
      refine v_addT (by rw [List.length_append]; show w1.length + 1 + _ ≤ _; omega) ?_
      walk_at "go"
      exact q _ _ _ (by simp only [List.length_append, List.length_cons, List.length_nil]; omega) (((hs.sub m1).app6 hcs).app6 (hs.sub m3)) ho hh
end
/-! a finer bound of the drawn text, its signs -/
theorem dec_sml : (l_int.all fun v => decide ((decI v).length ≤ 2) && (decI v).all (· < 1114112)) = true := by decide +kernel
theorem dec_len3 {v : Int} (h : v ∈ l_int) : (decI v).length ≤ 2 ∧ Sml (decI v) := by
  have := List.all_eq_true.mp dec_sml v h
  rw [Bool.and_eq_true, decide_eq_true_iff] at this
  exact this
theorem qtW_sml {z : List Nat} (h : Sml z) : Sml (qtW z) := by
  unfold qtW
  refine Sml.cons (l := []) (by decide) (Sml.app6 ?_ (by decide))
  refine List.all_eq_true.mpr fun c hc => ?_
  obtain ⟨a, ha, hca⟩ := List.mem_flatMap.mp hc
  have hal := List.all_eq_true.mp h a ha
  unfold escW at hca
  split at hca
  · simp only [List.mem_cons, List.not_mem_nil, or_false] at hca
    rcases hca with rfl | rfl
    · decide
    · exact hal
  · rw [List.mem_singleton.mp hca]
    exact hal
theorem sepL_sml6 {m : List Nat} (hm : Sml m) : ∀ {xs : List (List Nat)}, (∀ x ∈ xs, Sml x) → Sml (sepL m xs)
  | [], _ => rfl
  | x :: xs, h => by
    have hb : ∀ {ys : List (List Nat)}, (∀ x ∈ ys, Sml x) → Sml (ys.flatMap (m ++ ·)) := by
      intro ys
      induction ys with
      | nil => intro _; rfl
      | cons y ys ih =>
        intro h
        rw [List.flatMap_cons]
        exact Sml.app6 (Sml.app6 hm (h y (List.mem_cons_self ..))) (ih fun z hz => h z (List.mem_cons_of_mem _ hz))
    exact Sml.app6 (h x (List.mem_cons_self ..)) (hb fun z hz => h z (List.mem_cons_of_mem _ hz))
end Lw

-- rd
namespace Lw
open PySem PySem.Spec PyProof.Rows L2 G
theorem qu_sml : ∀ z ∈ l_ch ++ [q_x2c, q_x22], Sml z := by decide
theorem kn_sml : ∀ t ∈ l_kn, t.length ≤ 3 ∧ Sml t := by decide
theorem fn_sml : ∀ t ∈ l_fn, t.length ≤ 3 ∧ Sml t := by decide
theorem ru_sml : ∀ t ∈ l_ru, t.length ≤ 7 ∧ Sml t := by decide
theorem ks_sz {n : Nat} (hn : n < 4) {ks : List (List Nat)} (h : KsOk (l_kn.take n) ks) : (sepL q__or_ ks).length ≤ 21 ∧ Sml (sepL q__or_ ks) := by
  have hl := (h.nd).length_le_of_subset (l₂ := l_kn.take n) fun z hz => h.m z hz
  rw [List.length_take] at hl
  have hm : ∀ z ∈ ks, z ∈ l_kn := fun z hz => List.mem_of_mem_take (h.m z hz)
  have h2 := sepL_len (m := q__or_) (b := 3) (xs := ks) fun z hz => (kn_sml z (hm z hz)).1
  have e : q__or_.length = 4 := rfl
  rw [e] at h2
  exact ⟨by omega, sepL_sml6 (by decide) fun z hz => (kn_sml z (hm z hz)).2⟩
theorem so_sz {n : Nat} (hn : n < 4) {s : So} (h : SoOk (l_kn.take n) s) : (wSo s).length ≤ 60 ∧ Sml (wSo s) := by
  cases s with
  | int a b =>
    have h1 := dec_len3 h.1
    have h2 := dec_len3 h.2.1
    show (q_int_ ++ decI a ++ q_x2ex2e ++ decI b).length ≤ 60 ∧ Sml (q_int_ ++ decI a ++ q_x2ex2e ++ decI b)
    have e1 : q_int_.length = 4 := rfl
    have e2 : q_x2ex2e.length = 2 := rfl
    exact ⟨by simp only [List.length_append]; omega, Sml.app6 (Sml.app6 (Sml.app6 (by decide) h1.2) (by decide)) h2.2⟩
  | text v w =>
    have hv := (len_ok h.1).2
    have h1 := dec_len3 (int_mem (a := v) (by omega) (by omega))
    have e1 : q_text_.length = 5 := rfl
    have e2 : q__without_.length = 9 := rfl
    cases w with
    | none =>
      show (q_text_ ++ decI v).length ≤ 60 ∧ Sml (q_text_ ++ decI v)
      exact ⟨by simp only [List.length_append]; omega, Sml.app6 (by decide) h1.2⟩
    | some z =>
      have hz := wo_qu h
      have hq := qtW_len (zs := z)
      have h0 := (qu_ok hz).l0
      show (q_text_ ++ decI v ++ q__without_ ++ qtW z).length ≤ 60 ∧ Sml (q_text_ ++ decI v ++ q__without_ ++ qtW z)
      exact ⟨by simp only [List.length_append]; omega, Sml.app6 (Sml.app6 (Sml.app6 (by decide) h1.2) (by decide)) (qtW_sml (qu_sml z hz))⟩
  | choice cs =>
    have hq := ch_qu h
    have hcl : cs.length ≤ 4 := by
      obtain ⟨i, hi, rfl⟩ := h
      exact (ch_ok i hi).2.2.1
    have h2 := sepL_len (m := q_x2c_) (b := 8) (xs := cs.map qtW) (map_len fun x hx => Nat.le_trans qtW_len (by have := (qu_ok (hq x hx)).l0; omega))
    have e1 : q_one_of_.length = 7 := rfl
    have e2 : q_x2c_.length = 2 := rfl
    rw [e2, List.length_map] at h2
    show (q_one_of_ ++ sepL q_x2c_ (cs.map qtW)).length ≤ 60 ∧ Sml (q_one_of_ ++ sepL q_x2c_ (cs.map qtW))
    refine ⟨by simp only [List.length_append]; omega, Sml.app6 (by decide) (sepL_sml6 (by decide) fun y hy => ?_)⟩
    obtain ⟨z, hz, rfl⟩ := List.mem_map.mp hy
    exact qtW_sml (qu_sml z (hq z hz))
  | ref ks r =>
    have hk := ks_sz hn h.1
    have hr := ru_sml r h.2
    have e1 : q_ref_.length = 4 := rfl
    have e2 : q__.length = 1 := rfl
    show (if r = q_clears then q_ref_ ++ sepL q__or_ ks else q_ref_ ++ sepL q__or_ ks ++ q__ ++ r).length ≤ 60 ∧ Sml (if r = q_clears then q_ref_ ++ sepL q__or_ ks else q_ref_ ++ sepL q__or_ ks ++ q__ ++ r)
    split
    · exact ⟨by simp only [List.length_append]; omega, Sml.app6 (by decide) hk.2⟩
    · exact ⟨by simp only [List.length_append]; omega, Sml.app6 (Sml.app6 (Sml.app6 (by decide) hk.2) (by decide)) hr.2⟩
  | list ks =>
    have hk := ks_sz hn h
    have e1 : q_list_.length = 5 := rfl
    show (q_list_ ++ sepL q__or_ ks).length ≤ 60 ∧ Sml (q_list_ ++ sepL q__or_ ks)
    exact ⟨by simp only [List.length_append]; omega, Sml.app6 (by decide) hk.2⟩
theorem fd_sz {n : Nat} (hn : n < 4) {f : Fd} (h : FdOk3 (l_kn.take n) f) : (wFd f).length ≤ 80 ∧ Sml (wFd f) := by
  have h1 := fn_sml _ h.n
  have h2 := so_sz hn h.s
  have e1 : q_x3a_.length = 2 := rfl
  have e2 : q__not_null.length = 9 := rfl
  have e3 : q_x3b.length = 1 := rfl
  unfold wFd
  split
  · exact ⟨by simp only [List.length_append]; omega, Sml.app6 (Sml.app6 (Sml.app6 (Sml.app6 h1.2 (by decide)) h2.2) (by decide)) (by decide)⟩
  · exact ⟨by simp only [List.length_append]; omega, Sml.app6 (Sml.app6 (Sml.app6 h1.2 (by decide)) h2.2) (by decide)⟩
theorem kd_sz {n : Nat} (hn : n < 4) {k : Kd} (h : KdOk3 (l_kn.take n) k) : (wKd k).length ≤ 700 ∧ Sml (wKd k) := by
  have hk := kn_sml _ h.n
  have hfl := h.fl
  have hkl := h.kl
  have hp : ∀ x ∈ kdParts k, x.length ≤ 80 ∧ Sml x := fun x hx => by
    unfold kdParts at hx
    simp only [List.mem_append, List.mem_cons, List.not_mem_nil, or_false] at hx
    rcases hx with (hx | hx | hx) | hx
    · rw [hx]
      have e1 : q_kind_.length = 5 := rfl
      have e2 : q__x7b.length = 2 := rfl
      exact ⟨by simp only [List.length_append]; omega, Sml.app6 (Sml.app6 (by decide) hk.2) (by decide)⟩
    · obtain ⟨f, hf, rfl⟩ := List.mem_map.mp hx
      exact fd_sz hn (h.f f hf)
    · obtain ⟨r, hr, rfl⟩ := List.mem_map.mp hx
      have hr2 := h.kr r hr
      have h2 := sepL_len (m := q_x2c_) (b := 3) (xs := r) fun t ht => (fn_sml t (hr2.2.2 t ht).1).1
      have e1 : q_key_.length = 4 := rfl
      have e2 : q_x2c_.length = 2 := rfl
      have e3 : q_x3b.length = 1 := rfl
      rw [e2] at h2
      have h3 := hr2.2.1
      unfold wKey
      exact ⟨by simp only [List.length_append]; omega, Sml.app6 (Sml.app6 (by decide) (sepL_sml6 (by decide) fun t ht => (fn_sml t (hr2.2.2 t ht).1).2)) (by decide)⟩
    · rw [hx]
      exact ⟨by decide, by decide⟩
  have hl : (kdParts k).length ≤ 8 := by
    unfold kdParts
    simp only [List.length_append, List.length_map, List.length_cons, List.length_nil]
    omega
  have h2 := sepL_len (m := q__) (b := 80) (xs := kdParts k) fun x hx => (hp x hx).1
  have e : q__.length = 1 := rfl
  rw [e] at h2
  exact ⟨by show (sepL q__ (kdParts k)).length ≤ 700; omega, sepL_sml6 (by decide) fun x hx => (hp x hx).2⟩
theorem sc_sz {n : Nat} (hn : n < 4) {ds : List Kd} (h : ∀ k ∈ ds, KdOk3 (l_kn.take n) k) (hl : ds.length ≤ 3) : (wSc ds).length ≤ 2200 ∧ Sml (wSc ds) := by
  have h2 := sepL_len (m := q__) (b := 700) (xs := ds.map wKd) (map_len fun x hx => (kd_sz hn (h x hx)).1)
  have e : q__.length = 1 := rfl
  rw [e, List.length_map] at h2
  refine ⟨by show (sepL q__ (ds.map wKd)).length ≤ 2200; omega, sepL_sml6 (by decide) fun x hx => ?_⟩
  obtain ⟨k, hk, rfl⟩ := List.mem_map.mp hx
  exact (kd_sz hn (h k hk)).2
end Lw

-- rd
namespace Lw
open PySem PySem.Spec PyProof.Rows L2 G
/-! ### k06: own equality -/
theorem nf_self {K : PySem.W.Frag} {C : Addr} : PySem.W.notFirst K C (.ref C) = true := by simp [PySem.W.notFirst]
section
variable {K : PySem.W.Frag} {F F0 F1 F2 H H' : Hp} {Q : VK} {E : XK} {mg : Str → Option Value} {M : List (Addr × HO)} {x y : V} {o : HO} {d : Addr}
theorem rd_int_eq (T : Tx K mg) {a b : Int} (hx : At K F0 (o_IntSort (.i a) (.i b)) x) (hy : At K F1 (o_IntSort (.i a) (.i b)) y) (s0 : Same F0 H) (s1 : Same F1 H) (q : Q (.bl true) H) : sp_IntSort_eq K [x, y] H Q E := by
  refine ⟨rfl, ?_⟩
  unfold t_IntSort_eq
  walk_at "rd"
  refine s_isi hy s1 T.cl_IntSort T.if_IntSort T.is_IntSort_IntSort ?_
  walk_at "rd"
  rw [decide_eq_true rfl]
  walk_at "rd"
  rw [decide_eq_true rfl]
  exact q
theorem rd_text_eq (T : Tx K mg) {n : Int} {w : Option (List Nat)} (hx : At K F0 (o_TextSort (.i n) (dOp w)) x) (hy : At K F1 (o_TextSort (.i n) (dOp w)) y) (s0 : Same F0 H) (s1 : Same F1 H) (q : Q (.bl true) H) : sp_TextSort_eq K [x, y] H Q E := by
  refine ⟨rfl, ?_⟩
  unfold t_TextSort_eq
  walk_at "rd"
  refine s_isi hy s1 T.cl_TextSort T.if_TextSort T.is_TextSort_TextSort ?_
  walk_at "rd"
  rw [decide_eq_true rfl]
  walk_at "rd"
  rename_i u1 h1 u2 h2
  cases w with
  | none =>
    obtain rfl := At.v_.mp (show At K F0 (.v .non) u1 from h1)
    obtain rfl := At.v_.mp (show At K F1 (.v .non) u2 from h2)
    refine v_eqD .non .non (by decide) (by decide) ?_
    rw [PyData.eqv]
    exact q
  | some z =>
    obtain rfl := At.v_.mp (show At K F0 (.t z) u1 from h1)
    obtain rfl := At.v_.mp (show At K F1 (.t z) u2 from h2)
    refine v_eqT ?_
    rw [decide_eq_true rfl]
    exact q
theorem rd_choice_eq (T : Tx K mg) {cs : List (List Nat)} (sm : ∀ z ∈ cs, Sml z) (hx : At K F0 (o_ChoiceSort (dTs cs)) x) (hy : At K F1 (o_ChoiceSort (dTs cs)) y) (s0 : Same F0 H) (s1 : Same F1 H) (q : Q (.bl true) H) : sp_ChoiceSort_eq K [x, y] H Q E := by
  refine ⟨rfl, ?_⟩
  unfold t_ChoiceSort_eq
  walk_at "rd"
  refine s_isi hy s1 T.cl_ChoiceSort T.if_ChoiceSort T.is_ChoiceSort_ChoiceSort ?_
  walk_at "rd"
  rename_i u1 h1 u2 h2
  refine s_eqP pd_t.list (by decide) h1 h2 s0 s1 sm sm ?_
  rw [decide_eq_true rfl]
  exact q
theorem rd_ref_eq (T : Tx K mg) {ks : List (List Nat)} {r : List Nat} (sm : ∀ z ∈ ks, Sml z) (hx : At K F0 (o_RefSort (dTs ks) (.t r)) x) (hy : At K F1 (o_RefSort (dTs ks) (.t r)) y) (s0 : Same F0 H) (s1 : Same F1 H) (q : Q (.bl true) H) : sp_RefSort_eq K [x, y] H Q E := by
  refine ⟨rfl, ?_⟩
  unfold t_RefSort_eq
  walk_at "rd"
  refine s_isi hy s1 T.cl_RefSort T.if_RefSort T.is_RefSort_RefSort ?_
  walk_at "rd"
  rename_i u1 h1 u2 h2
  refine s_eqP pd_t.list (by decide) h1 h2 s0 s1 sm sm ?_
  rw [decide_eq_true rfl]
  walk_at "rd"
  rw [decide_eq_true rfl]
  exact q
theorem rd_list_eq (T : Tx K mg) {ks : List (List Nat)} (sm : ∀ z ∈ ks, Sml z) (hx : At K F0 (o_ListSort (dTs ks)) x) (hy : At K F1 (o_ListSort (dTs ks)) y) (s0 : Same F0 H) (s1 : Same F1 H) (q : Q (.bl true) H) : sp_ListSort_eq K [x, y] H Q E := by
  refine ⟨rfl, ?_⟩
  unfold t_ListSort_eq
  walk_at "rd"
  refine s_isi hy s1 T.cl_ListSort T.if_ListSort T.is_ListSort_ListSort ?_
  walk_at "rd"
  rename_i u1 h1 u2 h2
  refine s_eqP pd_t.list (by decide) h1 h2 s0 s1 sm sm ?_
  rw [decide_eq_true rfl]
  exact q
theorem nm_sml {t : List Nat} (h : Nm t) : Sml t := List.all_eq_true.mpr fun c hc => by
  have h1 := List.all_eq_true.mp h.2.1 c hc
  have h2 := isW_lt h1
  exact decide_eq_true (by omega)
theorem s_neSo (T : Tx K mg) {res : List (List Nat)} {s : So} (hs : SoW res s) (hx : At K F0 (dSo s) x) (hy : At K F1 (dSo s) y) (s0 : Same F0 H) (s1 : Same F1 H) (q : Q (.bl false) H) :
    rOr2 (rNeO K (He.ga K ("IntSort" : Str)) (sp_IntSort_eq K) E0) (rOr2 (rNeO K (He.ga K ("TextSort" : Str)) (sp_TextSort_eq K) E0) (rOr2 (rNeO K (He.ga K ("ChoiceSort" : Str)) (sp_ChoiceSort_eq K) E0) (rOr2 (rNeO K (He.ga K ("RefSort" : Str)) (sp_RefSort_eq K) E0) (rNeO K (He.ga K ("ListSort" : Str)) (sp_ListSort_eq K) E0)))) x y H Q := by
  cases s with
  | int a b =>
    obtain ⟨a1, dx, vs, rfl, hF, _⟩ := At.obj_ (show At K F0 (.obj "IntSort" [("low", .i a), ("high", .i b)]) x from hx)
    obtain ⟨a2, dy, us, rfl, hG, _⟩ := At.obj_ (show At K F1 (.obj "IntSort" [("low", .i a), ("high", .i b)]) y from hy)
    exact .inl ⟨a1, a2, dx, vs, _, dy, us, rfl, rfl, s0 _ _ hF, s1 _ _ hG, nf_self, rd_int_eq T hx hy s0 s1 ⟨true, rfl, q⟩⟩
  | text n w =>
    obtain ⟨a1, dx, vs, rfl, hF, _⟩ := At.obj_ (show At K F0 (.obj "TextSort" [("longest", .i n), ("without", dOp w)]) x from hx)
    obtain ⟨a2, dy, us, rfl, hG, _⟩ := At.obj_ (show At K F1 (.obj "TextSort" [("longest", .i n), ("without", dOp w)]) y from hy)
    exact .inr (.inl ⟨a1, a2, dx, vs, _, dy, us, rfl, rfl, s0 _ _ hF, s1 _ _ hG, nf_self, rd_text_eq T hx hy s0 s1 ⟨true, rfl, q⟩⟩)
  | choice cs =>
    obtain ⟨a1, dx, vs, rfl, hF, _⟩ := At.obj_ (show At K F0 (.obj "ChoiceSort" [("choices", dTs cs)]) x from hx)
    obtain ⟨a2, dy, us, rfl, hG, _⟩ := At.obj_ (show At K F1 (.obj "ChoiceSort" [("choices", dTs cs)]) y from hy)
    exact .inr (.inr (.inl ⟨a1, a2, dx, vs, _, dy, us, rfl, rfl, s0 _ _ hF, s1 _ _ hG, nf_self, rd_choice_eq T (fun z hz => (hs.2.2.2 z hz).2) hx hy s0 s1 ⟨true, rfl, q⟩⟩))
  | ref ks r =>
    obtain ⟨a1, dx, vs, rfl, hF, _⟩ := At.obj_ (show At K F0 (.obj "RefSort" [("kinds", dTs ks), ("rule", .t r)]) x from hx)
    obtain ⟨a2, dy, us, rfl, hG, _⟩ := At.obj_ (show At K F1 (.obj "RefSort" [("kinds", dTs ks), ("rule", .t r)]) y from hy)
    exact .inr (.inr (.inr (.inl ⟨a1, a2, dx, vs, _, dy, us, rfl, rfl, s0 _ _ hF, s1 _ _ hG, nf_self, rd_ref_eq T (fun z hz => nm_sml (hs.1.m z hz).2) hx hy s0 s1 ⟨true, rfl, q⟩⟩)))
  | list ks =>
    obtain ⟨a1, dx, vs, rfl, hF, _⟩ := At.obj_ (show At K F0 (.obj "ListSort" [("kinds", dTs ks)]) x from hx)
    obtain ⟨a2, dy, us, rfl, hG, _⟩ := At.obj_ (show At K F1 (.obj "ListSort" [("kinds", dTs ks)]) y from hy)
    exact .inr (.inr (.inr (.inr ⟨a1, a2, dx, vs, _, dy, us, rfl, rfl, s0 _ _ hF, s1 _ _ hG, nf_self, rd_list_eq T (fun z hz => nm_sml (hs.m z hz).2) hx hy s0 s1 ⟨true, rfl, q⟩⟩)))
end
end Lw

-- rd
namespace Lw
open PySem PySem.Spec PyProof.Rows L2 G
/-! ### k06: two schemas alike -/
section
variable {K : PySem.W.Frag} {F F0 F1 F2 H H' : Hp} {Q : VK} {E : XK} {mg : Str → Option Value} {M : List (Addr × HO)} {x y : V} {o : HO} {d : Addr}
theorem rd_knames3 (T : Tx K mg) {k : Kd} (hx : At K F (dKd k) x) (hh : HH F H M) (hl : k.fields.length ≤ 1000) (q : ∀ F' H' u, Same F F' → HH F' H' M → At K F' (dTs (k.fields.map (·.name))) u → Q u H') : sp_Kind_names K [x] H Q E := by
  refine ⟨rfl, ?_⟩
  unfold t_Kind_names
  walk_at "go"
  refine gi_list ?_
  walk_at "go"
  refine kd_fields T hx hh.sub fun u hu => ?_
  refine a_lcL (e := dFl) (f := D.t) hu hh (by rw [sl16]; omega) (fun f => some f.name) (fun y w F' H' c' P N hy hw' sF hh' hP hN => ?_) fun F1 H1 u s1 hh hu => ?_
  · walk_at "go"
    refine ⟨rfl, ?_⟩
    walk_at "go"
    have s0 := hh'.sub
    walk_at "go"
    exact hP F' H' _ y.name (Same.refl _) hh' rfl At.of
  rw [List.filterMap_eq_map'] at hu
  exact q F1 H1 u s1 hh hu
theorem rd_snames3 (T : Tx K mg) {ks : List Kd} (hx : At K F (dSc ks) x) (hh : HH F H M) (hl : ks.length ≤ 1000) (q : ∀ F' H' u, Same F F' → HH F' H' M → At K F' (dTs (ks.map (·.name))) u → Q u H') : sp_Schema_names K [x] H Q E := by
  refine ⟨rfl, ?_⟩
  unfold t_Schema_names
  walk_at "go"
  refine gi_list ?_
  walk_at "go"
  rename_i u hu
  refine a_lcL (e := dKd) (f := D.t) hu hh (by rw [sl16]; omega) (fun f => some f.name) (fun y w F' H' c' P N hy hw' sF hh' hP hN => ?_) fun F1 H1 u s1 hh hu => ?_
  · walk_at "go"
    refine ⟨rfl, ?_⟩
    walk_at "go"
    refine kd_name T hw' hh'.sub ?_
    walk_at "go"
    exact hP F' H' _ y.name (Same.refl _) hh' rfl At.of
  rw [List.filterMap_eq_map'] at hu
  exact q F1 H1 u s1 hh hu
theorem rd_alike (T : Tx K mg) {ks : List Kd} (W : ScW ks) (hx : At K F (dSc ks) x) (hy : At K F (dSc ks) y) (hh : HH F H M) (q : ∀ F' H', Same F F' → HH F' H' M → Q (.bl true) H') : sp__law_alike K [x, y] H Q E := by
  have hl8 := W.l
  refine ⟨rfl, ?_⟩
  unfold t__law_alike
  walk_at "go"
  refine g_orR ?_
  walk_at "go"
  refine s_meth hx hh.sub ["kinds"] rfl (by decide +kernel) ?_
  walk_at "go"
  refine rd_snames3 T hx hh (by omega) fun F1 H1 u1 s1 hh hu1 => ?_
  walk_at "go"
  refine g_orR ?_
  walk_at "go"
  refine s_meth hy (s1.trans hh.sub) ["kinds"] rfl (by decide +kernel) ?_
  walk_at "go"
  refine rd_snames3 T (hy.mono s1) hh (by omega) fun F2 H2 u2 s2 hh hu2 => ?_
  have hns : ∀ t ∈ ks.map (·.name), t.all (· < 1114112) = true := fun t ht => by
    obtain ⟨k, hk, rfl⟩ := List.mem_map.mp ht
    exact nm_sml (W.k k hk).n.2
  refine s_neP pd_t.list (by decide) hu1 hu2 (s2.trans hh.sub) hh.sub hns hns ?_
  rw [decide_eq_true rfl]
  have s12 := s1.trans s2
  have s0 := s12.trans hh.sub
  walk_at "go"
  rename_i u3 hu3
  refine s_lenL (e := dKd) hu3 s0 ?_
  walk_at "go"
  refine g_rngN (n := ks.length) (by omega) ?_
  refine l_range (fun i σ H' => i ≤ ks.length ∧ ∃ (F' : Hp) (v2 v3 : Option V), σ = [some x, some y, v2, v3] ∧ Same F F' ∧ HH F' H' M) ⟨Nat.zero_le _, F2, _, _, rfl, s12, hh⟩ ?_ ?_
  · clear hh s0
    rintro i σ H' hi ⟨_, F', v2, v3, rfl, s3, hh⟩
    have hgk : ks[i]? = some ks[i] := List.getElem?_eq_getElem hi
    have hmk : ks[i] ∈ ks := List.getElem_mem hi
    generalize ks[i] = k at hgk hmk
    have Wk := W.k k hmk
    have hfl := Wk.fs.l
    have s0 := s3.trans hh.sub
    rw [Int.zero_add]
    walk_at "go"
    refine g_orL ?_
    walk_at "go"
    rename_i a1 ha1
    refine s_ixL (e := dKd) (i := i) ha1 s0 rfl hgk fun w1 hw1 => ?_
    refine s_meth hw1 s0 ["name", "fields", "key_rows"] rfl (by decide +kernel) ?_
    walk_at "go"
    refine rd_knames3 T (hw1.mono s3) hh (by omega) fun F3 H3 n1 s4 hh hn1 => ?_
    have s0 := s3.trans (s4.trans hh.sub)
    walk_at "go"
    refine g_orL ?_
    walk_at "go"
    rename_i a2 ha2
    refine s_ixL (e := dKd) (i := i) ha2 s0 rfl hgk fun w2 hw2 => ?_
    refine s_meth hw2 s0 ["name", "fields", "key_rows"] rfl (by decide +kernel) ?_
    walk_at "go"
    refine rd_knames3 T (hw2.mono (s3.trans s4)) hh (by omega) fun F4 H4 n2 s5 hh hn2 => ?_
    have hfs : ∀ t ∈ k.fields.map (·.name), t.all (· < 1114112) = true := fun t ht => by
      obtain ⟨f, hf, rfl⟩ := List.mem_map.mp ht
      exact nm_sml (Wk.f f hf).1.2
    refine s_neP pd_t.list (by decide) hn1 hn2 (s5.trans hh.sub) hh.sub hfs hfs ?_
    rw [decide_eq_true rfl]
    have s35 := s3.trans (s4.trans s5)
    have s0 := s35.trans hh.sub
    walk_at "go"
    rename_i a3 ha3
    refine s_ixL (e := dKd) (i := i) ha3 s0 rfl hgk fun w3 hw3 => ?_
    walk_at "go"
    refine kd_rows T hw3 s0 fun r1 hr1 => ?_
    walk_at "go"
    rename_i a4 ha4
    refine s_ixL (e := dKd) (i := i) ha4 s0 rfl hgk fun w4 hw4 => ?_
    walk_at "go"
    refine kd_rows T hw4 s0 fun r2 hr2 => ?_
    have hrs : ∀ x ∈ k.keys, ∀ t ∈ x, t.all (· < 1114112) = true := fun x hx t ht => nm_sml ((Wk.ks.r x hx).2.2 t ht).1.2
    refine s_neP pd_t.list.list (by decide) hr1 hr2 s0 s0 hrs hrs ?_
    rw [decide_eq_true rfl]
    walk_at "go"
    rename_i a5 ha5
    refine s_ixL (e := dKd) (i := i) ha5 s0 rfl hgk fun w5 hw5 => ?_
    walk_at "go"
    refine kd_fields T hw5 s0 fun f1 hf1 => ?_
    walk_at "go"
    refine s_lenL (e := dFl) hf1 s0 ?_
    walk_at "go"
    refine g_rngN (n := k.fields.length) (by omega) ?_
    refine l_range (fun j σ H' => j ≤ k.fields.length ∧ ∃ (v3 : Option V), σ = [some x, some y, some (.int i), v3] ∧ HH F4 H' M) ⟨Nat.zero_le _, _, rfl, hh⟩ ?_ ?_
    · clear hh s0
      rintro j σ H' hj ⟨_, v3, rfl, hh⟩
      have hgf : k.fields[j]? = some k.fields[j] := List.getElem?_eq_getElem hj
      have hmf : k.fields[j] ∈ k.fields := List.getElem_mem hj
      generalize k.fields[j] = f at hgf hmf
      have s0 := s35.trans hh.sub
      rw [Int.zero_add]
      walk_at "go"
      rename_i b1 hb1
      refine s_ixL (e := dKd) (i := i) hb1 s0 rfl hgk fun w6 hw6 => ?_
      walk_at "go"
      refine kd_fields T hw6 s0 fun g1 hg1 => ?_
      walk_at "go"
      refine s_ixL (e := dFl) (i := j) hg1 s0 rfl hgf fun fv1 hfv1 => ?_
      walk_at "go"
      rename_i sv1 hsv1 b2 hb2
      refine s_ixL (e := dKd) (i := i) hb2 s0 rfl hgk fun w7 hw7 => ?_
      walk_at "go"
      refine kd_fields T hw7 s0 fun g2 hg2 => ?_
      walk_at "go"
      refine s_ixL (e := dFl) (i := j) hg2 s0 rfl hgf fun fv2 hfv2 => ?_
      walk_at "go"
      rename_i sv2 hsv2
      refine s_neSo T (Wk.f f hmf).2.1 hsv1 hsv2 s0 s0 ?_
      walk_at "go"
      rename_i b3 hb3
      refine s_ixL (e := dKd) (i := i) hb3 s0 rfl hgk fun w8 hw8 => ?_
      walk_at "go"
      refine kd_fields T hw8 s0 fun g3 hg3 => ?_
      walk_at "go"
      refine s_ixL (e := dFl) (i := j) hg3 s0 rfl hgf fun fv3 hfv3 => ?_
      walk_at "go"
      rename_i b4 hb4
      refine s_ixL (e := dKd) (i := i) hb4 s0 rfl hgk fun w9 hw9 => ?_
      walk_at "go"
      refine kd_fields T hw9 s0 fun g4 hg4 => ?_
      walk_at "go"
      refine s_ixL (e := dFl) (i := j) hg4 s0 rfl hgf fun fv4 hfv4 => ?_
      walk_at "go"
      rw [decide_eq_true rfl]
      walk_at "go"
      exact ⟨by omega, _, rfl, hh⟩
    · clear hh s0
      rintro σ H' ⟨_, v3, rfl, hh⟩
      exact ⟨by omega, F4, _, _, rfl, s35, hh⟩
  · clear hh s0
    rintro σ H' ⟨_, F', v2, v3, rfl, s3, hh⟩
    walk_at "go"
    exact q F' H' s3 hh
end
end Lw

-- rd
namespace Lw
open PySem PySem.Spec PyProof.Rows L2 G
theorem law06 {K : PySem.W.Frag} {mg : Str → Option Value} (T : Tx K mg) (H : Hp) (a : Addr) (ns : List Int) (hl : ns.length ≤ 63) (hO : Only H) (hS : SqL K H a (ns.map V.int)) : sp_law K [.ref a] H (fun v _ => v = .bl true) fun _ _ _ => False := by
  have hh : HH H H [] := HH.start
  refine ⟨rfl, ?_⟩
  unfold t_law
  walk_at "go"
  refine rd_cells (n := 16) hh hS (by decide) (by decide) fun H1 d o ho hh => ?_
  walk_at "go"
  refine rd_schema3 hh ho fun ds n F1 H2 o v hn4 hnm hds s1 ho hh hv => ?_
  have hdk : ∀ k ∈ ds, KdOk3 (l_kn.take n) k := by rw [← hnm]; exact hds.k
  have hsz := sc_sz hn4 hdk hds.l
  walk_at "go"
  refine rd_text3 hn4 hdk hds.l hh hv fun F2 H3 s2 hh => ?_
  walk_at "go"
  refine rd_draw hh ho ⟨by decide, by decide⟩ fun vt H4 o t0 t1 ho hh => ?_
  obtain ⟨m, rfl⟩ := Int.eq_ofNat_of_zero_le t0
  walk_at "go"
  refine g_rngN (n := m) (by omega) ?_
  refine l_range (fun i σ H' => i ≤ m ∧ ∃ (o : HO) (zs : List Nat) (v3 : Option V), zs.length + 1 ≤ 3 ^ i * 2201 ∧ Sml zs ∧ σ = [some (.ref a), some (.ref d), some (svv zs), v3, none, none, none, none] ∧ DrO o ∧ HH F2 H' [(d, o)])
    ⟨Nat.zero_le _, o, wSc ds, none, by have := hsz.1; show (wSc ds).length + 1 ≤ 1 * 2201; omega, hsz.2, rfl, ho, hh⟩ ?_ ?_
  · clear hh ho
    rintro i σ H' hi ⟨_, o, zs, v3, hz, hs, rfl, ho, hh⟩
    have h3 : 3 ^ i ≤ 3 ^ 2 := Nat.pow_le_pow_right (by decide) (by omega)
    have hz2 : zs.length + 1 ≤ 9 * 2201 := Nat.le_trans hz (Nat.mul_le_mul_right _ h3)
    walk_at "go"
    refine rd_changed hh ho (by omega) hs fun w H7 o hw hws ho hh => ?_
    walk_at "go"
    refine ⟨by omega, o, w, _, ?_, hws, rfl, ho, hh⟩
    rw [Nat.pow_succ]
    generalize 3 ^ i = p at hz
    omega
  clear hh ho
  rintro σ H' ⟨_, o, zs, v3, hz, hs, rfl, ho, hh⟩
  have h3 : 3 ^ m ≤ 3 ^ 3 := Nat.pow_le_pow_right (by decide) (by omega)
  have hz2 : zs.length + 1 ≤ 27 * 2201 := Nat.le_trans hz (Nat.mul_le_mul_right _ h3)
  walk_at "go"
  refine g_thr ?_
  refine g_try ?_
  walk_at "go"
  refine rd_read_schema T hh (by omega) ?_
  have hg := read_good hs
  cases hr : readSchema zs with
  | stuck => rw [hr] at hg; exact hg.elim
  | bad p z =>
    rw [hr] at hg
    have hg : p ≤ zs.length := hg
    intro F3 H5 dd s3 hh
    refine ⟨true, (T.fau.txt PR).te, fun _ ea hea => ?_, fun z => by cases z⟩
    walk_at "go"
    refine ⟨_, _, true, dd, _, rfl, .own _, rfl, rfl, hh.get (i := 0) rfl, T.is_Fault_HeapError, ?_⟩
    walk_at "go"
    refine g_xf ?_
    walk_at "go"
    refine ⟨rfl, rfl, dd, _, _, rfl, hh.get (i := 0) rfl, fa_place, ?_⟩
    walk_at "go"
    rw [decide_eq_true (by omega)]
    walk_at "go"
    refine v_lenT' (by omega) ?_
    walk_at "go"
    rw [decide_eq_true (by omega)]
    walk_at "go"
    refine g_xf ?_
    walk_at "go"
    refine ⟨rfl, rfl, dd, _, _, rfl, hh.get (i := 0) rfl, fa_reason, ?_⟩
    walk_at "go"
    exact v_isiS rfl rfl
  | ok ks =>
    rw [hr] at hg
    obtain ⟨W, hzl⟩ : ScW ks ∧ zs.length ≤ 1000 := hg
    intro F3 H5 w s3 hh hw
    have hfine : ∀ k ∈ ks, k.fine = true := fun k hk => kd6_fine (by rw [List.length_map]; exact W.l) (W.k k hk)
    have hwl := wSc_len (ks := ks) (by have := W.l; omega) hfine
    walk_at "go"
    refine w_schema T hw hh (by have := W.l; omega) hfine fun F4 H6 s4 hh => ?_
    walk_at "go"
    refine v_lenT' (by omega) ?_
    walk_at "go"
    rw [decide_eq_false (by omega)]
    walk_at "go"
    refine v_lenT' (by omega) ?_
    walk_at "go"
    by_cases ht : 1000 < (wSc ks).length
    · rw [decide_eq_true (by omega)]
      walk_at "go"
      refine v_lenT' (by omega) ?_
      walk_at "go"
      exact congrArg V.bl (decide_eq_true (by omega))
    rw [decide_eq_false (by omega)]
    walk_at "go"
    obtain ⟨rs, er, ec⟩ := read6 W (by omega)
    refine rd_read_schema T hh (by omega) ?_
    rw [er]
    intro F5 H7 w2 s5 hh hw2
    rw [dSc_core ec] at hw2
    walk_at "go"
    refine w_schema T hw2 hh (by have := W.l; omega) hfine fun F6 H8 s6 hh => ?_
    walk_at "go"
    rw [decide_eq_true rfl]
    walk_at "go"
    refine rd_alike T W (hw.mono (s4.trans (s5.trans s6))) (hw2.mono s6) hh fun F7 H9 s7 hh => ?_
    rfl
end Lw

open PySem PySem.W PySem.Calls PyProof.Rows
set_option maxHeartbeats 0 in
theorem PySem.Challenge.cw_oneheap_k06_whole_schema_texts_holds : PySem.Challenge.rw_oneheap_k06_whole_schema_texts.Holds := by
  w_on; o_law
  refine HandSHeadRun.head_any (r := OpenLaw.row PySem.Challenge.rw_oneheap_k06_whole_schema_texts) (q := view (OpenLaw.row PySem.Challenge.rw_oneheap_k06_whole_schema_texts).prog [70]) (H := Lw.hk) (ob := Lw.ob) (M := 8000) (loose := Lw.nm) (d := HandSHeadRun.topDef (OpenLaw.row PySem.Challenge.rw_oneheap_k06_whole_schema_texts).prog 70) (kwd := []) Lw.ob_eq
    (by kernel_rfl) (fun s => by kernel_rfl) Lw.run (by kernel_rfl) (by kernel_rfl) (by kernel_rfl) (by rfl) (by first | assumption | decide +kernel) (by decide +kernel) ⟨rfl, rfl, rfl, rfl, rfl, by decide +kernel⟩ ?hw ?hc
  case hw => w_witness2
  case hc =>
    refine G.walk_ofW (l := PySem.Challenge.rw_oneheap_k06_whole_schema_texts) (n := 63) (k := 10) (x := "_law_script") rfl (by decide) (by kernel_rfl) ⟨rfl, by decide, by decide⟩ ?F
    intro w mg fa h Y G hmg0
    obtain ⟨K, KX, c⟩ := Y
    have hmg : mg ("law" : PySem.Str) = some (.ref fa) := by
      have e : (HandSHeadRun.topDef (OpenLaw.row PySem.Challenge.rw_oneheap_k06_whole_schema_texts).prog 70).name = ("law" : PySem.Str) := by kernel_rfl
      rw [← e]
      exact hmg0
    have T := Lw.tx KX G c.d c.more c.p (_root_.G.SaysZ.fau c KX G)
    have e : fa = He.ga K "law" := by
      have z := hmg.symm.trans T.g_law
      cases z
      rfl
    subst e
    obtain ⟨fd, hb, hF⟩ := T.law (P := (PySem.Challenge.rw_oneheap_k06_whole_schema_texts).prog) (w := w)
    exact ⟨K, fd, Lw.sp_law K, KX, hb, fun H a ns hl hO hS => Lw.law06 T H a ns hl hO hS, hF⟩
