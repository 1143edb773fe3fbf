import PyProof.Rows.All
import Wide.All
import OpenK.AllK
import Wide.FinOn
import KE.KStateDown
import Lean
import HandS.ForMost
import HandS.ForExc
import HandS.More
import HandS.Defaults
import HandS.CallSlots
import HandS.StrMore
import HandS.Text
import HandS.Steps
import HandS.Codes
import HandS.Iter
import HandS.IsInst
import HandS.FStr
import HandS.Wide
import HandS.Head0
import HandS.Head1
import HandS.Head2
import HandS.HeadEnd
import HandS.HeadHook1
import HandS.HeadHook2
import HandS.HeadHook3
import HandS.HeadHook4
import HandS.Conv
import HandS.Style
import KE.KExcSuper
import KE.KExcInit
import KE.KSuper
import HandS.Exc
import HandS.ExcInit
import HandS.ExcField
import HandS.Ends
import KE.KExcIs
import HandS.Property
import KE.KIntText
import HandS.ReplaceLit
import PyProof.StrReplace2
import HandS.OwnEq
import HandS.DictComp
import HandS.SortInts
import KE.KEqNest
import PyProof.ReprRoads
import PyProof.ReprBulk
import PyProof.P3Eq
import KE.KDictLaw
import PySem.Challenge.RW_oneheap_k78_reading_ahead
set_option Elab.async false
set_option linter.all false
set_option maxRecDepth 100000
set_option maxHeartbeats 4000000
namespace G
open PySem PySem.Spec PyProof.Rows L2

/-! ### what a callee keeps, by its name -/
structure Cl (P : Program) (w : World) (K : PySem.W.Frag) (mg : Str → Option Value) (base : Heap) (k : Nat) (x : Str) (sp : Sp) (dvs : List V) : Prop where
  ex : ∃ (f : Addr) (fd : FuncData) (ps : List Str) (ds : List Value), FnOk P w K mg base (L2.CX P w) k f fd ps sp ∧ mg x = some (.ref f) ∧ PySem.W.keepIn K (.ref f) = true ∧ Binds K fd ps ds ∧ Vals dvs ds
structure Mt (P : Program) (w : World) (K : PySem.W.Frag) (mg : Str → Option Value) (base : Heap) (k : Nat) (C : Addr) (m : Str) (sp : Sp) (dvs : List V) : Prop where
  ex : ∃ (f : Addr) (fd : FuncData) (ps : List Str) (ds : List Value), Cls K C ∧ Meth K C m f ∧ FnOk P w K mg base (L2.CX P w) k f fd ps sp ∧ Binds K fd ps ds ∧ Vals dvs ds
structure Mq (P : Program) (w : World) (K : PySem.W.Frag) (mg : Str → Option Value) (base : Heap) (k : Nat) (x : Str) (C : Addr) (sp : Sp) (dvs : List V) : Prop where
  ex : ∃ (f : Addr) (fd : FuncData) (ps : List Str) (ds : List Value), Mk K C f ∧ FnOk P w K mg base (L2.CX P w) k f fd ps sp ∧ mg x = some (.ref C) ∧ Binds K fd ps ds ∧ Vals dvs ds
/-- a law's end, where its defs may raise -/
theorem walk_ofW {l : PySem.W.OpenLaw} {n k : Nat} {q : Program} {loose : List Str} {XP : (Str → Option Value) → Heap → Prop} {YP : World → Heap → Prop} {d : DefRec} {x : Str}
    (hn : l.most = some n) (hn2 : n ≤ sizeLine) (hdf : d.params.defaults = []) (hr : Room k callerA)
    (F : ∀ (w : World) (mg : Str → Option Value) (fa : Addr) (h : Heap), YP w h → h.Ns mainGlobals mg → mg d.name = some (.ref fa) →
      ∃ (K : PySem.W.Frag) (fd : FuncData) (sp : Sp), K.In h ∧ (∀ (s : Shared) (u : Value), BindsTo s fd ⟨[u], []⟩ [(x, u)]) ∧
        (∀ (H : Hp) (a : Addr) (ns : List Int), ns.length ≤ n → Only H → SqL K H a (ns.map V.int) → sp [.ref a] H (fun v _ => v = .bl true) fun _ _ _ => False) ∧
        ∀ base : Heap, FnOk l.prog w K mg base (L2.CX l.prog w) k fa fd [x] sp) :
    PySem.W.WalkO q loose XP YP l.row.toRowW d [] (fun f vs => PySem.call f vs) := by
  refine Att.attach_call hn hdf fun w s₀ s₁ mg mb fa o pm cd doc a vs ns G Y ho hd hcd hmg hobj hints hlen hg => ?_
  obtain ⟨K, fd, sp, KX, hb, hsp, hF⟩ := F w mg fa _ Y G.T.g hmg
  refine law_call (CX := L2.CX l.prog w) KX G.T.g G.T.b G.T.builtins G.T.nolimit hg hobj hints (Nat.le_trans hlen hn2) hr (fun base _ _ => hF base) hb (fun H hO hS => hsp H a ns hlen hO hS) fun H e s' c => ?_
  obtain ⟨_, _, _, _, _, _, _, _, _, _, _, _, z⟩ := c
  exact z.elim
/-- nothing is let out -/
def Ez : L2.St → XK := fun _ _ _ _ => False
section
variable {X : Cx} {k j : Nat} {C : Addr} {x m : Str} {sp : Sp} {dvs : List V} {p pos apos : Pos} {e o : Expr} {es : List Expr} {ta : TE} {t : TA} {E : L2.St → XK}
theorem pz {σ : L2.St} : PassesAt (L2.CX X.prog X.w) X σ (Ez σ) := fun _ _ _ _ _ _ h => by
  obtain ⟨_, _, _, _, _, _, _, _, _, _, _, _, z⟩ := h
  exact z.elim
theorem pe_cl (c : Cl X.prog X.w X.K X.mg X.base k x sp dvs) (hr : Room j X.A) (hk : k ≤ j) (hx : ∀ σ, PassesAt (L2.CX X.prog X.w) X σ (E σ)) (hg : Gl X x) (ha : PA X (e :: es) t)
    (hdb : (x == ("__debug__" : Str)) = false := by decide) (he : starEach (e :: es) X.env = (false, eval e X.env) :: starEach es X.env := by rfl) (hpl : (backTo pos (starEach es X.env)).any (·.1) = false := by rfl) :
    PE X (.Call (.Name x p) (e :: es) [] pos) (tCallSD sp dvs E t) := by
  obtain ⟨f, fd, ps, ds, F, hm, kp, b, d⟩ := c.ex
  exact pe_callSD F (hr.mono hk) hg hm kp b d hx ha hdb he hpl
theorem pe_mq (c : Mq X.prog X.w X.K X.mg X.base k x C sp dvs) (hr : Room j X.A) (hk : k + 1 ≤ j) (hg : Gl X x) (ha : PA X (e :: es) t)
    (hdb : (x == ("__debug__" : Str)) = false := by decide) (he : starEach (e :: es) X.env = (false, eval e X.env) :: starEach es X.env := by rfl) (hpl : (backTo pos (starEach es X.env)).any (·.1) = false := by rfl) :
    PE X (.Call (.Name x p) (e :: es) [] pos) (tMake C sp dvs E0 t) := by
  obtain ⟨f, fd, ps, ds, M, F, hm, b, d⟩ := c.ex
  exact pe_make M F (hr.mono hk) hg hm b d passL ha hdb he hpl
/-- a constant of the module -/
theorem pe_gc {v : V} (hg : Gl X x) (h : ∃ u, X.mg x = some u ∧ RelV v u) (hd : (x == ("__debug__" : Str)) = false := by decide) : PE X (.Name x pos) (tC v) := by
  obtain ⟨u, hm, r⟩ := h
  exact pe_glob hg hm r hd
end

section
variable {X : Cx} {k j : Nat} {C : Addr} {x m : Str} {sp : Sp} {dvs : List V} {p pos apos : Pos} {e o : Expr} {es : List Expr} {ta : TE} {t : TA} {E : L2.St → XK}
/-- an expression has two readings: either will do -/
def tEor (t u : TE) : TE := fun σ H Q => t σ H Q ∨ u σ H Q
theorem pe_or2 {t u : TE} (h : PE X e t) (h' : PE X e u) : PE X e (tEor t u) := ⟨fun pins s σ H Q I q => q.elim (h.run pins s σ H Q I) (h'.run pins s σ H Q I)⟩
/-- o.m(..), what is raised is wished for at the caller's slots -/
def tMethD (C : Addr) (m : Str) (sp : Sp) (dvs : List V) (E : L2.St → XK) (ta : TE) (t : TA) : TE := fun σ H Q => ta σ H fun x H1 => ∃ a dx fs, x = .ref a ∧ H1 a = some (.ins C dx fs) ∧ fs.lookup m = none ∧
  t σ H1 fun vs H2 => sp (x :: (vs ++ dvs)) H2 Q (E σ)
theorem pe_mt1 {pl : Sem Bool} (c : Mt X.prog X.w X.K X.mg X.base k C m sp dvs) (hr : Room j X.A) (hk : k ≤ j) (hx : ∀ σ, PassesAt (L2.CX X.prog X.w) X σ (E σ)) (he : PE X o ta) (ha : PA X (e :: es) t)
    (hst : starEach (e :: es) X.env = (false, eval e X.env) :: starEach es X.env := by rfl) (hpl : (backTo pos (starEach es X.env)).any (·.1) = false := by rfl)
    (ht : eval (.Call (.Attribute o m apos) (e :: es) [] pos) X.env = (do
      let ov ← eval o X.env
      standAt apos.atName
      let (f, first) ← holding [ov] (getMethod ov m pl)
      callWith pos f first (backTo pos (starEach (e :: es) X.env)) (backToKw pos (keywordEach [] X.env))) := by rfl) :
    PE X (.Call (.Attribute o m apos) (e :: es) [] pos) (tMethD C m sp dvs E ta t) := by
  obtain ⟨f, fd, ps, ds, cl, hm, F, b, d⟩ := c.ex
  refine ⟨fun pins s σ H Q I h => ?_⟩
  refine PySem.W.methodCall_KW (pl := pl) (thn (he.run pins s σ H _ I h) fun u s1 ⟨x, H1, I1, rx, a, dx, fs, ex, ea, l, q⟩ => ?_) ht
  subst ex
  obtain rfl : u = Value.ref a := rx
  refine getmeth_ok I1 ea cl hm l (PySem.W.callWith_K (first := [.ref a]) (h₀ := X.base) I.ok.mod.kin hm.kp (thn (ha.run pos pins s1 σ H1 _ I1 q) fun us s2 ⟨vs, H2, I2, r, q2⟩ => ⟨I2.kIn, ?_⟩) hst hpl)
  exact run_fnSD (us := .ref a :: us) (vs := .ref a :: vs) F (hr.mono hk) b d (hx σ) I2 (.cons rfl r) q2
theorem pe_mt0 {pl : Sem Bool} (c : Mt X.prog X.w X.K X.mg X.base k C m sp dvs) (hr : Room j X.A) (hk : k ≤ j) (hx : ∀ σ, PassesAt (L2.CX X.prog X.w) X σ (E σ)) (he : PE X o ta)
    (ht : eval (.Call (.Attribute o m apos) [] [] pos) X.env = (do
      let ov ← eval o X.env
      standAt apos.atName
      let (f, first) ← holding [ov] (getMethod ov m pl)
      callWith pos f first (backTo pos (starEach [] X.env)) (backToKw pos (keywordEach [] X.env))) := by rfl) :
    PE X (.Call (.Attribute o m apos) [] [] pos) (tMethD C m sp dvs E ta tNil) := by
  obtain ⟨f, fd, ps, ds, cl, hm, F, b, d⟩ := c.ex
  refine ⟨fun pins s σ H Q I h => ?_⟩
  refine PySem.W.methodCall_KW (pl := pl) (thn (he.run pins s σ H _ I h) fun u s1 ⟨x, H1, I1, rx, a, dx, fs, ex, ea, l, q⟩ => ?_) ht
  subst ex
  obtain rfl : u = Value.ref a := rx
  exact getmeth_ok I1 ea cl hm l (PySem.W.callWith_K0 (first := [.ref a]) I1.kIn hm.kp (run_fnSD (us := [.ref a]) (vs := [.ref a]) F (hr.mono hk) b d (hx σ) I1 (.cons rfl .nil) q))
def rAbs : List V → Hp → VK → Prop := fun xs H Q => ∃ i, xs = [.int i] ∧ Q (.int (if i < 0 then -i else i)) H
def rMax2 : List V → Hp → VK → Prop := fun xs H Q => ∃ i j, xs = [.int i, .int j] ∧ Q (.int (if j > i then j else i)) H
def rMin2 : List V → Hp → VK → Prop := fun xs H Q => ∃ i j, xs = [.int i, .int j] ∧ Q (.int (if j < i then j else i)) H
def rFind : V → List V → Hp → VK → Prop := fun x xs H Q => ∃ a b, x = .str a ∧ xs = [.str b] ∧ Q (.int (Txt.find a b)) H
def rListX (K : PySem.W.Frag) : List V → Hp → VK → Prop := fun xs H Q => (∃ p ys, xs = [.ref p] ∧ (SqL K H p ys ∨ SqT K H p ys) ∧ ∀ l, H l = none → Q (.ref l) (upd H l (.lst ys))) ∨ rListD xs H Q
/-- a fact of the head that is told as a Bool -/
def fIs (C D : Str) (b : Bool) (K : PySem.W.Frag) : Bool := decide (PySem.W.kitOne K (.ref (He.ga K C)) (.ref (He.ga K D)) = some b)
def fIsT (C : Str) (D : String) (b : Bool) (K : PySem.W.Frag) : Bool := decide (PySem.W.kitOne K (.ref (He.ga K C)) (.type D) = some b)
def fTIs (D : String) (C : Str) (b : Bool) (K : PySem.W.Frag) : Bool := decide (PySem.W.kitOne K (.type D) (.ref (He.ga K C)) = some b)
def fIn (C : Str) (K : PySem.W.Frag) : Bool := He.eqO (PySem.W.findIn K (.ref (He.ga K C)) "__class__") (some (some (.builtin "object.__class__"))) &&
  (He.eqO (PySem.W.specialIn K (.builtin "object.__class__") "__get__") (some (some (.builtin "getset_descriptor.__get__"))) && (decide (PySem.W.takesIn K (.builtin "object.__class__") = some true) && decide (PySem.W.mroIn K (He.ga K C) (.type "object") = some true)))
theorem fIs_ok {C D : Str} {b : Bool} {K : PySem.W.Frag} (h : fIs C D b K = true) : PySem.W.kitOne K (.ref (He.ga K C)) (.ref (He.ga K D)) = some b := of_decide_eq_true h
theorem fIsT_ok {C : Str} {D : String} {b : Bool} {K : PySem.W.Frag} (h : fIsT C D b K = true) : PySem.W.kitOne K (.ref (He.ga K C)) (.type D) = some b := of_decide_eq_true h
theorem fTIs_ok {C : Str} {D : String} {b : Bool} {K : PySem.W.Frag} (h : fTIs D C b K = true) : PySem.W.kitOne K (.type D) (.ref (He.ga K C)) = some b := of_decide_eq_true h
/-- what isinstance asks of an instance of the class -/
structure InsF (K : PySem.W.Frag) (C : Addr) : Prop where
  ha : PySem.W.findIn K (.ref C) "__class__" = some (some (.builtin "object.__class__"))
  hn : PySem.W.specialIn K (.builtin "object.__class__") "__get__" = some (some (.builtin "getset_descriptor.__get__"))
  htk : PySem.W.takesIn K (.builtin "object.__class__") = some true
  hm : PySem.W.mroIn K C (.type "object") = some true
theorem fIn_ok {C : Str} {K : PySem.W.Frag} (h : fIn C K = true) : InsF K (He.ga K C) := by
  obtain ⟨h1, h2⟩ := He.ba h
  obtain ⟨h2, h3⟩ := He.ba h2
  obtain ⟨h3, h4⟩ := He.ba h3
  exact ⟨He.eqO_ok h1, He.eqO_ok h2, of_decide_eq_true h3, of_decide_eq_true h4⟩
def allB (fs : List (PySem.W.Frag → Bool)) (K : PySem.W.Frag) : Bool := fs.all fun f => f K
theorem allB_at {fs : List (PySem.W.Frag → Bool)} {K : PySem.W.Frag} (h : allB fs K = true) (i : Nat) {f : PySem.W.Frag → Bool} (hf : fs[i]? = some f := by rfl) : f K = true := List.all_eq_true.mp h f (List.mem_of_getElem? hf)
end

/-! ### operators by the values' kinds -/
section
variable {X : Cx}
def MulS (z : Str) (n : Int) : Prop := z.length ≤ 1024 ∧ n ≤ 1024 ∧ -1024 ≤ n
def rMulS : R2 := fun x y H Q => ∃ z n, x = .str z ∧ y = .int n ∧ MulS z n ∧ Q (.str (Txt.mul z n)) H
theorem op_mulS : OpR X (binaryOp .Mult) rMulS := by
  intro pins s σ H x y v u Q I rx ry h
  obtain ⟨z, n, rfl, rfl, ⟨h1, h2, h3⟩, q⟩ := h
  obtain ⟨t, rfl⟩ := rx
  obtain ⟨t', rfl⟩ := ry
  exact SB.mul (mulOk_of 1024 1024 h1 h2 (by omega) (by decide) (by decide)) fun t' k => ⟨.str _, H, I.tok _, ⟨_, rfl⟩, q⟩
def rAddS : R2 := fun x y H Q => ∃ i j, x = .str i ∧ y = .str j ∧ i.length + j.length ≤ sizeLine ∧ Q (.str (i ++ j)) H
/-- a + b: ints, texts, lists, tuples -/
def rAddX (K : PySem.W.Frag) : R2 := fun x y H Q => rI0 (fun i j => .int (i + j)) x y H Q ∨ rAddS x y H Q ∨ rCat x y H Q ∨ rCatT K x y H Q
theorem op_addX : OpR X (binaryOp .Add) (rAddX X.K) := OpR.or op_add (OpR.or op_add_str (OpR.or op_cat op_catT))
def rSubX : R2 := rI0 fun i j => .int (i - j)
theorem op_subX : OpR X (binaryOp .Sub) rSubX := op_sub
def rMulX : R2 := fun x y H Q => rI CMul (fun i j => .int (i * j)) x y H Q ∨ rMulS x y H Q ∨ rRep x y H Q
theorem op_mulX : OpR X (binaryOp .Mult) rMulX := OpR.or op_mul (OpR.or op_mulS op_rep)
def rModX : R2 := fun x y H Q => rI (fun _ j => 0 < j) (fun i j => .int (i % j)) x y H Q ∨ rI (fun _ j => j ≠ 0) (fun i j => .int (i.fmod j)) x y H Q
theorem op_modX : OpR X (binaryOp .Mod) rModX := OpR.or op_mod op_modN
def rDivX : R2 := fun x y H Q => rI CDiv (fun i j => .int (i / j)) x y H Q ∨ rI CDivN (fun i j => .int (i.fdiv j)) x y H Q
theorem op_divX : OpR X (binaryOp .FloorDiv) rDivX := OpR.or op_fdiv op_fdivN
def rInStr : R2 := fun x y H Q => ∃ (c : Nat) (z : Str), x = .str ⟨#[c]⟩ ∧ y = .str z ∧ Q (.bl (decide (c ∈ z.cps.toList))) H
def rNotInStr : R2 := fun x y H Q => ∃ (c : Nat) (z : Str), x = .str ⟨#[c]⟩ ∧ y = .str z ∧ Q (.bl (!decide (c ∈ z.cps.toList))) H
def rInX (K : PySem.W.Frag) : R2 := fun x y H Q => rIn K false x y H Q ∨ rInStr x y H Q
theorem op_inX : OpR X (compareOp .In) (rInX X.K) := OpR.or op_in_seq op_in_sign
def rNotInX (K : PySem.W.Frag) : R2 := fun x y H Q => rIn K true x y H Q ∨ rNotInStr x y H Q
theorem op_notInX : OpR X (compareOp .NotIn) (rNotInX X.K) := OpR.or op_notIn_seq op_notIn_sign
def rLtS : R2 := fun x y H Q => ∃ i j, x = .str i ∧ y = .str j ∧ Q (.bl (decide (i.cps.toList < j.cps.toList))) H
def rLtX (K : PySem.W.Frag) : R2 := fun x y H Q => rI0 (fun i j => .bl (decide (i < j))) x y H Q ∨ rLtS x y H Q ∨ rLtT K x y H Q
def rLeS : R2 := fun x y H Q => ∃ i j, x = .str i ∧ y = .str j ∧ Q (.bl (!decide (j.cps.toList < i.cps.toList))) H
def rLeX : R2 := fun x y H Q => rI0 (fun i j => .bl (decide (i ≤ j))) x y H Q ∨ rLeS x y H Q
def rGtX : R2 := rI0 fun i j => .bl (decide (j < i))
def rGeX : R2 := rI0 fun i j => .bl (decide (j ≤ i))
theorem op_ltX (hu : X.A.units + 64 < cLine) : OpR X (compareOp .Lt) (rLtX X.K) := OpR.or op_lt (OpR.or op_lt_str (op_ltT (by omega)))
theorem op_leX : OpR X (compareOp .LtE) rLeX := OpR.or op_le op_le_str
theorem op_gtX : OpR X (compareOp .Gt) rGtX := op_gt
theorem op_geX : OpR X (compareOp .GtE) rGeX := op_ge
/-- x is None, True, False, an object -/
def isW : V → Bool
  | .non => true
  | .bl _ => true
  | _ => false
def rIsW : R2 := fun x y H Q => isW y = true ∧ Q (.bl (decide (x = y))) H
def rIsNotW : R2 := fun x y H Q => isW y = true ∧ Q (.bl (!decide (x = y))) H
theorem is_b_gen {prog : Program} {w : World} {A : Around} {E : Value → Shared → Prop} {s : Shared} {x : V} {v : Value} {b : Bool} {Q : Value → Shared → Prop} (r : RelV x v) (h : Q (.bool (decide (x = .bl b))) s) : wpAny (model prog w) A (compareOp .Is v (.bool b)) Q E s := by
  cases x with
  | bl c =>
    cases r
    have e : (Value.bool c == Value.bool b) = decide (V.bl c = V.bl b) := by
      cases c <;> cases b <;> decide
    exact wpAny_pure (by rw [← e] at h; exact h)
  | non => cases r; exact wpAny_pure h
  | int i => obtain ⟨t, rfl⟩ := r; exact wpAny_pure h
  | str i => obtain ⟨t, rfl⟩ := r; exact wpAny_pure h
  | byt i => obtain ⟨t, rfl⟩ := r; exact wpAny_pure h
  | flt i => obtain ⟨t, rfl⟩ := r; exact wpAny_pure h
  | ref i => cases r; exact wpAny_pure h
  | ty i => cases r; exact wpAny_pure h
theorem isnot_b_gen {prog : Program} {w : World} {A : Around} {E : Value → Shared → Prop} {s : Shared} {x : V} {v : Value} {b : Bool} {Q : Value → Shared → Prop} (r : RelV x v) (h : Q (.bool (!decide (x = .bl b))) s) : wpAny (model prog w) A (compareOp .IsNot v (.bool b)) Q E s := by
  cases x with
  | bl c =>
    cases r
    have e : (Value.bool c == Value.bool b) = decide (V.bl c = V.bl b) := by
      cases c <;> cases b <;> decide
    exact wpAny_pure (by rw [← e] at h; exact h)
  | non => cases r; exact wpAny_pure h
  | int i => obtain ⟨t, rfl⟩ := r; exact wpAny_pure h
  | str i => obtain ⟨t, rfl⟩ := r; exact wpAny_pure h
  | byt i => obtain ⟨t, rfl⟩ := r; exact wpAny_pure h
  | flt i => obtain ⟨t, rfl⟩ := r; exact wpAny_pure h
  | ref i => cases r; exact wpAny_pure h
  | ty i => cases r; exact wpAny_pure h
theorem op_isW : OpR X (compareOp .Is) rIsW := by
  intro pins s σ H x y v u Q I rx ry h
  obtain ⟨hy, q⟩ := h
  cases y with
  | non => exact op_isN pins s σ H x .non v u Q I rx ry ⟨rfl, q⟩
  | bl b => cases ry; exact is_b_gen rx ⟨.bl _, H, I, rfl, q⟩
  | _ => exact absurd (show false = true from hy) Bool.false_ne_true
theorem op_isNotW : OpR X (compareOp .IsNot) rIsNotW := by
  intro pins s σ H x y v u Q I rx ry h
  obtain ⟨hy, q⟩ := h
  cases y with
  | non => exact op_notN pins s σ H x .non v u Q I rx ry ⟨rfl, q⟩
  | bl b => cases ry; exact isnot_b_gen rx ⟨.bl _, H, I, rfl, q⟩
  | _ => exact absurd (show false = true from hy) Bool.false_ne_true
def rIsO : R2 := fun x y H Q => ∃ a b oa ob, x = .ref a ∧ y = .ref b ∧ H a = some oa ∧ isObj oa = true ∧ H b = some ob ∧ isObj ob = true ∧ Q (.bl (decide (a = b))) H
def rIsNotO : R2 := fun x y H Q => ∃ a b oa ob, x = .ref a ∧ y = .ref b ∧ H a = some oa ∧ isObj oa = true ∧ H b = some ob ∧ isObj ob = true ∧ Q (.bl (!decide (a = b))) H
def rIsX : R2 := fun x y H Q => rIsW x y H Q ∨ rIsO x y H Q
def rIsNotX : R2 := fun x y H Q => rIsNotW x y H Q ∨ rIsNotO x y H Q
theorem op_isX : OpR X (compareOp .Is) rIsX := OpR.or op_isW op_is_ref
theorem op_isNotX : OpR X (compareOp .IsNot) rIsNotX := OpR.or op_isNotW op_isnot_ref
/-- ==: of single values, of data at any depth -/
def rEqX (K : PySem.W.Frag) : R2 := fun x y H Q => rEq x y H Q ∨ rEqD K x y H Q
def rNeX (K : PySem.W.Frag) : R2 := fun x y H Q => rNe x y H Q ∨ rNeD K x y H Q
theorem op_eqX (hu : X.A.units + 64 < cLine) : OpR X (compareOp .Eq) (rEqX X.K) := OpR.or op_eq (op_eqD hu)
theorem op_neX (hu : X.A.units + 64 < cLine) : OpR X (compareOp .NotEq) (rNeX X.K) := OpR.or op_ne (op_neD hu)
/-- a[i:j] of texts and lists -/
def rSlX (K : PySem.W.Frag) : V → Option Int → Option Int → Hp → VK → Prop := fun x lo hi H Q => rSlS x lo hi H Q ∨ rSlL K x lo hi H Q
theorem sl_X : SlR X (rSlX X.K) := SlR.or sl_str sl_list
def rIntX : List V → Hp → VK → Prop := fun xs H Q => ((∃ i, xs = [.int i] ∧ Q (.int i) H) ∨ ∃ k, xs = [.bl k] ∧ Q (.int (b2i k)) H) ∨ ∃ a n, xs = [.str a] ∧ PySem.intText? a = some n ∧ a.length ≤ 640 ∧ Q (.int n) H
end

section
variable {X : Cx}
def rJoin (K : PySem.W.Frag) : V → List V → Hp → VK → Prop := fun x xs H Q => ∃ a p, ∃ ys : List Str, x = .str a ∧ xs = [.ref p] ∧ (SqL K H p (ys.map V.str) ∨ SqT K H p (ys.map V.str)) ∧
  (ys.map (·.length)).sum + ys.length * a.length ≤ 16777216 ∧ Q (.str (Txt.join a ys)) H
def rStarts3 : V → List V → Hp → VK → Prop := fun x xs H Q => ∃ (a b : Str) (i : Int), x = .str a ∧ xs = [.str b, .int i] ∧ Q (.bl (Txt.startswith3 a b i)) H
/-- what a for walks: a list, a tuple, a text -/
def iAny (K : PySem.W.Frag) (te : TE) : TI := fun σ H R => iList K te σ H R ∨ iTup K te σ H R ∨ iStr te σ H R
theorem pi_any {tg e : Expr} {te : TE} (he : PE X e te) : PI X tg e (iAny X.K te) := ⟨fun pins s σ H R I h => by
  rcases h with h | h | h
  · exact (pi_list he).run pins s σ H R I h
  · exact (pi_tup he).run pins s σ H R I h
  · exact (pi_str he).run pins s σ H R I h⟩
end

/-! ### the reading, step by step: each ⟨nx, rt, bk, ct⟩ stands open -/
section
variable {nx bk ct : L2.St → Hp → Prop} {rt : VK} {σ : L2.St} {H : Hp} {Q : VK} {te ta tb tc : TE} {t u : TS} {tt tt' : TT} {K : PySem.W.Frag} {v x y : V} {i : Nat} {r : R2} {TA1 : TA}
theorem g_seq (h : t ⟨u ⟨nx, rt, bk, ct⟩, rt, bk, ct⟩ σ H) : tSeq t u ⟨nx, rt, bk, ct⟩ σ H := h
theorem g_next (h : nx σ H) : tNext ⟨nx, rt, bk, ct⟩ σ H := h
theorem g_brk (h : bk σ H) : tBreak ⟨nx, rt, bk, ct⟩ σ H := h
theorem g_cont (h : ct σ H) : tCont ⟨nx, rt, bk, ct⟩ σ H := h
theorem g_asg (h : te σ H fun x H1 => nx (σ.set i (some x)) H1) : tAsg te (gName i) ⟨nx, rt, bk, ct⟩ σ H := h
theorem g_drop (h : te σ H fun _ H1 => nx σ H1) : tDrop te ⟨nx, rt, bk, ct⟩ σ H := h
theorem g_ret (h : te σ H rt) : tRet te ⟨nx, rt, bk, ct⟩ σ H := h
theorem g_retN (h : rt .non H) : tRetN ⟨nx, rt, bk, ct⟩ σ H := h
theorem g_if (h : tt σ H fun b H1 => if b = true then t ⟨nx, rt, bk, ct⟩ σ H1 else u ⟨nx, rt, bk, ct⟩ σ H1) : tIfS tt t u ⟨nx, rt, bk, ct⟩ σ H := h
theorem g_var (h : σ[i]? = some (some v)) (q : Q v H) : tVar i σ H Q := ⟨v, h, q⟩
theorem g_c (q : Q v H) : tC v σ H Q := q
theorem g_op (h : ta σ H fun x H1 => tb σ H1 fun y H2 => r x y H2 Q) : tOp r ta tb σ H Q := h
theorem g_un {r : V → Hp → VK → Prop} (h : ta σ H fun x H1 => r x H1 Q) : tUn r ta σ H Q := h
theorem g_nil {Q : List V → Hp → Prop} (h : Q [] H) : tNil σ H Q := h
theorem g_cons {Q : List V → Hp → Prop} (h : ta σ H fun x H1 => TA1 σ H1 fun xs H2 => Q (x :: xs) H2) : tCons ta TA1 σ H Q := h
def TestK (x : V) (H : Hp) (Q : Bool → Hp → Prop) : Prop := ∃ k, x = .bl k ∧ Q k H
theorem g_test {Q : Bool → Hp → Prop} (h : te σ H fun x H' => TestK x H' Q) : tTest te σ H Q := h
theorem g_b {Q : Bool → Hp → Prop} (h : te σ H fun x H' => TestK x H' Q) : tB te σ H Q := h
theorem g_k {Q : Bool → Hp → Prop} {b : Bool} (q : Q b H) : TestK (.bl b) H Q := ⟨b, rfl, q⟩
def TruK (K : PySem.W.Frag) (x : V) (H : Hp) (Q : Bool → Hp → Prop) : Prop := ∃ k, TruV K x H k ∧ Q k H
theorem g_tru {Q : Bool → Hp → Prop} (h : te σ H fun x H' => TruK K x H' Q) : tTru K te σ H Q := h
theorem v_truB {Q : Bool → Hp → Prop} {b : Bool} (q : Q b H) : TruK K (.bl b) H Q := ⟨b, rfl, q⟩
theorem v_truN {Q : Bool → Hp → Prop} (q : Q false H) : TruK K .non H Q := ⟨_, rfl, q⟩
theorem v_truI {Q : Bool → Hp → Prop} {i : Int} (q : Q (i != 0) H) : TruK K (.int i) H Q := ⟨_, rfl, q⟩
theorem g_and {Q : Bool → Hp → Prop} (h : tt σ H fun c H1 => if c = true then tt' σ H1 Q else Q false H1) : tAnd tt tt' σ H Q := h
theorem g_or {Q : Bool → Hp → Prop} (h : tt σ H fun c H1 => if c = true then Q true H1 else tt' σ H1 Q) : tOr tt tt' σ H Q := h
theorem g_not {Q : Bool → Hp → Prop} (h : tt σ H fun c H1 => Q (!c) H1) : tNot tt σ H Q := h
theorem g_andV (h : ta σ H fun x H1 => TestK x H1 fun c H1 => if c = true then tb σ H1 Q else Q (.bl false) H1) : tAndV ta tb σ H Q := h
theorem g_orV (h : ta σ H fun x H1 => TestK x H1 fun c H1 => if c = true then Q (.bl true) H1 else tb σ H1 Q) : tOrV ta tb σ H Q := h
theorem g_notV (h : ta σ H fun x H1 => TestK x H1 fun c H1 => Q (.bl (!c)) H1) : tNotV ta σ H Q := h
theorem g_ifE (h : tt σ H fun c H1 => if c = true then ta σ H1 Q else tb σ H1 Q) : tIf tt ta tb σ H Q := h
theorem g_callB {r : List V → Hp → VK → Prop} (h : TA1 σ H fun vs H1 => r vs H1 Q) : tCB r TA1 σ H Q := h
theorem g_call {sp : Sp} {E : L2.St → XK} (h : TA1 σ H fun vs H1 => sp vs H1 Q (E σ)) : tCallSD sp [] E TA1 σ H Q := by
  show TA1 σ H fun vs H1 => sp (vs ++ []) H1 Q (E σ)
  simp only [List.append_nil]
  exact h
theorem g_tup (h : TA1 σ H fun xs H1 => xs.length ≤ sizeLine ∧ ∀ p, H1 p = none → Q (.ref p) (upd H1 p (.tup xs))) : tTup TA1 σ H Q := h
theorem g_lst (h : TA1 σ H fun xs H1 => xs.length ≤ sizeLine ∧ ∀ p, H1 p = none → Q (.ref p) (upd H1 p (.lst xs))) : tLst TA1 σ H Q := h
theorem g_small {xs : List V} {A : Prop} (h : xs.length ≤ 1000) (q : A) : xs.length ≤ sizeLine ∧ A := ⟨Nat.le_of_lt (small1000 h), q⟩
/-! by values -/
theorem v_addI {i j : Int} (q : Q (.int (i + j)) H) : rAddX K (.int i) (.int j) H Q := .inl ⟨_, _, rfl, rfl, q⟩
theorem v_addS {a b : Str} (h : a.length + b.length ≤ sizeLine) (q : Q (.str (a ++ b)) H) : rAddX K (.str a) (.str b) H Q := .inr (.inl ⟨_, _, rfl, rfl, h, q⟩)
theorem v_sub {i j : Int} (q : Q (.int (i - j)) H) : rSubX (.int i) (.int j) H Q := ⟨_, _, rfl, rfl, q⟩
theorem v_mulI {i j : Int} (h : CMul i j) (q : Q (.int (i * j)) H) : rMulX (.int i) (.int j) H Q := .inl ⟨_, _, rfl, rfl, h, q⟩
theorem v_mulS {z : Str} {n : Int} (h : MulS z n) (q : Q (.str (Txt.mul z n)) H) : rMulX (.str z) (.int n) H Q := .inr (.inl ⟨_, _, rfl, rfl, h, q⟩)
theorem v_mod {i j : Int} (h : 0 < j) (q : Q (.int (i % j)) H) : rModX (.int i) (.int j) H Q := .inl ⟨_, _, rfl, rfl, h, q⟩
theorem v_div {i j : Int} (h : CDiv i j) (q : Q (.int (i / j)) H) : rDivX (.int i) (.int j) H Q := .inl ⟨_, _, rfl, rfl, h, q⟩
theorem v_lt {i j : Int} (q : Q (.bl (decide (i < j))) H) : rLtX K (.int i) (.int j) H Q := .inl ⟨_, _, rfl, rfl, q⟩
theorem v_le {i j : Int} (q : Q (.bl (decide (i ≤ j))) H) : rLeX (.int i) (.int j) H Q := .inl ⟨_, _, rfl, rfl, q⟩
theorem v_leS {a b : Str} (q : Q (.bl (!decide (b.cps.toList < a.cps.toList))) H) : rLeX (.str a) (.str b) H Q := .inr ⟨_, _, rfl, rfl, q⟩
theorem v_gt {i j : Int} (q : Q (.bl (decide (j < i))) H) : rGtX (.int i) (.int j) H Q := ⟨_, _, rfl, rfl, q⟩
theorem v_ge {i j : Int} (q : Q (.bl (decide (j ≤ i))) H) : rGeX (.int i) (.int j) H Q := ⟨_, _, rfl, rfl, q⟩
theorem dS {a b : Str} : decide (V.str a = V.str b) = decide (a = b) := by
  by_cases h : a = b
  · rw [h]; simp
  · rw [decide_eq_false h, decide_eq_false]; intro z; exact h (V.str.inj z)
theorem dI {a b : Int} : decide (V.int a = V.int b) = decide (a = b) := by
  by_cases h : a = b
  · rw [h]; simp
  · rw [decide_eq_false h, decide_eq_false]; intro z; exact h (V.int.inj z)
theorem dB {a b : Bool} : decide (V.bl a = V.bl b) = decide (a = b) := by
  by_cases h : a = b
  · rw [h]; simp
  · rw [decide_eq_false h, decide_eq_false]; intro z; exact h (V.bl.inj z)
theorem v_eqI {i j : Int} (q : Q (.bl (decide (i = j))) H) : rEqX K (.int i) (.int j) H Q := .inl ⟨rfl, by rw [dI]; exact q⟩
theorem v_eqS {i j : Str} (q : Q (.bl (decide (i = j))) H) : rEqX K (.str i) (.str j) H Q := .inl ⟨rfl, by rw [dS]; exact q⟩
theorem v_eqB {i j : Bool} (q : Q (.bl (decide (i = j))) H) : rEqX K (.bl i) (.bl j) H Q := .inl ⟨rfl, by rw [dB]; exact q⟩
theorem v_neI {i j : Int} (q : Q (.bl (!decide (i = j))) H) : rNeX K (.int i) (.int j) H Q := .inl ⟨rfl, by rw [dI]; exact q⟩
theorem v_neS {i j : Str} (q : Q (.bl (!decide (i = j))) H) : rNeX K (.str i) (.str j) H Q := .inl ⟨rfl, by rw [dS]; exact q⟩
theorem v_neB {i j : Bool} (q : Q (.bl (!decide (i = j))) H) : rNeX K (.bl i) (.bl j) H Q := .inl ⟨rfl, by rw [dB]; exact q⟩
theorem v_isN (q : Q (.bl (decide (x = .non))) H) : rIsX x .non H Q := .inl ⟨rfl, q⟩
theorem v_isNotN (q : Q (.bl (!decide (x = .non))) H) : rIsNotX x .non H Q := .inl ⟨rfl, q⟩
theorem v_isB {b : Bool} (q : Q (.bl (decide (x = .bl b))) H) : rIsX x (.bl b) H Q := .inl ⟨rfl, q⟩
theorem v_isNotB {b : Bool} (q : Q (.bl (!decide (x = .bl b))) H) : rIsNotX x (.bl b) H Q := .inl ⟨rfl, q⟩
theorem v_eqV (h : scal x y = true) (q : Q (.bl (decide (x = y))) H) : rEqX K x y H Q := .inl ⟨h, q⟩
theorem v_neV (h : scal x y = true) (q : Q (.bl (!decide (x = y))) H) : rNeX K x y H Q := .inl ⟨h, q⟩
theorem v_eqD {d e : PyData} (h1 : Dp K H x d) (h2 : Dp K H y e) (s1 : SeqAt.shaped d = true) (s2 : SeqAt.shaped e = true) (q : Q (.bl (PyData.eqv d e)) H) : rEqX K x y H Q := .inr ⟨_, _, h1, h2, s1, s2, q⟩
theorem v_neD {d e : PyData} (h1 : Dp K H x d) (h2 : Dp K H y e) (s1 : SeqAt.shaped d = true) (s2 : SeqAt.shaped e = true) (q : Q (.bl (!PyData.eqv d e)) H) : rNeX K x y H Q := .inr ⟨_, _, h1, h2, s1, s2, q⟩
theorem v_inL {p : Addr} {xs : List V} (h : SqL K H p xs) (f1 : flatV x = true) (f2 : xs.all flatV = true) (q : Q (.bl (inV x xs)) H) : rInX K x (.ref p) H Q := .inl ⟨p, xs, rfl, .inl h, f1, f2, q⟩
theorem v_notInL {p : Addr} {xs : List V} (h : SqL K H p xs) (f1 : flatV x = true) (f2 : xs.all flatV = true) (q : Q (.bl (!inV x xs)) H) : rNotInX K x (.ref p) H Q := .inl ⟨p, xs, rfl, .inl h, f1, f2, q⟩
theorem v_cat {l b : Addr} {xs zs : List V} (h : H l = some (.lst xs)) (h2 : H b = some (.lst zs)) (hz : xs.length + zs.length ≤ sizeLine) (q : ∀ p, H p = none → Q (.ref p) (upd H p (.lst (xs ++ zs)))) : rAddX K (.ref l) (.ref b) H Q := .inr (.inr (.inl ⟨_, _, _, _, rfl, rfl, h, h2, hz, q⟩))
theorem v_inS {c : Nat} {z : Str} (q : Q (.bl (decide (c ∈ z.cps.toList))) H) : rInX K (.str ⟨#[c]⟩) (.str z) H Q := .inr ⟨_, _, rfl, rfl, q⟩
theorem v_notInS {c : Nat} {z : Str} (q : Q (.bl (!decide (c ∈ z.cps.toList))) H) : rNotInX K (.str ⟨#[c]⟩) (.str z) H Q := .inr ⟨_, _, rfl, rfl, q⟩
theorem v_inT {p : Addr} {xs : List V} (h : H p = some (.tup xs)) (f1 : flatV x = true) (f2 : xs.all flatV = true) (q : Q (.bl (inV x xs)) H) : rInX K x (.ref p) H Q := .inl ⟨p, xs, rfl, .inr (SqT.of h), f1, f2, q⟩
theorem v_notInT {p : Addr} {xs : List V} (h : H p = some (.tup xs)) (f1 : flatV x = true) (f2 : xs.all flatV = true) (q : Q (.bl (!inV x xs)) H) : rNotInX K x (.ref p) H Q := .inl ⟨p, xs, rfl, .inr (SqT.of h), f1, f2, q⟩
theorem v_lenS {z : Str} (h : z.length ≤ sizeLine) (q : Q (.int (z.length : Int)) H) : rLen K [.str z] H Q := ⟨_, _, rfl, ⟨h, rfl⟩, q⟩
theorem v_lenL {p : Addr} {xs : List V} (h : H p = some (.lst xs)) (q : Q (.int (xs.length : Int)) H) : rLen K [.ref p] H Q := ⟨_, _, rfl, .inl ⟨_, SqL.of h, rfl⟩, q⟩
theorem v_lenT {p : Addr} {xs : List V} (h : H p = some (.tup xs)) (q : Q (.int (xs.length : Int)) H) : rLen K [.ref p] H Q := ⟨_, _, rfl, .inr ⟨_, SqT.of h, rfl⟩, q⟩
theorem v_ixL {p : Addr} {xs : List V} {n : Int} (h : H p = some (.lst xs)) (e : atI xs n = some v) (q : Q v H) : rIx K (.ref p) (.int n) H Q := .inl ⟨_, _, _, _, rfl, rfl, SqL.of h, e, q⟩
theorem v_ixT {p : Addr} {xs : List V} {n : Int} (h : H p = some (.tup xs)) (e : atI xs n = some v) (q : Q v H) : rIx K (.ref p) (.int n) H Q := .inr (.inl ⟨_, _, _, _, rfl, rfl, SqT.of h, e, q⟩)
theorem v_ixS {z : Str} {n : Int} {c : Nat} (h : z.length ≤ sizeLine) (e : atI z.cps.toList n = some c) (q : Q (.str ⟨#[c]⟩) H) : rIx K (.str z) (.int n) H Q := .inr (.inr ⟨_, _, _, rfl, rfl, h, e, q⟩)
theorem v_intI {n : Int} (q : Q (.int n) H) : rIntX [.int n] H Q := .inl (.inl ⟨_, rfl, q⟩)
theorem v_intS {a : Str} {n : Int} (h : PySem.intText? a = some n) (hl : a.length ≤ 640) (q : Q (.int n) H) : rIntX [.str a] H Q := .inr ⟨_, _, rfl, h, hl, q⟩
/-! loops -/
def LoopG (J : It) (g : TG) (tb : TS) : TS := fun D σ H => ∃ W : Nat → Nat → L2.St → Hp → Prop, (∃ m, W 0 m σ H) ∧ ∀ i m σ H, W i m σ H →
  (J.stop i H ∧ D.nx σ H) ∨ (J.go i H ∧ ∃ N : L2.St → Hp → Prop, (∀ σ' H', N σ' H' → ∃ m', m' < m ∧ W (i + 1) m' σ' H') ∧ ∀ x H', J.yld i H x H' → g x σ H' fun σ2 H2 => tb { D with nx := N, ct := N, bk := D.nx } σ2 H2)
variable {wi : TI} {g : TG} {tb : TS}
theorem g_for (h : wi σ H fun J H1 => LoopG J g tb ⟨nx, rt, bk, ct⟩ σ H1) : tFor wi g tb ⟨nx, rt, bk, ct⟩ σ H := h
theorem g_name {S : L2.St → Hp → Prop} (h : S (σ.set i (some v)) H) : gName i v σ H S := h
def Rng1 (R : It → Hp → Prop) (vs : List V) (H : Hp) : Prop := ∃ j : Int, vs = [.int j] ∧ -(2 ^ 62) ≤ j ∧ j < 2 ^ 62 ∧ R (Itr 0 j.toNat) H
def Rng2 (R : It → Hp → Prop) (vs : List V) (H : Hp) : Prop := ∃ i j : Int, vs = [.int i, .int j] ∧ (-(2 ^ 62) ≤ i ∧ i < 2 ^ 62 ∧ -(2 ^ 62) ≤ j ∧ j < 2 ^ 62) ∧ R (Itr i (j - i).toNat) H
theorem g_rng1 {R : It → Hp → Prop} (h : TA1 σ H (Rng1 R)) : iRng1 TA1 σ H R := h
theorem g_rng2 {R : It → Hp → Prop} (h : TA1 σ H (Rng2 R)) : iRng2 TA1 σ H R := h
theorem g_rngN {R : It → Hp → Prop} {n : Nat} (hn : n < 2 ^ 62) (h : R (Itr 0 n) H) : Rng1 R [V.int (n : Int)] H := ⟨_, rfl, by omega, by omega, by rw [Int.toNat_natCast]; exact h⟩
theorem g_rngI {R : It → Hp → Prop} {n : Int} (h1 : -(2 ^ 62) ≤ n) (h2 : n < 2 ^ 62) (h : R (Itr 0 n.toNat) H) : Rng1 R [V.int n] H := ⟨_, rfl, h1, h2, h⟩
theorem g_rngT {R : It → Hp → Prop} {m n : Int} (h1 : -(2 ^ 62) ≤ m ∧ m < 2 ^ 62 ∧ -(2 ^ 62) ≤ n ∧ n < 2 ^ 62) (h : R (Itr m (n - m).toNat) H) : Rng2 R [V.int m, V.int n] H := ⟨_, _, rfl, h1, h⟩
def OvL (K : PySem.W.Frag) (R : It → Hp → Prop) (x : V) (H : Hp) : Prop := ∃ a, x = .ref a ∧ (∃ xs, SqL K H a xs) ∧ R (Itl K a) H
def OvT (K : PySem.W.Frag) (R : It → Hp → Prop) (x : V) (H : Hp) : Prop := ∃ a, x = .ref a ∧ (∃ xs, SqT K H a xs) ∧ R (Itt K a) H
def OvS (R : It → Hp → Prop) (x : V) (H : Hp) : Prop := ∃ z, x = .str z ∧ R (Its z) H
theorem gi_list {R : It → Hp → Prop} (h : te σ H (OvL K R)) : iAny K te σ H R := .inl h
theorem gi_tup {R : It → Hp → Prop} (h : te σ H (OvT K R)) : iAny K te σ H R := .inr (.inl h)
theorem gi_str {R : It → Hp → Prop} (h : te σ H (OvS R)) : iAny K te σ H R := .inr (.inr h)
theorem v_ovL {R : It → Hp → Prop} {p : Addr} {xs : List V} (h : SqL K H p xs) (q : R (Itl K p) H) : OvL K R (.ref p) H := ⟨p, rfl, ⟨xs, h⟩, q⟩
theorem v_ovT {R : It → Hp → Prop} {p : Addr} {xs : List V} (h : SqT K H p xs) (q : R (Itt K p) H) : OvT K R (.ref p) H := ⟨p, rfl, ⟨xs, h⟩, q⟩
theorem v_ovS {R : It → Hp → Prop} {z : Str} (q : R (Its z) H) : OvS R (.str z) H := ⟨z, rfl, q⟩
theorem l_range {lo : Int} {n : Nat} (Pv : Nat → L2.St → Hp → Prop) (h0 : Pv 0 σ H) (hs : ∀ i σ H, i < n → Pv i σ H → g (.int (lo + i)) σ H fun σ2 H2 => tb ⟨Pv (i + 1), rt, nx, Pv (i + 1)⟩ σ2 H2)
    (hd : ∀ σ H, Pv n σ H → nx σ H) : LoopG (Itr lo n) g tb ⟨nx, rt, bk, ct⟩ σ H := for_range (D := ⟨nx, rt, bk, ct⟩) Pv h0 hs hd
theorem l_list {a : Addr} {xs : List V} (Pv : Nat → L2.St → Hp → Prop) (h0 : Pv 0 σ H) (hl : ∀ i σ H, i ≤ xs.length → Pv i σ H → SqL K H a xs)
    (hs : ∀ i x σ H, xs[i]? = some x → Pv i σ H → g x σ H fun σ2 H2 => tb ⟨Pv (i + 1), rt, nx, Pv (i + 1)⟩ σ2 H2) (hd : ∀ σ H, Pv xs.length σ H → nx σ H) : LoopG (Itl K a) g tb ⟨nx, rt, bk, ct⟩ σ H := for_list (D := ⟨nx, rt, bk, ct⟩) Pv h0 hl hs hd
theorem l_tup {a : Addr} {xs : List V} (Pv : Nat → L2.St → Hp → Prop) (h0 : Pv 0 σ H) (hl : ∀ i σ H, i ≤ xs.length → Pv i σ H → SqT K H a xs)
    (hs : ∀ i x σ H, xs[i]? = some x → Pv i σ H → g x σ H fun σ2 H2 => tb ⟨Pv (i + 1), rt, nx, Pv (i + 1)⟩ σ2 H2) (hd : ∀ σ H, Pv xs.length σ H → nx σ H) : LoopG (Itt K a) g tb ⟨nx, rt, bk, ct⟩ σ H := for_tup (D := ⟨nx, rt, bk, ct⟩) Pv h0 hl hs hd
theorem l_str {zs : List Nat} (Pv : Nat → L2.St → Hp → Prop) (h0 : Pv 0 σ H) (hs : ∀ i c σ H, zs[i]? = some c → Pv i σ H → g (.str ⟨#[c]⟩) σ H fun σ2 H2 => tb ⟨Pv (i + 1), rt, nx, Pv (i + 1)⟩ σ2 H2)
    (hd : ∀ σ H, Pv zs.length σ H → nx σ H) : LoopG (Its ⟨zs.toArray⟩) g tb ⟨nx, rt, bk, ct⟩ σ H := by
  refine ⟨fun i m σ H => m = zs.length - i ∧ i ≤ zs.length ∧ Pv i σ H, ⟨zs.length, by simp, Nat.zero_le _, h0⟩, ?_⟩
  rintro i m σ H ⟨rfl, hi, p⟩
  by_cases hlt : i < zs.length
  · refine .inr ⟨(by show i < zs.toArray.size; simpa using hlt), Pv (i + 1), fun σ' H' p' => ⟨zs.length - (i + 1), by omega, rfl, hlt, p'⟩, fun x H' y => ?_⟩
    obtain ⟨e, c, hc, ex⟩ := y
    subst e ex
    exact hs i c σ _ (by simpa using hc) p
  · have e : i = zs.length := by omega
    subst e
    exact .inl ⟨(by show zs.toArray.size ≤ zs.length; simp), hd σ H p⟩
theorem g_while (h : ∃ W : Nat → L2.St → Hp → Prop, (∃ m, W m σ H) ∧ ∀ m σ H, W m σ H →
    tt σ H fun b H1 => if b = true then ∃ N : L2.St → Hp → Prop, (∀ σ' H', N σ' H' → ∃ m', m' < m ∧ W m' σ' H') ∧ tb ⟨N, rt, nx, N⟩ σ H1 else nx σ H1) : tWhile tt tb ⟨nx, rt, bk, ct⟩ σ H := h
theorem g_turn {W : Nat → L2.St → Hp → Prop} {m : Nat} (h : tb ⟨fun σ' H' => ∃ m', m' < m ∧ W m' σ' H', rt, nx, fun σ' H' => ∃ m', m' < m ∧ W m' σ' H'⟩ σ H) :
    ∃ N : L2.St → Hp → Prop, (∀ σ' H', N σ' H' → ∃ m', m' < m ∧ W m' σ' H') ∧ tb ⟨N, rt, nx, N⟩ σ H := ⟨_, fun _ _ z => z, h⟩
/-! methods of lists, texts, stores -/
theorem g_bm {T : String} {r : V → List V → Hp → VK → Prop} (h : ta σ H fun x H1 => tyV K T x H1 ∧ TA1 σ H1 fun xs H2 => r x xs H2 Q) : tBM K T r ta TA1 σ H Q := h
theorem g_bm0 {T : String} {r : V → List V → Hp → VK → Prop} (h : ta σ H fun x H1 => tyV K T x H1 ∧ r x [] H1 Q) : tBM0 K T r ta σ H Q := h
theorem g_tyL {p : Addr} {xs : List V} {A : Prop} (h : H p = some (.lst xs)) (q : A) : tyV K "list" (.ref p) H ∧ A := ⟨.inl ⟨rfl, _, SqL.of h⟩, q⟩
theorem g_tyS {z : Str} {A : Prop} (q : A) : tyV K "str" (.str z) H ∧ A := ⟨rfl, q⟩
theorem v_append {l : Addr} {xs : List V} (h : H l = some (.lst xs)) (hl : xs.length < sizeLine) (q : Q .non (upd H l (.lst (xs ++ [y])))) : rAppend (.ref l) [y] H Q := ⟨_, _, _, rfl, rfl, h, hl, q⟩
theorem g_m1 {r : V → List V → Hp → VK → Prop} (h : ta σ H fun x H1 => (∃ a, x = .str a) ∧ tc σ H1 fun y H2 => r x [y] H2 Q) : tM1 r ta tc σ H Q := h
theorem g_isS {z : Str} {A : Prop} (q : A) : (∃ a, V.str z = .str a) ∧ A := ⟨⟨_, rfl⟩, q⟩
theorem v_join {p : Addr} {a : Str} {ys : List Str} (h : H p = some (.lst (ys.map V.str))) (hz : (ys.map (·.length)).sum + ys.length * a.length ≤ 16777216) (q : Q (.str (Txt.join a ys)) H) : rJoin K (.str a) [.ref p] H Q := ⟨_, _, _, rfl, rfl, .inl (SqL.of h), hz, q⟩
theorem v_starts3 {a b : Str} {n : Int} (q : Q (.bl (Txt.startswith3 a b n)) H) : rStarts3 (.str a) [.str b, .int n] H Q := ⟨_, _, _, rfl, rfl, q⟩
theorem g_sl {r : V → Option Int → Option Int → Hp → VK → Prop} {tl th : TO} (h : te σ H fun x H1 => tl σ H1 fun l H2 => th σ H2 fun u H3 => r x l u H3 Q) : tSl r te tl th σ H Q := h
theorem g_no {Q : Option Int → Hp → Prop} (h : Q none H) : tNoPart σ H Q := h
def PartK (x : V) (H : Hp) (Q : Option Int → Hp → Prop) : Prop := ∃ i, x = .int i ∧ Q (some i) H
theorem g_part {Q : Option Int → Hp → Prop} (h : te σ H fun x H1 => PartK x H1 Q) : tPart te σ H Q := h
theorem g_isI {n : Int} {Q : Option Int → Hp → Prop} (h : Q (some n) H) : PartK (.int n) H Q := ⟨_, rfl, h⟩
theorem v_slS {z : Str} {lo hi : Option Int} (h : z.length ≤ sizeLine) (q : Q (.str (cutS z lo hi)) H) : rSlX K (.str z) lo hi H Q := .inl ⟨_, rfl, h, q⟩
theorem v_slL {p : Addr} {xs : List V} {lo hi : Option Int} (h : H p = some (.lst xs)) (q : ∀ p, H p = none → Q (.ref p) (upd H p (.lst (cutV xs lo hi)))) : rSlX K (.ref p) lo hi H Q := .inr ⟨_, _, rfl, SqL.of h, q⟩
theorem g_make {C : Addr} {sp : Sp} {E : XK} (h : TA1 σ H fun vs H1 => ∀ x dx, H1 x = none → H1 dx = none → dx ≠ x → sp (.ref x :: vs) (upd (upd H1 dx (.own x)) x (.ins C dx [])) (fun v H2 => v = .non ∧ Q (.ref x) H2) E) : tMake C sp [] E TA1 σ H Q := by
  show TA1 σ H fun vs H1 => ∀ x dx, H1 x = none → H1 dx = none → dx ≠ x → sp (.ref x :: (vs ++ [])) (upd (upd H1 dx (.own x)) x (.ins C dx [])) (fun v H2 => v = .non ∧ Q (.ref x) H2) E
  simp only [List.append_nil]
  exact h
def FldK (K : PySem.W.Frag) (f : Str) (x : V) (H : Hp) (Q : VK) : Prop := ∃ a C dx fs v, x = .ref a ∧ H a = some (.ins C dx fs) ∧ Cls K C ∧ NoAttr K C f ∧ fs.lookup f = some v ∧ Q v H
theorem g_fld {f : Str} (h : ta σ H fun x H1 => FldK K f x H1 Q) : tFld K ta f σ H Q := h
theorem v_fld {a C dx : Addr} {fs : List (Str × V)} {f : Str} (h : H a = some (.ins C dx fs)) (c : Cls K C) (n : NoAttr K C f) (l : fs.lookup f = some v) (q : Q v H) : FldK K f (.ref a) H Q := ⟨_, _, _, _, _, rfl, h, c, n, l, q⟩
def SfldK (K : PySem.W.Frag) (f : Str) (x y : V) (H : Hp) (S : Hp → Prop) : Prop := ∃ a C dx fs, x = .ref a ∧ H a = some (.ins C dx fs) ∧ Cls K C ∧ NoAttr K C f ∧ fs.length < 1000 ∧ S (upd H a (.ins C dx (putF f y fs)))
theorem g_sfld {tv : TE} {f : Str} (h : tv σ H fun y H1 => ta σ H1 fun x H2 => SfldK K f x y H2 (nx σ)) : sFld K ta tv f ⟨nx, rt, bk, ct⟩ σ H := h
theorem v_sfld {a C dx : Addr} {fs : List (Str × V)} {f : Str} {S : Hp → Prop} (h : H a = some (.ins C dx fs)) (c : Cls K C) (n : NoAttr K C f) (l : fs.length < 1000) (q : S (upd H a (.ins C dx (putF f y fs)))) :
    SfldK K f (.ref a) y H S := ⟨_, _, _, _, rfl, h, c, n, l, q⟩
theorem g_asgG (h : te σ H fun x H1 => g x σ H1 nx) : tAsg te g ⟨nx, rt, bk, ct⟩ σ H := h
theorem g_sub {S : L2.St → Hp → Prop} {to ti : TE} {ts : TSet} (h : to σ H fun o H1 => ti σ H1 fun i H2 => ts o i v H2 fun H3 => S σ H3) : gSub to ti ts v σ H S := h
theorem v_setL {p : Addr} {xs : List V} {n : Int} {j : Nat} {S : Hp → Prop} (h : H p = some (.lst xs)) (e : ixN xs.length n = some j) (q : S (upd H p (.lst (xs.set j v)))) : rSetL (.ref p) (.int n) v H S := ⟨_, _, _, _, rfl, rfl, h, e, q⟩
theorem g_gtup {S : L2.St → Hp → Prop} {n : Nat} {t : TGs} {a : Addr} {xs : List V} (h : H a = some (.tup xs)) (l : xs.length = n) (q : t xs σ H S) : gTup K n t (.ref a) σ H S := ⟨a, xs, rfl, SqT.of h, l, q⟩
theorem g_gcons {S : L2.St → Hp → Prop} {t : TG} {u : TGs} {r : List V} (h : t v σ H fun σ' H' => u r σ' H' S) : gCons t u (v :: r) σ H S := ⟨v, r, rfl, h⟩
theorem g_gnil {S : L2.St → Hp → Prop} (h : S σ H) : gNil [] σ H S := ⟨rfl, h⟩
theorem g_cut (Mid : L2.St → Hp → Prop) (h1 : t ⟨Mid, rt, bk, ct⟩ σ H) (h2 : ∀ σ' H', Mid σ' H' → u ⟨nx, rt, bk, ct⟩ σ' H') : C8.tCut t u ⟨nx, rt, bk, ct⟩ σ H := ⟨Mid, h1, h2⟩
theorem g_thr (h : t ⟨u ⟨nx, rt, bk, ct⟩, rt, bk, ct⟩ σ H) : C8.tCut t u ⟨nx, rt, bk, ct⟩ σ H := ⟨_, h, fun _ _ z => z⟩
theorem v_lenSq {p : Addr} {xs : List V} (h : SqL K H p xs) (q : Q (.int (xs.length : Int)) H) : rLen K [.ref p] H Q := ⟨_, _, rfl, .inl ⟨_, h, rfl⟩, q⟩
theorem v_ixSq {p : Addr} {xs : List V} {n : Int} (h : SqL K H p xs) (e : atI xs n = some v) (q : Q v H) : rIx K (.ref p) (.int n) H Q := .inl ⟨_, _, _, _, rfl, rfl, h, e, q⟩
theorem up_new {p a : Addr} {o u : HO} (h : H a = some u) (n : H p = none) : upd H p o a = some u := by rw [upd_ne (ne_of_none h n)]; exact h
theorem same_new {p : Addr} {o : HO} (n : H p = none) : Same H (upd H p o) := fun _ _ h => up_new h n
/-- all stays but what stands at d -/
def Sb (d : Addr) (H H' : Hp) : Prop := ∀ b o, b ≠ d → H b = some o → H' b = some o
theorem Sb.refl {d : Addr} : Sb d H H := fun _ _ _ h => h
theorem Sb.trans {d : Addr} {H1 H2 : Hp} (a : Sb d H H1) (b : Sb d H1 H2) : Sb d H H2 := fun c o n h => b c o n (a c o n h)
theorem Sb.upd {d : Addr} {o : HO} : Sb d H (L2.upd H d o) := fun b _ n h => by rw [upd_ne n]; exact h
theorem Same.sb {d : Addr} {H1 : Hp} (a : Same H H1) : Sb d H H1 := fun c o _ h => a c o h
theorem atN {α : Type} {xs : List α} {i : Nat} {x : α} {n : Int} (e : n = (i : Int)) (h : xs[i]? = some x) : atI xs n = some x := by rw [e]; exact atI_nat h
theorem iteNT {A B : Prop} (h : B) : if (!true) = true then A else B := by
  rw [if_neg (by decide)]
  exact h
theorem iteNF {A B : Prop} (h : A) : if (!false) = true then A else B := by
  rw [if_pos (by decide)]
  exact h
theorem g_meth {C : Addr} {m : Str} {sp : Sp} {E : L2.St → XK} (h : ta σ H fun x H1 => ∃ a dx fs, x = .ref a ∧ H1 a = some (.ins C dx fs) ∧ fs.lookup m = none ∧ TA1 σ H1 fun vs H2 => sp (x :: vs) H2 Q (E σ)) : tMethD C m sp [] E ta TA1 σ H Q := by
  show ta σ H fun x H1 => ∃ a dx fs, x = .ref a ∧ H1 a = some (.ins C dx fs) ∧ fs.lookup m = none ∧ TA1 σ H1 fun vs H2 => sp (x :: (vs ++ [])) H2 Q (E σ)
  simp only [List.append_nil]
  exact h
theorem v_find {a b : Str} (q : Q (.int (Txt.find a b)) H) : rFind (.str a) [.str b] H Q := ⟨_, _, rfl, rfl, q⟩
theorem v_listL {p : Addr} {ys : List V} (h : SqL K H p ys) (q : ∀ l, H l = none → Q (.ref l) (upd H l (.lst ys))) : rListX K [.ref p] H Q := .inl ⟨_, _, rfl, .inl h, q⟩
theorem v_listT {p : Addr} {ys : List V} (h : SqT K H p ys) (q : ∀ l, H l = none → Q (.ref l) (upd H l (.lst ys))) : rListX K [.ref p] H Q := .inl ⟨_, _, rfl, .inr h, q⟩
/-! comprehensions -/
def LcG (J : It) (g : TG) (tt : TT) (te : TE) (σ0 : L2.St) (vs : List Nat) (D : Addr) (H1 : Hp) (Qd : Hp → Prop) : Prop := ∃ W : Nat → Nat → Hp → Prop, (∃ m, W 0 m (upd H1 D (.lst []))) ∧ ∀ i m H, W i m H →
      (J.stop i H ∧ Qd H) ∨ (J.go i H ∧ ∃ Nx : Hp → Prop, (∀ H', Nx H' → ∃ m', m' < m ∧ W (i + 1) m' H') ∧ ∀ x H', J.yld i H x H' → g x (wipe σ0 vs) H' fun σ2 H2 => wipe σ2 vs = wipe σ0 vs ∧ tt σ2 H2 fun b H3 =>
        if b = true then te σ2 H3 fun y H4 => ∃ acc, H4 D = some (.lst acc) ∧ acc.length < sizeLine ∧ Nx (upd H4 D (.lst (acc ++ [y]))) else Nx H3)
theorem g_lc {vs : List Nat} {g : TG} (h : wi σ H fun J H1 => ∀ D, H1 D = none → LcG J g tt te σ vs D H1 (Q (.ref D))) : tLc wi g tt te vs σ H Q := h
/-- a comprehension's new item -/
def PutC (D : Addr) (y : V) (H4 : Hp) (S : Hp → Prop) : Prop := ∃ acc, H4 D = some (.lst acc) ∧ acc.length < sizeLine ∧ S (upd H4 D (.lst (acc ++ [y])))
theorem v_put {D : Addr} {acc : List V} {S : Hp → Prop} (h : H D = some (.lst acc)) (hl : acc.length < sizeLine) (q : S (upd H D (.lst (acc ++ [y])))) : PutC D y H S := ⟨acc, h, hl, q⟩
theorem c_range {lo : Int} {n : Nat} {g : TG} {vs : List Nat} {D : Addr} {Qd : Hp → Prop} (Pv : Nat → Hp → Prop) (h0 : Pv 0 (upd H D (.lst [])))
    (hs : ∀ i H, i < n → Pv i H → g (.int (lo + i)) (wipe σ vs) H fun σ2 H2 => wipe σ2 vs = wipe σ vs ∧ tt σ2 H2 fun b H3 => if b = true then te σ2 H3 fun y H4 => PutC D y H4 (Pv (i + 1)) else Pv (i + 1) H3) (hd : ∀ H, Pv n H → Qd H) : LcG (Itr lo n) g tt te σ vs D H Qd := lc_range Pv h0 hs hd
theorem c_list {a : Addr} {xs : List V} {g : TG} {vs : List Nat} {D : Addr} {Qd : Hp → Prop} (Pv : Nat → Hp → Prop) (h0 : Pv 0 (upd H D (.lst []))) (hl : ∀ i H, i ≤ xs.length → Pv i H → SqL K H a xs)
    (hs : ∀ i x H, xs[i]? = some x → Pv i H → g x (wipe σ vs) H fun σ2 H2 => wipe σ2 vs = wipe σ vs ∧ tt σ2 H2 fun b H3 => if b = true then te σ2 H3 fun y H4 => PutC D y H4 (Pv (i + 1)) else Pv (i + 1) H3) (hd : ∀ H, Pv xs.length H → Qd H) : LcG (Itl K a) g tt te σ vs D H Qd := lc_list Pv h0 hl hs hd
theorem c_tup {a : Addr} {xs : List V} {g : TG} {vs : List Nat} {D : Addr} {Qd : Hp → Prop} (Pv : Nat → Hp → Prop) (h0 : Pv 0 (upd H D (.lst []))) (hl : ∀ i H, i ≤ xs.length → Pv i H → SqT K H a xs)
    (hs : ∀ i x H, xs[i]? = some x → Pv i H → g x (wipe σ vs) H fun σ2 H2 => wipe σ2 vs = wipe σ vs ∧ tt σ2 H2 fun b H3 => if b = true then te σ2 H3 fun y H4 => PutC D y H4 (Pv (i + 1)) else Pv (i + 1) H3) (hd : ∀ H, Pv xs.length H → Qd H) : LcG (Itt K a) g tt te σ vs D H Qd := lc_tup Pv h0 hl hs hd
theorem g_yes {Q : Bool → Hp → Prop} (h : Q true H) : tYes σ H Q := h
theorem g_chain {tb' : TE} {r' : R2} (h : ta σ H fun x H1 => tb' σ H1 fun y H2 => r x y H2 fun z H3 => TestK z H3 fun k H3 => if k = true then tc σ H3 fun w' H4 => r' y w' H4 Q else Q (.bl false) H3) : tChain r r' ta tb' tc σ H Q := h
/-! isinstance of single values -/
def isI : V → Bool
  | .int _ => true
  | .bl _ => true
  | _ => false
def isS : V → Bool
  | .str _ => true
  | _ => false
def isB : V → Bool
  | .bl _ => true
  | _ => false
theorem isi_flat {c : String} {b : Bool} (h : match x with | .non => kitB "NoneType" c = some b | .bl _ => kitB "bool" c = some b | .int _ => kitB "int" c = some b | .str _ => kitB "str" c = some b | _ => False) (q : Q (.bl b) H) : rIsi K [x, .ty c] H Q := by
  cases x with
  | non => exact ⟨_, _, _, _, b, rfl, .ty c, .base .non, kit_ty h, q⟩
  | bl z => exact ⟨_, _, _, _, b, rfl, .ty c, .base (.bl z), kit_ty h, q⟩
  | int z => exact ⟨_, _, _, _, b, rfl, .ty c, .base (.int z), kit_ty h, q⟩
  | str z => exact ⟨_, _, _, _, b, rfl, .ty c, .base (.str z), kit_ty h, q⟩
  | _ => exact h.elim
theorem v_isiI (f : flatV x = true) (q : Q (.bl (isI x)) H) : rIsi K [x, .ty "int"] H Q := by
  refine isi_flat ?_ q
  cases x with
  | non => exact (by decide +kernel : kitB "NoneType" "int" = some false)
  | bl z => exact (by decide +kernel : kitB "bool" "int" = some true)
  | int z => exact (by decide +kernel : kitB "int" "int" = some true)
  | str z => exact (by decide +kernel : kitB "str" "int" = some false)
  | _ => exact absurd (show false = true from f) Bool.false_ne_true
theorem v_isiS (f : flatV x = true) (q : Q (.bl (isS x)) H) : rIsi K [x, .ty "str"] H Q := by
  refine isi_flat ?_ q
  cases x with
  | non => exact (by decide +kernel : kitB "NoneType" "str" = some false)
  | bl z => exact (by decide +kernel : kitB "bool" "str" = some false)
  | int z => exact (by decide +kernel : kitB "int" "str" = some false)
  | str z => exact (by decide +kernel : kitB "str" "str" = some true)
  | _ => exact absurd (show false = true from f) Bool.false_ne_true
theorem v_isiB (f : flatV x = true) (q : Q (.bl (isB x)) H) : rIsi K [x, .ty "bool"] H Q := by
  refine isi_flat ?_ q
  cases x with
  | non => exact (by decide +kernel : kitB "NoneType" "bool" = some false)
  | bl z => exact (by decide +kernel : kitB "bool" "bool" = some true)
  | int z => exact (by decide +kernel : kitB "int" "bool" = some false)
  | str z => exact (by decide +kernel : kitB "str" "bool" = some false)
  | _ => exact absurd (show false = true from f) Bool.false_ne_true
theorem v_isiL {p : Addr} {xs : List V} (h : H p = some (.lst xs)) (q : Q (.bl true) H) : rIsi K [.ref p, .ty "list"] H Q := ⟨_, _, _, _, true, rfl, .ty _, .base (.lst h), kit_ty (by decide +kernel), q⟩
theorem v_isiO {p C C' dx : Addr} {fs : List (Str × V)} {b : Bool} (h : H p = some (.ins C dx fs)) (cl : Cls K C) (f : InsF K C) (k : PySem.W.kitOne K (.ref C) (.ref C') = some b) (q : Q (.bl b) H) : rIsi K [.ref p, .ref C'] H Q :=
  ⟨_, _, _, _, b, rfl, .own C', .base (.ins h cl f.ha f.hn f.htk f.hm), k, q⟩
theorem v_isiOT {p C dx : Addr} {fs : List (Str × V)} {b : Bool} {c : String} (h : H p = some (.ins C dx fs)) (cl : Cls K C) (f : InsF K C) (k : PySem.W.kitOne K (.ref C) (.type c) = some b) (q : Q (.bl b) H) : rIsi K [.ref p, .ty c] H Q :=
  ⟨_, _, _, _, b, rfl, .ty c, .base (.ins h cl f.ha f.hn f.htk f.hm), k, q⟩
def MethK (C : Addr) (m : Str) (x : V) (H1 : Hp) (S : Hp → Prop) : Prop := ∃ a dx fs, x = .ref a ∧ H1 a = some (.ins C dx fs) ∧ fs.lookup m = none ∧ S H1
theorem g_meth1 {C : Addr} {m : Str} {sp : Sp} {E : L2.St → XK} (h : ta σ H fun x H1 => MethK C m x H1 fun H1 => TA1 σ H1 fun vs H2 => sp (x :: vs) H2 Q (E σ)) : tMethD C m sp [] E ta TA1 σ H Q := g_meth h
theorem v_meth {C a dx : Addr} {m : Str} {fs : List (Str × V)} {S : Hp → Prop} (h : H a = some (.ins C dx fs)) (l : fs.lookup m = none) (q : S H) : MethK C m (.ref a) H S := ⟨_, _, _, rfl, h, l, q⟩
theorem g_orL {te' : TE} (h : te σ H Q) : tEor te te' σ H Q := .inl h
theorem g_orR {te' : TE} (h : te' σ H Q) : tEor te te' σ H Q := .inr h
theorem g_lstRg {a b : TE} (h : a σ H fun x H1 => b σ H1 fun y H2 => ∃ i j, x = .int i ∧ y = .int j ∧ RgOk i j ∧ ∀ q, H2 q = none → Q (.ref q) (upd H2 q (.lst (rgV i j)))) : tLstRg (tRg2 a b) σ H Q := h
theorem ite_same {c A : Prop} [Decidable c] (h : A) : if c then A else A := by
  split <;> exact h
end
end G

/-! an own exception over own classes over ValueError, whose __init__ says super().__init__(f'{..}: {..}') and keeps its two values -/
namespace PySem
namespace FaX
open PySem.W PySem.Calls PyProof.Rows PySem.HandSPX
def fA : Arguments := { posonlyargs := [], args := [{ arg := "self", annotation := none, pos := ⟨6, 17, 6, 21⟩ }, { arg := "place", annotation := none, pos := ⟨6, 23, 6, 28⟩ }, { arg := "reason", annotation := none, pos := ⟨6, 30, 6, 36⟩ }], vararg := none, kwonlyargs := [], kw_defaults := [], kwarg := none, defaults := [] }
def fB : List Stmt := [
  .Expr (.Call (.Attribute (.Call (.Name "super" ⟨7, 8, 7, 13⟩) [] [] ⟨7, 8, 7, 15⟩) "__init__" ⟨7, 8, 7, 24⟩) [.JoinedStr [.FormattedValue (.Name "place" ⟨7, 28, 7, 33⟩) (-1) none ⟨7, 27, 7, 34⟩, .Constant (.str ": ") 0 ⟨7, 34, 7, 36⟩, .FormattedValue (.Name "reason" ⟨7, 37, 7, 43⟩) (-1) none ⟨7, 36, 7, 44⟩] ⟨7, 25, 7, 45⟩] [] ⟨7, 8, 7, 46⟩) ⟨7, 8, 7, 46⟩,
  .Assign [.Attribute (.Name "self" ⟨8, 8, 8, 12⟩) "place" ⟨8, 8, 8, 18⟩] (.Name "place" ⟨8, 21, 8, 26⟩) ⟨8, 8, 8, 26⟩,
  .Assign [.Attribute (.Name "self" ⟨9, 8, 9, 12⟩) "reason" ⟨9, 8, 9, 19⟩] (.Name "reason" ⟨9, 22, 9, 28⟩) ⟨9, 8, 9, 28⟩]
def fS : Scope := { kind := .function, names := [(PySem.Str.ofString "self", .local), (PySem.Str.ofString "place", .local), (PySem.Str.ofString "reason", .local), (PySem.Str.ofString "__class__", .free), (PySem.Str.ofString "super", .globalImplicit)], isGenerator := false, isCoroutine := false, more := [] }
/-- what the written part says of Fault, at C, and of its __init__, at fI -/
structure FaTxt (P : Program) (K : Frag) (mg : Str → Option Value) (C fI : Addr) : Prop where
  gC : mg "Fault" = some (.ref C)
  gS : mg "super" = none
  ini : excInitIn K C He.veBase "ValueError.__new__" = true
  cd : ∃ cd, clsIn K C = some cd ∧ refsVE cd.mro = true ∧ cd.hasDict = true
  sa : findIn K (.ref C) "__setattr__" = some (some (.builtin "object.__setattr__"))
  ga : findIn K (.ref C) "__getattribute__" = some (some (.builtin "BaseException.__getattribute__"))
  gg : findIn K (.ref C) "__getattr__" = some none
  noP : findIn K (.ref C) "place" = some none
  noR : findIn K (.ref C) "reason" = some none
  iC : findIn K (.ref C) "__init__" = some (some (.ref fI))
  tC : typeIn K (.ref fI) = some (.type "function")
  kC : keepIn K (.ref C) = true
  exC : subIn K (.ref C) (.type "BaseException") = some true
  vB : subIn K (.ref C) (.type "ValueError") = some true
  tyC : typeIn K (.ref C) = some (.type "type")
  hdC : hasDictIn K C = true
  te : exmOne K (.ref C) (.ref C) = some true
  sup : ks_superIn K C C "__init__" = some (some (.builtin "ValueError.__init__"))
  self : mroIn K C (.ref C) = some true
  opq : nsIn K cStatics "thirdparty.any" = some none
  top : (P.main.scope.names.lookup ("super" : Str)).isSome = false
  fn : ∃ (oc : Value) (od : Option Addr) (doc pm : Value) (an : Option Addr) (cda : Addr) (ct : Value) (osl : Array (Option Value)) (cc : Addr) (cdo : Obj) (vs : Array Value) (tf : Tok) (co : Obj),
    K.lookup fI = some ⟨oc, od, .func (ksFn "__init__" "Fault.__init__" fA fB fS .none .none doc pm an (.ref cda) ct cc), osl⟩ ∧ codeIn K (.ref cda) "Fault.__init__" = true ∧
    K.lookup cda = some cdo ∧ cdo.data = .fields vs ∧ vs[2]? = some (.str P.main.file tf) ∧ K.lookup cc = some co ∧ co.data = .cell (some (.ref C))
/-- what __init__ leaves of a fresh exception at x -/
structure InitEnd (h h' : Heap) (x C dx t1 : Addr) (v u : Value) : Prop where
  keep : ∀ b o, b ≠ x → h.get? b = some o → h'.get? b = some o
  obj : h'.get? x = some { cls := .ref C, dict := some dx, data := .fields #[.ref t1, .none, .none, .none, .bool false, .none] }
  dbig : h.objs.size ≤ dx
  dne : dx ≠ x
  ns : h'.Ns1 dx (fun y => if y = "reason" then some u else if y = "place" then some v else none)
section
variable {prog : Program} {w : World} {A : Around} {E : Value → Shared → Prop} {R : Result → Shared → Prop} {s : Shared} {K : Frag} {mg mb : Str → Option Value} {C fI : Addr}
theorem ldK {M : Model} {s : Shared} {name : Str} {scope : Scope} {L a cc : Addr} {cd : Value} {m : Str → Option Value} {x : Str} {pos : Pos} {v : Value} {Q : Value → Shared → Prop} {A : Around} {E : Value → Shared → Prop} (hn : s.heap.Ns L m) (hv : m x = some v) (h : Q v s)
    (hk : scope.kind = .function := by rfl) (hl : (ksEnv name scope L a cd cc).kindOf x = some .local := by rfl) (hd : (x == ("__debug__" : Str)) = false := by decide) :
    wpAny M A (eval (.Name x pos) (ksEnv name scope L a cd cc)) Q E s := wpAny_Name (wpAny_loadName_local hk hl hn hv h) hd
theorem fault_init (T : FaTxt prog K mg C fI) {x t0 : Addr} {i : Int} {r : Str} {ti tr : Tok} (X : K.In s.heap) (hlim : s.heap.NoLimit) (hG : s.heap.Ns mainGlobals mg) (hB : s.heap.Ns builtinsNs mb) (hmb : mb "super" = some (.type "super"))
    (hx : s.heap.get? x = some (excO C t0)) (hnx : K.lookup x = none) (hroom : A.depth < recursionLimit) (hi : i.natAbs.log2 < 1920) (hr : r.length ≤ 1000) (hj : (Str.empty ++ toString i ++ ": " ++ r : Str).length ≤ sizeLine)
    (hq : ∀ h' tk dx t1, InitEnd s.heap h' x C dx t1 (.int i ti) (.str r tr) → R (.ok (.ret .none)) { s with heap := h', toks := tk }) :
    codeAny (model prog w) A (.call (.ref fI) ⟨[.ref x, .int i ti, .str r tr], []⟩) R s := by
  obtain ⟨oc, od, doc, pm, an, cda, ct, osl, cc, cdo, vs, tf, co, ho, hcd, hcda, hcdd, hvs, hcc, hccd⟩ := T.fn
  obtain ⟨cd, hcl, hbm, hhd⟩ := T.cd
  have hxL : s.heap.objs.size ≠ x := Nat.ne_of_gt (Heap.lt_size hx)
  refine ks_codeAny_call_defAt (fd := ksFn "__init__" "Fault.__init__" fA fB fS .none .none doc pm an (.ref cda) ct cc) (body := fB) (binds := [("self", .ref x), ("place", .int i ti), ("reason", .str r tr)]) hroom (X _ _ ho) rfl hlim (codeRec_of X hcd) rfl
    (BindsTo.of_eq (by first | rfl | with_unfolding_all rfl)) (by show ∀ x ∈ fS.names, x.2 ≠ .cell; decide) (by show ∀ y ∈ ([("self", .ref x), ("place", .int i ti), ("reason", .str r tr)] : List (Str × Value)), fS.names.lookup y.1 = some .local; intro y hy; simp only [List.mem_cons, List.not_mem_nil, or_false] at hy; rcases hy with rfl | rfl | rfl <;> rfl) (fun h₁ hn k1 => ?_)
  have X1 : K.In h₁ := X.keeps k1
  show wpAt (model prog w) (A.deeper (ksEnv "Fault.__init__" fS s.heap.objs.size fI (.ref cda) cc)) (.func fB (ksEnv "Fault.__init__" fS s.heap.objs.size fI (.ref cda) cc)) (execs fB (ksEnv "Fault.__init__" fS s.heap.objs.size fI (.ref cda) cc)) _ _ _
  unfold fB
  refine ks_wpAt_execs_cons (ks_wpAt_Expr_any (ks_wpAt_MethodCall ?_))
  refine ks_wpAt_super_base (ar := { arg := "self", annotation := none, pos := ⟨6, 17, 6, 21⟩ }) rfl rfl (by decide) rfl (X1 _ _ ho) rfl rfl rfl (X1 _ _ hcda) hcdd hvs (by simp) T.top ?_
  obtain ⟨oD, hD1, hD2⟩ : ∃ oD, h₁.get? C = some oD ∧ oD.data = .cls cd := by
    have hD := hcl
    unfold clsIn at hD
    split at hD
    · rename_i c d cd' sl ho
      cases hD
      exact ⟨_, X1 _ _ ho, rfl⟩
    · cases hD
  refine ks_loadName_global rfl rfl (loadGlobal_builtin (hG.keeps k1) T.gS (hB.keeps k1) hmb ⟨rfl, ?_⟩)
  refine wpAny_loadName_free (c := cc) rfl rfl rfl ⟨_, X1 _ _ hcc, hccd⟩ ?_
  refine wpAny_loadName_local rfl rfl hn (v := .ref x) (by first | rfl | with_unfolding_all rfl | kernel_rfl) ?_
  refine ks_wpAny_isType_cls hD1 hD2 ⟨rfl, ?_⟩
  have hx1 : h₁.get? x = some (excO C t0) := k1 _ _ hx
  refine ks_wpAny_call_super hD1 hD2 hx1 rfl (fun c e => by cases e) (looks_mroIn X1 T.self) (fun h2 e2 k2 => ?_)
  have X2 : K.In h2 := X1.keeps k2
  have hx2 : h2.get? x = some (excO C t0) := k2 _ _ hx1
  have hC2 : Looks (model prog w) h2 (mroOf (.ref C)) cd.mro := fun A Q E s k q => wpAny_bind ((looks_clsIn X2 hcl) A _ E s k (wpAny_pure q))
  have hxC : x ≠ C := fun e => by
    rw [e, hD1] at hx1
    cases hx1
    cases hD2
  have I2 : InstAt h2 x (excO C t0) C none := ⟨hx2, rfl, rfl, trivial⟩
  have hsup : alongIn K "__init__" ((cd.mro.dropWhile (· != .ref C)).drop 1) = some (some (.builtin "ValueError.__init__")) := by
    have h := T.sup
    unfold ks_superIn at h
    rw [hcl] at h
    exact h
  refine kxs_getMethod kxs_ValueError e2 (looks_opaque X2 T.opq) hC2 rfl X2 hsup (I2.type.andThen (looks_subIn X2 T.vB)) hxC (by decide) ?_
  obtain ⟨u, hu⟩ : ∃ u, u = h2.objs.size := ⟨_, rfl⟩
  obtain ⟨h3, eh3⟩ : ∃ h3, h3 = h2.push (kxs_mw "ValueError.__init__" x) := ⟨_, rfl⟩
  have k3 : ∀ b o, h2.get? b = some o → h3.get? b = some o := fun b o e => by rw [eh3]; exact Heap.get?_push_of_some _ e
  have hu3 : h3.get? u = some (kxs_mw "ValueError.__init__" x) := by rw [eh3, hu]; exact Heap.get?_push_at rfl rfl
  rw [← hu, ← eh3]
  show wpAny _ _ (callWith _ (.ref u) [] (backTo _ (starEach [_] _)) []) _ _ _
  refine kxs_callWith (i := "ValueError.__init__") (x := x) rfl (evalArgs_plain ?_)
  have k03 : ∀ b o, s.heap.get? b = some o → h3.get? b = some o := fun b o e => k3 _ _ (k2 _ _ (k1 _ _ e))
  have m1 : (fun y => List.lookup y (List.reverse [(("self" : Str), Value.ref x), ("place", .int i ti), ("reason", .str r tr)])) "self" = some (.ref x) := by first | rfl | with_unfolding_all rfl | kernel_rfl
  have m2 : (fun y => List.lookup y (List.reverse [(("self" : Str), Value.ref x), ("place", .int i ti), ("reason", .str r tr)])) "place" = some (.int i ti) := by first | rfl | with_unfolding_all rfl | kernel_rfl
  have m3 : (fun y => List.lookup y (List.reverse [(("self" : Str), Value.ref x), ("place", .int i ti), ("reason", .str r tr)])) "reason" = some (.str r tr) := by first | rfl | with_unfolding_all rfl | kernel_rfl
  generalize (fun y => List.lookup y (List.reverse [(("self" : Str), Value.ref x), ("place", .int i ti), ("reason", .str r tr)])) = m at hn m1 m2 m3
  have n3 : h3.Ns s.heap.objs.size m := hn.keeps fun b o e => k3 _ _ (k2 _ _ e)
  have la : ∀ x y : Str, (x ++ y).length = x.length + y.length := fun x y => by
    show (x.cps ++ y.cps).size = _
    rw [Array.size_append]
    rfl
  have hj' := hj
  rw [la, la, la] at hj'
  have hx3 : h3.get? x = some (excO C t0) := k3 _ _ hx2
  have L3 : s.heap.objs.size < h3.objs.size := by
    obtain ⟨o, es, ep, e, _⟩ := n3
    exact Heap.lt_size e
  refine spliced_cons (wpAny_JoinedStr (pos := ⟨7, 25, 7, 45⟩) ?_)
  -- the call of the wrapper, whatever the text
  have rest : ∀ (z : Value) (t4 : Nat), wpAny (model prog w) (A.deeper (ksEnv "Fault.__init__" fS s.heap.objs.size fI (.ref cda) cc)) (call (.ref u) [z]) (fun _ s' => wpAt (model prog w) (A.deeper (ksEnv "Fault.__init__" fS s.heap.objs.size fI (.ref cda) cc)) (.func fB (ksEnv "Fault.__init__" fS s.heap.objs.size fI (.ref cda) cc))
      (execs [.Assign [.Attribute (.Name "self" ⟨8, 8, 8, 12⟩) "place" ⟨8, 8, 8, 18⟩] (.Name "place" ⟨8, 21, 8, 26⟩) ⟨8, 8, 8, 26⟩, .Assign [.Attribute (.Name "self" ⟨9, 8, 9, 12⟩) "reason" ⟨9, 8, 9, 19⟩] (.Name "reason" ⟨9, 22, 9, 28⟩) ⟨9, 8, 9, 28⟩] (ksEnv "Fault.__init__" fS s.heap.objs.size fI (.ref cda) cc))
      (fun f s' => R (.ok (.ret (match f with | .ret v => v | _ => .none))) s')
      (fun e s' => wpAny (model prog w) (A.deeper (ksEnv "Fault.__init__" fS s.heap.objs.size fI (.ref cda) cc)) (leaving (ksEnv "Fault.__init__" fS s.heap.objs.size fI (.ref cda) cc) e) (fun _ s'' => R (.error e) s'') (fun e' s'' => R (.error e') s'') s') s')
      (fun e s' => wpAny (model prog w) (A.deeper (ksEnv "Fault.__init__" fS s.heap.objs.size fI (.ref cda) cc)) (leaving (ksEnv "Fault.__init__" fS s.heap.objs.size fI (.ref cda) cc) e) (fun _ s'' => R (.error e) s'') (fun e' s'' => R (.error e') s'') s') { s with heap := h3, toks := t4 } := by
    intro z t4
    obtain ⟨nm, N', qn, bs, bm, hdct, sn, sub, ab, col, dd, c0, c1, c2, c3, c5, hC, hT⟩ := excInit_of (X2.keeps k3) T.ini
    obtain ⟨hp0, g, dr, tk0, os⟩ := s
    refine wpAny_call (codeAny_of_tree ?_)
    show wpAny _ _ (callAny (.ref u) ⟨[z], []⟩) _ _ _
    simp only [callAny]
    refine wpAny_bind (wpAny_load hu3 ?_)
    simp only [kxs_mw, show (Value.type "method-wrapper" == Value.type "method" || Value.type "method-wrapper" == Value.type "builtin_function_or_method" || Value.type "method-wrapper" == Value.type "method-wrapper") = true by decide, if_true]
    refine KFB.if_so (by decide) ?_
    refine wpAny_bind (check_bound_init F.excBase_ValueError.toExcCallFacts hC hx3 rfl ?_)
    refine wpAny_bind (wpAny_pure (wpAny_pure ?_))
    refine ⟨plainId_quiet F.excBase_ValueError.init.plain _, codeAny_builtin F.excBase_ValueError.initEntry ?_⟩
    refine exc_init_tree (cls := .ref C) (t0 := t0) (dv := none) (c2 := .none) (c3 := .none) (b4 := .bool false) hx3 (by rw [sizeLine_eq]; show 1 ≤ 16777216; decide) fun h4 k4 hx4 ht4 => ?_
    have n4 : h4.Ns hp0.objs.size m := by
      obtain ⟨oL, es, ep, hL, r⟩ := n3
      exact ⟨oL, es, ep, k4 _ _ hxL hL, r⟩
    have L4 : hp0.objs.size < h4.objs.size := by
      obtain ⟨o, es, ep, e, _⟩ := n4
      exact Heap.lt_size e
    have kb : ∀ {h h' : Heap}, K.In h → (∀ b o, b ≠ x → h.get? b = some o → h'.get? b = some o) → K.In h' := fun X k a o e => k a o (fun z => by rw [z, hnx] at e; cases e) (X a o e)
    have X4 : K.In h4 := kb (X2.keeps k3) k4
    refine wpAt_of_wpAny (wpAny_execs_cons (plainObj_wpAny_Assign_Attribute ?_))
    refine ldK n4 m2 (ldK n4 m1 ?_)
    refine set_plain X4 (ox := { cls := .ref C, dict := none, data := .fields #[.ref h3.objs.size, .none, .none, .none, .bool false, .none] }) (od := none) ⟨hx4, rfl, rfl, trivial⟩ T.sa ?_
    refine exc_osa X4 hx4 hcl hbm hhd T.noP (fun h5 tk5 dx k5 dn dne hx5 hn5 => ?_)
    have X5 : K.In h5 := kb X4 k5
    have dn' : h4.objs.size ≤ dx := dn
    have n5 : h5.Ns hp0.objs.size m := by
      obtain ⟨oL, es, ep, hL, r⟩ := n4
      exact ⟨oL, es, ep, k5 _ _ hxL hL, r⟩
    refine wpAny_execs_cons (plainObj_wpAny_Assign_Attribute ?_)
    refine ldK n5 m3 (ldK n5 m1 ?_)
    have hw5 : Within (fun y : Str => if y = "place" then some (Value.int i ti) else none) ["place"] := fun y hy => by
      by_cases e : y = "place"
      · rw [e]; exact List.mem_cons_self
      · exact absurd (if_neg e) hy
    obtain ⟨oD5, es5, ep5, hoD5, hdD5, _⟩ := hn5.count hw5
    refine set_plain X5 (ox := { cls := .ref C, dict := some dx, data := .fields #[.ref h3.objs.size, .none, .none, .none, .bool false, .none] }) (od := some oD5) ⟨hx5, rfl, rfl, hoD5⟩ T.sa ?_
    refine OEX.osa_old X5 hx5 hn5 hw5 (by decide) hcl hbm hhd T.noR (fun h6 tk6 k6 hn6 => ?_)
    refine wpAny_execs_nil ?_
    refine hq h6 tk6 dx h3.objs.size ⟨fun b o hb e => ?_, k6 _ _ (Ne.symm dne) hx5, by show hp0.objs.size ≤ dx; omega, dne, hn6⟩
    have lt : b < hp0.objs.size := Heap.lt_size e
    exact k6 _ _ (Nat.ne_of_lt (Nat.lt_of_lt_of_le (Nat.lt_trans lt L4) dn')) (k5 _ _ hb (k4 _ _ hb (k03 _ _ e)))
  refine wpAny_FormattedValue_plain (ldK n3 m2 (wpAny_formatField_int hi ?_))
  refine ⟨toString i, _, rfl, by rw [la]; omega, ?_⟩
  refine Constant_str ?_
  refine ⟨": ", _, rfl, by rw [la, la]; omega, ?_⟩
  refine wpAny_FormattedValue_plain (ldK n3 m3 (wpAny_formatField_str ?_ ?_ (by rw [sizeLine_eq]; omega)))
  · refine ⟨r, _, rfl, hj, ?_⟩
    refine ⟨hj, ?_⟩
    refine spliced_nil ⟨hu3, ?_⟩
    exact rest _ _
  · refine ⟨r, _, rfl, hj, ?_⟩
    refine ⟨hj, ?_⟩
    refine spliced_nil ⟨hu3, ?_⟩
    exact rest _ _
end
end FaX
end PySem

namespace PySem
namespace FaX
open PySem.W PySem.Calls PyProof.Rows PySem.HandSPX
/-- a made Fault -/
structure Made (h h' : Heap) (e C d : Addr) (v u : Value) : Prop where
  keep : ∀ b o, h.get? b = some o → h'.get? b = some o
  new : h.objs.size ≤ e
  obj : ∃ oe vs, h'.get? e = some oe ∧ oe.cls = .ref C ∧ oe.dict = some d ∧ oe.data = .fields vs ∧ vs[1]? = some .none
  dbig : h.objs.size ≤ d
  dne : d ≠ e
  ns : h'.Ns1 d (fun y => if y = "reason" then some u else if y = "place" then some v else none)
section
variable {prog : Program} {w : World} {A : Around} {E : Value → Shared → Prop} {R : Result → Shared → Prop} {s : Shared} {K : Frag} {mg mb : Str → Option Value} {C fI : Addr}
theorem fault_made (T : FaTxt prog K mg C fI) {i : Int} {r : Str} {ti tr : Tok} (X : K.In s.heap) (hlim : s.heap.NoLimit) (hG : s.heap.Ns mainGlobals mg) (hB : s.heap.Ns builtinsNs mb) (hmb : mb "super" = some (.type "super"))
    (hroom : A.depth + 1 < recursionLimit) (hi : i.natAbs.log2 < 1920) (hr : r.length ≤ 1000) (hj : (Str.empty ++ toString i ++ ": " ++ r : Str).length ≤ sizeLine)
    (hq : ∀ h' tk e d, Made s.heap h' e C d (.int i ti) (.str r tr) → R (.ok (.ret (.ref e))) { s with heap := h', toks := tk }) :
    codeAny (model prog w) A (.call (.ref C) ⟨[.int i ti, .str r tr], []⟩) R s := by
  obtain ⟨nm, N', qn, bs, bm, hdct, sn, sub, ab, col, dd, c0, c1, c2, c3, c5, hC, hT⟩ := excInit_of X T.ini
  obtain ⟨hp, g, dr, tk, os⟩ := s
  have k : ∀ b o, hp.get? b = some o → ((hp.push (kdv_tup [.int i ti, .str r tr])).push (excO C hp.objs.size)).get? b = some o := fun b o e => Heap.get?_push_of_some _ (Heap.get?_push_of_some _ e)
  have hget : ((hp.push (kdv_tup [.int i ti, .str r tr])).push (excO C hp.objs.size)).get? (hp.objs.size + 1) = some (excO C hp.objs.size) := by heap_get
  have hnx : K.lookup (hp.objs.size + 1) = none := by
    cases e : K.lookup (hp.objs.size + 1) with
    | none => rfl
    | some o =>
      have z : hp.get? (hp.objs.size + 1) = some o := X _ _ e
      exact absurd (Nat.lt_of_succ_lt (Heap.lt_size z)) (Nat.lt_irrefl _)
  refine call_own F.excBase_ValueError hT hC (looks_findIn X T.iC) (fun self => bind_fn X self T.tC) (by rw [sizeLine_eq]; show 2 ≤ 16777216; decide) ?_
  refine fault_init (s := ⟨(hp.push (kdv_tup [.int i ti, .str r tr])).push (excO C hp.objs.size), g, dr, tk, os⟩) T (X.keeps k) (hlim.keeps k) (hG.keeps k) (hB.keeps k) hmb hget hnx ?_ hi hr hj fun h' tk' dx t1 ⟨k', hx, dn, dne, hns⟩ => ?_
  · show A.depth + 1 < recursionLimit
    exact hroom
  · have old : ∀ b o, hp.get? b = some o → h'.get? b = some o := fun b o e => k' b o (Nat.ne_of_lt (Nat.lt_succ_of_lt (Heap.lt_size e))) (k b o e)
    have z : hp.objs.size + 1 + 1 ≤ dx := by
      first
        | (simpa only [Heap.size_push] using dn)
        | exact dn
        | (have q := dn; rw [Heap.size_push, Heap.size_push] at q; exact q)
    exact ⟨rfl, hq h' tk' (hp.objs.size + 1) dx ⟨old, Nat.le_succ _, ⟨_, _, hx, rfl, rfl, rfl, rfl⟩, Nat.le_trans (Nat.le_trans (Nat.le_succ _) (Nat.le_succ _)) z, dne, hns⟩⟩
end
end FaX
end PySem
namespace L2
open PySem PySem.Spec PyProof.Rows
def faD (i : Int) (r : Str) : List (Str × V) := [("reason", .str r), ("place", .int i)]
theorem relO_fault {v u : V} {v' u' : Value} (r : RelV v v') (r2 : RelV u u') (f : Str) : RelO (List.lookup f [(("reason" : Str), u), ("place", v)]) (if f = "reason" then some u' else if f = "place" then some v' else none) := by
  rw [lookup_put, lookup_put]
  by_cases h : f = "reason"
  · rw [if_pos h, if_pos h]
    exact r2
  · rw [if_neg h, if_neg h]
    by_cases h2 : f = "place"
    · rw [if_pos h2, if_pos h2]
      exact r
    · rw [if_neg h2, if_neg h2]
      exact True.intro
section
variable {X : Cx} {C fI : Addr}
/-- Fault(a, b) -/
def tMkF (C : Addr) (ta : TA) : St → Hp → XK → Prop := fun σ H Q => ta σ H fun vs H1 => ∃ (i : Int) (r : Str), vs = [.int i, .str r] ∧ i.natAbs < 1000000000 ∧ r.length ≤ 1000 ∧ ∀ d, H1 d = none → Q (.ref C) (some d) (upd H1 d (.xd (faD i r)))
theorem pmk_fault {a b : Expr} {ta : TA} {p pos : Pos} {k : Nat} (T : PySem.FaX.FaTxt X.prog X.K X.mg C fI) (hr : Room k X.A) (hk : 1 ≤ k) (ha : PA X [a, b] ta) (hg : Gl X "Fault" := by rfl)
    (he : starEach (a :: [b]) X.env = (false, eval a X.env) :: starEach [b] X.env := by rfl) (hpl : (backTo pos (starEach [b] X.env)).any (·.1) = false := by rfl) :
    PMk X (.Call (.Name "Fault" p) [a, b] [] pos) (tMkF C ta) := by
  intro pins s σ H Q I h
  refine wpAny_Call_Name_kw (ld_glob I hg T.gC ?_)
  refine PySem.W.callWith_K (h₀ := X.base) I.ok.mod.kin T.kC (thn (ha.run pos pins s σ H _ I h) fun us s1 hh => ?_) he hpl
  obtain ⟨vs, H1, I1, r1, i, r, ev, hi, hrl, q1⟩ := hh
  subst ev
  refine ⟨I1.kIn, ?_⟩
  cases r1 with
  | cons rv rn =>
    rename_i v' us'
    cases rn with
    | cons ru rn =>
      rename_i u' us'
      cases rn
      obtain ⟨ti, rfl⟩ := id rv
      obtain ⟨tr, rfl⟩ := id ru
      show wpAny _ _ (call (.ref C) [.int i ti, .str r tr]) _ _ _
      have hlim := I1.nolimit
      have hlog : i.natAbs.log2 < 1920 := by
        have e : i.natAbs.log2 < 30 := by
          by_cases z : i.natAbs = 0
          · rw [z]; decide
          · exact (Nat.log2_lt z).mpr (Nat.lt_trans hi (by decide))
        omega
      have la : ∀ x y : Str, (x ++ y).length = x.length + y.length := fun x y => by
        show (x.cps ++ y.cps).size = _
        rw [Array.size_append]
        rfl
      have hj : (Str.empty ++ toString i ++ ": " ++ r : Str).length ≤ sizeLine := by
        have e := int_text_length_le (k := 1920) (by decide) hlog
        rw [la, la, la, PySem.ofString_length (toString i), sizeLine_eq]
        show 0 + _ + 2 + _ ≤ 16777216
        omega
      obtain ⟨mb, hmb1, hmb2⟩ := I1.ok.mod.blt
      obtain ⟨hp, g, dr, tk, os⟩ := s1
      refine wpAny_call (PySem.FaX.fault_made T I1.kIn hlim (I1.ok.mod.glob.keeps I1.bk) (hmb1.keeps I1.bk) ((hmb2 "super" (by decide)).trans (by first | rfl | decide +kernel | kernel_rfl)) (by have := hr.dp; omega) hlog hrl hj fun h' tk' e d M => ?_)
      show MkP X pins σ Q (.ref e) ⟨h', g, dr, tk', os⟩
      obtain ⟨oe, fv, hoe, hc, hd, hdat, h1⟩ := M.obj
      have hns := M.ns
      obtain ⟨G', g1, g2⟩ := restrict h' fun b => decide (b ≠ e)
      have gk : ∀ b, b ≠ e → G'.get? b = h'.get? b := fun b hb => g1 b (decide_eq_true hb)
      have ge : G'.get? e = none := g2 e (by simp)
      have old : ∀ b o, hp.get? b = some o → G'.get? b = some o := fun b o q => (gk b (Nat.ne_of_lt (Nat.lt_of_lt_of_le (Heap.lt_size q) M.new))).trans (M.keep b o q)
      have ob : ObjOk X.prog X.w (upd H1 d (.xd (faD i r))) G' d (.xd (faD i r)) :=
        ⟨_, hns.at (fun o q => (gk d M.dne).trans q), fun f => relO_fault (v := .int i) (u := .str r) rv ru f⟩
      have J : Inv X pins σ (upd H1 d (.xd (faD i r))) ⟨G', g, dr, tk', os⟩ := I1.laid (t' := tk') old M.dbig ob
      refine ⟨e, oe, fv, ⟨G', g, dr, tk', os⟩, _, .ref C, some d, rfl, J, fun b o q => ?_, ge, hoe, ⟨hc, hd⟩, hdat, h1, ?_, rfl, I1.bare, raises_own T.exC T.tyC, q1 d (I1.hok.fresh M.dbig)⟩
      · by_cases hb : b = e
        · have q' : G'.get? b = some o := q
          rw [hb, ge] at q'; cases q'
        · exact (gk b hb).symm.trans q
      · rw [upd_ne (Ne.symm M.dne)]
        exact I1.hok.fresh M.new
end
end L2
namespace G
open PySem PySem.W PyProof.Rows
/-! ### the head's facts of a class Fault -/
abbrev FnC := Option (Str × Str × Arguments × FuncBody × Scope × Addr × List Str × Addr)
def fnC (K : Frag) (p : Str × Option Str) : FnC := match K.lookup (He.fAd K p) with
  | some ⟨_, _, .func fd, _⟩ => some (fd.name, fd.qualname, fd.params, fd.body, fd.scope, fd.globals, fd.closure.map (·.1), fd.builtins)
  | _ => none
def fnF : FnC := some ("__init__", "Fault.__init__", FaX.fA, .stmts FaX.fB, FaX.fS, mainGlobals, ["__class__"], builtinsNs)
def isNo : Value → Bool
  | .none => true
  | _ => false
theorem isNo_ok {v : Value} (h : isNo v = true) : v = .none := by cases v <;> first | rfl | cases h
def cellB (K : Frag) (cc C : Addr) : Bool := match K.lookup cc with
  | some co => (match co.data with
    | .cell (some (.ref a)) => decide (a = C)
    | _ => false)
  | none => false
theorem cellB_ok {K : Frag} {cc C : Addr} (h : cellB K cc C = true) : ∃ co, K.lookup cc = some co ∧ co.data = .cell (some (.ref C)) := by
  unfold cellB at h
  split at h
  · rename_i co e
    split at h
    · rename_i a e2
      exact ⟨co, e, by rw [e2, of_decide_eq_true h]⟩
    · cases h
  · cases h
def fileB (K : Frag) (cda : Addr) (file : Str) : Bool := match K.lookup cda with
  | some co => (match co.data with
    | .fields vs => (match (vs[2]? : Option Value) with
      | some (Value.str f _) => decide (f = file)
      | _ => false)
    | _ => false)
  | none => false
theorem fileB_ok {K : Frag} {cda : Addr} {file : Str} (h : fileB K cda file = true) : ∃ co vs tf, K.lookup cda = some co ∧ co.data = .fields vs ∧ vs[2]? = some (.str file tf) := by
  unfold fileB at h
  split at h
  · rename_i co e
    split at h
    · rename_i vs e2
      split at h
      · rename_i f tf e3
        exact ⟨co, vs, tf, e, e2, by rw [e3, of_decide_eq_true h]⟩
      · cases h
    · cases h
  · cases h
def codB (K : Frag) (v : Value) (file : Str) : Bool := match v with
  | .ref cda => codeIn K (.ref cda) "Fault.__init__" && fileB K cda file
  | _ => false
def cloB (K : Frag) (l : List (Str × Addr)) (C : Addr) : Bool := match l with
  | [(_, cc)] => cellB K cc C
  | _ => false
def clB (K : Frag) (C : Addr) : Bool := match clsIn K C with
  | some cd => HandSPX.refsVE cd.mro && cd.hasDict
  | none => false
def fuB (K : Frag) (file : Str) : Bool := match K.lookup (He.fAd K ("Fault", some "__init__")) with
  | some ⟨_, _, .func fd, _⟩ => isNo fd.defaults && (isNo fd.kwdefaults && (codB K fd.code file && cloB K fd.closure (He.ga K "Fault")))
  | _ => false
def faBs (file : Str) (K : Frag) : List Bool := [
  He.eqO (nsIn K mainGlobals "Fault") (some (some (.ref (He.ga K "Fault")))),
  He.eqO (nsIn K mainGlobals "super") (some none),
  excInitIn K (He.ga K "Fault") He.veBase "ValueError.__new__",
  clB K (He.ga K "Fault"),
  He.eqO (findIn K (.ref (He.ga K "Fault")) "__setattr__") (some (some (.builtin "object.__setattr__"))),
  He.eqO (findIn K (.ref (He.ga K "Fault")) "__getattribute__") (some (some (.builtin "BaseException.__getattribute__"))),
  He.eqO (findIn K (.ref (He.ga K "Fault")) "__getattr__") (some none),
  He.eqO (findIn K (.ref (He.ga K "Fault")) "place") (some none),
  He.eqO (findIn K (.ref (He.ga K "Fault")) "reason") (some none),
  He.eqO (findIn K (.ref (He.ga K "Fault")) "__init__") (some (some (.ref (He.fAd K ("Fault", some "__init__"))))),
  decide (typeIn K (.ref (He.fAd K ("Fault", some "__init__"))) = some (.type "function")),
  keepIn K (.ref (He.ga K "Fault")),
  decide (subIn K (.ref (He.ga K "Fault")) (.type "BaseException") = some true),
  decide (subIn K (.ref (He.ga K "Fault")) (.type "ValueError") = some true),
  decide (typeIn K (.ref (He.ga K "Fault")) = some (.type "type")),
  hasDictIn K (He.ga K "Fault"),
  decide (exmOne K (.ref (He.ga K "Fault")) (.ref (He.ga K "Fault")) = some true),
  He.eqO (ks_superIn K (He.ga K "Fault") (He.ga K "Fault") "__init__") (some (some (.builtin "ValueError.__init__"))),
  decide (mroIn K (He.ga K "Fault") (.ref (He.ga K "Fault")) = some true),
  He.eqO (nsIn K cStatics "thirdparty.any") (some none),
  fuB K file]
theorem faTxt_of {P : Program} {K : Frag} {h : Heap} {mg : Str → Option Value} (X : K.In h) (Gm : h.Ns mainGlobals mg) (e : fnC K ("Fault", some "__init__") = fnF) (c : (faBs P.main.file K).all id = true) (ht : (P.main.scope.names.lookup ("super" : Str)).isSome = false) :
    FaX.FaTxt P K mg (He.ga K "Fault") (He.fAd K ("Fault", some "__init__")) := by
  have at_ : ∀ (i : Nat) (b : Bool), (faBs P.main.file K)[i]? = some b → b = true := fun i b hb => List.all_eq_true.mp c b (List.mem_of_getElem? hb)
  have hcl : clB K (He.ga K "Fault") = true := at_ 3 _ rfl
  have hfu : fuB K P.main.file = true := at_ 20 _ rfl
  refine {
    gC := mg_of X Gm (He.eqO_ok (at_ 0 _ rfl))
    gS := mg_none_of X Gm (He.eqO_ok (at_ 1 _ rfl))
    ini := at_ 2 _ rfl
    cd := ?_
    sa := He.eqO_ok (at_ 4 _ rfl)
    ga := He.eqO_ok (at_ 5 _ rfl)
    gg := He.eqO_ok (at_ 6 _ rfl)
    noP := He.eqO_ok (at_ 7 _ rfl)
    noR := He.eqO_ok (at_ 8 _ rfl)
    iC := He.eqO_ok (at_ 9 _ rfl)
    tC := of_decide_eq_true (at_ 10 _ rfl)
    kC := at_ 11 _ rfl
    exC := of_decide_eq_true (at_ 12 _ rfl)
    vB := of_decide_eq_true (at_ 13 _ rfl)
    tyC := of_decide_eq_true (at_ 14 _ rfl)
    hdC := at_ 15 _ rfl
    te := of_decide_eq_true (at_ 16 _ rfl)
    sup := He.eqO_ok (at_ 17 _ rfl)
    self := of_decide_eq_true (at_ 18 _ rfl)
    opq := He.eqO_ok (at_ 19 _ rfl)
    top := ht
    fn := ?_ }
  · unfold clB at hcl
    split at hcl
    · rename_i cd e
      obtain ⟨h1, h2⟩ := He.ba hcl
      exact ⟨cd, e, h1, h2⟩
    · cases hcl
  · unfold fuB at hfu
    unfold fnC at e
    split at hfu
    · rename_i oc od fd osl lk
      rw [lk] at e
      obtain ⟨n1, n2, n3, n4, n5, n6, n7, n8, n9, n10, n11, n12, n13, n14, n15⟩ := fd
      obtain ⟨b1, b2⟩ := He.ba hfu
      obtain ⟨b3, b4⟩ := He.ba b2
      obtain ⟨b5, b6⟩ := He.ba b4
      clear hfu b2 b4
      have c1 : n8 = .none := isNo_ok b1
      have c3 : n9 = .none := isNo_ok b3
      have c5 : codB K n13 P.main.file = true := b5
      have c6 : cloB K n7 (He.ga K "Fault") = true := b6
      clear b1 b3 b5 b6
      have e2 : (some (n1, n2, n3, n4, n5, n6, n7.map (·.1), n15) : FnC) = fnF := e
      unfold fnF at e2
      simp only [Option.some.injEq, Prod.mk.injEq] at e2
      obtain ⟨rfl, rfl, rfl, rfl, rfl, rfl, e7, rfl⟩ := e2
      subst c1 c3
      unfold codB at c5
      split at c5
      · rename_i cda
        obtain ⟨k1, k2⟩ := He.ba c5
        obtain ⟨cdo, vs, tf, f1, f2, f3⟩ := fileB_ok k2
        unfold cloB at c6
        split at c6
        · rename_i nm cc
          have e7' : nm = "__class__" := by
            have := e7
            simp at this
            exact this
          subst e7'
          obtain ⟨co, g1, g2⟩ := cellB_ok c6
          exact ⟨oc, od, _, _, _, cda, _, osl, cc, cdo, vs, tf, co, lk, k1, f1, f2, f3, g1, g2⟩
        · cases c6
      · cases c5
    · cases hfu
/-! ### the hook -/
def asY (g : Addr → Option Obj) (n : Nat) : List Addr := cStatics :: He.asD g n
abbrev AlY : Type := He.AlD × FnC × Bool
def obsY (n : Nat) (fa : List He.Fa) (fn : List He.DefD) (ex : Frag → Bool) (file : Str) (g : Addr → Option Obj) : AlY :=
  (He.obsD fa fn (He.frT g (asY g n)), fnC (He.frT g (asY g n)) ("Fault", some "__init__"), ex (He.frT g (asY g n)) && (faBs file (He.frT g (asY g n))).all id)
def valY (fn : List He.DefD) : AlY := (He.valD fn, fnF, true)
structure SaysY (fa : List He.Fa) (fn : List He.DefD) (ex : Frag → Bool) (file : Str) (K : Frag) : Prop where
  d : He.SaysD fa fn K
  f : fnC K ("Fault", some "__init__") = fnF
  more : ex K = true
  b : (faBs file K).all id = true
def hookY (n : Nat) (fa : List He.Fa) (fn : List He.DefD) (ex : Frag → Bool) (file : Str) : Hook where
  α := AlY
  obs := fun s => obsY n fa fn ex file s.heap.get?
  val := fun _ => valY fn
  says := fun _ h => ∃ K : Frag, K.In h ∧ SaysY fa fn ex file K
  of := fun _ _ e => ⟨_, He.frT_in, congrArg (fun z : AlY => z.1) e, congrArg (fun z : AlY => z.2.1) e, (He.ba (congrArg (fun z : AlY => z.2.2) e)).1, (He.ba (congrArg (fun z : AlY => z.2.2) e)).2⟩
  keeps := fun _ _ _ ⟨K, hK, c⟩ k => ⟨K, Frag.In.keeps hK k, c⟩
theorem obsY_eq {n : Nat} {fa : List He.Fa} {fn : List He.DefD} {ex : Frag → Bool} {file : Str} {g : Addr → Option Obj} {s : Shared} (h : ∀ a, g a = s.heap.get? a) : obsY n fa fn ex file g = (hookY n fa fn ex file).obs s := by
  have e : g = s.heap.get? := funext h
  rw [e] <;> rfl
end G
namespace G
open PySem PySem.Spec PyProof.Rows L2
/-- the program's file and its top names -/
class PI (P : Program) : Prop where
  file : P.main.file = "/claim/cut.py"
  top : (P.main.scope.names.lookup ("super" : Str)).isSome = false
/-- Fault's facts, for each such program -/
def FaT (K : PySem.W.Frag) (mg : Str → Option Value) : Prop := ∀ P : Program, PI P → FaX.FaTxt P K mg (He.ga K "Fault") (He.fAd K ("Fault", some "__init__"))
theorem FaT.txt {K : PySem.W.Frag} {mg : Str → Option Value} (T : FaT K mg) (P : Program) [h : PI P] : FaX.FaTxt P K mg (He.ga K "Fault") (He.fAd K ("Fault", some "__init__")) := T P h
theorem SaysY.fau {fa : List He.Fa} {fn : List He.DefD} {ex : PySem.W.Frag → Bool} {K : PySem.W.Frag} {h : Heap} {mg : Str → Option Value} (c : SaysY fa fn ex "/claim/cut.py" K) (X : K.In h) (Gm : h.Ns mainGlobals mg) : FaT K mg := fun P i => by
  refine faTxt_of X Gm c.f ?_ i.top
  rw [i.file]
  exact c.b
/-- raise Fault(a, b) -/
def tRaiseF (C : Addr) (W : WX) (ta : TA) : TS := fun _ σ H => tMkF C ta σ H fun cls d H' => W cls d σ H'
def tTryAs (K : PySem.W.Frag) (c : Value) (i : Nat) (tb : WX → TS) (ts : Addr → Value → Option Addr → TS) (Wout : WX) : TS := fun D σ H => tb (wAs K c i ts Wout D) D σ H
def rIsF (K : PySem.W.Frag) (D a : Addr) (cls : Value) (d : Option Addr) : List V → Hp → VK → Prop := fun xs H Q => ∃ (c : V) (cv : Value) (b : Bool) (dd : Addr) (fs : List (Str × V)), xs = [.ref a, c] ∧ ClsV c cv ∧ cls = .ref D ∧ d = some dd ∧ H dd = some (.xd fs) ∧ PySem.W.kitOne K (.ref D) cv = some b ∧ Q (.bl b) H
section
variable {X : Cx} {C fI : Addr}
theorem ps_raiseF {a b : Expr} {ta : TA} {p pos pos2 : Pos} {k : Nat} {W : WX} (hc : X.calm = true) (tk : Takes X W) (T : FaX.FaTxt X.prog X.K X.mg C fI) (hr : Room k X.A) (hk : 1 ≤ k) (ha : PA X [a, b] ta) (hg : Gl X "Fault" := by rfl)
    (he : starEach (a :: [b]) X.env = (false, eval a X.env) :: starEach [b] X.env := by rfl) (hpl : (backTo pos (starEach [b] X.env)).any (·.1) = false := by rfl) :
    PS X (.Raise (some (.Call (.Name "Fault" p) [a, b] [] pos)) none pos2) (tRaiseF C W ta) := ps_raise hc tk (pmk_fault T hr hk ha hg he hpl)
theorem xfc_of {P : Program} {K : PySem.W.Frag} {mg : Str → Option Value} (T : FaX.FaTxt P K mg C fI) : XfC K C := ⟨T.ga, T.gg, T.exC, T.hdC⟩
theorem call_isF {P : Program} {a : Addr} {oe : Obj} {cls : Value} {d : Option Addr} {pn : List (Addr × Obj)} (T : FaX.FaTxt P X.K X.mg C fI) (F : InsF X.K C) (hz : Zc cls d oe) (hf : ∃ vs, oe.data = .fields vs) : CallR (X.suite a ((a, oe) :: pn)) (.builtin "isinstance") (rIsF X.K C a cls d) := by
  intro pins s σ H xs us Q I r h
  obtain ⟨c, cv, b, dd, fs, rfl, hcv, rfl, rfl, hdd, e, q⟩ := h
  cases r with
  | cons rx rr =>
    cases rr with
    | cons rt rr =>
      cases rr
      cases rx
      have ec := hcv.eq rt
      subst ec
      obtain ⟨hget, _⟩ := I.pin (a, oe) (List.mem_append.mpr (.inl List.mem_cons_self))
      obtain ⟨vs, hv⟩ := hf
      have hx : ObjOk X.prog X.w H s.heap dd (.xd fs) := I.hok dd _ hdd
      obtain ⟨mA, hns, _⟩ := hx
      obtain ⟨od, ho, _⟩ := lookIn_ns hns
      have J : PySem.W.InstAt s.heap a oe C (some od) := ⟨hget, hz.1, by unfold PySem.W.notCls; rw [hv] <;> rfl, by rw [hz.2]; exact ho⟩
      obtain ⟨cd, hcd, _⟩ := T.cd
      exact PySem.W.kia_one (PySem.W.kitx_exc (by rw [hcd]; rfl) T.ga T.gg T.exC F.ha F.hn F.htk F.hm) I.kIn J e (fun z => nomatch z) fun tk => ⟨.bl b, H, I.kept (t' := tk) fun _ _ z => z, rfl, q⟩
end
end G
namespace G
open PySem PySem.Spec PyProof.Rows L2
section
variable {nx bk ct : L2.St → Hp → Prop} {rt : VK} {σ : L2.St} {H : Hp} {Q : VK}
/-- what a raise wants of its values -/
def FauK (C : Addr) (S : Value → Option Addr → Hp → Prop) (vs : List V) (H1 : Hp) : Prop := ∃ (i : Int) (r : Str), vs = [.int i, .str r] ∧ i.natAbs < 1000000000 ∧ r.length ≤ 1000 ∧ ∀ d, H1 d = none → S (.ref C) (some d) (upd H1 d (.xd (faD i r)))
theorem g_raise {C : Addr} {W : WX} {ta : TA} (h : ta σ H (FauK C fun cls d H' => W cls d σ H')) : tRaiseF C W ta ⟨nx, rt, bk, ct⟩ σ H := h
theorem v_fau {C : Addr} {S : Value → Option Addr → Hp → Prop} {i : Int} {r : Str} (h1 : i.natAbs < 1000000000) (h2 : r.length ≤ 1000) (q : ∀ d, H d = none → S (.ref C) (some d) (upd H d (.xd (faD i r)))) : FauK C S [.int i, .str r] H := ⟨i, r, rfl, h1, h2, q⟩
end
end G

/-! ### data that stands still (At), cells that change (HH) -/
namespace G
open PySem PySem.Spec PyProof.Rows L2
inductive D where
  | v (x : V)
  | lst (xs : List D)
  | tup (xs : List D)
  | obj (c : Str) (fs : List (Str × D))
  | dk (kvs : List (Key × D))
abbrev D.i (n : Int) : D := .v (.int n)
abbrev D.t (zs : List Nat) : D := .v (.str ⟨zs.toArray⟩)
abbrev D.b (b : Bool) : D := .v (.bl b)
abbrev D.n : D := .v .non
mutual
def At (K : PySem.W.Frag) (F : Hp) : D → V → Prop
  | .v x, u => u = x
  | .lst xs, u => ∃ a vs, u = .ref a ∧ F a = some (.lst vs) ∧ AtA K F xs vs
  | .tup xs, u => ∃ a vs, u = .ref a ∧ SqT K F a vs ∧ AtA K F xs vs
  | .obj c fs, u => ∃ a dx vs, u = .ref a ∧ F a = some (.ins (He.ga K c) dx vs) ∧ AtF K F fs vs
  | .dk kvs, u => ∃ a od vs, u = .ref a ∧ F a = some (.frz od (.dK vs)) ∧ AtK K F kvs vs
def AtA (K : PySem.W.Frag) (F : Hp) : List D → List V → Prop
  | [], vs => vs = []
  | d :: ds, vs => ∃ u us, vs = u :: us ∧ At K F d u ∧ AtA K F ds us
def AtF (K : PySem.W.Frag) (F : Hp) : List (Str × D) → List (Str × V) → Prop
  | [], vs => vs = []
  | (f, d) :: ds, vs => ∃ u us, vs = (f, u) :: us ∧ At K F d u ∧ AtF K F ds us
def AtK (K : PySem.W.Frag) (F : Hp) : List (Key × D) → List (Key × V) → Prop
  | [], vs => vs = []
  | (f, d) :: ds, vs => ∃ u us, vs = (f, u) :: us ∧ At K F d u ∧ AtK K F ds us
end
theorem Same.sqt {K : PySem.W.Frag} {H H' : Hp} {a : Addr} {xs : List V} (e : Same H H') (h : SqT K H a xs) : SqT K H' a xs := by
  rcases h with (h | ⟨o, h⟩) | h
  · exact .inl (.inl (e _ _ h))
  · exact .inl (.inr ⟨o, e _ _ h⟩)
  · exact .inr h
mutual
theorem At.mono {K : PySem.W.Frag} {F F' : Hp} (s : Same F F') : ∀ {d : D} {u : V}, At K F d u → At K F' d u
  | .v x, u, h => by unfold At at h ⊢; exact h
  | .lst xs, u, h => by
    unfold At at h ⊢
    obtain ⟨a, vs, e, hq, h⟩ := h
    exact ⟨a, vs, e, s _ _ hq, AtA.mono s h⟩
  | .tup xs, u, h => by
    unfold At at h ⊢
    obtain ⟨a, vs, e, hq, h⟩ := h
    exact ⟨a, vs, e, Same.sqt s hq, AtA.mono s h⟩
  | .obj c fs, u, h => by
    unfold At at h ⊢
    obtain ⟨a, dx, vs, e, hq, h⟩ := h
    exact ⟨a, dx, vs, e, s _ _ hq, AtF.mono s h⟩
  | .dk kvs, u, h => by
    unfold At at h ⊢
    obtain ⟨a, od, vs, e, hq, h⟩ := h
    exact ⟨a, od, vs, e, s _ _ hq, AtK.mono s h⟩
theorem AtA.mono {K : PySem.W.Frag} {F F' : Hp} (s : Same F F') : ∀ {ds : List D} {us : List V}, AtA K F ds us → AtA K F' ds us
  | [], us, h => by unfold AtA at h ⊢; exact h
  | d :: ds, us, h => by
    unfold AtA at h ⊢
    obtain ⟨u, us, e, h1, h2⟩ := h
    exact ⟨u, us, e, At.mono s h1, AtA.mono s h2⟩
theorem AtF.mono {K : PySem.W.Frag} {F F' : Hp} (s : Same F F') : ∀ {ds : List (Str × D)} {us : List (Str × V)}, AtF K F ds us → AtF K F' ds us
  | [], us, h => by unfold AtF at h ⊢; exact h
  | (f, d) :: ds, us, h => by
    unfold AtF at h ⊢
    obtain ⟨u, us, e, h1, h2⟩ := h
    exact ⟨u, us, e, At.mono s h1, AtF.mono s h2⟩
theorem AtK.mono {K : PySem.W.Frag} {F F' : Hp} (s : Same F F') : ∀ {ds : List (Key × D)} {us : List (Key × V)}, AtK K F ds us → AtK K F' ds us
  | [], us, h => by unfold AtK at h ⊢; exact h
  | (f, d) :: ds, us, h => by
    unfold AtK at h ⊢
    obtain ⟨u, us, e, h1, h2⟩ := h
    exact ⟨u, us, e, At.mono s h1, AtK.mono s h2⟩
end
section
variable {K : PySem.W.Frag} {F F' H H' : Hp} {u x w : V} {d : D} {ds es : List D} {us vs : List V} {M : List (Addr × HO)}
theorem At.v_ {x : V} : At K F (.v x) u ↔ u = x := by unfold At; exact Iff.rfl
theorem At.of {x : V} : At K F (.v x) x := At.v_.mpr rfl
theorem AtA.nil : AtA K F [] [] := by unfold AtA; rfl
theorem AtA.cons (h : At K F d u) (t : AtA K F ds us) : AtA K F (d :: ds) (u :: us) := by unfold AtA; exact ⟨_, _, rfl, h, t⟩
theorem AtF.nil : AtF K F [] [] := by unfold AtF; rfl
theorem AtF.cons {f : Str} {fs : List (Str × D)} {gs : List (Str × V)} (h : At K F d u) (t : AtF K F fs gs) : AtF K F ((f, d) :: fs) ((f, u) :: gs) := by unfold AtF; exact ⟨_, _, rfl, h, t⟩
theorem AtA.len : ∀ {ds : List D} {us : List V}, AtA K F ds us → us.length = ds.length
  | [], us, h => by unfold AtA at h; rw [h]; rfl
  | d :: ds, us, h => by
    unfold AtA at h
    obtain ⟨u, us, rfl, _, h⟩ := h
    rw [List.length_cons, List.length_cons, AtA.len h]
theorem AtA.get : ∀ {ds : List D} {us : List V} {i : Nat}, AtA K F ds us → ds[i]? = some d → ∃ u, us[i]? = some u ∧ At K F d u
  | [], us, i, h, e => by cases e
  | d' :: ds, us, 0, h, e => by
    unfold AtA at h
    obtain ⟨u, us, rfl, h1, h⟩ := h
    cases e
    exact ⟨u, rfl, h1⟩
  | d' :: ds, us, i + 1, h, e => by
    unfold AtA at h
    obtain ⟨u, us, rfl, h1, h⟩ := h
    exact AtA.get (i := i) h e
theorem AtA.at_ {i : Nat} (h : AtA K F ds us) (e : us[i]? = some u) : ∃ d, ds[i]? = some d ∧ At K F d u := by
  have hi : i < us.length := by
    rcases Nat.lt_or_ge i us.length with z | z
    · exact z
    · rw [List.getElem?_eq_none z] at e; cases e
  have hd : ds[i]? = some (ds[i]'(by rw [← h.len]; exact hi)) := List.getElem?_eq_getElem _
  obtain ⟨u', e', a⟩ := h.get hd
  rw [e] at e'
  cases e'
  exact ⟨_, hd, a⟩
theorem AtA.app : ∀ {ds : List D} {us : List V}, AtA K F ds us → AtA K F es vs → AtA K F (ds ++ es) (us ++ vs)
  | [], us, h, t => by unfold AtA at h; rw [h]; exact t
  | d :: ds, us, h, t => by
    unfold AtA at h
    obtain ⟨u, us, rfl, h1, h⟩ := h
    exact AtA.cons h1 (AtA.app h t)
theorem AtA.snoc (h : AtA K F ds us) (t : At K F d u) : AtA K F (ds ++ [d]) (us ++ [u]) := h.app (AtA.cons t AtA.nil)
theorem AtA.snocM {α : Type} {e : α → D} {xs : List α} {x : α} (h : AtA K F (xs.map e) us) (t : At K F (e x) u) : AtA K F ((xs ++ [x]).map e) (us ++ [u]) := by
  rw [List.map_append]
  exact h.snoc t
theorem AtA.flat {α : Type} {g : α → V} : ∀ {xs : List α} {us : List V}, AtA K F (xs.map fun x => D.v (g x)) us → us = xs.map g
  | [], us, h => by unfold AtA at h; exact h
  | x :: xs, us, h => by
    unfold AtA at h
    obtain ⟨u, us, rfl, h1, h⟩ := h
    rw [At.v_.mp h1, AtA.flat h]
    rfl
theorem AtA.ofFlat {α : Type} {g : α → V} : ∀ {xs : List α}, AtA K F (xs.map fun x => D.v (g x)) (xs.map g)
  | [] => AtA.nil
  | x :: xs => AtA.cons At.of (AtA.ofFlat (xs := xs))
theorem AtF.get {f : Str} : ∀ {fs : List (Str × D)} {gs : List (Str × V)}, AtF K F fs gs → fs.lookup f = some d → ∃ u, gs.lookup f = some u ∧ At K F d u
  | [], gs, h, e => by cases e
  | (g, d') :: fs, gs, h, e => by
    unfold AtF at h
    obtain ⟨u, us, rfl, h1, h⟩ := h
    rw [List.lookup_cons] at e ⊢
    cases c : f == g with
    | true => rw [c] at e; cases e; exact ⟨u, rfl, h1⟩
    | false => rw [c] at e; exact AtF.get h e
theorem At.obj_ {c : Str} {fs : List (Str × D)} (h : At K F (.obj c fs) u) : ∃ a dx vs, u = .ref a ∧ F a = some (.ins (He.ga K c) dx vs) ∧ AtF K F fs vs := by unfold At at h; exact h
theorem At.lstR (h : At K F (.lst ds) u) : ∃ a vs, u = .ref a ∧ F a = some (.lst vs) ∧ AtA K F ds vs := by unfold At at h; exact h
theorem At.lst_ (h : At K F (.lst ds) u) : ∃ a vs, u = .ref a ∧ SqL K F a vs ∧ AtA K F ds vs := by
  obtain ⟨a, vs, e, hq, t⟩ := h.lstR
  exact ⟨a, vs, e, SqL.of hq, t⟩
theorem At.tup_ (h : At K F (.tup ds) u) : ∃ a vs, u = .ref a ∧ SqT K F a vs ∧ AtA K F ds vs := by unfold At at h; exact h
theorem At.mkL {a : Addr} (h : F a = some (.lst vs)) (t : AtA K F ds vs) : At K F (.lst ds) (.ref a) := by unfold At; exact ⟨a, vs, rfl, h, t⟩
theorem At.mkT {a : Addr} (h : SqT K F a vs) (t : AtA K F ds vs) : At K F (.tup ds) (.ref a) := by unfold At; exact ⟨a, vs, rfl, h, t⟩
theorem At.mkO {c : Str} {a dx : Addr} {fs : List (Str × D)} {gs : List (Str × V)} (h : F a = some (.ins (He.ga K c) dx gs)) (t : AtF K F fs gs) : At K F (.obj c fs) (.ref a) := by unfold At; exact ⟨a, dx, gs, rfl, h, t⟩
/-! cells that may change -/
structure HH (F H : Hp) (M : List (Addr × HO)) : Prop where
  sub : Same F H
  nd : (M.map (·.1)).Nodup
  cell : ∀ p ∈ M, H p.1 = some p.2 ∧ F p.1 = none
theorem HH.start : HH H H [] := ⟨Same.refl H, .nil, fun p h => nomatch h⟩
theorem HH.get {i : Nat} {a : Addr} {o : HO} (h : HH F H M) (e : M[i]? = some (a, o)) : H a = some o := (h.cell _ (List.mem_of_getElem? e)).1
theorem HH.out {i : Nat} {a : Addr} {o : HO} (h : HH F H M) (e : M[i]? = some (a, o)) : F a = none := (h.cell _ (List.mem_of_getElem? e)).2
theorem HH.non {p : Addr} (h : HH F H M) (hp : H p = none) : F p = none := by
  cases e : F p with
  | none => rfl
  | some o => rw [h.sub _ _ e] at hp; cases hp
theorem HH.fresh {p : Addr} (h : HH F H M) (hp : H p = none) : p ∉ M.map (·.1) := by
  intro z
  obtain ⟨q, hq, e⟩ := List.mem_map.mp z
  have := (h.cell q hq).1
  rw [e, hp] at this
  cases this
theorem HH.new {p : Addr} {o : HO} (h : HH F H M) (hp : H p = none) : HH F (upd H p o) ((p, o) :: M) := by
  refine ⟨fun b u e => up_new (h.sub _ _ e) hp, List.nodup_cons.mpr ⟨h.fresh hp, h.nd⟩, fun q hq => ?_⟩
  rcases List.mem_cons.mp hq with rfl | hq
  · exact ⟨upd_same, h.non hp⟩
  · obtain ⟨h1, h2⟩ := h.cell q hq
    exact ⟨up_new h1 hp, h2⟩
theorem HH.newF {p : Addr} {o : HO} (h : HH F H M) (hp : H p = none) : HH (upd F p o) (upd H p o) M := by
  refine ⟨fun b u e => ?_, h.nd, fun q hq => ?_⟩
  · unfold upd at e ⊢
    split
    · rename_i z; rw [if_pos z] at e; exact e
    · rename_i z; rw [if_neg z] at e; exact h.sub _ _ e
  · obtain ⟨h1, h2⟩ := h.cell q hq
    have ne : q.1 ≠ p := ne_of_none h1 hp
    exact ⟨by rw [upd_ne ne]; exact h1, by rw [upd_ne ne]; exact h2⟩
theorem HH.grow {p : Addr} {o : HO} (h : HH F H M) (hp : H p = none) : Same F (upd F p o) := same_new (h.non hp)
theorem HH.perm {M' : List (Addr × HO)} (h : HH F H M) (p : List.Perm M M') : HH F H M' :=
  ⟨h.sub, (p.map _).nodup_iff.mp h.nd, fun q hq => h.cell q (p.mem_iff.mpr hq)⟩
theorem HH.swap {a b : Addr × HO} (h : HH F H (a :: b :: M)) : HH F H (b :: a :: M) := h.perm (.swap b a M)
theorem HH.rot {a b c : Addr × HO} (h : HH F H (a :: b :: c :: M)) : HH F H (c :: a :: b :: M) := h.perm ((List.Perm.cons a (.swap c b M)).trans (.swap c a (b :: M)))
theorem HH.new1 {p : Addr} {o : HO} {a : Addr × HO} (h : HH F H (a :: M)) (hp : H p = none) : HH F (upd H p o) (a :: (p, o) :: M) := (h.new hp).swap
theorem HH.drop {a : Addr × HO} (h : HH F H (a :: M)) : HH F H M := ⟨h.sub, (List.nodup_cons.mp h.nd).2, fun q hq => h.cell q (List.mem_cons_of_mem _ hq)⟩
theorem HH.drop1 {a b : Addr × HO} (h : HH F H (a :: b :: M)) : HH F H (a :: M) := h.swap.drop
theorem HH.set0 {a : Addr} {o o' : HO} (h : HH F H ((a, o) :: M)) : HH F (upd H a o') ((a, o') :: M) := by
  have hn := List.nodup_cons.mp h.nd
  have hF : F a = Option.none := h.out (i := 0) rfl
  refine ⟨fun b u e => ?_, List.nodup_cons.mpr hn, fun q hq => ?_⟩
  · rw [upd_ne (ne_of_none e hF)]; exact h.sub _ _ e
  · rcases List.mem_cons.mp hq with rfl | hq
    · exact ⟨upd_same, hF⟩
    · obtain ⟨h1, h2⟩ := h.cell q (List.mem_cons_of_mem _ hq)
      have ne : q.1 ≠ a := fun e => hn.1 (List.mem_map.mpr ⟨q, hq, e⟩)
      exact ⟨by rw [upd_ne ne]; exact h1, h2⟩
theorem HH.set1 {a : Addr} {o o' : HO} {b : Addr × HO} (h : HH F H (b :: (a, o) :: M)) : HH F (upd H a o') (b :: (a, o') :: M) := h.swap.set0.swap
theorem HH.set2 {a : Addr} {o o' : HO} {b c : Addr × HO} (h : HH F H (b :: c :: (a, o) :: M)) : HH F (upd H a o') (b :: c :: (a, o') :: M) := h.rot.set0.perm ((List.Perm.swap b _ _).trans (.cons b (.swap c _ M)))
theorem HH.frz {a : Addr} {o : HO} (h : HH F H ((a, o) :: M)) : HH (upd F a o) H M := by
  have hn := List.nodup_cons.mp h.nd
  refine ⟨fun b u e => ?_, hn.2, fun q hq => ?_⟩
  · by_cases c : b = a
    · rw [c, upd_same] at e; cases e; rw [c]; exact h.get (i := 0) rfl
    · rw [upd_ne c] at e; exact h.sub _ _ e
  · obtain ⟨h1, h2⟩ := h.cell q (List.mem_cons_of_mem _ hq)
    have ne : q.1 ≠ a := fun e => hn.1 (List.mem_map.mpr ⟨q, hq, e⟩)
    exact ⟨h1, by rw [upd_ne ne]; exact h2⟩
theorem HH.frzS {a : Addr} {o : HO} (h : HH F H ((a, o) :: M)) : Same F (upd F a o) := same_new (h.out (i := 0) rfl)
theorem HH.frz1 {a : Addr} {o : HO} {b : Addr × HO} (h : HH F H (b :: (a, o) :: M)) : HH (upd F a o) H (b :: M) := h.swap.frz
theorem HH.frz1S {a : Addr} {o : HO} {b : Addr × HO} (h : HH F H (b :: (a, o) :: M)) : Same F (upd F a o) := h.swap.frzS
/-- something is there, said for data: a list that was frozen -/
theorem frz_lst {a : Addr} {vs : List V} (hF : F a = Option.none) (h : AtA K F ds vs) : At K (upd F a (.lst vs)) (.lst ds) (.ref a) := At.mkL upd_same (h.mono (same_new hF))
/-! rules over At -/
variable {Q : VK} {S : Hp → Prop} {σ : L2.St} {nx bk ct : L2.St → Hp → Prop} {rt : VK}
theorem a_fld {c f : Str} {fs : List (Str × D)} (h : At K F (.obj c fs) x) (hh : HH F H M) (cl : Cls K (He.ga K c)) (n : NoAttr K (He.ga K c) f) (l : fs.lookup f = some d) (q : ∀ w, At K F d w → Q w H) : FldK K f x H Q := by
  obtain ⟨a, dx, vs, rfl, hF, hv⟩ := h.obj_
  obtain ⟨u, hu, ha⟩ := hv.get l
  exact v_fld (hh.sub _ _ hF) cl n hu (q u ha)
theorem a_fldV {c f : Str} {fs : List (Str × D)} (h : At K F (.obj c fs) x) (hh : HH F H M) (cl : Cls K (He.ga K c)) (n : NoAttr K (He.ga K c) f) (l : fs.lookup f = some (.v w)) (q : Q w H) : FldK K f x H Q :=
  a_fld h hh cl n l fun w' e => by rw [At.v_.mp e]; exact q
theorem m_fld {i : Nat} {a C dx : Addr} {fs : List (Str × V)} {f : Str} (hh : HH F H M) (e : M[i]? = some (a, .ins C dx fs)) (cl : Cls K C) (n : NoAttr K C f) (l : fs.lookup f = some w) (q : Q w H) : FldK K f (.ref a) H Q := v_fld (hh.get e) cl n l q
theorem a_tup {ds : List D} (hh : HH F H M) (h : AtA K F ds vs) (q : ∀ F' H' u, Same F F' → HH F' H' M → At K F' (.tup ds) u → Q u H') : ∀ p, H p = none → Q (.ref p) (upd H p (.tup vs)) := fun p hp =>
  q _ _ _ (hh.grow hp) (hh.newF hp) (At.mkT (SqT.of upd_same) (h.mono (hh.grow hp)))
theorem a_lst {ds : List D} (hh : HH F H M) (h : AtA K F ds vs) (q : ∀ F' H' u, Same F F' → HH F' H' M → At K F' (.lst ds) u → Q u H') : ∀ p, H p = none → Q (.ref p) (upd H p (.lst vs)) := fun p hp =>
  q _ _ _ (hh.grow hp) (hh.newF hp) (At.mkL upd_same (h.mono (hh.grow hp)))
theorem a_lenL (hx : At K F (.lst ds) x) (hh : HH F H M) (q : Q (.int (ds.length : Int)) H) : rLen K [x] H Q := by
  obtain ⟨a, vs, rfl, h, t⟩ := hx.lst_
  exact v_lenSq (hh.sub.seq h) (by rw [t.len]; exact q)
theorem a_ixL {n : Int} {i : Nat} (hx : At K F (.lst ds) x) (hh : HH F H M) (en : n = (i : Int)) (e : ds[i]? = some d) (q : ∀ w, At K F d w → Q w H) : rIx K x (.int n) H Q := by
  obtain ⟨a, vs, rfl, h, t⟩ := hx.lst_
  obtain ⟨u, hu, ha⟩ := t.get e
  exact v_ixSq (hh.sub.seq h) (atN en hu) (q u ha)
theorem a_ixT {n : Int} {i : Nat} (hx : At K F (.tup ds) x) (hh : HH F H M) (en : n = (i : Int)) (e : ds[i]? = some d) (q : ∀ w, At K F d w → Q w H) : rIx K x (.int n) H Q := by
  obtain ⟨a, vs, rfl, h, t⟩ := hx.tup_
  obtain ⟨u, hu, ha⟩ := t.get e
  exact .inr (.inl ⟨_, _, _, _, rfl, rfl, Same.sqt hh.sub h, atN en hu, q u ha⟩)
theorem a_forL {α : Type} {e : α → D} {xs : List α} {g : TG} {tb : TS} (hx : At K F (.lst (xs.map e)) x) (hh : HH F H M) (I : List α → L2.St → Hp → Prop) (hF : ∀ r σ H, I r σ H → Same F H) (h0 : I xs σ H)
    (hs : ∀ y r w σ H, At K F (e y) w → I (y :: r) σ H → g w σ H fun σ2 H2 => tb ⟨I r, rt, nx, I r⟩ σ2 H2) (hd : ∀ σ H, I [] σ H → nx σ H) : OvL K (fun J H1 => LoopG J g tb ⟨nx, rt, bk, ct⟩ σ H1) x H := by
  obtain ⟨a, vs, rfl, h, t⟩ := hx.lst_
  have hl : vs.length = xs.length := by rw [t.len, List.length_map]
  refine v_ovL (hh.sub.seq h) (l_list (fun i σ H => I (xs.drop i) σ H) h0 (fun i σ H _ q => (hF _ _ _ q).seq h) (fun i v σ H hv q => ?_) (fun σ H q => hd σ H ?_))
  · obtain ⟨d, hd', ha⟩ := t.at_ hv
    rw [List.getElem?_map] at hd'
    cases ex : xs[i]? with
    | none => rw [ex] at hd'; cases hd'
    | some y =>
      rw [ex] at hd'
      cases hd'
      have hi : i < xs.length := by
        rcases Nat.lt_or_ge i xs.length with z | z
        · exact z
        · rw [List.getElem?_eq_none z] at ex; cases ex
      have q' : I (y :: xs.drop (i + 1)) σ H := by
        have e1 : xs[i] = y := by rw [List.getElem?_eq_getElem hi] at ex; exact Option.some.inj ex
        rw [← e1, List.getElem_cons_drop]
        exact q
      exact hs y _ v σ H ha q'
  · rw [hl, List.drop_length] at q
    exact q
theorem a_forT {α : Type} {e : α → D} {xs : List α} {g : TG} {tb : TS} (hx : At K F (.tup (xs.map e)) x) (hh : HH F H M) (I : List α → L2.St → Hp → Prop) (hF : ∀ r σ H, I r σ H → Same F H) (h0 : I xs σ H)
    (hs : ∀ y r w σ H, At K F (e y) w → I (y :: r) σ H → g w σ H fun σ2 H2 => tb ⟨I r, rt, nx, I r⟩ σ2 H2) (hd : ∀ σ H, I [] σ H → nx σ H) : OvT K (fun J H1 => LoopG J g tb ⟨nx, rt, bk, ct⟩ σ H1) x H := by
  obtain ⟨a, vs, rfl, h, t⟩ := hx.tup_
  have hl : vs.length = xs.length := by rw [t.len, List.length_map]
  refine v_ovT (Same.sqt hh.sub h) (l_tup (fun i σ H => I (xs.drop i) σ H) h0 (fun i σ H _ q => Same.sqt (hF _ _ _ q) h) (fun i v σ H hv q => ?_) (fun σ H q => hd σ H ?_))
  · obtain ⟨d, hd', ha⟩ := t.at_ hv
    rw [List.getElem?_map] at hd'
    cases ex : xs[i]? with
    | none => rw [ex] at hd'; cases hd'
    | some y =>
      rw [ex] at hd'
      cases hd'
      have hi : i < xs.length := by
        rcases Nat.lt_or_ge i xs.length with z | z
        · exact z
        · rw [List.getElem?_eq_none z] at ex; cases ex
      have q' : I (y :: xs.drop (i + 1)) σ H := by
        have e1 : xs[i] = y := by rw [List.getElem?_eq_getElem hi] at ex; exact Option.some.inj ex
        rw [← e1, List.getElem_cons_drop]
        exact q
      exact hs y _ v σ H ha q'
  · rw [hl, List.drop_length] at q
    exact q
def LcK (J : It) (g : TG) (tt : TT) (te : TE) (σ : L2.St) (ws : List Nat) (H1 : Hp) (Q : VK) : Prop := ∀ D, H1 D = Option.none → LcG J g tt te σ ws D H1 (Q (.ref D))
theorem g_lcK {wi : TI} {g : TG} {tt : TT} {te : TE} {ws : List Nat} (h : wi σ H fun J H1 => LcK J g tt te σ ws H1 Q) : tLc wi g tt te ws σ H Q := h
/-- a comprehension over such a list: what is put for each item is told by an optional value -/
theorem a_lcL {α β : Type} {e : α → D} {f : β → D} {xs : List α} {g : TG} {tt : TT} {te : TE} {vs : List Nat} (hx : At K F (.lst (xs.map e)) x) (hh : HH F H M) (hz : xs.length < sizeLine) (r : α → Option β)
    (hs : ∀ y (w : V) F' H' c (P : V → Hp → Prop) (N : Hp → Prop), y ∈ xs → At K F' (e y) w → Same F F' → HH F' H' (c :: M) → (∀ F4 H4 v z, Same F' F4 → HH F4 H4 (c :: M) → r y = some z → At K F4 (f z) v → P v H4) →
      (∀ F4 H4, Same F' F4 → HH F4 H4 (c :: M) → r y = none → N H4) → g w (wipe σ vs) H' fun σ2 H2 => wipe σ2 vs = wipe σ vs ∧ tt σ2 H2 fun b H3 => if b = true then te σ2 H3 (fun v H4 => P v H4) else N H3)
    (q : ∀ F' H' u, Same F F' → HH F' H' M → At K F' (.lst ((xs.filterMap r).map f)) u → Q u H') : OvL K (fun J H1 => LcK J g tt te σ vs H1 Q) x H := by
  obtain ⟨a, us, rfl, h, t⟩ := hx.lst_
  have hl : us.length = xs.length := by rw [t.len, List.length_map]
  refine v_ovL (hh.sub.seq h) fun D hD => ?_
  refine c_list (fun i H' => ∃ F' ws, Same F F' ∧ HH F' H' ((D, .lst ws) :: M) ∧ ws.length ≤ i ∧ AtA K F' (((xs.take i).filterMap r).map f) ws) ⟨F, [], Same.refl F, hh.new hD, Nat.zero_le _, AtA.nil⟩
    (fun i H' _ ⟨F', ws, s, h', _⟩ => h'.sub.seq (s.seq h)) (fun i v H' hv ⟨F', ws, s, h', hw, ha⟩ => ?_) (fun H' ⟨F', ws, s, h', hw, ha⟩ => ?_)
  · obtain ⟨d, hd', hat⟩ := t.at_ hv
    rw [List.getElem?_map] at hd'
    cases ex : xs[i]? with
    | none => rw [ex] at hd'; cases hd'
    | some y =>
      rw [ex] at hd'
      cases hd'
      have hi : i < xs.length := by
        rcases Nat.lt_or_ge i xs.length with z | z
        · exact z
        · rw [List.getElem?_eq_none z] at ex; cases ex
      have e1 : xs[i] = y := by rw [List.getElem?_eq_getElem hi] at ex; exact Option.some.inj ex
      have et : xs.take (i + 1) = xs.take i ++ [y] := by rw [← e1]; exact (List.take_append_getElem hi).symm
      refine hs y v F' H' _ _ _ (e1 ▸ List.getElem_mem hi) (hat.mono s) s h' (fun F4 H4 v z s4 h4 er hz => ?_) (fun F4 H4 s4 h4 er => ?_)
      · refine v_put (h4.get (i := 0) rfl) (by omega) ⟨F4, ws ++ [v], s.trans s4, h4.set0, by rw [List.length_append]; show _ + 1 ≤ _; omega, ?_⟩
        rw [et, List.filterMap_append, List.filterMap_cons, er]
        exact AtA.snocM (ha.mono s4) hz
      · refine ⟨F4, ws, s.trans s4, h4, by omega, ?_⟩
        rw [et, List.filterMap_append, List.filterMap_cons, er]
        show AtA K F4 ((_ ++ []).map f) ws
        rw [List.append_nil]
        exact ha.mono s4
  · rw [hl, List.take_length] at ha
    exact q _ _ _ (s.trans h'.frzS) h'.frz (frz_lst (h'.out (i := 0) rfl) ha)
/-- a while that carries what is left to be computed -/
def WTurn (I : Nat → L2.St → Hp → Prop) (m : Nat) (tb : TS) (rt : VK) (nx : L2.St → Hp → Prop) (σ : L2.St) (H : Hp) : Prop := ∃ N : L2.St → Hp → Prop, (∀ σ' H', N σ' H' → ∃ m', m' < m + 1 ∧ I m' σ' H') ∧ tb ⟨N, rt, nx, N⟩ σ H
theorem g_wt {I : Nat → L2.St → Hp → Prop} {m : Nat} {tb : TS} (h : tb ⟨I m, rt, nx, I m⟩ σ H) : WTurn I m tb rt nx σ H := ⟨I m, fun _ _ z => ⟨m, Nat.lt_succ_self m, z⟩, h⟩
theorem a_while {m : Nat} {tt : TT} {tb : TS} (I : Nat → L2.St → Hp → Prop) (h0 : I m σ H) (hz : ∀ σ H, I 0 σ H → False) (hs : ∀ m σ H, I (m + 1) σ H → tt σ H fun b H1 => if b = true then WTurn I m tb rt nx σ H1 else nx σ H1) :
    tWhile tt tb ⟨nx, rt, bk, ct⟩ σ H := by
  refine g_while ⟨fun m σ H => I m σ H, ⟨m, h0⟩, fun m σ H q => ?_⟩
  cases m with
  | zero => exact (hz _ _ q).elim
  | succ m => exact hs m σ H q
/-! texts as lists of codes -/
end
end G
namespace G
open PySem PySem.Spec PyProof.Rows L2
/-! ### pygen2: constants, properties, tables, the hook -/
abbrev svv (zs : List Nat) : V := .str ⟨zs.toArray⟩
theorem pe_strE {X : Cx} {x z : Str} {j pos} (h : x = z) : PE X (.Constant (.str x) j pos) (tC (.str z)) := by
  subst h
  exact pe_str
theorem tupE {K : PySem.W.Frag} {x : Str} {vs : List He.Dv} {us : List V} (e : vs.map (He.Dv.v K) = us) (h : He.tupB K x vs = true) : ∀ H, SqT K H (He.ga K x) us := fun H => by
  subst e
  exact He.tupB_ok h H
def rSplit : V → List V → Hp → VK → Prop := fun x xs H Q => ∃ a b, x = .str a ∧ xs = [.str b] ∧ (b.length == 0) = false ∧ a.length + 2 ≤ sizeLine ∧ rNewStrs (Txt.split a b) H Q
/-- the getter of a property -/
def pAd (K : PySem.W.Frag) (C m : Str) : Addr := match PySem.W.recIn K (He.ma K (He.ga K C) m) "property" with
  | some (.ref g :: _) => g
  | _ => 0
def recP (K : PySem.W.Frag) (a : Addr) : Bool := match PySem.W.recIn K a "property" with
  | some (.ref _ :: _) => true
  | _ => false
def propF (C m : Str) (K : PySem.W.Frag) : Bool := He.eqO (PySem.W.findIn K (.ref (He.ga K C)) m) (some (some (.ref (He.ma K (He.ga K C) m)))) &&
  (He.eqO (PySem.W.specialIn K (.ref (He.ma K (He.ga K C) m)) "__get__") (some (some (.builtin "property.__get__"))) && (decide (PySem.W.takesIn K (.ref (He.ma K (He.ga K C) m)) = some true) && recP K (He.ma K (He.ga K C) m)))
theorem propF_ok {C m : Str} {K : PySem.W.Frag} (h : propF C m K = true) : PropOf K (He.ga K C) m (He.ma K (He.ga K C) m) (pAd K C m) := by
  obtain ⟨h1, h2⟩ := He.ba h
  obtain ⟨h2, h3⟩ := He.ba h2
  obtain ⟨h3, h4⟩ := He.ba h3
  refine ⟨He.eqO_ok h1, He.eqO_ok h2, of_decide_eq_true h3, ?_⟩
  unfold recP at h4
  unfold pAd
  split at h4
  · rename_i g rest e
    exact ⟨rest, by rw [e]⟩
  · cases h4
structure DefP where
  cls : Str
  name : Str
  qual : Str
  params : Arguments
  body : List Stmt
  scope : Scope
def DefP.val (d : DefP) : He.FnW := some (d.name, d.qual, d.params, .stmts d.body, d.scope, mainGlobals, [], builtinsNs)
def fnA (K : PySem.W.Frag) (a : Addr) : He.FnW := match K.lookup a with
  | some ⟨_, _, .func fd, _⟩ => some (fd.name, fd.qualname, fd.params, fd.body, fd.scope, fd.globals, fd.closure, fd.builtins)
  | _ => none
def DefP.ok (K : PySem.W.Frag) (d : DefP) : Bool := PySem.W.keepIn K (.ref (pAd K d.cls d.name)) && (match K.lookup (pAd K d.cls d.name) with
  | some ⟨_, _, .func fd, _⟩ => PySem.W.codeIn K fd.code d.qual && (He.dflB K fd.defaults [] && He.kwdB K fd.kwdefaults [])
  | _ => false)
theorem DefP.funD {K : PySem.W.Frag} {d : DefP} (e : fnA K (pAd K d.cls d.name) = d.val) (c : d.ok K = true) : ∃ fd, FunD K d.name d.qual d.params d.body d.scope [] [] (pAd K d.cls d.name) fd := by
  obtain ⟨kp, c2⟩ := He.ba c
  unfold fnA at e
  cases q : K.lookup (pAd K d.cls d.name) with
  | none =>
    rw [q] at c2
    cases c2
  | some o =>
    obtain ⟨oc, od, dt, osl⟩ := o
    rw [q] at c2 e
    cases dt with
    | func fd =>
      obtain ⟨n1, n2, n3, n4, n5, n6, n7, n8, n9, n10, n11, n12, n13, n14, n15⟩ := fd
      have e2 : (some (n1, n2, n3, n4, n5, n6, n7, n15) : He.FnW) = some (d.name, d.qual, d.params, .stmts d.body, d.scope, mainGlobals, [], builtinsNs) := e
      simp only [Option.some.injEq, Prod.mk.injEq] at e2
      obtain ⟨h1, h2, h3, h4, h5, h6, h7, h8⟩ := e2
      subst h1 h2 h3 h4 h5 h6 h7 h8
      have c3 : (PySem.W.codeIn K n13 d.qual && (He.dflB K n8 [] && He.kwdB K n9 [])) = true := c2
      obtain ⟨k1, k2⟩ := He.ba c3
      obtain ⟨k3, k4⟩ := He.ba k2
      exact ⟨_, ⟨oc, od, n8, n9, n10, n11, n12, n13, n14, osl, rfl, q, k1, He.dflB_ok k3, He.kwdB_ok k4⟩, kp⟩
    | _ => cases c2
def SaysP (gs : List DefP) (K : PySem.W.Frag) : Prop := (gs.all fun d => d.ok K) = true ∧ (gs.map fun d => fnA K (pAd K d.cls d.name)) = gs.map DefP.val
theorem SaysP.def_ {gs : List DefP} {K : PySem.W.Frag} (c : SaysP gs K) (i : Nat) {d : DefP} (h : gs[i]? = some d := by rfl) : ∃ fd, FunD K d.name d.qual d.params d.body d.scope [] [] (pAd K d.cls d.name) fd := by
  have e2 : (gs.map fun d => fnA K (pAd K d.cls d.name))[i]? = (gs.map DefP.val)[i]? := by rw [c.2]
  rw [List.getElem?_map, List.getElem?_map, h] at e2
  exact DefP.funD (Option.some.inj e2) (List.all_eq_true.mp c.1 d (List.mem_of_getElem? h))
abbrev AlZ : Type := He.AlD × List He.FnW × FnC × Bool
def obsZ (n : Nat) (fa : List He.Fa) (fn : List He.DefD) (gs : List DefP) (ex : PySem.W.Frag → Bool) (fc : PySem.W.Frag → FnC) (fb : PySem.W.Frag → Bool) (g : Addr → Option Obj) : AlZ :=
  (He.obsD fa fn (He.frT g (asY g n)), (gs.map fun d => fnA (He.frT g (asY g n)) (pAd (He.frT g (asY g n)) d.cls d.name)), fc (He.frT g (asY g n)), ex (He.frT g (asY g n)) && (fb (He.frT g (asY g n)) && gs.all fun d => d.ok (He.frT g (asY g n))))
def valZ (fn : List He.DefD) (gs : List DefP) (fcv : FnC) : AlZ := (He.valD fn, gs.map DefP.val, fcv, true)
structure SaysZ (fa : List He.Fa) (fn : List He.DefD) (gs : List DefP) (ex : PySem.W.Frag → Bool) (fc : PySem.W.Frag → FnC) (fcv : FnC) (fb : PySem.W.Frag → Bool) (K : PySem.W.Frag) : Prop where
  d : He.SaysD fa fn K
  p : SaysP gs K
  f : fc K = fcv
  more : ex K = true
  b : fb K = true
def hookZ (n : Nat) (fa : List He.Fa) (fn : List He.DefD) (gs : List DefP) (ex : PySem.W.Frag → Bool) (fc : PySem.W.Frag → FnC) (fcv : FnC) (fb : PySem.W.Frag → Bool) : PySem.W.Hook where
  α := AlZ
  obs := fun s => obsZ n fa fn gs ex fc fb s.heap.get?
  val := fun _ => valZ fn gs fcv
  says := fun _ h => ∃ K : PySem.W.Frag, K.In h ∧ SaysZ fa fn gs ex fc fcv fb K
  of := fun _ _ e => by
    refine ⟨_, He.frT_in, congrArg (fun z : AlZ => z.1) e, ⟨?_, congrArg (fun z : AlZ => z.2.1) e⟩, congrArg (fun z : AlZ => z.2.2.1) e, ?_, ?_⟩
    · exact (He.ba (He.ba (congrArg (fun z : AlZ => z.2.2.2) e)).2).2
    · exact (He.ba (congrArg (fun z : AlZ => z.2.2.2) e)).1
    · exact (He.ba (He.ba (congrArg (fun z : AlZ => z.2.2.2) e)).2).1
  keeps := fun _ _ _ ⟨K, hK, c⟩ k => ⟨K, PySem.W.Frag.In.keeps hK k, c⟩
theorem obsZ_eq {n : Nat} {fa : List He.Fa} {fn : List He.DefD} {gs : List DefP} {ex : PySem.W.Frag → Bool} {fc : PySem.W.Frag → FnC} {fcv : FnC} {fb : PySem.W.Frag → Bool} {g : Addr → Option Obj} {s : Shared} (h : ∀ a, g a = s.heap.get? a) : obsZ n fa fn gs ex fc fb g = (hookZ n fa fn gs ex fc fcv fb).obs s := by
  have e : g = s.heap.get? := funext h
  rw [e] <;> rfl
theorem SaysZ.fau {fa : List He.Fa} {fn : List He.DefD} {gs : List DefP} {ex : PySem.W.Frag → Bool} {K : PySem.W.Frag} {h : Heap} {mg : Str → Option Value}
    (c : SaysZ fa fn gs ex (fun K => fnC K ("Fault", some "__init__")) fnF (fun K => (faBs "/claim/cut.py" K).all id) K) (X : K.In h) (Gm : h.Ns mainGlobals mg) : FaT K mg := fun P i => by
  refine faTxt_of X Gm c.f ?_ i.top
  rw [i.file]
  exact c.b
structure Pt (P : Program) (w : World) (K : PySem.W.Frag) (mg : Str → Option Value) (base : Heap) (k : Nat) (C : Addr) (m : Str) (sp : Sp) : Prop where
  ex : ∃ (p f : Addr) (fd : FuncData) (ps : List Str), Cls K C ∧ PropOf K C m p f ∧ FnOk P w K mg base (L2.CX P w) k f fd ps sp ∧ Binds K fd ps []
theorem pe_pr {X : Cx} {k j : Nat} {C : Addr} {f : Str} {sp : Sp} {e : Expr} {pos : Pos} {ta : TE} (c : Pt X.prog X.w X.K X.mg X.base k C f sp) (hr : Room j X.A) (hk : k + 1 ≤ j) (he : PE X e ta) (hab : attributeBase e f X.env (eval e X.env) = eval e X.env := by rfl) :
    PE X (.Attribute e f pos) (tProp C sp [] E0 ta) := by
  obtain ⟨p, f', fd, ps, cl, hp, F, b⟩ := c.ex
  exact pe_prop he cl hp F (hr.mono hk) b .nil (fun _ _ _ _ _ _ _ h => by
    obtain ⟨_, _, _, _, _, _, _, _, _, _, _, _, z⟩ := h
    exact z.elim) hab
section
variable {X : Cx} {k j : Nat} {C : Addr} {x m : Str} {sp : Sp} {dvs : List V} {p pos : Pos} {E : L2.St → XK}
theorem pe_cl0 (c : Cl X.prog X.w X.K X.mg X.base k x sp dvs) (hr : Room j X.A) (hk : k ≤ j) (hx : ∀ σ, PassesAt (L2.CX X.prog X.w) X σ (E σ)) (hg : Gl X x) (hdb : (x == ("__debug__" : Str)) = false := by decide) :
    PE X (.Call (.Name x p) [] [] pos) (tCallSD sp dvs E tNil) := by
  obtain ⟨f, fd, ps, ds, F, hm, kp, b, d⟩ := c.ex
  refine ⟨fun pins s σ H Q I h => ?_⟩
  refine wpAny_Call_Name_kw (ld_glob I hg hm ?_ hdb)
  exact PySem.W.callWith_K0 I.kIn kp (run_fnSD (us := []) F (hr.mono hk) b d (hx σ) I .nil h)
theorem pe_mq0 (c : Mq X.prog X.w X.K X.mg X.base k x C sp dvs) (hr : Room j X.A) (hk : k + 1 ≤ j) (hg : Gl X x) (hdb : (x == ("__debug__" : Str)) = false := by decide) :
    PE X (.Call (.Name x p) [] [] pos) (tMake C sp dvs E0 tNil) := by
  obtain ⟨f, fd, ps, ds, M, F, hm, b, d⟩ := c.ex
  exact pe_make0 M F (hr.mono hk) hg hm b d passL hdb
end
end G

namespace G
open PySem PySem.Spec PyProof.Rows L2
/-! ### texts by their codes -/
theorem len_svv (zs : List Nat) : (⟨zs.toArray⟩ : Str).length = zs.length := by show zs.toArray.size = _; simp
theorem app_svv (a b : List Nat) : (⟨a.toArray⟩ : Str) ++ ⟨b.toArray⟩ = ⟨(a ++ b).toArray⟩ := by
  show (⟨a.toArray ++ b.toArray⟩ : Str) = _
  simp
theorem svv_inj {a b : List Nat} (h : (⟨a.toArray⟩ : Str) = ⟨b.toArray⟩) : a = b := by
  have z := congrArg (fun s : Str => s.cps.toList) h
  simpa using z
theorem dT {a b : List Nat} : decide ((⟨a.toArray⟩ : Str) = ⟨b.toArray⟩) = decide (a = b) := decide_eq_decide.mpr ⟨svv_inj, fun h => by rw [h]⟩
theorem sl16 : sizeLine = 16777216 := sizeLine_eq
theorem drop_c {α : Type} {zs : List α} {i : Nat} {c : α} (h : zs[i]? = some c) : zs.drop i = c :: zs.drop (i + 1) := by
  obtain ⟨hi, e⟩ := List.getElem?_eq_some_iff.mp h
  rw [List.drop_eq_getElem_cons hi, e]
theorem of_drop {α : Type} {zs : List α} {i : Nat} {c : α} {r : List α} (h : zs.drop i = c :: r) : zs[i]? = some c ∧ zs.drop (i + 1) = r ∧ i < zs.length := by
  have h1 : i < zs.length := by
    rcases Nat.lt_or_ge i zs.length with z | z
    · exact z
    · rw [List.drop_eq_nil_of_le z] at h; cases h
  rw [List.drop_eq_getElem_cons h1] at h
  injection h with h2 h3
  exact ⟨by rw [List.getElem?_eq_getElem h1, h2], h3, h1⟩
theorem inV_t {t : List Nat} : ∀ {xs : List (List Nat)}, inV (svv t) (xs.map svv) = xs.contains t
  | [] => rfl
  | x :: xs => by
    have ih := inV_t (t := t) (xs := xs)
    unfold inV at ih ⊢
    rw [List.map_cons, List.any_cons, ih, List.contains_cons]
    congr 1
    show ((⟨x.toArray⟩ : Str) == ⟨t.toArray⟩) = _
    by_cases h : t = x
    · subst h; simp
    · have : ¬ (⟨x.toArray⟩ : Str) = ⟨t.toArray⟩ := fun z => h (svv_inj z).symm
      rw [beq_eq_false_iff_ne.mpr this, beq_eq_false_iff_ne.mpr h]
theorem flat_t : ∀ {xs : List (List Nat)}, (xs.map svv).all flatV = true
  | [] => rfl
  | x :: xs => by rw [List.map_cons, List.all_cons, flat_t (xs := xs)]; rfl
section
variable {K : PySem.W.Frag} {F F0 F' H H' : Hp} {x y w : V} {d : D} {ds es : List D} {us vs : List V} {M : List (Addr × HO)} {Q : VK} {S : Hp → Prop} {σ : L2.St} {a b zs : List Nat}
theorem v_eqT (q : Q (.bl (decide (a = b))) H) : rEqX K (.str ⟨a.toArray⟩) (.str ⟨b.toArray⟩) H Q := v_eqS (by rw [dT]; exact q)
theorem v_neT (q : Q (.bl (!decide (a = b))) H) : rNeX K (.str ⟨a.toArray⟩) (.str ⟨b.toArray⟩) H Q := v_neS (by rw [dT]; exact q)
theorem v_lenT' (h : zs.length ≤ 16777216) (q : Q (.int (zs.length : Int)) H) : rLen K [.str ⟨zs.toArray⟩] H Q := v_lenS (by rw [len_svv, sl16]; exact h) (by rw [len_svv]; exact q)
theorem v_ixT' {n : Int} {i c : Nat} (h : zs.length ≤ 16777216) (e : n = (i : Int)) (hc : zs[i]? = some c) (q : Q (.str ⟨[c].toArray⟩) H) : rIx K (.str ⟨zs.toArray⟩) (.int n) H Q :=
  v_ixS (c := c) (by rw [len_svv, sl16]; exact h) (atN (i := i) e (by simpa using hc)) q
theorem v_inC {c : Nat} (q : Q (.bl (decide (c ∈ zs))) H) : rInX K (.str ⟨[c].toArray⟩) (.str ⟨zs.toArray⟩) H Q := v_inS (c := c) (by simpa using q)
theorem v_notInC {c : Nat} (q : Q (.bl (!decide (c ∈ zs))) H) : rNotInX K (.str ⟨[c].toArray⟩) (.str ⟨zs.toArray⟩) H Q := v_notInS (c := c) (by simpa using q)
theorem v_addT (h : a.length + b.length ≤ 16777216) (q : Q (.str ⟨(a ++ b).toArray⟩) H) : rAddX K (.str ⟨a.toArray⟩) (.str ⟨b.toArray⟩) H Q :=
  v_addS (by rw [len_svv, len_svv, sl16]; exact h) (by rw [app_svv]; exact q)
theorem cut_svv {p n : Nat} (hp : p ≤ zs.length) : cutS ⟨zs.toArray⟩ (some (p : Int)) (some ((p + n : Nat) : Int)) = ⟨((zs.drop p).take n).toArray⟩ := by
  unfold cutS
  have h1 : HT.sIx (⟨zs.toArray⟩ : Str).length 0 (some (p : Int)) = p := by
    rw [len_svv]
    unfold HT.sIx
    simp only []
    rw [if_neg (by omega)]
    omega
  have h2 : HT.sIx (⟨zs.toArray⟩ : Str).length (⟨zs.toArray⟩ : Str).length (some ((p + n : Nat) : Int)) = min (p + n) zs.length := by
    rw [len_svv]
    unfold HT.sIx
    simp only []
    rw [if_neg (by omega)]
    omega
  rw [h1, h2]
  have e : ((zs.drop p).take (min (p + n) zs.length - p)) = (zs.drop p).take n := by
    rcases Nat.lt_or_ge (p + n) zs.length with z | z
    · rw [show min (p + n) zs.length - p = n by omega]
    · rw [List.take_of_length_le (i := n) (by rw [List.length_drop]; omega), List.take_of_length_le (by rw [List.length_drop]; omega)]
  show (⟨((zs.toArray.toList.drop p).take _).toArray⟩ : Str) = _
  rw [show zs.toArray.toList = zs by simp, e]
theorem v_slT {p n : Nat} {m1 m2 : Int} (h : zs.length ≤ 16777216) (hp : p ≤ zs.length) (e1 : m1 = (p : Int)) (e2 : m2 = ((p + n : Nat) : Int)) (q : Q (.str ⟨((zs.drop p).take n).toArray⟩) H) : rSlX K (.str ⟨zs.toArray⟩) (some m1) (some m2) H Q := by
  subst e1 e2
  exact v_slS (by rw [len_svv, sl16]; exact h) (by rw [cut_svv hp]; exact q)
theorem starts_svv {s : List Nat} {p : Nat} (hp : p ≤ zs.length) : Txt.startswith3 ⟨zs.toArray⟩ ⟨s.toArray⟩ (p : Int) = decide ((zs.drop p).take s.length = s) := by
  have e : (zs.toArray.extract p (p + s.length)).toList = (zs.drop p).take s.length := by
    rw [Array.toList_extract]
    simp [List.extract_eq_take_drop]
  unfold Txt.startswith3
  have f : ∀ n : Nat, fromIndex n (p : Int) = p := fun n => by unfold fromIndex; rw [if_neg (by omega)]; omega
  rw [f, len_svv, len_svv]
  have g : Builtin.Str.subAt ⟨zs.toArray⟩ ⟨s.toArray⟩ p = decide ((zs.drop p).take s.length = s) := by
    unfold Builtin.Str.subAt
    rw [len_svv, ← e, Bool.eq_iff_iff, decide_eq_true_iff, beq_iff_eq]
    constructor
    · intro h; rw [h]
    · intro h
      apply Array.toList_inj.mp
      exact h
  rw [g, Bool.eq_iff_iff, Bool.and_eq_true, decide_eq_true_iff, decide_eq_true_iff]
  refine ⟨fun h => h.2, fun h => ⟨?_, h⟩⟩
  have := congrArg List.length h
  rw [List.length_take, List.length_drop] at this
  omega
end
/-! ### what is computed: a value, a fault at a place, or nothing (never met) -/
inductive Rs (α : Type) where
  | ok (x : α)
  | bad (i : Nat) (z : List Nat)
  | stuck
def Rs.bind {α β : Type} (r : Rs α) (k : α → Rs β) : Rs β := match r with
  | .ok x => k x
  | .bad i z => .bad i z
  | .stuck => .stuck
def Rs.on {α : Type} (r : Rs α) (ok : α → Prop) (bad : Nat → List Nat → Prop) : Prop := match r with
  | .ok x => ok x
  | .bad i z => bad i z
  | .stuck => False
theorem Rs.on_bind {α β : Type} {r : Rs α} {k : α → Rs β} {ok : β → Prop} {bad : Nat → List Nat → Prop} : (r.bind k).on ok bad ↔ r.on (fun x => (k x).on ok bad) bad := by
  cases r <;> exact Iff.rfl
theorem Rs.on.imp {α : Type} {r : Rs α} {ok ok' : α → Prop} {bad bad' : Nat → List Nat → Prop} (h : r.on ok bad) (f : ∀ x, ok x → ok' x) (g : ∀ i z, bad i z → bad' i z) : r.on ok' bad' := by
  cases r with
  | ok x => exact f x h
  | bad i z => exact g i z h
  | stuck => exact h
/-- the next step of what is computed -/
theorem Rs.on.step {α β : Type} {r : Rs α} {k : α → Rs β} {ok : β → Prop} {bad bad' : Nat → List Nat → Prop} {ok' : α → Prop} (h : (r.bind k).on ok bad) (g : ∀ i z, bad i z → bad' i z) (f : ∀ x, (k x).on ok bad → ok' x) : r.on ok' bad' :=
  (Rs.on_bind.mp h).imp f g
/-- a Fault is let out -/
def Er (K : PySem.W.Frag) (E : XK) (F : Hp) (M : List (Addr × HO)) (i : Nat) (z : List Nat) : Prop :=
  ∀ F' H' d, Same F F' → HH F' H' ((d, .xd (faD (i : Int) ⟨z.toArray⟩)) :: M) → E (.ref (He.ga K "Fault")) (some d) H'
theorem Er.mono {K : PySem.W.Frag} {E : XK} {F F1 : Hp} {M : List (Addr × HO)} {i : Nat} {z : List Nat} (h : Er K E F M i z) (s : Same F F1) : Er K E F1 M i z := fun F' H' d s' hh => h F' H' d (s.trans s') hh
theorem Er.up {K : PySem.W.Frag} {E : XK} {F : Hp} {M : List (Addr × HO)} {i : Nat} {z : List Nat} {c : Addr × HO} (h : Er K E F M i z) : Er K E F (c :: M) i z := fun F' H' d s' hh => h F' H' d s' hh.drop1
theorem Er.raise {K : PySem.W.Frag} {E : XK} {F H : Hp} {M : List (Addr × HO)} {i : Nat} {n : Int} {z : List Nat} (h : Er K E F M i z) (hh : HH F H M) (e : n = (i : Int)) (hi : i < 1000000000) (hz : z.length ≤ 1000) :
    FauK (He.ga K "Fault") (fun cls d H => E cls d H) [.int n, .str ⟨z.toArray⟩] H := by
  subst e
  exact v_fau (by omega) (by rw [len_svv]; exact hz) fun d hd => h F _ d (Same.refl F) (hh.new hd)
section
variable {K : PySem.W.Frag} {F F0 F' H H' : Hp} {x y w : V} {d : D} {ds es : List D} {us vs : List V} {M : List (Addr × HO)} {Q : VK} {S : Hp → Prop} {σ : L2.St} {a b zs : List Nat} {nx bk ct : L2.St → Hp → Prop} {rt : VK}
/-! rules at data that stands in a part of the heap -/
theorem s_fld {c f : Str} {fs : List (Str × D)} (h : At K F0 (.obj c fs) x) (s : Same F0 H) (cl : Cls K (He.ga K c)) (n : NoAttr K (He.ga K c) f) (l : fs.lookup f = some d) (q : ∀ w, At K F0 d w → Q w H) : FldK K f x H Q := by
  obtain ⟨a, dx, vs, rfl, hF, hv⟩ := h.obj_
  obtain ⟨u, hu, ha⟩ := hv.get l
  exact v_fld (s _ _ hF) cl n hu (q u ha)
theorem s_isi {c c' : Str} {fs : List (Str × D)} {k : Bool} (h : At K F0 (.obj c fs) x) (s : Same F0 H) (cl : Cls K (He.ga K c)) (f : InsF K (He.ga K c)) (e : PySem.W.kitOne K (.ref (He.ga K c)) (.ref (He.ga K c')) = some k) (q : Q (.bl k) H) : rIsi K [x, .ref (He.ga K c')] H Q := by
  obtain ⟨a, dx, vs, rfl, hF, hv⟩ := h.obj_
  exact v_isiO (s _ _ hF) cl f e q
theorem s_lenL {α : Type} {e : α → D} {xs : List α} (hx : At K F0 (.lst (xs.map e)) x) (s : Same F0 H) (q : Q (.int (xs.length : Int)) H) : rLen K [x] H Q := by
  obtain ⟨a, vs, rfl, h, t⟩ := hx.lst_
  exact v_lenSq (s.seq h) (by rw [t.len, List.length_map]; exact q)
theorem s_ixL {α : Type} {e : α → D} {xs : List α} {y : α} {n : Int} {i : Nat} (hx : At K F0 (.lst (xs.map e)) x) (s : Same F0 H) (en : n = (i : Int)) (ey : xs[i]? = some y) (q : ∀ w, At K F0 (e y) w → Q w H) : rIx K x (.int n) H Q := by
  obtain ⟨a, vs, rfl, h, t⟩ := hx.lst_
  obtain ⟨u, hu, ha⟩ := t.get (i := i) (d := e y) (by rw [List.getElem?_map, ey]; rfl)
  exact v_ixSq (s.seq h) (atN en hu) (q u ha)
theorem s_ixT {n : Int} {i : Nat} (hx : At K F0 (.tup ds) x) (s : Same F0 H) (en : n = (i : Int)) (e : ds[i]? = some d) (q : ∀ w, At K F0 d w → Q w H) : rIx K x (.int n) H Q := by
  obtain ⟨a, vs, rfl, h, t⟩ := hx.tup_
  obtain ⟨u, hu, ha⟩ := t.get e
  exact .inr (.inl ⟨_, _, _, _, rfl, rfl, Same.sqt s h, atN en hu, q u ha⟩)
theorem s_inL {xs : List (List Nat)} (hx : At K F0 (.lst (xs.map D.t)) x) (s : Same F0 H) (q : Q (.bl (xs.contains a)) H) : rInX K (.str ⟨a.toArray⟩) x H Q := by
  obtain ⟨p, vs, rfl, h, t⟩ := hx.lst_
  have e := t.flat (g := svv)
  subst e
  exact v_inL (s.seq h) rfl flat_t (by rw [inV_t]; exact q)
theorem s_notInL {xs : List (List Nat)} (hx : At K F0 (.lst (xs.map D.t)) x) (s : Same F0 H) (q : Q (.bl (!xs.contains a)) H) : rNotInX K (.str ⟨a.toArray⟩) x H Q := by
  obtain ⟨p, vs, rfl, h, t⟩ := hx.lst_
  have e := t.flat (g := svv)
  subst e
  exact v_notInL (s.seq h) rfl flat_t (by rw [inV_t]; exact q)
theorem s_inT {xs : List (List Nat)} (hx : At K F0 (.tup (xs.map D.t)) x) (s : Same F0 H) (q : Q (.bl (xs.contains a)) H) : rInX K (.str ⟨a.toArray⟩) x H Q := by
  obtain ⟨p, vs, rfl, h, t⟩ := hx.tup_
  have e := t.flat (g := svv)
  subst e
  exact .inl ⟨p, _, rfl, .inr (Same.sqt s h), rfl, flat_t, by rw [inV_t]; exact q⟩
theorem s_notInT {xs : List (List Nat)} (hx : At K F0 (.tup (xs.map D.t)) x) (s : Same F0 H) (q : Q (.bl (!xs.contains a)) H) : rNotInX K (.str ⟨a.toArray⟩) x H Q := by
  obtain ⟨p, vs, rfl, h, t⟩ := hx.tup_
  have e := t.flat (g := svv)
  subst e
  exact .inl ⟨p, _, rfl, .inr (Same.sqt s h), rfl, flat_t, by rw [inV_t]; exact q⟩
theorem s_gtup {S : L2.St → Hp → Prop} {n : Nat} {t : TGs} (h : At K F0 (.tup ds) x) (s : Same F0 H) (l : ds.length = n) (q : ∀ us, AtA K F0 ds us → t us σ H S) : gTup K n t x σ H S := by
  obtain ⟨p, vs, rfl, hq, ht⟩ := h.tup_
  exact ⟨p, vs, rfl, Same.sqt s hq, by rw [ht.len, l], q vs ht⟩
/-- a list that is being filled -/
theorem o_append {i : Nat} {l : Addr} {o : HO} (hh : HH F H M) (e : M[i]? = some (l, .lst vs)) (hl : vs.length < 16777216) (q : Q .non (upd H l (.lst (vs ++ [x])))) : tyV K "list" (.ref l) H ∧ rAppend (.ref l) [x] H Q :=
  g_tyL (hh.get e) (v_append (hh.get e) (by rw [sl16]; exact hl) q)
/-! what a making, a tuple, a list wants -/
def MakeK (C : Addr) (sp : Sp) (vs : List V) (Q : VK) (H : Hp) (E : XK) : Prop := ∀ x dx, H x = none → H dx = none → dx ≠ x → sp (.ref x :: vs) (upd (upd H dx (.own x)) x (.ins C dx [])) (fun v H2 => v = .non ∧ Q (.ref x) H2) E
theorem g_makeK {C : Addr} {sp : Sp} {E : XK} {TA1 : TA} (h : TA1 σ H fun vs H1 => MakeK C sp vs Q H1 E) : tMake C sp [] E TA1 σ H Q := g_make h
theorem g_makeD {C : Addr} {sp : Sp} {E : XK} {TA1 : TA} {dvs : List V} (h : TA1 σ H fun vs H1 => MakeK C sp (vs ++ dvs) Q H1 E) : tMake C sp dvs E TA1 σ H Q := h
def TupK (xs : List V) (Q : VK) (H : Hp) : Prop := xs.length ≤ sizeLine ∧ ∀ p, H p = none → Q (.ref p) (upd H p (.tup xs))
def LstK (xs : List V) (Q : VK) (H : Hp) : Prop := xs.length ≤ sizeLine ∧ ∀ p, H p = none → Q (.ref p) (upd H p (.lst xs))
theorem g_tupK {TA1 : TA} (h : TA1 σ H fun xs H1 => TupK xs Q H1) : tTup TA1 σ H Q := h
theorem g_lstK {TA1 : TA} (h : TA1 σ H fun xs H1 => LstK xs Q H1) : tLst TA1 σ H Q := h
theorem s_tup {xs : List V} (hh : HH F H M) (h : AtA K F ds xs) (hl : xs.length ≤ 1000) (q : ∀ F' H' u, Same F F' → HH F' H' M → At K F' (.tup ds) u → Q u H') : TupK xs Q H := ⟨by rw [sl16]; omega, a_tup hh h q⟩
theorem s_lst {xs : List V} (hh : HH F H M) (h : AtA K F ds xs) (hl : xs.length ≤ 1000) (q : ∀ F' H' u, Same F F' → HH F' H' M → At K F' (.lst ds) u → Q u H') : LstK xs Q H := ⟨by rw [sl16]; omega, a_lst hh h q⟩
/-- a list that will be filled -/
theorem o_lst {xs : List V} (hh : HH F H M) (hl : xs.length ≤ 1000) (q : ∀ H' p, HH F H' ((p, .lst xs) :: M) → Q (.ref p) H') : LstK xs Q H := ⟨by rw [sl16]; omega, fun p hp => q _ p (hh.new hp)⟩
theorem o_tup {xs : List V} (hl : xs.length ≤ 1000) (q : ∀ p, H p = none → Q (.ref p) (upd H p (.tup xs))) : TupK xs Q H := ⟨by rw [sl16]; omega, q⟩
/-- a property is read -/
def PropK (C : Addr) (sp : Sp) (dvs : List V) (E : XK) (x : V) (H : Hp) (Q : VK) : Prop := ∃ a dx fs, x = .ref a ∧ H a = some (.ins C dx fs) ∧ sp (.ref a :: dvs) H Q E
theorem g_prop {C : Addr} {sp : Sp} {dvs : List V} {E : XK} {ta : TE} (h : ta σ H fun x H1 => PropK C sp dvs E x H1 Q) : tProp C sp dvs E ta σ H Q := h
theorem v_neg {f : Int → V} {j : Int} (q : Q (f j) H) : rU f (.int j) H Q := ⟨_, rfl, q⟩
/-! an instance is made field by field -/
theorem putF_new {f : Str} {v : V} : ∀ {fs : List (Str × V)}, (fs.map (·.1)).contains f = false → putF f v fs = fs ++ [(f, v)]
  | [], _ => rfl
  | (g, z) :: r, h => by
    rw [List.map_cons, List.contains_cons, Bool.or_eq_false_iff] at h
    have n : ¬ g = f := fun e => by rw [e, beq_self_eq_true] at h; cases h.1
    unfold putF
    rw [if_neg n, putF_new h.2]
    rfl
theorem mk_start {C : Addr} {sp : Sp} {E : XK} (hh : HH F H M) (h : ∀ F' H' v dx, Same F F' → HH F' H' ((v, .ins C dx []) :: M) → sp (.ref v :: vs) H' (fun w H2 => w = .non ∧ Q (.ref v) H2) E) : MakeK C sp vs Q H E := fun v dx hv hdx ne => by
  have hv1 : upd H dx (.own v) v = none := by rw [upd_ne (Ne.symm ne)]; exact hv
  exact h _ _ v dx (hh.grow (p := dx) (o := .own v) hdx) ((hh.newF (p := dx) (o := .own v) hdx).new (o := .ins C dx []) hv1)
theorem s_sfld {C a dx : Addr} {f : Str} {fs : List (Str × V)} (hh : HH F H ((a, .ins C dx fs) :: M)) (cl : Cls K C) (n : NoAttr K C f) (ks : List Str) (e : fs.map (·.1) = ks) (nf : ks.contains f = false) (l : fs.length < 999)
    (q : ∀ H', HH F H' ((a, .ins C dx (fs ++ [(f, y)])) :: M) → S H') : SfldK K f (.ref a) y H S := by
  refine v_sfld (hh.get (i := 0) rfl) cl n (by omega) (q _ ?_)
  rw [putF_new (by rw [e]; exact nf)]
  exact hh.set0
theorem mk_end {c : Str} {v dx : Addr} {fs : List (Str × D)} {gs : List (Str × V)} (hh : HH F H ((v, .ins (He.ga K c) dx gs) :: M)) (ha : AtF K F fs gs) (q : ∀ F' H' u, Same F F' → HH F' H' M → At K F' (.obj c fs) u → Q u H') : Q (.ref v) H :=
  q _ _ _ hh.frzS hh.frz (At.mkO upd_same (ha.mono hh.frzS))
theorem s_listL (hx : At K F0 (.lst ds) x) (hh : HH F H M) (s : Same F0 F) (q : ∀ F' H' u, Same F F' → HH F' H' M → At K F' (.lst ds) u → Q u H') : rListX K [x] H Q := by
  obtain ⟨a, vs, rfl, h, t⟩ := hx.lst_
  refine v_listL (hh.sub.seq (s.seq h)) fun l hl => q _ _ _ (hh.grow hl) (hh.newF hl) (At.mkL upd_same (t.mono (s.trans (hh.grow hl))))
theorem s_listT (hx : At K F0 (.tup ds) x) (hh : HH F H M) (s : Same F0 F) (q : ∀ F' H' u, Same F F' → HH F' H' M → At K F' (.lst ds) u → Q u H') : rListX K [x] H Q := by
  obtain ⟨a, vs, rfl, h, t⟩ := hx.tup_
  refine v_listT (Same.sqt hh.sub (Same.sqt s h)) fun l hl => q _ _ _ (hh.grow hl) (hh.newF hl) (At.mkL upd_same (t.mono (s.trans (hh.grow hl))))
/-- a field of a cell that may change is set anew -/
theorem o_sfld0 {C a dx : Addr} {f : Str} {fs : List (Str × V)} (hh : HH F H ((a, .ins C dx fs) :: M)) (cl : Cls K C) (n : NoAttr K C f) (l : fs.length < 1000) (q : ∀ H', HH F H' ((a, .ins C dx (putF f y fs)) :: M) → S H') : SfldK K f (.ref a) y H S :=
  v_sfld (hh.get (i := 0) rfl) cl n l (q _ hh.set0)
end
section
variable {K : PySem.W.Frag} {F F0 F' H H' : Hp} {x y w : V} {d : D} {ds es : List D} {us vs : List V} {M : List (Addr × HO)} {Q : VK} {S : Hp → Prop} {σ : L2.St} {a b zs : List Nat} {nx bk ct : L2.St → Hp → Prop} {rt : VK}
/-! a cell's list: walked, asked -/
theorem o_lcL {α β : Type} {e : α → D} {f : β → D} {xs : List α} {g : TG} {tt : TT} {te : TE} {ws : List Nat} {l : Addr} {i : Nat} (hh : HH F H M) (hm : M[i]? = some (l, .lst us)) (t : AtA K F (xs.map e) us) (hz : xs.length < 16777216) (r : α → Option β)
    (hs : ∀ y (w : V) F' H' c (P : V → Hp → Prop) (N : Hp → Prop), y ∈ xs → At K F' (e y) w → Same F F' → HH F' H' (c :: M) → (∀ F4 H4 v z, Same F' F4 → HH F4 H4 (c :: M) → r y = some z → At K F4 (f z) v → P v H4) →
      (∀ F4 H4, Same F' F4 → HH F4 H4 (c :: M) → r y = none → N H4) → g w (wipe σ ws) H' fun σ2 H2 => wipe σ2 ws = wipe σ ws ∧ tt σ2 H2 fun b H3 => if b = true then te σ2 H3 (fun v H4 => P v H4) else N H3)
    (q : ∀ F' H' u, Same F F' → HH F' H' M → At K F' (.lst ((xs.filterMap r).map f)) u → Q u H') : OvL K (fun J H1 => LcK J g tt te σ ws H1 Q) (.ref l) H := by
  have hl : us.length = xs.length := by rw [t.len, List.length_map]
  refine v_ovL (SqL.of (hh.get hm)) fun D hD => ?_
  refine c_list (xs := us) (fun i H' => ∃ F' ws, Same F F' ∧ HH F' H' ((D, .lst ws) :: M) ∧ ws.length ≤ i ∧ AtA K F' (((xs.take i).filterMap r).map f) ws) ⟨F, [], Same.refl F, hh.new hD, Nat.zero_le _, AtA.nil⟩
    (fun j H' _ ⟨F', ws, s, h', _⟩ => SqL.of (h'.get (i := i + 1) hm)) (fun i v H' hv ⟨F', ws, s, h', hw, ha⟩ => ?_) (fun H' ⟨F', ws, s, h', hw, ha⟩ => ?_)
  · obtain ⟨d, hd', hat⟩ := t.at_ hv
    rw [List.getElem?_map] at hd'
    cases ex : xs[i]? with
    | none => rw [ex] at hd'; cases hd'
    | some y =>
      rw [ex] at hd'
      cases hd'
      have hi : i < xs.length := by
        rcases Nat.lt_or_ge i xs.length with z | z
        · exact z
        · rw [List.getElem?_eq_none z] at ex; cases ex
      have e1 : xs[i] = y := by rw [List.getElem?_eq_getElem hi] at ex; exact Option.some.inj ex
      have et : xs.take (i + 1) = xs.take i ++ [y] := by rw [← e1]; exact (List.take_append_getElem hi).symm
      refine hs y v F' H' _ _ _ (e1 ▸ List.getElem_mem hi) (hat.mono s) s h' (fun F4 H4 v z s4 h4 er hz => ?_) (fun F4 H4 s4 h4 er => ?_)
      · refine v_put (h4.get (i := 0) rfl) (by rw [sl16]; omega) ⟨F4, ws ++ [v], s.trans s4, h4.set0, by rw [List.length_append]; show _ + 1 ≤ _; omega, ?_⟩
        rw [et, List.filterMap_append, List.filterMap_cons, er]
        exact AtA.snocM (ha.mono s4) hz
      · refine ⟨F4, ws, s.trans s4, h4, by omega, ?_⟩
        rw [et, List.filterMap_append, List.filterMap_cons, er]
        show AtA K F4 ((_ ++ []).map f) ws
        rw [List.append_nil]
        exact ha.mono s4
  · rw [hl, List.take_length] at ha
    exact q _ _ _ (s.trans h'.frzS) h'.frz (frz_lst (h'.out (i := 0) rfl) ha)
theorem o_forL {α : Type} {e : α → D} {xs : List α} {g : TG} {tb : TS} {l : Addr} {i : Nat} (hh : HH F H M) (hm : M[i]? = some (l, .lst us)) (t : AtA K F (xs.map e) us) (I : List α → L2.St → Hp → Prop) (hF : ∀ r σ H, I r σ H → SqL K H l us) (h0 : I xs σ H)
    (hs : ∀ y r w σ H, At K F (e y) w → I (y :: r) σ H → g w σ H fun σ2 H2 => tb ⟨I r, rt, nx, I r⟩ σ2 H2) (hd : ∀ σ H, I [] σ H → nx σ H) : OvL K (fun J H1 => LoopG J g tb ⟨nx, rt, bk, ct⟩ σ H1) (.ref l) H := by
  have hl : us.length = xs.length := by rw [t.len, List.length_map]
  refine v_ovL (SqL.of (hh.get hm)) (l_list (xs := us) (fun i σ H => I (xs.drop i) σ H) h0 (fun i σ H _ q => hF _ _ _ q) (fun i v σ H hv q => ?_) (fun σ H q => hd σ H ?_))
  · obtain ⟨d, hd', ha⟩ := t.at_ hv
    rw [List.getElem?_map] at hd'
    cases ex : xs[i]? with
    | none => rw [ex] at hd'; cases hd'
    | some y =>
      rw [ex] at hd'
      cases hd'
      exact hs y _ v σ H ha (by rw [drop_c ex] at q; exact q)
  · rw [hl, List.drop_length] at q
    exact q
theorem o_lenL {l : Addr} {i : Nat} (hh : HH F H M) (hm : M[i]? = some (l, .lst us)) (q : Q (.int (us.length : Int)) H) : rLen K [.ref l] H Q := v_lenL (hh.get hm) q
theorem o_inL {xs : List (List Nat)} {l : Addr} {i : Nat} (hh : HH F H M) (hm : M[i]? = some (l, .lst us)) (t : AtA K F (xs.map D.t) us) (q : Q (.bl (xs.contains a)) H) : rInX K (.str ⟨a.toArray⟩) (.ref l) H Q := by
  have e := t.flat (g := svv)
  subst e
  exact v_inL (SqL.of (hh.get hm)) rfl flat_t (by rw [inV_t]; exact q)
theorem o_notInL {xs : List (List Nat)} {l : Addr} {i : Nat} (hh : HH F H M) (hm : M[i]? = some (l, .lst us)) (t : AtA K F (xs.map D.t) us) (q : Q (.bl (!xs.contains a)) H) : rNotInX K (.str ⟨a.toArray⟩) (.ref l) H Q := by
  have e := t.flat (g := svv)
  subst e
  exact v_notInL (SqL.of (hh.get hm)) rfl flat_t (by rw [inV_t]; exact q)
/-- a list that will be filled, behind the first cell -/
theorem o_lst1 {xs : List V} {c : Addr × HO} (hh : HH F H (c :: M)) (hl : xs.length ≤ 1000) (q : ∀ H' p, HH F H' (c :: (p, .lst xs) :: M) → Q (.ref p) H') : LstK xs Q H := ⟨by rw [sl16]; omega, fun p hp => q _ p (hh.new1 hp)⟩
theorem o_app0 {l : Addr} (hh : HH F H ((l, .lst vs) :: M)) (hl : vs.length < 16777216) (q : ∀ H', HH F H' ((l, .lst (vs ++ [x])) :: M) → Q .non H') : rAppend (.ref l) [x] H Q := v_append (hh.get (i := 0) rfl) (by rw [sl16]; exact hl) (q _ hh.set0)
theorem o_app1 {l : Addr} {c : Addr × HO} (hh : HH F H (c :: (l, .lst vs) :: M)) (hl : vs.length < 16777216) (q : ∀ H', HH F H' (c :: (l, .lst (vs ++ [x])) :: M) → Q .non H') : rAppend (.ref l) [x] H Q := v_append (hh.get (i := 1) rfl) (by rw [sl16]; exact hl) (q _ hh.set1)
theorem o_app2 {l : Addr} {c c2 : Addr × HO} (hh : HH F H (c :: c2 :: (l, .lst vs) :: M)) (hl : vs.length < 16777216) (q : ∀ H', HH F H' (c :: c2 :: (l, .lst (vs ++ [x])) :: M) → Q .non H') : rAppend (.ref l) [x] H Q := v_append (hh.get (i := 2) rfl) (by rw [sl16]; exact hl) (q _ hh.set2)
theorem o_tyL {l : Addr} {i : Nat} {A : Prop} (hh : HH F H M) (hm : M[i]? = some (l, .lst us)) (q : A) : tyV K "list" (.ref l) H ∧ A := g_tyL (hh.get hm) q
end
section
variable {K : PySem.W.Frag} {F F0 F1 F' H H' : Hp} {x y w : V} {d : D} {ds es : List D} {us vs : List V} {M : List (Addr × HO)} {Q : VK} {S : Hp → Prop} {σ : L2.St} {a b zs : List Nat} {nx bk ct : L2.St → Hp → Prop} {rt : VK}
theorem s_cat (hx : At K F0 (.lst ds) x) (hy : At K F1 (.lst es) y) (hh : HH F H M) (s0 : Same F0 F) (s1 : Same F1 F) (hl : ds.length + es.length ≤ 16777216) (q : ∀ F' H' u, Same F F' → HH F' H' M → At K F' (.lst (ds ++ es)) u → Q u H') : rAddX K x y H Q := by
  obtain ⟨a, vs, rfl, h, t⟩ := hx.lstR
  obtain ⟨b, us, rfl, h2, t2⟩ := hy.lstR
  refine v_cat (hh.sub _ _ (s0 _ _ h)) (hh.sub _ _ (s1 _ _ h2)) (by rw [t.len, t2.len, sl16]; exact hl) fun p hp => q _ _ _ (hh.grow hp) (hh.newF hp) (At.mkL upd_same ((t.mono (s0.trans (hh.grow hp))).app (t2.mono (s1.trans (hh.grow hp)))))
/-- a fault at a token: its place must be small -/
def Rs.badT {α : Type} (p : Nat) (z : List Nat) : Rs α := if p < 1000000000 then .bad p z else .stuck
theorem Er.raiseT {α : Type} {E : XK} {ok : α → Prop} {p : Nat} (q : (Rs.badT p zs : Rs α).on ok (Er K E F0 M)) (s : Same F0 F) (hh : HH F H M) (hz : zs.length ≤ 1000) : FauK (He.ga K "Fault") (fun cls d H => E cls d H) [.int (p : Int), .str ⟨zs.toArray⟩] H := by
  unfold Rs.badT at q
  by_cases h : p < 1000000000
  · rw [if_pos h] at q
    exact Er.raise (Er.mono q s) hh rfl h hz
  · rw [if_neg h] at q
    exact q.elim
end
theorem putF_ne {f g : Str} {v y : V} {fs : List (Str × V)} (n : (g == f) = false) : putF f v ((g, y) :: fs) = (g, y) :: putF f v fs := by
  conv => lhs; unfold putF
  rw [if_neg (fun e => by rw [e, beq_self_eq_true] at n; cases n)]
theorem putF_eq {f : Str} {v y : V} {fs : List (Str × V)} : putF f v ((f, y) :: fs) = (f, v) :: fs := by
  unfold putF
  rw [if_pos rfl]
theorem lk1 {f g : Str} {α : Type} {a : α} {l : List (Str × α)} (h : f = g) : ((g, a) :: l).lookup f = some a := by subst h; rw [List.lookup_cons, beq_self_eq_true]
theorem lk2 {f g : Str} {α : Type} {a : α} {l : List (Str × α)} {r : Option α} (n : (f == g) = false) (h : l.lookup f = r) : ((g, a) :: l).lookup f = r := by rw [List.lookup_cons, n]; exact h
end G

namespace G
open PySem PySem.Spec PyProof.Rows L2
/-! ### f-strings, str of an int, replace -/
def decI (i : Int) : List Nat := ((toString i : String) : Str).cps.toList
theorem decI_str {i : Int} : (((toString i : String) : Str)) = ⟨(decI i).toArray⟩ := by
  unfold decI
  simp
def replL (y z x : List Nat) : List Nat := (Txt.replace ⟨x.toArray⟩ ⟨y.toArray⟩ ⟨z.toArray⟩).cps.toList
theorem replL_str {x y z : List Nat} : Txt.replace ⟨x.toArray⟩ ⟨y.toArray⟩ ⟨z.toArray⟩ = ⟨(replL y z x).toArray⟩ := by
  unfold replL
  simp
def tJoin (ts : List TE) : TE := fun σ H Q => tJs ts Str.empty σ H fun out H1 => Q (.str out) H1
theorem pe_joinE {X : Cx} {v1 v2 : Expr} {rest : List Expr} {ts : List TE} {pos : Pos} (h : PJ X (v1 :: v2 :: rest) ts) : PE X (.JoinedStr (v1 :: v2 :: rest) pos) (tJoin ts) := pe_joined h
def rStrI : List V → Hp → VK → Prop := fun xs H Q => ∃ i, xs = [.int i] ∧ i.natAbs.log2 < 1920 ∧ Q (.str (toString i)) H
def JsT (ts : List TE) (acc : List Nat) (σ : L2.St) (H : Hp) (Q : Str → Hp → Prop) : Prop := tJs ts ⟨acc.toArray⟩ σ H Q
def JsK (ts : List TE) (acc : List Nat) (x : V) (σ : L2.St) (H : Hp) (Q : Str → Hp → Prop) : Prop := ∃ y : List Nat, x = svv y ∧ acc.length + y.length ≤ 16777216 ∧ JsT ts (acc ++ y) σ H Q
def FmtK (x : V) (H : Hp) (Q : VK) : Prop := (∃ y : List Nat, x = svv y ∧ y.length ≤ 16777216 ∧ Q (svv y) H) ∨ ∃ i : Int, x = .int i ∧ i.natAbs.log2 < 1920 ∧ Q (svv (decI i)) H
theorem log2_60 {i : Int} (h : i.natAbs ≤ 1000000000000000000) : i.natAbs.log2 < 60 := by
  by_cases z : i.natAbs = 0
  · rw [z]; decide
  · exact (Nat.log2_lt z).mpr (Nat.lt_of_le_of_lt h (by decide))
theorem log2_small {i : Int} (h : i.natAbs ≤ 1000000000000000000) : i.natAbs.log2 < 1920 := Nat.lt_trans (log2_60 h) (by decide)
section
variable {σ : L2.St} {H : Hp} {Q : VK} {te : TE} {t : TE} {ts : List TE} {acc y : List Nat} {S : Str → Hp → Prop}
theorem g_joinE (h : JsT ts [] σ H fun out H1 => Q (.str out) H1) : tJoin ts σ H Q := h
theorem g_jsN (q : S ⟨acc.toArray⟩ H) : JsT [] acc σ H S := q
theorem g_jsC (h : t σ H fun x H1 => JsK ts acc x σ H1 S) : JsT (t :: ts) acc σ H S := by
  have e : (fun x H1 => JsK ts acc x σ H1 S) = fun x H1 => ∃ y : Str, x = .str y ∧ ((⟨acc.toArray⟩ : Str) ++ y).length ≤ sizeLine ∧ tJs ts ((⟨acc.toArray⟩ : Str) ++ y) σ H1 S := by
    funext x H1
    apply propext
    constructor
    · rintro ⟨y, rfl, hl, q⟩
      refine ⟨_, rfl, ?_, ?_⟩
      · rw [app_svv, len_svv, List.length_append, sl16]; exact hl
      · rw [app_svv]; exact q
    · rintro ⟨⟨ys⟩, rfl, hl, q⟩
      have ey : (⟨ys⟩ : Str) = ⟨ys.toList.toArray⟩ := by simp
      rw [ey, app_svv] at q hl
      rw [len_svv, List.length_append, sl16] at hl
      exact ⟨ys.toList, by rw [← ey], hl, q⟩
  rw [e] at h
  exact h
theorem v_js (hl : acc.length + y.length ≤ 16777216) (q : JsT ts (acc ++ y) σ H S) : JsK ts acc (.str ⟨y.toArray⟩) σ H S := ⟨y, rfl, hl, q⟩
theorem g_fmt (h : te σ H fun x H1 => FmtK x H1 Q) : tFmt te σ H Q := by
  have e : (fun x H1 => FmtK x H1 Q) = fun x H1 => (∃ y : Str, x = .str y ∧ y.length ≤ sizeLine ∧ Q (.str y) H1) ∨ ∃ i : Int, x = .int i ∧ i.natAbs.log2 < 1920 ∧ Q (.str (toString i)) H1 := by
    funext x H1
    apply propext
    constructor
    · rintro (⟨y, rfl, hl, q⟩ | ⟨i, rfl, hl, q⟩)
      · exact .inl ⟨_, rfl, by rw [len_svv, sl16]; exact hl, q⟩
      · exact .inr ⟨i, rfl, hl, by rw [decI_str]; exact q⟩
    · rintro (⟨⟨ys⟩, rfl, hl, q⟩ | ⟨i, rfl, hl, q⟩)
      · have ey : (⟨ys⟩ : Str) = ⟨ys.toList.toArray⟩ := by simp
        rw [ey] at q hl
        rw [len_svv, sl16] at hl
        exact .inl ⟨ys.toList, by rw [← ey], hl, q⟩
      · exact .inr ⟨i, rfl, hl, by rw [decI_str] at q; exact q⟩
  rw [e] at h
  exact h
theorem v_fmtT (hl : y.length ≤ 16777216) (q : Q (svv y) H) : FmtK (.str ⟨y.toArray⟩) H Q := .inl ⟨y, rfl, hl, q⟩
theorem v_fmtI {i : Int} (hl : i.natAbs ≤ 1000000000000000000) (q : Q (svv (decI i)) H) : FmtK (.int i) H Q := .inr ⟨i, rfl, log2_small hl, q⟩
theorem v_strI {i : Int} (hl : i.natAbs ≤ 1000000000000000000) (q : Q (svv (decI i)) H) : rStrI [.int i] H Q := ⟨i, rfl, log2_small hl, by rw [decI_str]; exact q⟩
end
theorem decI_len {i : Int} (hl : i.natAbs ≤ 1000000000000000000) : (decI i).length ≤ 1000 := by
  have e := int_text_length_le (k := 60) (by decide) (log2_60 hl)
  have e2 : (decI i).length = (((toString i : String) : Str)).length := by rw [decI_str, len_svv]
  rw [e2, PySem.ofString_length (toString i)]
  omega
/-! a token is out -/
def NbK (K : PySem.W.Frag) : Prop := PySem.W.nsOkIn K cStatics = true ∧ PySem.W.nsIn K cStatics sharingNotToldKey = some none
def nbF (K : PySem.W.Frag) : Bool := PySem.W.nsOkIn K cStatics && He.eqO (PySem.W.nsIn K cStatics sharingNotToldKey) (some none)
theorem nbF_ok {K : PySem.W.Frag} (h : nbF K = true) : NbK K := by
  obtain ⟨h1, h2⟩ := He.ba h
  exact ⟨h1, He.eqO_ok h2⟩
theorem NbK.none {K : PySem.W.Frag} {h : Heap} (n : NbK K) (X : K.In h) : NoneBooked h :=
  ⟨_, .of_isNs (PySem.W.isNs_of_in X n.1), PySem.W.ns_none_of X (.of_isNs (PySem.W.isNs_of_in X n.1)) n.2⟩
def PE1 (X : Cx) (e : Expr) (t : TE) : Prop :=
  ∀ (pins : List (Addr × Obj)) (s : Shared) (σ : L2.St) (H : Hp) (Q : VK), Inv X pins σ H s → t σ H Q → wpAny (model X.prog X.w) X.A (eval e X.env) (fun v s1 => 1 ≤ s1.toks ∧ EP X pins σ Q v s1) X.xe s
section
variable {X : Cx} {e f : Expr} {te tf : TE} {pos : Pos} {op : Operator}
theorem PE1.pe (h : PE1 X e te) : PE X e te := ⟨fun pins s σ H Q I q => wpAny_mono (h pins s σ H Q I q) (fun _ _ z => z.2) fun _ _ z => z⟩
theorem pe1_strE {x z : Str} {j : Nat} (h : x = z) : PE1 X (.Constant (.str x) j pos) (tC (.str z)) := by
  subst h
  exact fun pins s σ H Q I q => Calls.Constant_str ⟨by show 1 ≤ s.toks + 1; omega, .str x, H, I.tok _, ⟨_, rfl⟩, q⟩
theorem pe1_op {r : R2} (ho : OpR X (binaryOp op) r) (ha : PE1 X e te) (hb : PET X f tf) : PE1 X (.BinOp e op f pos) (tOp r te tf) := by
  intro pins s σ H Q I h
  refine wpAny_BinOp (wpAny_mono (ha pins s σ H _ I h) (fun v s1 q => ?_) fun _ _ z => z)
  obtain ⟨h1, x, H1, I1, r1, q1⟩ := q
  refine wpAny_mono (PySem.wpAny_toks (hb pins s1 σ H1 _ h1 I1 q1)) (fun u s2 q => ?_) fun _ _ z => z.2
  obtain ⟨h2, y, H2, I2, r2, q2⟩ := q
  refine wpAny_mono (PySem.wpAny_toks (ho pins s2 σ H2 x y v u Q I2 r1 r2 q2)) (fun w s3 q => ?_) fun _ _ z => z.2
  exact ⟨Nat.le_trans h1 (Nat.le_trans h2 q.1), q.2⟩
def tReplL (to : TE) (y z : List Nat) : TE := fun σ H Q => to σ H fun v H1 => ∃ x : List Nat, v = svv x ∧ x.length + (x.length + 1) * z.length ≤ 16777216 ∧ Q (svv (replL y z x)) H1
def tReplS (to : TE) (z : List Nat) : TE := fun σ H Q => to σ H fun v H1 => ∃ x : List Nat, v = svv x ∧ x.length + (x.length + 1) * z.length ≤ 16777216 ∧ Q (svv x) H1
theorem pet_replE {o : Expr} {to : TE} {y z : Str} {ys zs : List Nat} {j k : Nat} {c0 c1 apos : Pos} (ho : PET X o to) (ey : y = ⟨ys.toArray⟩) (ez : z = ⟨zs.toArray⟩) (hyz : (y == z) = false := by decide)
    (hst : starEach [.Constant (.str y) j c0, .Constant (.str z) k c1] X.env = [(false, eval (.Constant (.str y) j c0) X.env), (false, eval (.Constant (.str z) k c1) X.env)] := by rfl)
    (hbase : attributeBase o "replace" X.env (eval o X.env) = eval o X.env := by rfl) (hline : (apos.endLine == pos.line) = true := by rfl) :
    PET X (.Call (.Attribute o "replace" apos) [.Constant (.str y) j c0, .Constant (.str z) k c1] [] pos) (tReplL to ys zs) := by
  intro pins s σ H Q h0 I h
  refine CwR.pet_replT ho hyz hst hbase hline pins s σ H Q h0 I ?_
  show to σ H _
  have e : (fun v H1 => ∃ x : List Nat, v = svv x ∧ x.length + (x.length + 1) * zs.length ≤ 16777216 ∧ Q (svv (replL ys zs x)) H1) = fun v H1 => ∃ x, v = .str x ∧ x.length + (x.length + 1) * z.length ≤ 16777216 ∧ Q (.str (Txt.replace x y z)) H1 := by
    funext v H1
    apply propext
    subst ey ez
    rw [len_svv]
    constructor
    · rintro ⟨x, rfl, hl, q⟩
      exact ⟨_, rfl, by rw [len_svv]; exact hl, by rw [replL_str]; exact q⟩
    · rintro ⟨⟨xs⟩, rfl, hl, q⟩
      have ex : (⟨xs⟩ : Str) = ⟨xs.toList.toArray⟩ := by simp
      rw [ex] at q hl
      rw [len_svv] at hl
      rw [replL_str] at q
      exact ⟨xs.toList, by rw [← ex], hl, q⟩
  have h' : to σ H (fun v H1 => ∃ x : List Nat, v = svv x ∧ x.length + (x.length + 1) * zs.length ≤ 16777216 ∧ Q (svv (replL ys zs x)) H1) := h
  rw [e] at h'
  exact h'
theorem pet_replS {o : Expr} {to : TE} {y : Str} {ys : List Nat} {j k : Nat} {c0 c1 apos : Pos} (nb : NbK X.K) (ho : PET X o to) (ey : y = ⟨ys.toArray⟩)
    (hst : starEach [.Constant (.str y) j c0, .Constant (.str y) k c1] X.env = [(false, eval (.Constant (.str y) j c0) X.env), (false, eval (.Constant (.str y) k c1) X.env)] := by rfl)
    (hbase : attributeBase o "replace" X.env (eval o X.env) = eval o X.env := by rfl) (hline : (apos.endLine == pos.line) = true := by rfl) :
    PET X (.Call (.Attribute o "replace" apos) [.Constant (.str y) j c0, .Constant (.str y) k c1] [] pos) (tReplS to ys) := by
  intro pins s σ H Q h0 I h
  have h' : to σ H (fun v H1 => ∃ x : List Nat, v = svv x ∧ x.length + (x.length + 1) * ys.length ≤ 16777216 ∧ Q (svv x) H1) := h
  refine PySem.Call_method2 hbase hst hline (wpAny_mono (PySem.wpAny_toks (ho pins s σ H _ h0 I h')) (fun v s1 q => ?_) fun _ _ z => z.2)
  obtain ⟨hk, v', H1, I1, r1, x, e1, hb, q⟩ := q
  subst e1
  obtain ⟨tx, e2⟩ := r1
  subst e2
  have h1 : 1 ≤ s1.toks := Nat.le_trans h0 hk
  refine ⟨"str", _, PySem.F.plainAttrs_str, PySem.F.slot_str_replace, PySem.F.type_str_replace, typeIs_str _ _ _, (fun _ e => nomatch e), Calls.callWith_builtin rfl (Calls.evalArgs_plain (Calls.spliced_cons ?_))⟩
  refine Calls.Constant_str (Calls.spliced_cons (Calls.Constant_str (Calls.spliced_nil ?_)))
  refine PySem.SC.replaceA (by show s1.toks ≠ 0; omega) (by show s1.toks + 1 ≠ 0; omega) (by show s1.toks ≠ s1.toks + 1; omega) ?_ (fun t' k => ?_) (nb.none I1.kIn)
  · rw [ey, len_svv, len_svv]; exact hb
  · rw [Txt.replace_self]
    exact ⟨svv x, H1, I1.tok k, ⟨t', rfl⟩, q⟩
theorem pet_cmpR {a b : Expr} {ta tb : TE} {op : CmpOp} {r : R2} (ho : OpR X (compareOp op) r) (ha : PET X a ta) (hb : PET X b tb) (hm : behindInMarks op b = false) : PET X (.Compare a [op] [b] pos) (tOp r ta tb) := by
  intro pins s σ H Q h0 I h
  refine wpAny_Compare1 (wpAny_mono (PySem.wpAny_toks (ha pins s σ H _ h0 I h)) (fun v s1 q => ?_) fun _ _ z => z.2) hm
  obtain ⟨hk, x, H1, I1, r1, q1⟩ := q
  exact thn (hb pins s1 σ H1 _ (Nat.le_trans h0 hk) I1 q1) fun u s2 ⟨y, H2, I2, r2, q2⟩ => ho pins s2 σ H2 x y v u Q I2 r1 r2 q2
theorem pet_one {op} (h : PET X e te) : PET X (.BoolOp op [e] pos) te := fun pins s σ H Q h0 I hw => BoolOp_one (h pins s σ H Q h0 I hw)
theorem pet_and {a b : Expr} {rest : List Expr} {ta tb : TE} (ha : PET X a ta) (hb : PET X (.BoolOp .And (b :: rest) pos) tb) : PET X (.BoolOp .And (a :: b :: rest) pos) (tAndV ta tb) := by
  intro pins s σ H Q h0 I h
  refine BoolOp_and (wpAny_mono (PySem.wpAny_toks (ha pins s σ H _ h0 I h)) (fun v s1 q => ?_) fun _ _ z => z.2)
  obtain ⟨hk, x, H1, I1, r1, c, rfl, q1⟩ := q
  cases r1
  refine wpAny_truthy_bool ?_
  cases c with
  | true => exact hb pins s1 σ H1 Q (Nat.le_trans h0 hk) I1 q1
  | false => exact ⟨.bl false, H1, I1, rfl, q1⟩
theorem psst_cut {st : Stmt} {rest : List Stmt} {t u : TS} (h1 : PST X st t) (h2 : PSsT X rest u) : PSsT X (st :: rest) (C8.tCut t u) := by
  intro pins s σ H D h0 I h
  obtain ⟨Mid, ht, hu⟩ := h
  refine wpAny_execs_cons (wpAny_mono (PySem.wpAny_toks (h1 pins s σ H { D with nx := Mid } h0 I ht)) (fun f s1 q => ?_) fun _ _ x => x.2)
  obtain ⟨hk, q⟩ := q
  cases f with
  | next =>
    obtain ⟨σ', H', I', q⟩ := q
    exact h2 pins s1 σ' H' D (Nat.le_trans h0 hk) I' (hu σ' H' q)
  | ret v => exact q
  | brk => exact q
  | cont => exact q
/-- name = e, where e gives out a token; what stands behind may lean on it -/
theorem pss_set1 {i : Nat} {x : Str} {rest : List Stmt} {u : TS} {pos' : Pos} (hN : X.N.Nodup) (hi : X.N[i]? = some x) (hx : Loc X.env.scope x) (he : PE1 X e te) (h2 : PSsT X rest u) (hs : swapsWith e (some (.Name x pos')) pos.line X.env = pure false := by rfl)
    (hf : X.fn x = true ∨ X.env.scope.names.lookup x = some .local := by first | exact .inl rfl | exact .inr rfl | assumption) : PSs X (.Assign [.Name x pos'] e pos :: rest) (tSeq (tAsg te (gName i)) u) := by
  refine ⟨fun pins s σ H D I h => ?_⟩
  refine wpAny_execs_cons (wpAny_Assign_Name (wpAny_mono (he pins s σ H _ I h) (fun v s1 q => ?_) fun _ _ z => z) hs)
  obtain ⟨h1, y, H1, I1, r1, q1⟩ := q
  refine wpAny_mono (PySem.wpAny_toks (store_ok (v := y) (u := v) (Q := fun _ s2 => Inv X pins (σ.set i (some y)) H1 s2) I1 hN hi hx r1 (fun _ I2 => I2) hf)) (fun _ s2 q => ?_) fun _ _ z => z.2
  exact h2 pins s2 _ H1 D (Nat.le_trans h1 q.1) q.2 q1
/-- s.rstrip() -/
def rRstrip : V → List V → Hp → VK → Prop := fun x xs H Q => ∃ a : Str, x = .str a ∧ xs = [] ∧ a.length ≤ sizeLine ∧ Q (.str (Txt.rstrip a)) H
theorem mt_rstripQ : MtR X "str.rstrip" rRstrip := mt_rstrip
theorem v_rstrip {K : PySem.W.Frag} {H : Hp} {Q : VK} {a : Str} (h : a.length ≤ sizeLine) (q : Q (.str (Txt.rstrip a)) H) : tyV K "str" (.str a) H ∧ rRstrip (.str a) [] H Q := ⟨rfl, a, rfl, rfl, h, q⟩
end
end G

namespace GN
open PySem PySem.Spec PyProof.Rows PySem.Builtin
/-! ### != by an own __eq__ (object's __ne__ asks it) -/
section
variable {prog : Program} {w : World} {A : Around} {E : Value → Shared → Prop} {s : Shared} {K : PySem.W.Frag} {x y C f L : Addr} {h₀ : Heap} {m : Str → Option Value} {ox : Obj} {od : Option Obj} {tb : Value}
theorem entry_K (hu : A.units < cLine) (X : K.In s.heap) (I : PySem.W.InstAt s.heap x ox C od) (hs : PySem.W.findIn K (.ref C) "__eq__" = some (some (.ref f))) (hf : PySem.W.isFn K (.ref f) = true) {Q : Fin → Shared → Prop}
    (hcall : wpAny (model prog w) A (call (.ref f) [.ref x, .ref y]) (fun v s' => ∃ b, v = .bool b ∧ Q (.done (.ret (.bool (!b)))) s') E s) :
    wpAny (model prog w) A (Builtin.«object.__ne__» ⟨[.ref x, .ref y], []⟩) Q E s := by
  unfold Builtin.«object.__ne__»
  repeat (first
    | with_reducible refine wpAny_cRoomFor hu ?_
    | (refine wpAny_bind (m := callSpecialIfBound? (.ref x) (Str.ofString "__eq__") [.ref y])
        (PySem.W.ifBound_K X I hs hf (wpAny_mono hcall (fun r s' hr => by
          obtain ⟨b, rfl, hq⟩ := hr
          repeat (first | exact hq | exact wpAny_pure hq | exact wpAny_truthy_bool hq | (refine wpAny_bind (m := truthy (.bool _)) (wpAny_truthy_bool ?_)) | wp_step)) fun _ _ e => e)))
    | wp_step)
theorem ifBound_objNe {M : Model} {args : List Value} {Q : Option Value → Shared → Prop} (X : K.In s.heap) (I : PySem.W.InstAt s.heap x ox C od) (hs : PySem.W.findIn K (.ref C) "__ne__" = some (some (.builtin "object.__ne__")))
    (h : wpAny M A (call (.builtin "object.__ne__") (.ref x :: args)) (fun v => Q (some v)) E s) : wpAny M A (callSpecialIfBound? (.ref x) "__ne__" args) Q E s := by
  simp only [callSpecialIfBound?, bindSpecialIfBound?]
  refine wpAny_holding (wpAny_bind (wpAny_bind (wpAny_bind (I.type.here ((PySem.W.looks_findIn X hs).here ?_)))))
  refine wpAny_bind (wpAny_askSetting (wpAny_ite ?_))
  have fin : wpAny M A (call (.builtin "object.__ne__") ([.ref x] ++ args) >>= fun v => pure (some v)) Q E s := wpAny_bind (wpAny_mono h (fun v s' h' => wpAny_pure h') fun _ _ h' => h')
  split
  · exact wpAny_bind (wpAny_of_eq (F.cmp_object.ne.bind _) (wpAny_pure (by exact fin)))
  · exact wpAny_tryCatch (wpAny_bind (wpAny_of_eq (F.cmp_object.ne.bind _) (wpAny_pure (by exact fin))))
theorem rcNe_K {Q : Value → Shared → Prop} (hu : A.units + 1 < cLine) (X : K.In s.heap) (I : PySem.W.InstAt s.heap x ox C od) (hb : PySem.W.Looks (model prog w) s.heap (typeOf (.ref y)) tb) (hn : PySem.W.notFirst K C tb = true) (hm : PySem.W.mroIn K C (.type "object") = some true)
    (hne : PySem.W.findIn K (.ref C) "__ne__" = some (some (.builtin "object.__ne__"))) (hs : PySem.W.findIn K (.ref C) "__eq__" = some (some (.ref f))) (hf : PySem.W.isFn K (.ref f) = true)
    (h : wpAny (model prog w) A.in1 (call (.ref f) [.ref x, .ref y]) (fun v s' => ∃ b, v = .bool b ∧ Q (.bool (!b)) s') E s) : wpAny (model prog w) A (richCompare .NotEq (.ref x) (.ref y)) Q E s := by
  have one : wpAny (model prog w) A (tryCompare (.ref x) "__ne__" (.ref y)) (fun r s' => ∃ v, r = some v ∧ Q v s') E s := by
    unfold tryCompare
    refine wpAny_bind (ifBound_objNe X I hne (wpAny_call (codeAny_call_builtin F.cmp_object.ne.plain F.cmpEntry_ne (PySem.W.check_slot F.cmpKind_ne F.cmpSplit_ne (I.type.andThen (PySem.W.looks_mroIn X hm)) (F.cmpArgs_ne _ _)
      (entry_K (A := A.in1) hu X I hs hf (wpAny_mono h (fun v s' hv => ?_) fun _ _ e => e))))))
    obtain ⟨b, rfl, hq⟩ := hv
    first | exact ⟨b, rfl, wpAny_pure ⟨_, rfl, hq⟩⟩ | exact ⟨b, rfl, wpAny_pure (wpAny_pure ⟨_, rfl, hq⟩)⟩
  unfold richCompare
  simp only [oneThing_ref]
  refine wpAny_holding (wpAny_bind (wpAny_cRoomFor (Nat.lt_of_succ_lt hu) ?_))
  rw [cmpInfo_NotEq]
  dsimp only
  refine wpAny_bind (I.type.here (wpAny_bind (hb.here ?_)))
  split
  · rename_i q
    have e : PySem.W.subIn K tb (.ref C) = some false := by
      rcases Bool.or_eq_true_iff.mp hn with e | e
      · rw [beq_iff_eq.mp e] at q; simp at q
      · exact beq_iff_eq.mp e
    refine wpAny_bind ((PySem.W.looks_subIn X e).here ?_)
    simp only [Bool.false_eq_true, if_false]
    refine wpAny_bind (wpAny_mono one (fun r s' z => ?_) fun _ _ e => e)
    obtain ⟨v, rfl, hq⟩ := z
    exact wpAny_pure hq
  · refine wpAny_bind (wpAny_pure ?_)
    simp only [Bool.false_eq_true, if_false]
    refine wpAny_bind (wpAny_mono one (fun r s' z => ?_) fun _ _ e => e)
    obtain ⟨v, rfl, hq⟩ := z
    exact wpAny_pure hq
end
end GN
namespace L2
open PySem PySem.Spec PyProof.Rows
section
variable {X : Cx} {n : Nat}
/-- a != b: instances of the class at C (its own __eq__ promises sp), and of the class at D -/
def rNeO (K : PySem.W.Frag) (C : Addr) (sp : Sp) (E : XK) : R2 := fun x y H Q => ∃ a b dx fs D dy gs, x = .ref a ∧ y = .ref b ∧ H a = some (.ins C dx fs) ∧ H b = some (.ins D dy gs) ∧ PySem.W.notFirst K C (.ref D) = true ∧ sp [.ref a, .ref b] H (fun v H' => ∃ t, v = .bl t ∧ Q (.bl (!t)) H') E
theorem op_neO {CX : CXT} {C f : Addr} {fd : FuncData} {ps : List Str} {sp : Sp} {E : XK} (F : FnOk X.prog X.w X.K X.mg X.base CX n f fd ps sp) (hm : PySem.W.mroIn X.K C (.type "object") = some true)
    (hne : PySem.W.findIn X.K (.ref C) "__ne__" = some (some (.builtin "object.__ne__"))) (hs : PySem.W.findIn X.K (.ref C) "__eq__" = some (some (.ref f))) (hf : PySem.W.isFn X.K (.ref f) = true) (hb : Binds X.K fd ps []) (hx : Passes CX X E) (hr : Room (n + 1) X.A) :
    OpR X (compareOp .NotEq) (rNeO X.K C sp E) := by
  intro pins s σ H x y v u Q I rx ry hq
  obtain ⟨a, b, dx, fs, D, dy, gs, rfl, rfl, ha, hb', hnf, hsp⟩ := hq
  cases rx
  cases ry
  obtain ⟨mA, J, _⟩ := ins_get I.hok ha
  obtain ⟨mB, J', _⟩ := ins_get I.hok hb'
  obtain ⟨od, J, _⟩ := J.look
  obtain ⟨od', J', _⟩ := J'.look
  show wpAny (model X.prog X.w) X.A (richCompare .NotEq (.ref a) (.ref b)) (EP X pins σ Q) X.xe s
  refine GN.rcNe_K (tb := .ref D) hr.in1.units0 I.kIn J J'.type hnf hm hne hs hf ?_
  have hl := F.len _ _ _ _ hsp
  have r2 : Vals [V.ref a, V.ref b] [Value.ref a, Value.ref b] := .cons rfl (.cons rfl .nil)
  refine wpAny_call (codeAny_mono (F.run X.A.in1 X.stack s H ⟨[.ref a, .ref b], []⟩ [.ref a, .ref b] [.ref a, .ref b] _ E hr.in1 I.env0.in1 (by
    have := hb s [.ref a, .ref b] I.kIn (by simpa using hl)
    simpa using this) r2 hsp) fun r s' hq => ?_)
  cases r with
  | error e => exact hx pins σ H s e s' I hq
  | ok fl =>
    cases fl with
    | ret w =>
      obtain ⟨z, H', I', rz, t, ez, hQ⟩ := I.after hq
      subst ez
      cases rz
      exact ⟨t, rfl, .bl (!t), H', I', rfl, hQ⟩
    | next => exact False.elim hq
    | brk => exact False.elim hq
    | cont => exact False.elim hq
def NeF (K : PySem.W.Frag) (C : Addr) : Prop := PySem.W.mroIn K C (.type "object") = some true ∧ PySem.W.findIn K (.ref C) "__ne__" = some (some (.builtin "object.__ne__"))
def neFB (c : Str) (K : PySem.W.Frag) : Bool := (PySem.W.mroIn K (He.ga K c) (.type "object") == some true) && (PySem.W.findIn K (.ref (He.ga K c)) "__ne__" == some (some (.builtin "object.__ne__")))
theorem neF_ok {K : PySem.W.Frag} {c : Str} (h : neFB c K = true) : NeF K (He.ga K c) := by
  unfold neFB at h
  rw [Bool.and_eq_true] at h
  exact ⟨beq_iff_eq.mp h.1, beq_iff_eq.mp h.2⟩
def rOr2 (r r' : R2) : R2 := fun x y H Q => r x y H Q ∨ r' x y H Q
theorem op_or2 {f : Value → Value → Sem Value} {r r' : R2} (h : OpR X f r) (h' : OpR X f r') : OpR X f (rOr2 r r') := fun pins s σ H x y v u Q I rx ry q => q.elim (h pins s σ H x y v u Q I rx ry) (h' pins s σ H x y v u Q I rx ry)
theorem op_neMt {j : Nat} {C : Addr} {sp : Sp} (c : G.Mt X.prog X.w X.K X.mg X.base n C "__eq__" sp []) (nf : NeF X.K C) (hr : Room j X.A) (hk : n + 1 ≤ j) : OpR X (compareOp .NotEq) (rNeO X.K C sp E0) := by
  obtain ⟨f, fd, ps, ds, cl, hm, F, b, d⟩ := c.ex
  cases d
  exact op_neO F nf.1 nf.2 hm.at_ hm.fn b passL (hr.mono hk)
end
end L2

namespace G
open PySem PySem.Spec PyProof.Rows L2
/-! ### defs that are called where no repr is under way -/
structure FnG (P : Program) (w : World) (K : PySem.W.Frag) (mg : Str → Option Value) (base : Heap) (k : Nat) (f : Addr) (fd : FuncData) (ps : List Str) (sp : Sp) : Prop where
  len : ∀ vs H Q E, sp vs H Q E → vs.length = ps.length
  go : ∀ (A : Around) (fr : List Env) (s : Shared) (H : Hp) (ar : Args) (us : List Value) (vs : List V) (Q : VK) (E : XK), A.guards = some [] → Room k A → Env0 P w K mg base A fr s H →
    BindsTo s fd ar (ps.zip us) → Vals vs us → sp vs H Q E → codeAny (model P w) A (.call (.ref f) ar) (CR (L2.CX P w) fr P w H s Q E) s
theorem FnG.of {P : Program} {w : World} {K : PySem.W.Frag} {mg : Str → Option Value} {base : Heap} {k : Nat} {f : Addr} {fd : FuncData} {ps : List Str} {sp : Sp} (F : FnOk P w K mg base (L2.CX P w) k f fd ps sp) : FnG P w K mg base k f fd ps sp :=
  ⟨F.len, fun A fr s H ar us vs Q E _ hr => F.run A fr s H ar us vs Q E hr⟩
/-- such a def, by its body -/
theorem fnG {P : Program} {w : World} {K : PySem.W.Frag} {mg : Str → Option Value} {base : Heap} {x qual : Str} {params : Arguments} {body : List Stmt} {sc : Scope} {dvs : List V} {kws : List (Str × V)} {f : Addr} {fd : FuncData} {N ps : List Str} {k : Nat} {sp : Sp}
    (F : FunD K x qual params body sc dvs kws f fd) (S : FnScope N ps sc) (len : ∀ vs H Q E, sp vs H Q E → vs.length = ps.length)
    (hb : ∀ (cd : Value) (A : Around) (fr : List Env) (s : Shared) (H : Hp) (vs : List V) (Q : VK) (E : XK), (A.deeper (envOfC qual sc s.heap.objs.size f cd)).guards = some [] → Room k (A.deeper (envOfC qual sc s.heap.objs.size f cd)) → sp vs H Q E →
      ∃ t, PSs (cxOf (L2.CX P w) P w K mg base N qual sc f cd A fr s H E) body t ∧ t ⟨fun _ H' => Q .non H', Q, fun _ _ => False, fun _ _ => False⟩ (start N vs) H) : FnG P w K mg base (k + 1) f fd ps sp := by
  obtain ⟨_, _, _, _, _, _, _, cd, _, _, rfl, lk, hcd, _, _⟩ := F.ex
  refine ⟨len, fun A fr s H ar us vs Q E hg hr e0 bi rv hsp => ?_⟩
  have old : ∀ b o, base.get? b = some o → s.heap.get? b = some o := fun b o e => (e0.bs b o e).1
  have hk : ∀ y ∈ ps.zip us, sc.names.lookup y.1 = some .local ∨ (sc.names.lookup y.1 = some .cell ∧ ((cellsFrom (s.heap.objs.size + 1) sc.names []).lookup y.1).isSome = true) := by
    rintro ⟨n, v⟩ hy
    exact (S.par n (List.of_mem_zip hy).1).imp id fun q => ⟨q, PySem.W.cellsFrom_some _ _ _ (.inl q)⟩
  refine codeAny_call_function hr.depth (e0.mod.kin.keeps old _ _ lk) rfl S.co S.gen rfl (PySem.W.codeRec_of (e0.mod.kin.keeps old) hcd) (bi _ _ _ _ (wpAny_newFunctionEnv_cells S.kind hk fun env he s1 x => ?_))
  subst he
  obtain ⟨t, ht, hq⟩ := hb cd A fr s H vs Q E hg (hr.deeper _) hsp
  refine ⟨(e0.mod.nolimit.keeps old).keeps x.toInCall.keep, codeAny_func (wpAny_mono (ht.run [] s1 _ H _ (inv_start S hr.hd e0 (len _ _ _ _ hsp) rv x) hq) (fun fl s' z => ?_) fun _ _ z => z)⟩
  cases fl with
  | ret u =>
    obtain ⟨v, _, H', J, r, q⟩ := z
    exact ⟨v, H', J.os, J.bare, J.base, J.hok, r, q⟩
  | next =>
    obtain ⟨_, H', J, q⟩ := z
    exact ⟨.non, H', J.os, J.bare, J.base, J.hok, rfl, q⟩
  | brk => exact z.elim fun _ z => z.elim fun _ z => z.2.elim
  | cont => exact z.elim fun _ z => z.elim fun _ z => z.2.elim
structure ClG (P : Program) (w : World) (K : PySem.W.Frag) (mg : Str → Option Value) (base : Heap) (k : Nat) (x : Str) (sp : Sp) (dvs : List V) : Prop where
  ex : ∃ (f : Addr) (fd : FuncData) (ps : List Str) (ds : List Value), FnG P w K mg base k f fd ps sp ∧ mg x = some (.ref f) ∧ PySem.W.keepIn K (.ref f) = true ∧ Binds K fd ps ds ∧ Vals dvs ds
section
variable {X : Cx} {k j : Nat} {x : Str} {sp : Sp} {dvs : List V} {p pos : Pos} {e : Expr} {es : List Expr} {t : TA} {E : L2.St → XK}
theorem pe_clg (c : ClG X.prog X.w X.K X.mg X.base k x sp dvs) (gd : X.A.guards = some []) (hr : Room j X.A) (hk : k ≤ j) (hx : ∀ σ, PassesAt (L2.CX X.prog X.w) X σ (E σ)) (hg : Gl X x) (ha : PA X (e :: es) t)
    (hdb : (x == ("__debug__" : Str)) = false := by decide) (he : starEach (e :: es) X.env = (false, eval e X.env) :: starEach es X.env := by rfl) (hpl : (backTo pos (starEach es X.env)).any (·.1) = false := by rfl) :
    PE X (.Call (.Name x p) (e :: es) [] pos) (tCallSD sp dvs E t) := by
  obtain ⟨f, fd, ps, ds, F, hm, kp, b, d⟩ := c.ex
  refine ⟨fun pins s σ H Q I h => wpAny_Call_Name_kw (ld_glob I hg hm (PySem.W.callWith_K (h₀ := X.base) I.ok.mod.kin kp (thn (ha.run pos pins s σ H _ I h) fun us s1 z => ?_) he hpl) hdb)⟩
  obtain ⟨vs, H1, I1, r, q⟩ := z
  have r2 : Vals (vs ++ dvs) (us ++ ds) := r.append d
  refine ⟨I1.kIn, wpAny_call (codeAny_mono (F.go X.A X.stack s1 H1 ⟨us, []⟩ (us ++ ds) (vs ++ dvs) Q (E σ) gd (hr.mono hk) I1.env0 (b s1 us I1.kIn (by rw [← r2.length]; exact F.len _ _ _ _ q)) r2 q) fun res s2 z => ?_)⟩
  cases res with
  | error e => exact hx σ pins H1 s1 e s2 I1 z
  | ok fl =>
    cases fl with
    | ret u => exact I1.after z
    | next => exact z.elim
    | brk => exact z.elim
    | cont => exact z.elim
end
/-! ### repr -/
def keyP : L2.Key → PyData
  | .inl i => .int i
  | .inr z => .str z
/-- data that repr may be asked of: flat, lists and tuples of such, a dict of such -/
inductive Dq (K : PySem.W.Frag) (H : Hp) : V → PyData → Prop
  | p {v : V} {d : PyData} : Dp K H v d → Dq K H v d
  | d {a : Addr} {kvs : List (L2.Key × V)} {ds : List PyData} : Rd H a (.dK kvs) → DpAll K H (kvs.map (·.2)) ds → Dq K H (.ref a) (.dict ((kvs.map fun kv => keyP kv.1).zip ds))
def rRepr (K : PySem.W.Frag) : List V → Hp → VK → Prop := fun xs H Q => ∃ v d, xs = [v] ∧ Dq K H v d ∧ d.showable = true ∧ d.leavesShort 13 = true ∧ d.bulk ≤ 2 ^ 20 ∧ d.depth ≤ 60 ∧ Q (.str d.shown) H
mutual
theorem Dp.nod {K : PySem.W.Frag} {H : Hp} : ∀ {v : V} {d : PyData}, Dp K H v d → d.hasDict = false
  | _, _, .non => by simp only [PyData.hasDict]
  | _, _, .bl _ => by simp only [PyData.hasDict]
  | _, _, .int _ => by simp only [PyData.hasDict]
  | _, _, .str _ => by simp only [PyData.hasDict]
  | _, _, .lst _ h => by rw [PyData.hasDict]; exact DpAll.nod h
  | _, _, .tup _ h => by rw [PyData.hasDict]; exact DpAll.nod h
theorem DpAll.nod {K : PySem.W.Frag} {H : Hp} : ∀ {vs : List V} {ds : List PyData}, DpAll K H vs ds → PyData.hasDictAll ds = false
  | _, _, .nil => by simp only [PyData.hasDictAll]
  | _, _, .cons h t => by rw [PyData.hasDictAll, Dp.nod h, DpAll.nod t]; rfl
end
theorem DpAll.len {K : PySem.W.Frag} {H : Hp} : ∀ {vs : List V} {ds : List PyData}, DpAll K H vs ds → vs.length = ds.length
  | _, _, .nil => rfl
  | _, _, .cons _ t => congrArg Nat.succ (DpAll.len t)
theorem zip_fst {α β : Type} : ∀ {xs : List α} {ys : List β}, xs.length = ys.length → (xs.zip ys).map (·.1) = xs
  | [], [], _ => rfl
  | [], _ :: _, h => nomatch h
  | _ :: _, [], h => nomatch h
  | x :: xs, y :: ys, h => by rw [List.zip_cons_cons, List.map_cons, zip_fst (Nat.succ.inj h)]
theorem zip_snd {α β : Type} : ∀ {xs : List α} {ys : List β}, xs.length = ys.length → (xs.zip ys).map (·.2) = ys
  | [], [], _ => rfl
  | [], _ :: _, h => nomatch h
  | _ :: _, [], h => nomatch h
  | x :: xs, y :: ys, h => by rw [List.zip_cons_cons, List.map_cons, zip_snd (Nat.succ.inj h)]
/-- a dict's entries are read -/
theorem ents {P : Program} {w : World} {h : Heap} : ∀ {es : List DictEntry} {vs : List (L2.Key × Value)}, Pairs (mixKind P w) es vs → (∃ as, ReadsAll h (es.map (·.key)) (vs.map fun p => keyP p.1) as) ∧ es.map (·.val) = vs.map (·.2)
  | _, _, .nil => ⟨⟨_, .nil⟩, rfl⟩
  | _, _, .cons (e := e) (kv := kv) h1 h2 t => by
    obtain ⟨⟨as, q1⟩, q2⟩ := ents (P := P) (w := w) (h := h) t
    obtain ⟨k, v⟩ := kv
    refine ⟨?_, by rw [List.map_cons, List.map_cons, q2, h2]⟩
    rcases keyIs_shape (k := k) (v := e.key) (show keyIs k e.key = true from h1) with ⟨i, t, e1, e2⟩ | ⟨i, t, e1, e2⟩
    · refine ⟨[] ++ as, ?_⟩
      rw [List.map_cons, List.map_cons, e2]
      show ReadsAll h _ (keyP k :: _) _
      rw [e1]
      exact .cons (.int i t) q1
    · refine ⟨[] ++ as, ?_⟩
      rw [List.map_cons, List.map_cons, e2]
      show ReadsAll h _ (keyP k :: _) _
      rw [e1]
      exact .cons (.str i t) q1
theorem kv_vals {vs : List (L2.Key × Value)} {kvs : List (L2.Key × V)} (r : KV kvs vs) : Vals (kvs.map (·.2)) (vs.map (·.2)) := by
  induction r with
  | nil => exact .nil
  | cons h _ ih => exact .cons h.2 ih
section
variable {X : Cx} {pins : List (Addr × Obj)} {σ : L2.St} {H : Hp} {s : Shared} {Q : VK}
theorem call_repr (gd : X.A.guards = some []) (hu : X.A.units + 64 < cLine) : CallR X (.builtin "repr") (rRepr X.K) := by
  intro pins s σ H xs us Q I r h
  obtain ⟨v, d, rfl, hd, hs, hl, hw, hdp, q⟩ := h
  obtain ⟨u, rfl, ru⟩ := vals1 r
  have hz : d.shown.length ≤ sizeLine := PyData.shown_fits_bulk (by decide) (by decide) hl hw
  cases hd with
  | p hd =>
    cases hd with
    | non =>
      obtain rfl : u = .none := ru
      exact PySem.P.repr_of_none ⟨.str _, H, I.tok _, ⟨_, rfl⟩, q⟩
    | bl b =>
      obtain rfl : u = .bool b := ru
      refine PySem.P.repr_of_bool ⟨.str _, H, I.tok _, ⟨_, rfl⟩, ?_⟩
      have e : (PyData.bool b).shown = (if b then "True" else "False" : Str) := by rw [PyData.shown]
      rw [e] at q
      exact q
    | int i =>
      obtain ⟨t, rfl⟩ : ∃ t, u = .int i t := ru
      have hs' : i.natAbs.log2 < 1920 := by simpa [PyData.showable] using hs
      refine PySem.P.repr_of_int hs' ⟨.str _, H, I.tok _, ⟨_, rfl⟩, ?_⟩
      rw [PyData.shown] at q
      exact q
    | str z =>
      obtain ⟨t, rfl⟩ : ∃ t, u = .str z t := ru
      rw [PyData.shown] at q hz
      exact PySem.P.repr_of_str ⟨.str _, H, I.tok _, ⟨_, rfl⟩, q⟩ hz
    | lst h1 h2 =>
      have hd2 := L2.Dp.lst h1 h2
      obtain ⟨as, rr⟩ := L2.Dp.reads I _ _ u hd2 ru
      cases ru
      exact repr_of_reads' rr hs (PyData.noDict_hsm (Dp.nod hd2)) gd (by omega) (fun _ _ e => e) (fun h' u tk hk => ⟨.str _, H, I.kept hk, ⟨_, rfl⟩, q⟩) hz
    | tup h1 h2 =>
      have hd2 := L2.Dp.tup h1 h2
      obtain ⟨as, rr⟩ := L2.Dp.reads I _ _ u hd2 ru
      cases ru
      exact repr_of_reads' rr hs (PyData.noDict_hsm (Dp.nod hd2)) gd (by omega) (fun _ _ e => e) (fun h' u tk hk => ⟨.str _, H, I.kept hk, ⟨_, rfl⟩, q⟩) hz
  | d hr hv =>
    rename_i a kvs ds
    cases ru
    obtain ⟨_, hsys, vs, rel, dd⟩ := dk_rd I.hok hr
    obtain ⟨o, es, ep, ho, hx, hdat, hko, hpa, hnd⟩ := dd
    obtain ⟨⟨as, ra⟩, ev⟩ := ents (P := X.prog) (w := X.w) (h := s.heap) hpa
    have rv := kv_vals rel
    rw [← ev] at rv
    obtain ⟨bs, rb⟩ := L2.Dp.readsAll I _ _ _ hv rv
    have ek : (vs.map fun p => keyP p.1) = kvs.map fun kv => keyP kv.1 := by
      have e := congrArg (List.map keyP) rel.keys
      rw [List.map_map, List.map_map] at e
      exact e.symm
    rw [ek] at ra
    have hlen : (kvs.map fun kv => keyP kv.1).length = ds.length := by rw [List.length_map, ← DpAll.len hv, List.length_map]
    generalize hD : (kvs.map fun kv => keyP kv.1).zip ds = D at hs hl hw hdp q hz ⊢
    have e1 : D.map (·.1) = kvs.map fun kv => keyP kv.1 := by rw [← hD]; exact zip_fst hlen
    have e2 : D.map (·.2) = ds := by rw [← hD]; exact zip_snd hlen
    rw [← e1] at ra
    rw [← e2] at rb
    have nod2 : PyData.hasDictAll (D.map (·.2)) = false := by rw [e2]; exact DpAll.nod hv
    have nod1 : PyData.hasDictAll (D.map (·.1)) = false := by
      rw [e1]
      generalize kvs = l
      induction l with
      | nil => simp only [List.map_nil, PyData.hasDictAll]
      | cons p l ih =>
        rw [List.map_cons, PyData.hasDictAll, ih]
        cases p.1 <;> rfl
    rw [PyData.shown] at hz q
    obtain ⟨sk, sv⟩ := PyData.showableKv_split D (by simpa [PyData.showable] using hs)
    obtain ⟨b1, m1, k1⟩ := ReprAllK.of_readsAll (prog := X.prog) (w := X.w) ra sk (fun z => by rw [nod1] at z; cases z) fun t ht => by
      obtain ⟨p, hp, l⟩ := PyData.shownKv_key_le D t ht
      exact Nat.le_trans l (Nat.le_trans (dictText_mem_le hp) hz)
    obtain ⟨b2, m2, k2⟩ := ReprAllK.of_readsAll (prog := X.prog) (w := X.w) rb sv (fun z => by rw [nod2] at z; cases z) fun t ht => by
      obtain ⟨p, hp, l⟩ := PyData.shownKv_val_le D t ht
      exact Nat.le_trans l (Nat.le_trans (dictText_mem_le hp) hz)
    rw [PyData.depth] at hdp
    have fit : (dictText (PyData.shownKv D)).length ≤ sizeLine := hz
    have far : a ∉ b1 ++ b2 := not_mem_of_deeper (n := PyData.depthKv D) (.dict ho hx.1 hdat ra rb) (by rw [PyData.depth]; exact Nat.lt_succ_self _) ((m1.mono (PyData.depthAll_keys_le D)).append (m2.mono (PyData.depthAll_vals_le D)))
    rw [PyData.shownKv_eq] at q fit
    refine call_repr_slot (T := "dict") (by omega) ⟨o, ho, hx.1⟩ F.slot_dict_repr (call_dict_reprK (g := []) (d := PyData.depthKv D) ho hx.1 hdat hsys far (ReprEntriesK.of_two es.toList _ _
      (k1.more_le (fun b hb => List.mem_append_left _ hb) (PyData.depthAll_keys_le D)) (k2.more_le (fun b hb => List.mem_append_right _ hb) (PyData.depthAll_vals_le D))) gd (fun b _ => Clear.nil b) (by show X.A.units + 1 + _ < _; omega) (fun _ _ e => e)
      (fun h' u tk hk => ⟨_, _, rfl, .str _, H, I.kept hk, ⟨_, rfl⟩, q⟩) fit)
end
end G

namespace G
open PySem PySem.Spec PyProof.Rows L2
/-! ### the law's own call, where its defs ask repr -/
section
variable {P : Program} {w : World} {K : PySem.W.Frag} {mg mb : Str → Option Value} {k : Nat} {fa a : Addr} {fd : FuncData} {x : Str} {sp : Sp} {s1 : Shared} {vs : List Value} {ns : List Int}
def LawEnd (s1 : Shared) : Result → Shared → Prop := fun r s' => r = .ok (.ret (.bool true)) ∧ OldK s1.heap s'.heap ∧ s'.os = s1.os ∧ AllBare s'.gens
theorem law_core (KX : K.In s1.heap) (hns : s1.heap.Ns mainGlobals mg) (hb : s1.heap.Ns builtinsNs mb) (hbb : ∀ x : Str, x ≠ "__name__" → mb x = bootBuiltins x) (hlim : s1.heap.NoLimit) (hg : s1.gens = #[])
    (ha : s1.heap.get? a = some { cls := .type "list", data := .seq vs.toArray }) (hr : Room k callerA) (F : ∀ base : Heap, FnG P w K mg base k fa fd [x] sp) (bi : ∀ (s : Shared) (u : Value), BindsTo s fd ⟨[u], []⟩ [(x, u)])
    (H : Hp) (hO : Only H) (hok : HOk P w H s1.heap) (hA : ∀ b, H b ≠ none → b = a) (hK : H a ≠ none → K.lookup a = none) (hsp : sp [.ref a] H (fun v _ => v = .bl true) fun _ _ _ => False) :
    codeAny (model P w) callerA (.call (.ref fa) ⟨[.ref a], []⟩) (LawEnd s1) s1 := by
  have out : ∀ {b : Addr} {o : Obj}, s1.heap.get? b = some o → (b = a → False) → (hidT s1.heap H).get? b = some o := fun {b o} e n => hidT_get e (by
    cases q : H b with
    | none => rfl
    | some u => exact (n (hA b (by rw [q]; intro z; cases z))).elim)
  have nsO : ∀ {b : Addr} {m : Str → Option Value}, s1.heap.Ns b m → (hidT s1.heap H).Ns b m := fun {b m} z => by
    obtain ⟨o, es, ep, e, d, r⟩ := z
    refine ⟨o, es, ep, out e fun z => ?_, d, r⟩
    rw [z, ha] at e
    cases e
    cases d
  have kin : K.In (hidT s1.heap H) := fun b o e => hidT_get (KX b o e) (by
    cases q : H b with
    | none => rfl
    | some u =>
      have z := hA b (by rw [q]; intro z; cases z)
      subst z
      rw [hK (by rw [q]; intro z; cases z)] at e
      cases e)
  obtain ⟨mc, l1, l2⟩ := hlim
  have e0 : Env0 P w K mg (hidT s1.heap H) callerA [] s1 H := by
    refine ⟨rfl, ⟨kin, nsO hns, ⟨mb, nsO hb, hbb⟩, ⟨mc, nsO l1, l2⟩⟩, fun b o e => of_hidT e, Nat.le_of_eq (hidT_size _ _), trivial, ?_, hok, .of_eq hg⟩
    intro b z
    cases (show b ∈ ([] : List Addr) from z)
  refine codeAny_mono ((F _).go callerA [] s1 H ⟨[.ref a], []⟩ [.ref a] [.ref a] _ _ rfl hr e0 (bi s1 (.ref a)) (.cons rfl .nil) hsp) fun r s' h => ?_
  cases r with
  | error e =>
    obtain ⟨_, _, _, _, _, _, _, _, _, _, _, _, z⟩ := h
    exact z.elim
  | ok fl =>
    cases fl with
    | next => exact h.elim
    | brk => exact h.elim
    | cont => exact h.elim
    | ret u =>
      obtain ⟨v, H', os, bare, un, hok', r', q⟩ := h
      obtain rfl : v = .bl true := q
      obtain rfl : u = Value.bool true := r'
      refine ⟨rfl, OldK.of_keep fun b o e => ?_, os, bare⟩
      rcases hO b with z | ⟨ob, xs, z⟩
      · refine un.keep b o e z ?_ ?_
        · intro z
          cases (show b ∈ ([] : List Addr) from z)
        · intro z
          cases z
      · have z2 := un.frzs b ob _ z
        have e1 := (hok b _ z).1
        have e2 := (hok' b _ z2).1
        rw [e] at e1
        cases e1
        exact e2
theorem law_callG (KX : K.In s1.heap) (hns : s1.heap.Ns mainGlobals mg) (hb : s1.heap.Ns builtinsNs mb) (hbb : ∀ x : Str, x ≠ "__name__" → mb x = bootBuiltins x) (hlim : s1.heap.NoLimit) (hg : s1.gens = #[])
    (ha : s1.heap.get? a = some { cls := .type "list", data := .seq vs.toArray }) (hi : IntsAre vs ns) (hl : ns.length ≤ sizeLine) (hr : Room k callerA) (F : ∀ base : Heap, FnG P w K mg base k fa fd [x] sp)
    (bi : ∀ (s : Shared) (u : Value), BindsTo s fd ⟨[u], []⟩ [(x, u)]) (hsp : ∀ H : Hp, Only H → SqL K H a (ns.map V.int) → sp [.ref a] H (fun v _ => v = .bl true) fun _ _ _ => False) :
    codeAny (model P w) callerA (.call (.ref fa) ⟨[.ref a], []⟩) (LawEnd s1) s1 := by
  have rv := vals_ints hi
  cases hk : K.lookup a with
  | some o =>
    have e := KX a o hk
    rw [ha] at e
    cases e
    have o0 : Only (fun _ => none) := fun _ => .inl rfl
    have sq : SqL K (fun _ => none) a (ns.map V.int) := .inr ⟨_, vs.toArray, _, hk, rfl, rfl, rfl, by rw [List.size_toArray, hi.length]; exact hl, by simpa using rv⟩
    exact law_core KX hns hb hbb hlim hg ha hr F bi _ o0 (fun b u z => nomatch (show (none : Option HO) = some u from z)) (fun b z => (z rfl).elim) (fun z => (z rfl).elim) (hsp _ o0 sq)
  | none =>
    generalize hH : (fun b => if b = a then some (HO.frz { cls := .type "list", data := .seq vs.toArray } (.lst (ns.map V.int))) else none : Hp) = H
    have at_ : H a = some (.frz { cls := .type "list", data := .seq vs.toArray } (.lst (ns.map V.int))) := by rw [← hH]; exact if_pos rfl
    have el : ∀ b, b ≠ a → H b = none := fun b n => by rw [← hH]; exact if_neg n
    have o1 : Only H := fun b => by
      by_cases z : b = a
      · rw [z]; exact .inr ⟨_, _, at_⟩
      · exact .inl (el b z)
    refine law_core KX hns hb hbb hlim hg ha hr F bi H o1 (fun b u z => ?_) (fun b z => ?_) (fun _ => hk) (hsp H o1 (.inl (.inr ⟨_, at_⟩)))
    · by_cases n : b = a
      · subst n
        rw [at_] at z
        cases z
        exact ⟨ha, by rw [List.length_map]; exact hl, vs, _, rv, ha⟩
      · rw [el b n] at z
        cases z
    · by_cases n : b = a
      · exact n
      · exact (z (el b n)).elim
end
theorem walk_ofG {l : PySem.W.OpenLaw} {n k : Nat} {q : Program} {loose : List Str} {XP : (Str → Option Value) → Heap → Prop} {YP : World → Heap → Prop} {d : DefRec} {x : Str}
    (hn : l.most = some n) (hn2 : n ≤ sizeLine) (hdf : d.params.defaults = []) (hr : Room k callerA)
    (F : ∀ (w : World) (mg : Str → Option Value) (fa : Addr) (h : Heap), YP w h → h.Ns mainGlobals mg → mg d.name = some (.ref fa) →
      ∃ (K : PySem.W.Frag) (fd : FuncData) (sp : Sp), K.In h ∧ (∀ (s : Shared) (u : Value), BindsTo s fd ⟨[u], []⟩ [(x, u)]) ∧
        (∀ (H : Hp) (a : Addr) (ns : List Int), ns.length ≤ n → Only H → SqL K H a (ns.map V.int) → sp [.ref a] H (fun v _ => v = .bl true) fun _ _ _ => False) ∧
        ∀ base : Heap, FnG l.prog w K mg base k fa fd [x] sp) :
    PySem.W.WalkO q loose XP YP l.row.toRowW d [] (fun f vs => PySem.call f vs) := by
  refine Att.attach_call hn hdf fun w s₀ s₁ mg mb fa o pm cd doc a vs ns G Y ho hd hcd hmg hobj hints hlen hg => ?_
  obtain ⟨K, fd, sp, KX, hb, hsp, hF⟩ := F w mg fa _ Y G.T.g hmg
  exact law_callG KX G.T.g G.T.b G.T.builtins G.T.nolimit hg hobj hints (Nat.le_trans hlen hn2) hr hF hb fun H hO hS => hsp H a ns hlen hO hS
end G

/-! ### own ==, own !=, of an instance and any value -/
namespace GN
open PySem PySem.Spec PyProof.Rows PySem.Builtin
section
variable {prog : Program} {w : World} {A : Around} {E : Value → Shared → Prop} {s : Shared} {K : PySem.W.Frag} {x C f L : Addr} {y : Value} {h₀ : Heap} {m : Str → Option Value} {ox : Obj} {od : Option Obj} {tb : Value}
theorem entry_V (hu : A.units < cLine) (X : K.In s.heap) (I : PySem.W.InstAt s.heap x ox C od) (hs : PySem.W.findIn K (.ref C) "__eq__" = some (some (.ref f))) (hf : PySem.W.isFn K (.ref f) = true) {Q : Fin → Shared → Prop}
    (hcall : wpAny (model prog w) A (call (.ref f) [.ref x, y]) (fun v s' => ∃ b, v = .bool b ∧ Q (.done (.ret (.bool (!b)))) s') E s) :
    wpAny (model prog w) A (Builtin.«object.__ne__» ⟨[.ref x, y], []⟩) Q E s := by
  unfold Builtin.«object.__ne__»
  repeat (first
    | with_reducible refine wpAny_cRoomFor hu ?_
    | (refine wpAny_bind (m := callSpecialIfBound? (.ref x) (Str.ofString "__eq__") [y])
        (PySem.W.ifBound_K X I hs hf (wpAny_mono hcall (fun r s' hr => by
          obtain ⟨b, rfl, hq⟩ := hr
          repeat (first | exact hq | exact wpAny_pure hq | exact wpAny_truthy_bool hq | (refine wpAny_bind (m := truthy (.bool _)) (wpAny_truthy_bool ?_)) | wp_step)) fun _ _ e => e)))
    | wp_step)
theorem rcNe_V {Q : Value → Shared → Prop} (hu : A.units + 1 < cLine) (X : K.In s.heap) (I : PySem.W.InstAt s.heap x ox C od) (hb : PySem.W.Looks (model prog w) s.heap (typeOf y) tb) (hn : PySem.W.notFirst K C tb = true) (hm : PySem.W.mroIn K C (.type "object") = some true)
    (hne : PySem.W.findIn K (.ref C) "__ne__" = some (some (.builtin "object.__ne__"))) (hs : PySem.W.findIn K (.ref C) "__eq__" = some (some (.ref f))) (hf : PySem.W.isFn K (.ref f) = true)
    (h : wpAny (model prog w) A.in1 (call (.ref f) [.ref x, y]) (fun v s' => ∃ b, v = .bool b ∧ Q (.bool (!b)) s') E s) : wpAny (model prog w) A (richCompare .NotEq (.ref x) y) Q E s := by
  have one : wpAny (model prog w) A (tryCompare (.ref x) "__ne__" y) (fun r s' => ∃ v, r = some v ∧ Q v s') E s := by
    unfold tryCompare
    refine wpAny_bind (ifBound_objNe X I hne (wpAny_call (codeAny_call_builtin F.cmp_object.ne.plain F.cmpEntry_ne (PySem.W.check_slot F.cmpKind_ne F.cmpSplit_ne (I.type.andThen (PySem.W.looks_mroIn X hm)) (F.cmpArgs_ne _ _)
      (entry_V (A := A.in1) hu X I hs hf (wpAny_mono h (fun v s' hv => ?_) fun _ _ e => e))))))
    obtain ⟨b, rfl, hq⟩ := hv
    first | exact ⟨b, rfl, wpAny_pure ⟨_, rfl, hq⟩⟩ | exact ⟨b, rfl, wpAny_pure (wpAny_pure ⟨_, rfl, hq⟩)⟩
  unfold richCompare
  simp only [oneThing_ref]
  refine wpAny_holding (wpAny_bind (wpAny_cRoomFor (Nat.lt_of_succ_lt hu) ?_))
  rw [cmpInfo_NotEq]
  dsimp only
  refine wpAny_bind (I.type.here (wpAny_bind (hb.here ?_)))
  split
  · rename_i q
    have e : PySem.W.subIn K tb (.ref C) = some false := by
      rcases Bool.or_eq_true_iff.mp hn with e | e
      · rw [beq_iff_eq.mp e] at q; simp at q
      · exact beq_iff_eq.mp e
    refine wpAny_bind ((PySem.W.looks_subIn X e).here ?_)
    simp only [Bool.false_eq_true, if_false]
    refine wpAny_bind (wpAny_mono one (fun r s' z => ?_) fun _ _ e => e)
    obtain ⟨v, rfl, hq⟩ := z
    exact wpAny_pure hq
  · refine wpAny_bind (wpAny_pure ?_)
    simp only [Bool.false_eq_true, if_false]
    refine wpAny_bind (wpAny_mono one (fun r s' z => ?_) fun _ _ e => e)
    obtain ⟨v, rfl, hq⟩ := z
    exact wpAny_pure hq
end
end GN
namespace G
open PySem PySem.Spec PyProof.Rows L2
/-- y's type, and that its own == does not come first -/
def OwnR (K : PySem.W.Frag) (C : Addr) (y : V) (H : Hp) : Prop := (∃ b D dy gs, y = .ref b ∧ H b = some (.ins D dy gs) ∧ PySem.W.notFirst K C (.ref D) = true) ∨ ((∃ i, y = .int i) ∧ PySem.W.notFirst K C (.type "int") = true)
/-- x == y (neg: !=), x an instance of the class at C, whose own == promises sp -/
def rOwn (neg : Bool) (K : PySem.W.Frag) (C : Addr) (sp : Sp) : R2 := fun x y H Q => ∃ a dx fs, x = .ref a ∧ H a = some (.ins C dx fs) ∧ OwnR K C y H ∧ sp [.ref a, y] H (fun v H' => ∃ t, v = .bl t ∧ Q (.bl (if neg then !t else t)) H') E0
def NeF2 (K : PySem.W.Frag) (C : Addr) : Prop := NeF K C ∧ PySem.W.notFirst K C (.ref C) = true ∧ PySem.W.notFirst K C (.type "int") = true
def neF2B (c : Str) (K : PySem.W.Frag) : Bool := neFB c K && (PySem.W.notFirst K (He.ga K c) (.ref (He.ga K c)) && PySem.W.notFirst K (He.ga K c) (.type "int"))
theorem neF2_ok {K : PySem.W.Frag} {c : Str} (h : neF2B c K = true) : NeF2 K (He.ga K c) := by
  unfold neF2B at h
  rw [Bool.and_eq_true, Bool.and_eq_true] at h
  exact ⟨neF_ok h.1, h.2.1, h.2.2⟩
section
variable {X : Cx} {n j : Nat} {C : Addr} {sp : Sp}
theorem looks_int {M : Model} {h : Heap} {u : Value} {i : Int} (r : RelV (.int i) u) : PySem.W.Looks M h (typeOf u) (.type "int") := by
  obtain ⟨t, rfl⟩ := r
  exact PySem.W.Looks.of_pure rfl
theorem own_call (c : Mt X.prog X.w X.K X.mg X.base n C "__eq__" sp []) (hr : Room j X.A) (hk : n + 1 ≤ j) {pins : List (Addr × Obj)} {s : Shared} {σ : L2.St} {H : Hp} {a : Addr} {y : V} {u : Value} {R : V → Hp → Prop} (I : Inv X pins σ H s) (ry : RelV y u)
    (hsp : sp [.ref a, y] H R E0) (A : Around) (hA : A = X.A ∨ A = X.A.in1) : ∃ f, Meth X.K C "__eq__" f ∧ wpAny (model X.prog X.w) A (call (.ref f) [.ref a, u]) (EP X pins σ R) X.xe s := by
  obtain ⟨f, fd, ps, ds, cl, hm, F, b, d⟩ := c.ex
  cases d
  refine ⟨f, hm, ?_⟩
  have hl := F.len _ _ _ _ hsp
  have rm : Room n A := by
    rcases hA with rfl | rfl
    · exact hr.mono (by omega)
    · exact (hr.mono hk).in1
  have e0 : Env0 X.prog X.w X.K X.mg X.base A X.stack s H := by
    rcases hA with rfl | rfl
    · exact I.env0
    · exact I.env0.in1
  have bi := b s [.ref a, u] I.kIn (by simpa using hl)
  rw [List.append_nil] at bi
  refine wpAny_call (codeAny_mono (F.run A X.stack s H ⟨[.ref a, u], []⟩ [.ref a, u] [.ref a, y] R E0 rm e0 bi (.cons rfl (.cons ry .nil)) hsp) fun r s' hq => ?_)
  cases r with
  | error e => exact (passL (X := X)) pins σ H s e s' I hq
  | ok fl =>
    cases fl with
    | ret w => exact I.after hq
    | next => exact hq.elim
    | brk => exact hq.elim
    | cont => exact hq.elim
theorem op_own {op : CmpOp} {neg : Bool} (hop : (op = .Eq ∧ neg = false) ∨ (op = .NotEq ∧ neg = true)) (c : Mt X.prog X.w X.K X.mg X.base n C "__eq__" sp []) (nf : NeF2 X.K C) (hr : Room j X.A) (hk : n + 1 ≤ j) : OpR X (compareOp op) (rOwn neg X.K C sp) := by
  intro pins s σ H x y v u Q I rx ry hq
  obtain ⟨a, dx, fs, rfl, ha, hy, hsp⟩ := hq
  cases rx
  obtain ⟨mA, J, _⟩ := ins_get I.hok ha
  obtain ⟨od, J, _⟩ := J.look
  obtain ⟨m, hF⟩ := I.fr
  obtain ⟨tb, hb, hn⟩ : ∃ tb, PySem.W.Looks (model X.prog X.w) s.heap (typeOf u) tb ∧ PySem.W.notFirst X.K C tb = true := by
    rcases hy with ⟨b, D, dy, gs, rfl, hb', hn⟩ | ⟨⟨i, rfl⟩, hn⟩
    · cases ry
      obtain ⟨mB, J', _⟩ := ins_get I.hok hb'
      obtain ⟨od', J', _⟩ := J'.look
      exact ⟨_, J'.type, hn⟩
    · exact ⟨_, looks_int ry, hn⟩
  rcases hop with ⟨rfl, rfl⟩ | ⟨rfl, rfl⟩
  · obtain ⟨f, hm, hc⟩ := own_call c hr hk I ry hsp X.A (.inl rfl)
    show wpAny (model X.prog X.w) X.A (richCompare .Eq (.ref a) u) (EP X pins σ Q) X.xe s
    refine PySem.W.cmp_K (op := .Eq) (tb := tb) hr.units0 hF I.ok.mod.kin J hb hn hm.at_ hm.fn (wpAny_mono hc (fun r s' z => ?_) fun _ _ e => e)
    obtain ⟨v, H', I', rv, t, rfl, q⟩ := z
    cases rv
    exact ⟨.bl t, H', I', rfl, q⟩
  · obtain ⟨f, hm, hc⟩ := own_call c hr hk I ry hsp X.A.in1 (.inr rfl)
    show wpAny (model X.prog X.w) X.A (richCompare .NotEq (.ref a) u) (EP X pins σ Q) X.xe s
    refine GN.rcNe_V (tb := tb) (hr.mono hk).in1.units0 I.kIn J hb hn nf.1.1 nf.1.2 hm.at_ hm.fn (wpAny_mono hc (fun r s' z => ?_) fun _ _ e => e)
    obtain ⟨v, H', I', rv, t, rfl, q⟩ := z
    cases rv
    exact ⟨t, rfl, .bl (!t), H', I', rfl, q⟩
end
end G

namespace G
open PySem PySem.Spec PyProof.Rows L2
/-! ### dicts that stand still (frz), dicts that are being filled (cells) -/
def FzK (Q : VK) : VK := fun v H => Q v H ∨ ∃ a kvs, v = .ref a ∧ H a = some (.dK kvs) ∧ ∀ od, Q v (upd H a (.frz od (.dK kvs)))
/-- from here on the dict is only read, if that is wished -/
def tFz (t : TE) : TE := fun σ H Q => t σ H (FzK Q)
theorem pe_fz {X : Cx} {e : Expr} {t : TE} (h : PE X e t) : PE X e (tFz t) := ⟨fun pins s σ H Q I q => thn (h.run pins s σ H _ I q) fun u s1 z => by
  obtain ⟨v, H1, I1, r, q⟩ := z
  rcases q with q | ⟨a, kvs, rfl, ha, q⟩
  · exact ⟨v, H1, I1, r, q⟩
  · obtain ⟨od, I2⟩ := I1.lock ha True.intro
    exact ⟨_, _, I2, r, q od⟩⟩
abbrev kT (z : List Nat) : L2.Key := .inr ⟨z.toArray⟩
abbrev kI (n : Int) : L2.Key := .inl n
def valD (kvs : List (L2.Key × D)) (k : L2.Key) : Option D := (kvs.find? fun kv => decide (kv.1 = k)).map (·.2)
theorem valD_pos {k : L2.Key} {d : D} {r : List (L2.Key × D)} : valD ((k, d) :: r) k = some d := by unfold valD; rw [List.find?_cons, decide_eq_true rfl]; rfl
theorem valD_neg {j k : L2.Key} {d : D} {r : List (L2.Key × D)} (n : j ≠ k) : valD ((j, d) :: r) k = valD r k := by unfold valD; rw [List.find?_cons, decide_eq_false n]
section
variable {K : PySem.W.Frag} {F F0 F1 F' H H' : Hp} {x y w u v : V} {d : D} {ds es : List D} {us vs : List V} {M : List (Addr × HO)} {Q : VK} {S : Hp → Prop} {σ : L2.St} {nx bk ct : L2.St → Hp → Prop} {rt : VK} {td ty tv : TE}
theorem g_fz (h : td σ H (FzK Q)) : tFz td σ H Q := h
theorem fz_no (q : Q x H) : FzK Q x H := .inl q
theorem o_fz {a : Addr} {kvs : List (L2.Key × V)} (hh : HH F H ((a, .dK kvs) :: M)) (q : ∀ F' H' od, Same F F' → HH F' H' M → F' a = some (.frz od (.dK kvs)) → Q (.ref a) H') : FzK Q (.ref a) H :=
  .inr ⟨a, kvs, rfl, hh.get (i := 0) rfl, fun od => q _ _ od hh.set0.frzS hh.set0.frz upd_same⟩
theorem AtK.nil : AtK K F [] [] := by unfold AtK; rfl
theorem AtK.cons {k : L2.Key} {ks : List (L2.Key × D)} {gs : List (L2.Key × V)} (h : At K F d u) (t : AtK K F ks gs) : AtK K F ((k, d) :: ks) ((k, u) :: gs) := by unfold AtK; exact ⟨_, _, rfl, h, t⟩
theorem AtK.ni {gs : List (L2.Key × V)} (h : AtK K F [] gs) : gs = [] := by unfold AtK at h; exact h
theorem AtK.ci {k : L2.Key} {ks : List (L2.Key × D)} {gs : List (L2.Key × V)} (h : AtK K F ((k, d) :: ks) gs) : ∃ u us, gs = (k, u) :: us ∧ At K F d u ∧ AtK K F ks us := by unfold AtK at h; exact h
theorem AtK.snoc {k : L2.Key} : ∀ {ks : List (L2.Key × D)} {gs : List (L2.Key × V)}, AtK K F ks gs → At K F d u → AtK K F (ks ++ [(k, d)]) (gs ++ [(k, u)])
  | [], gs, h, t => by rw [h.ni]; exact AtK.cons t AtK.nil
  | (j, e) :: ks, gs, h, t => by
    obtain ⟨z, us, rfl, h1, h2⟩ := h.ci
    exact AtK.cons h1 (AtK.snoc h2 t)
theorem AtK.keys : ∀ {ks : List (L2.Key × D)} {gs : List (L2.Key × V)}, AtK K F ks gs → gs.map (·.1) = ks.map (·.1)
  | [], gs, h => by rw [h.ni]; rfl
  | (j, e) :: ks, gs, h => by
    obtain ⟨z, us, rfl, _, h2⟩ := h.ci
    rw [List.map_cons, List.map_cons, AtK.keys h2]
theorem AtK.vals : ∀ {ks : List (L2.Key × D)} {gs : List (L2.Key × V)}, AtK K F ks gs → AtA K F (ks.map (·.2)) (gs.map (·.2))
  | [], gs, h => by rw [h.ni]; exact AtA.nil
  | (j, e) :: ks, gs, h => by
    obtain ⟨z, us, rfl, h1, h2⟩ := h.ci
    exact AtA.cons h1 (AtK.vals h2)
theorem AtK.len {ks : List (L2.Key × D)} {gs : List (L2.Key × V)} (h : AtK K F ks gs) : gs.length = ks.length := by
  have := congrArg List.length h.keys
  rw [List.length_map, List.length_map] at this
  exact this
theorem AtK.val {k : L2.Key} : ∀ {ks : List (L2.Key × D)} {gs : List (L2.Key × V)}, AtK K F ks gs → valD ks k = some d → ∃ u, valV gs k = some u ∧ At K F d u
  | [], gs, h, e => by cases e
  | (j, e) :: ks, gs, h, q => by
    obtain ⟨z, us, rfl, h1, h2⟩ := h.ci
    by_cases c : j = k
    · subst c
      rw [valD_pos] at q
      cases q
      exact ⟨z, valV_pos rfl, h1⟩
    · rw [valD_neg c] at q
      rw [valV_neg (p := (j, z)) c]
      exact AtK.val h2 q
theorem AtK.non {k : L2.Key} : ∀ {ks : List (L2.Key × D)} {gs : List (L2.Key × V)}, AtK K F ks gs → valD ks k = none → valV gs k = none
  | [], gs, h, e => by rw [h.ni]; rfl
  | (j, e) :: ks, gs, h, q => by
    obtain ⟨z, us, rfl, h1, h2⟩ := h.ci
    by_cases c : j = k
    · subst c
      rw [valD_pos] at q
      cases q
    · rw [valD_neg c] at q
      rw [valV_neg (p := (j, z)) c]
      exact AtK.non h2 q
theorem At.dk_ {ks : List (L2.Key × D)} (h : At K F (.dk ks) u) : ∃ a od vs, u = .ref a ∧ F a = some (.frz od (.dK vs)) ∧ AtK K F ks vs := by unfold At at h; exact h
theorem At.mkK {a : Addr} {od : Obj} {ks : List (L2.Key × D)} {vs : List (L2.Key × V)} (h : F a = some (.frz od (.dK vs))) (t : AtK K F ks vs) : At K F (.dk ks) (.ref a) := by unfold At; exact ⟨a, od, vs, rfl, h, t⟩
theorem At.dkR {ks : List (L2.Key × D)} (h : At K F0 (.dk ks) u) (s : Same F0 H) : ∃ a od vs, u = .ref a ∧ H a = some (.frz od (.dK vs)) ∧ Rd H a (.dK vs) ∧ AtK K F0 ks vs := by
  obtain ⟨a, od, vs, e, h1, h2⟩ := h.dk_
  exact ⟨a, od, vs, e, s _ _ h1, .inr ⟨od, s _ _ h1⟩, h2⟩
/-! d[k], k in d, d.get(k) -/
def DgK (Q : VK) (x y : V) (H : Hp) : Prop := ∃ a v, x = .ref a ∧ DGet H a y (some v) ∧ Q v H
def DiK (neg : Bool) (Q : VK) (x y : V) (H : Hp) : Prop := ∃ a o, x = .ref a ∧ DGet H a y o ∧ Q (.bl (if neg then !o.isSome else o.isSome)) H
def DhK (x : V) (H : Hp) (A : Prop) : Prop := ∃ a, x = .ref a ∧ IsD H a ∧ A
theorem g_dget (h : td σ H fun x H1 => ty σ H1 fun y H2 => DgK Q x y H2) : tDGet td ty σ H Q := h
theorem g_din (h : ty σ H fun y H1 => td σ H1 fun x H2 => DiK false Q x y H2) : tDIn ty td σ H Q := h
theorem g_dnin (h : ty σ H fun y H1 => td σ H1 fun x H2 => DiK true Q x y H2) : tDNotIn ty td σ H Q := h
/-- d.get(k): the dict's address is told twice -/
def DeK (Q : VK) (a : Addr) (y : V) (H : Hp) : Prop := ∃ o, DGet H a y o ∧ Q (o.getD .non) H
def DfK (ty : TE) (σ : L2.St) (Q : VK) (x : V) (H : Hp) : Prop := ∃ a, x = .ref a ∧ IsD H a ∧ ty σ H fun y H2 => DeK Q a y H2
theorem g_dget1 (h : td σ H fun x H1 => DfK ty σ Q x H1) : tDGet1 td ty σ H Q := h
theorem v_dget {a : Addr} {kvs : List (L2.Key × V)} {k : L2.Key} (h : Rd H a (.dK kvs)) (e : valV kvs k = some v) (q : Q v H) : DgK Q (.ref a) (kV k) H := ⟨a, v, rfl, .inl ⟨kvs, k, h, rfl, e.symm⟩, q⟩
theorem v_din {neg : Bool} {a : Addr} {kvs : List (L2.Key × V)} {k : L2.Key} (h : Rd H a (.dK kvs)) (q : Q (.bl (if neg then !(valV kvs k).isSome else (valV kvs k).isSome)) H) : DiK neg Q (.ref a) (kV k) H := ⟨a, _, rfl, .inl ⟨kvs, k, h, rfl, rfl⟩, q⟩
theorem s_dgetT {ks : List (L2.Key × D)} {z : List Nat} (h : At K F0 (.dk ks) x) (s : Same F0 H) (e : valD ks (kT z) = some d) (q : ∀ w, At K F0 d w → Q w H) : DgK Q x (.str ⟨z.toArray⟩) H := by
  obtain ⟨a, od, vs, rfl, _, h1, h2⟩ := h.dkR s
  obtain ⟨u, eu, hu⟩ := h2.val e
  exact v_dget (k := kT z) h1 eu (q u hu)
theorem s_dgetI {ks : List (L2.Key × D)} {n : Int} (h : At K F0 (.dk ks) x) (s : Same F0 H) (e : valD ks (kI n) = some d) (q : ∀ w, At K F0 d w → Q w H) : DgK Q x (.int n) H := by
  obtain ⟨a, od, vs, rfl, _, h1, h2⟩ := h.dkR s
  obtain ⟨u, eu, hu⟩ := h2.val e
  exact v_dget (k := kI n) h1 eu (q u hu)
theorem isS_AtK {k : L2.Key} {ks : List (L2.Key × D)} {gs : List (L2.Key × V)} (h : AtK K F ks gs) : (valV gs k).isSome = (valD ks k).isSome := by
  cases e : valD ks k with
  | none => rw [h.non e]; rfl
  | some d =>
    obtain ⟨u, eu, _⟩ := h.val e
    rw [eu]
    rfl
theorem s_dinI {neg : Bool} {ks : List (L2.Key × D)} {n : Int} (h : At K F0 (.dk ks) x) (s : Same F0 H) (q : Q (.bl (if neg then !(valD ks (kI n)).isSome else (valD ks (kI n)).isSome)) H) : DiK neg Q x (.int n) H := by
  obtain ⟨a, od, vs, rfl, _, h1, h2⟩ := h.dkR s
  refine v_din (k := kI n) h1 ?_
  rw [isS_AtK h2]
  exact q
theorem s_dgetD {ks : List (L2.Key × D)} (h : At K F0 (.dk ks) x) (s : Same F0 H) (q : ∀ a, (∀ {H' : Hp} {Q : VK} {n : Int}, Same F0 H' → (valD ks (kI n) = none → Q .non H') → (∀ d w, valD ks (kI n) = some d → At K F0 d w → Q w H') → DeK Q a (.int n) H') → ty σ H fun y H2 => DeK Q a y H2) : DfK ty σ Q x H := by
  obtain ⟨a, od, vs, rfl, hf, hv⟩ := h.dk_
  refine ⟨a, rfl, .inl ⟨vs, .inr ⟨od, s _ _ hf⟩⟩, q a fun {H' Q n} s' q1 q2 => ?_⟩
  refine ⟨valV vs (kI n), .inl ⟨vs, kI n, .inr ⟨od, s' _ _ hf⟩, rfl, rfl⟩, ?_⟩
  cases e : valD ks (kI n) with
  | none => rw [hv.non e]; exact q1 e
  | some d =>
    obtain ⟨u, eu, hu⟩ := hv.val e
    rw [eu]
    exact q2 d u e hu
/-! {}, d[k] = v -/
def DnK (Q : VK) (H : Hp) : Prop := ∀ p, H p = none → Q (.ref p) (upd H p (.dK []))
theorem g_dnew (h : DnK Q H) : tDNewK σ H Q := h
theorem o_dnew (hh : HH F H M) (q : ∀ H' p, HH F H' ((p, .dK []) :: M) → Q (.ref p) H') : DnK Q H := fun p hp => q _ p (hh.new hp)
theorem o_dnew1 {c : Addr × HO} (hh : HH F H (c :: M)) (q : ∀ H' p, HH F H' (c :: (p, .dK []) :: M) → Q (.ref p) H') : DnK Q H := fun p hp => q _ p (hh.new1 hp)
def DpK (S : Hp → Prop) (x y v : V) (H : Hp) : Prop := ∃ a H4, x = .ref a ∧ DPut H a y v H4 ∧ S H4
theorem g_dput (h : tv σ H fun v H1 => td σ H1 fun x H2 => ty σ H2 fun y H3 => DpK (nx σ) x y v H3) : sDPut td ty tv ⟨nx, rt, bk, ct⟩ σ H := h
theorem o_dput0 {a : Addr} {kvs : List (L2.Key × V)} {k : L2.Key} (hh : HH F H ((a, .dK kvs) :: M)) (l : kvs.length < 1000000) (q : ∀ H', HH F H' ((a, .dK (putK kvs k v)) :: M) → S H') : DpK S (.ref a) (kV k) v H :=
  ⟨a, _, rfl, DPut.k (hh.get (i := 0) rfl) (by rw [sl16]; omega), q _ hh.set0⟩
theorem o_dput1 {a : Addr} {c : Addr × HO} {kvs : List (L2.Key × V)} {k : L2.Key} (hh : HH F H (c :: (a, .dK kvs) :: M)) (l : kvs.length < 1000000) (q : ∀ H', HH F H' (c :: (a, .dK (putK kvs k v)) :: M) → S H') : DpK S (.ref a) (kV k) v H :=
  ⟨a, _, rfl, DPut.k (hh.get (i := 1) rfl) (by rw [sl16]; omega), q _ hh.set1⟩
/-! walks over keys -/
def OvK (R : It → Hp → Prop) (x : V) (H : Hp) : Prop := ∃ d o, x = .ref d ∧ ((∃ kvs, H d = some (.frz o (.dK kvs)) ∧ R (Itk d o kvs) H) ∨ ∃ kvs, H d = some (.frz o (.dT kvs)) ∧ R (Itkt d o kvs) H)
theorem gi_keys {R : It → Hp → Prop} (h : td σ H (OvK R)) : iKeys td σ H R := h
theorem v_ovK {R : It → Hp → Prop} {p : Addr} {o : Obj} {kvs : List (L2.Key × V)} (h : H p = some (.frz o (.dK kvs))) (q : R (Itk p o kvs) H) : OvK R (.ref p) H := ⟨p, o, rfl, .inl ⟨kvs, h, q⟩⟩
theorem l_keys {p : Addr} {o : Obj} {kvs : List (L2.Key × V)} {g : TG} {tb : TS} (Pv : Nat → L2.St → Hp → Prop) (h0 : Pv 0 σ H) (hl : ∀ i σ H, Pv i σ H → H p = some (.frz o (.dK kvs)))
    (hs : ∀ i k v σ H, kvs[i]? = some (k, v) → Pv i σ H → g (kV k) σ H fun σ2 H2 => tb ⟨Pv (i + 1), rt, nx, Pv (i + 1)⟩ σ2 H2) (hd : ∀ σ H, Pv kvs.length σ H → nx σ H) : LoopG (Itk p o kvs) g tb ⟨nx, rt, bk, ct⟩ σ H := by
  refine ⟨fun i m σ H => m = kvs.length - i ∧ i ≤ kvs.length ∧ Pv i σ H, ⟨kvs.length, by simp, Nat.zero_le _, h0⟩, ?_⟩
  rintro i m σ H ⟨rfl, hi, q⟩
  by_cases hlt : i < kvs.length
  · refine .inr ⟨⟨hl i σ H q, hlt⟩, Pv (i + 1), fun σ' H' q' => ⟨kvs.length - (i + 1), by omega, rfl, hlt, q'⟩, fun x H' z => ?_⟩
    obtain ⟨rfl, k, v, e, rfl⟩ := z
    exact hs i k v σ H' e q
  · obtain rfl : i = kvs.length := by omega
    exact .inl ⟨⟨hl _ σ H q, Nat.le_refl _⟩, hd σ H q⟩
theorem AtK.drop : ∀ {ks : List (L2.Key × D)} {gs : List (L2.Key × V)} (i : Nat), AtK K F ks gs → AtK K F (ks.drop i) (gs.drop i)
  | ks, gs, 0, h => h
  | [], gs, i + 1, h => by rw [h.ni]; exact AtK.nil
  | (j, e) :: ks, gs, i + 1, h => by
    obtain ⟨z, us, rfl, _, h2⟩ := h.ci
    exact AtK.drop i h2
theorem a_forK {ks : List (L2.Key × D)} {g : TG} {tb : TS} (hx : At K F0 (.dk ks) x) (s : Same F0 H) (I : List (L2.Key × D) → L2.St → Hp → Prop) (hF : ∀ r σ H, I r σ H → Same F0 H) (h0 : I ks σ H)
    (hs : ∀ k d r σ H, I ((k, d) :: r) σ H → g (kV k) σ H fun σ2 H2 => tb ⟨I r, rt, nx, I r⟩ σ2 H2) (hd : ∀ σ H, I [] σ H → nx σ H) : OvK (fun J H1 => LoopG J g tb ⟨nx, rt, bk, ct⟩ σ H1) x H := by
  obtain ⟨a, od, vs, rfl, hf, hv⟩ := hx.dk_
  refine v_ovK (s _ _ hf) (l_keys (fun i σ H => I (ks.drop i) σ H) h0 (fun i σ H q => hF _ _ _ q _ _ hf) (fun i k v σ H e q => ?_) fun σ H q => hd σ H ?_)
  · have h2 := hv.drop i
    rw [drop_c e] at h2
    cases hk : ks.drop i with
    | nil => rw [hk] at h2; cases h2.ni
    | cons p r =>
      obtain ⟨j, d⟩ := p
      rw [hk] at h2 q
      obtain ⟨z, us, ez, _, _⟩ := h2.ci
      cases ez
      have er : ks.drop (i + 1) = r := by rw [← List.drop_drop, hk]; rfl
      show g (kV k) σ H fun σ2 H2 => tb ⟨I (ks.drop (i + 1)), rt, nx, I (ks.drop (i + 1))⟩ σ2 H2
      rw [er]
      exact hs k d r σ H q
  · rw [hv.len, List.drop_length] at q
    exact q
/-! dict comprehensions -/
def PutDK (D : Addr) (y z : V) (H5 : Hp) (S : Hp → Prop) : Prop := ∃ kvs k, y = kV k ∧ H5 D = some (.dK kvs) ∧ kvs.length < sizeLine ∧ S (upd H5 D (.dK (putK kvs k z)))
def DcG (J : It) (g : TG) (tt : TT) (tk tv : TE) (σ : L2.St) (vs : List Nat) (D : Addr) (H1 : Hp) (Qd : Hp → Prop) : Prop := ∃ W : Nat → Nat → Hp → Prop, (∃ m, W 0 m (upd H1 D (.dK []))) ∧ ∀ i m H, W i m H →
  (J.stop i H ∧ Qd H) ∨ (J.go i H ∧ ∃ Nx : Hp → Prop, (∀ H', Nx H' → ∃ m', m' < m ∧ W (i + 1) m' H') ∧ ∀ x H', J.yld i H x H' → g x (wipe σ vs) H' fun σ2 H2 => wipe σ2 vs = wipe σ vs ∧ tt σ2 H2 fun b H3 =>
    if b = true then tk σ2 H3 fun y H4 => tv σ2 H4 fun z H5 => PutDK D y z H5 Nx else Nx H3)
def DcK (J : It) (g : TG) (tt : TT) (tk tv : TE) (σ : L2.St) (ws : List Nat) (H1 : Hp) (Q : VK) : Prop := ∀ D, H1 D = Option.none → DcG J g tt tk tv σ ws D H1 (Q (.ref D))
theorem g_dcK {wi : TI} {g : TG} {tt : TT} {tk : TE} {ws : List Nat} (h : wi σ H fun J H1 => DcK J g tt tk tv σ ws H1 Q) : tDc wi g tt tk tv ws σ H Q := h
theorem v_putD {D : Addr} {kvs : List (L2.Key × V)} {k : L2.Key} (h : H D = some (.dK kvs)) (l : kvs.length < 1000000) (q : S (upd H D (.dK (putK kvs k v)))) : PutDK D (kV k) v H S := ⟨kvs, k, rfl, h, by rw [sl16]; omega, q⟩
theorem dc_keys {p : Addr} {o : Obj} {kvs : List (L2.Key × V)} {g : TG} {tt : TT} {tk : TE} {ws : List Nat} {D : Addr} {Qd : Hp → Prop} (Pv : Nat → Hp → Prop) (h0 : Pv 0 (upd H D (.dK []))) (hl : ∀ i H, Pv i H → H p = some (.frz o (.dK kvs)))
    (hs : ∀ i k v H, kvs[i]? = some (k, v) → Pv i H → g (kV k) (wipe σ ws) H fun σ2 H2 => wipe σ2 ws = wipe σ ws ∧ tt σ2 H2 fun b H3 => if b = true then tk σ2 H3 fun y H4 => tv σ2 H4 fun z H5 => PutDK D y z H5 (Pv (i + 1)) else Pv (i + 1) H3)
    (hd : ∀ H, Pv kvs.length H → Qd H) : DcG (Itk p o kvs) g tt tk tv σ ws D H Qd := by
  refine ⟨fun i m H => m = kvs.length - i ∧ i ≤ kvs.length ∧ Pv i H, ⟨kvs.length, by simp, Nat.zero_le _, h0⟩, ?_⟩
  rintro i m H ⟨rfl, hi, q⟩
  by_cases hlt : i < kvs.length
  · refine .inr ⟨⟨hl i H q, hlt⟩, Pv (i + 1), fun H' q' => ⟨kvs.length - (i + 1), by omega, rfl, hlt, q'⟩, fun x H' z => ?_⟩
    obtain ⟨rfl, k, v, e, rfl⟩ := z
    exact hs i k v H' e q
  · obtain rfl : i = kvs.length := by omega
    exact .inl ⟨⟨hl _ H q, Nat.le_refl _⟩, hd H q⟩
theorem dc_list {a : Addr} {xs : List V} {g : TG} {tt : TT} {tk : TE} {ws : List Nat} {D : Addr} {Qd : Hp → Prop} (Pv : Nat → Hp → Prop) (h0 : Pv 0 (upd H D (.dK []))) (hl : ∀ i H, Pv i H → SqL K H a xs)
    (hs : ∀ i x H, xs[i]? = some x → Pv i H → g x (wipe σ ws) H fun σ2 H2 => wipe σ2 ws = wipe σ ws ∧ tt σ2 H2 fun b H3 => if b = true then tk σ2 H3 fun y H4 => tv σ2 H4 fun z H5 => PutDK D y z H5 (Pv (i + 1)) else Pv (i + 1) H3)
    (hd : ∀ H, Pv xs.length H → Qd H) : DcG (Itl K a) g tt tk tv σ ws D H Qd := by
  refine ⟨fun i m H => m = xs.length - i ∧ i ≤ xs.length ∧ Pv i H, ⟨xs.length, by simp, Nat.zero_le _, h0⟩, ?_⟩
  rintro i m H ⟨rfl, hi, p⟩
  have q := hl i H p
  by_cases hlt : i < xs.length
  · refine .inr ⟨⟨xs, xs[i], q, by simp [hlt]⟩, Pv (i + 1), fun H' p' => ⟨xs.length - (i + 1), by omega, rfl, hlt, p'⟩, fun x H' y => ?_⟩
    obtain ⟨e, y⟩ := y
    subst e
    exact hs i x _ (y xs q) p
  · have e : i = xs.length := by omega
    subst e
    exact .inl ⟨⟨xs, q, Nat.le_refl _⟩, hd H p⟩
/-! list(d), sorted(ints) -/
def rListDk : List V → Hp → VK → Prop := fun xs H Q => ∃ (a : Addr) (kvs : List (L2.Key × V)), xs = [.ref a] ∧ Rd H a (.dK kvs) ∧ ∀ p, H p = Option.none → Q (.ref p) (upd H p (.lst (kvs.map fun kv => kV kv.1)))
theorem map_kVI : ∀ {ks : List (L2.Key × V)} {ns : List Int}, ks.map (·.1) = ns.map Sum.inl → (ks.map fun kv => kV kv.1) = ns.map V.int
  | [], [], _ => rfl
  | [], _ :: _, e => nomatch e
  | _ :: _, [], e => nomatch e
  | k :: ks, n :: ns, e => by
    rw [List.map_cons, List.map_cons, List.cons.injEq] at e
    rw [List.map_cons, List.map_cons, map_kVI e.2, e.1]
    rfl
theorem s_listK {ks : List (L2.Key × D)} {ns : List Int} (hx : At K F0 (.dk ks) x) (hh : HH F H M) (s : Same F0 F) (ek : ks.map (·.1) = ns.map Sum.inl) (q : ∀ F' H' u, Same F F' → HH F' H' M → At K F' (.lst (ns.map D.i)) u → Q u H') : rListDk [x] H Q := by
  obtain ⟨a, od, vs, rfl, _, hr, hv⟩ := hx.dkR (s.trans hh.sub)
  refine ⟨a, vs, rfl, hr, fun p hp => ?_⟩
  rw [map_kVI (hv.keys.trans ek)]
  exact q _ _ _ (hh.grow hp) (hh.newF hp) (At.mkL upd_same (AtA.ofFlat (g := V.int)))
def srt (ns : List Int) : List Int := ns.mergeSort fun a b => decide (a ≤ b)
theorem srt_perm {ns : List Int} : (srt ns).Perm ns := List.mergeSort_perm _ _
theorem srt_ord {ns : List Int} : (srt ns).Pairwise (· ≤ ·) := by
  have h := List.pairwise_mergeSort (le := fun a b : Int => decide (a ≤ b)) (fun a b c h1 h2 => decide_eq_true (Int.le_trans (of_decide_eq_true h1) (of_decide_eq_true h2))) (fun a b => by
    rcases Int.le_total a b with h | h
    · rw [decide_eq_true h]; rfl
    · rw [decide_eq_true h]; simp) ns
  exact h.imp fun z => of_decide_eq_true z
theorem srt_uniq {ns ms : List Int} (p : ms.Perm ns) (o : ms.Pairwise (· ≤ ·)) : ms = srt ns := List.Perm.eq_of_pairwise (le := fun a b : Int => a ≤ b) (fun a b _ _ h1 h2 => Int.le_antisymm h1 h2) o srt_ord (p.trans srt_perm.symm)
theorem s_sorted {ns : List Int} (hx : At K F0 (.lst (ns.map D.i)) x) (hh : HH F H M) (s : Same F0 F) (q : ∀ F' H' u, Same F F' → HH F' H' M → At K F' (.lst ((srt ns).map D.i)) u → Q u H') : rSortedI K [x] H Q := by
  obtain ⟨a, vs, rfl, h, t⟩ := hx.lst_
  have e := t.flat (g := V.int)
  subst e
  refine ⟨a, ns, rfl, (s.trans hh.sub).seq h, fun ms p pe po hp => ?_⟩
  rw [srt_uniq pe po]
  exact q _ _ _ (hh.grow hp) (hh.newF hp) (At.mkL upd_same (AtA.ofFlat (g := V.int)))
end
theorem call_listDk {X : Cx} (hc : X.calm = true) : CallR X (.type "list") rListDk := call_listD hc
theorem u1 {k : Nat} {A : Around} (r : Room k A) : A.units + 1 < cLine := by have := r.units; omega
/-! dicts compared -/
def rEqDk (K : PySem.W.Frag) : R2 := fun x y H Q => ∃ a b ks ls ds es, x = .ref a ∧ y = .ref b ∧ Rd H a (.dK ks) ∧ Rd H b (.dK ls) ∧ ks.map (·.1) = ls.map (·.1) ∧ DpAll K H (ks.map (·.2)) ds ∧ DpAll K H (ls.map (·.2)) es ∧ PyData.canLayAll0 ds = true ∧ PyData.canLayAll0 es = true ∧
  PyData.depthAll ds ≤ 60 ∧ Q (.bl (PyData.eqvAll ds es)) H
theorem hits_of {P : Program} {w : World} {A : Around} {s : Shared} {kb : List (L2.Key × Value)} (hn : (kb.map (·.1)).Nodup) (hu : A.units + 60 < cLine) : ∀ {ra rb : List (L2.Key × Value)} {ds es : List PyData} {as bs : List Addr}, ra.map (·.1) = rb.map (·.1) → (∀ p ∈ rb, p ∈ kb) →
    ReadsAll s.heap (ra.map (·.2)) ds as → ReadsAll s.heap (rb.map (·.2)) es bs → PyData.canLayAll0 ds = true → PyData.canLayAll0 es = true → PyData.depthAll ds ≤ 60 → PySem.W.KeqHitsIn P w A s kb ra (PyData.eqvAll ds es)
  | [], [], _, _, _, _, _, _, r1, r2, _, _, _ => by
    cases r1
    cases r2
    rw [PyData.eqvAll]
    exact .nil
  | [], _ :: _, _, _, _, _, e, _, _, _, _, _, _ => nomatch e
  | _ :: _, [], _, _, _, _, e, _, _, _, _, _, _ => nomatch e
  | (k, v) :: ra, (j, u) :: rb, _, _, _, _, e, hm, r1, r2, c1, c2, hd => by
    rw [List.map_cons, List.map_cons, List.cons.injEq] at e
    obtain ⟨e1, e2⟩ := e
    have e1 : k = j := e1
    subst e1
    cases r1 with
    | cons q1 t1 =>
      cases r2 with
      | cons q2 t2 =>
        rw [PyData.canLayAll0, Bool.and_eq_true] at c1 c2
        rw [PyData.depthAll] at hd
        rw [PyData.eqvAll]
        refine .hit (PySem.valueAt_of_mem hn (hm _ (List.mem_cons_self ..))) ((SeqAt.eqAt_reads _ _ A s _ _ _ _ q1 q2 c1.1 c2.1 (by omega)).inModel P w) ?_
        exact hits_of hn hu e2 (fun p hp => hm p (List.mem_cons_of_mem _ hp)) t1 t2 c1.2 c2.2 (by omega)
theorem op_eqDk {X : Cx} (hu : X.A.units + 64 < cLine) : OpR X (compareOp .Eq) (rEqDk X.K) := by
  intro pins s σ H x y v u Q I rx ry h
  obtain ⟨a, b, ks, ls, ds, es, rfl, rfl, ha, hb, ek, h1, h2, c1, c2, hd, q⟩ := h
  cases rx
  cases ry
  obtain ⟨_, ya, va, ra, da⟩ := dk_rd I.hok ha
  obtain ⟨_, yb, vb, rb, db⟩ := dk_rd I.hok hb
  obtain ⟨as, q1⟩ := L2.Dp.readsAll I _ _ _ h1 (kv_vals ra)
  obtain ⟨bs, q2⟩ := L2.Dp.readsAll I _ _ _ h2 (kv_vals rb)
  have ekv : va.map (·.1) = vb.map (·.1) := by rw [← ra.keys, ← rb.keys]; exact ek
  have hnd : (vb.map (·.1)).Nodup := db.elim fun _ z => z.elim fun _ z => z.elim fun _ z => z.2.2.2.2.2
  have hl : va.length = vb.length := by have := congrArg List.length ekv; rw [List.length_map, List.length_map] at this; exact this
  refine PySem.W.keq_eqIn (knd := mixKind X.prog X.w) ya yb da db (by omega) (fun _ => hits_of hnd (by show X.A.units + 1 + 60 < _; omega) ekv (fun p hp => hp) q1 q2 c1 c2 hd) ?_
  rw [hl, beq_self_eq_true, Bool.true_and]
  exact ⟨.bl _, H, I, rfl, q⟩
end G

namespace Lw
open PySem PySem.Spec PyProof.Rows L2 G
def top (i : Nat) : Stmt := PySem.Challenge.pw_oneheap_k78_reading_ahead.main.body.getD i (.Pass ⟨0, 0, 0, 0⟩)
abbrev s__law_cells : Stmt := top 29
abbrev s__law_draw : Stmt := top 30
abbrev s__law_pick : Stmt := top 31
abbrev s_content_copy : Stmt := top 11
abbrev s_Thing_init : Stmt := inClass (top 10) 0
abbrev s__law_number : Stmt := top 33
abbrev s__law_list : Stmt := top 34
abbrev s__law_contents : Stmt := top 35
abbrev s__law_picture : Stmt := top 36
abbrev s_Kind_init : Stmt := inClass (top 26) 0
abbrev s_Field_init : Stmt := inClass (top 25) 0
abbrev s_IntSort_init : Stmt := inClass (top 3) 0
abbrev s_TextSort_init : Stmt := inClass (top 4) 0
abbrev s_RefSort_init : Stmt := inClass (top 5) 0
abbrev s_ListSort_init : Stmt := inClass (top 6) 0
abbrev s_Schema_init : Stmt := inClass (top 27) 0
abbrev s__law_schema : Stmt := top 32
abbrev s_Reader_init : Stmt := inClass (top 16) 0
abbrev s_PictureSource_init : Stmt := inClass (top 23) 0
abbrev s_Reader_company : Stmt := inClass (top 16) 9
abbrev s_Request_init : Stmt := inClass (top 14) 0
abbrev s_Reader__note : Stmt := inClass (top 16) 1
abbrev s_PictureSource_thing : Stmt := inClass (top 23) 1
abbrev s_Reader_learn : Stmt := inClass (top 16) 3
abbrev s_Reader__batch : Stmt := inClass (top 16) 2
abbrev s_Reader_thing : Stmt := inClass (top 16) 4
abbrev s__law_company : Stmt := top 38
abbrev s__law_batch : Stmt := top 40
abbrev s__law_read : Stmt := top 41
abbrev s_Reader_take_requests : Stmt := inClass (top 16) 14
abbrev s__law_numbers_row : Stmt := top 43
abbrev s__law_once : Stmt := top 37
abbrev s__law_come : Stmt := top 39
abbrev s__law_request : Stmt := top 45
abbrev s__law_held : Stmt := top 44
abbrev s__law_walked : Stmt := top 46
abbrev s_once_each : Stmt := top 15
abbrev s_Reader_together : Stmt := inClass (top 16) 10
abbrev s_Reader_knows : Stmt := inClass (top 16) 8
abbrev s_request_all : Stmt := top 19
abbrev s_Schema_kind_of : Stmt := inClass (top 27) 1
abbrev s_Kind_field_of : Stmt := inClass (top 26) 1
abbrev s_Schema_field_of : Stmt := inClass (top 27) 3
abbrev s_is_list : Stmt := top 7
abbrev s_is_reference : Stmt := top 8
abbrev s_linked_numbers : Stmt := top 18
abbrev s_walk_on : Stmt := top 20
abbrev s_read_ahead : Stmt := top 21
abbrev s__law_told_requests : Stmt := top 42
abbrev s_law : Stmt := top 47
/-- "A" -/
def q_A : List Nat := [65]
theorem e_A : ("A" : Str) = ⟨q_A.toArray⟩ := by decide +kernel
/-- "a" -/
def q_a : List Nat := [97]
theorem e_a : ("a" : Str) = ⟨q_a.toArray⟩ := by decide +kernel
/-- "t" -/
def q_t : List Nat := [116]
theorem e_t : ("t" : Str) = ⟨q_t.toArray⟩ := by decide +kernel
/-- "ab" -/
def q_ab : List Nat := [97, 98]
theorem e_ab : ("ab" : Str) = ⟨q_ab.toArray⟩ := by decide +kernel
/-- "b" -/
def q_b : List Nat := [98]
theorem e_b : ("b" : Str) = ⟨q_b.toArray⟩ := by decide +kernel
/-- "" -/
def q_empty : List Nat := []
theorem e_empty : ("" : Str) = ⟨q_empty.toArray⟩ := by decide +kernel
/-- "r" -/
def q_r : List Nat := [114]
theorem e_r : ("r" : Str) = ⟨q_r.toArray⟩ := by decide +kernel
/-- "l" -/
def q_l : List Nat := [108]
theorem e_l : ("l" : Str) = ⟨q_l.toArray⟩ := by decide +kernel
/-- "p" -/
def q_p : List Nat := [112]
theorem e_p : ("p" : Str) = ⟨q_p.toArray⟩ := by decide +kernel
/-- "q" -/
def q_q : List Nat := [113]
theorem e_q : ("q" : Str) = ⟨q_q.toArray⟩ := by decide +kernel
/-- "m" -/
def q_m : List Nat := [109]
theorem e_m : ("m" : Str) = ⟨q_m.toArray⟩ := by decide +kernel
/-- "B" -/
def q_B : List Nat := [66]
theorem e_B : ("B" : Str) = ⟨q_B.toArray⟩ := by decide +kernel
/-- "object" -/
def q_object : List Nat := [111, 98, 106, 101, 99, 116]
theorem e_object : ("object" : Str) = ⟨q_object.toArray⟩ := by decide +kernel
/-- "together" -/
def q_together : List Nat := [116, 111, 103, 101, 116, 104, 101, 114]
theorem e_together : ("together" : Str) = ⟨q_together.toArray⟩ := by decide +kernel
/-- "things" -/
def q_things : List Nat := [116, 104, 105, 110, 103, 115]
theorem e_things : ("things" : Str) = ⟨q_things.toArray⟩ := by decide +kernel
/-- "takes" -/
def q_takes : List Nat := [116, 97, 107, 101, 115]
theorem e_takes : ("takes" : Str) = ⟨q_takes.toArray⟩ := by decide +kernel
/-- "refuses" -/
def q_refuses : List Nat := [114, 101, 102, 117, 115, 101, 115]
theorem e_refuses : ("refuses" : Str) = ⟨q_refuses.toArray⟩ := by decide +kernel
/-- "clears" -/
def q_clears : List Nat := [99, 108, 101, 97, 114, 115]
theorem e_clears : ("clears" : Str) = ⟨q_clears.toArray⟩ := by decide +kernel
/-- "refs" -/
def q_refs : List Nat := [114, 101, 102, 115]
theorem e_refs : ("refs" : Str) = ⟨q_refs.toArray⟩ := by decide +kernel
/-- "z" -/
def q_z : List Nat := [122]
theorem e_z : ("z" : Str) = ⟨q_z.toArray⟩ := by decide +kernel
def k_MOST_ASKED : V := (.int 10)
/-! ### readings -/
/-- _law_cells: 0 _law_script, 1 _law_count, 2 _law_cells_here, 3 _law_k, 4 _law_cell -/
def t__law_cells (K : PySem.W.Frag) : TS :=
  (tSeq (tAsg (tLst tNil) (gName 2)) (tSeq (tFor (iRng1 (tCons (tVar 1) tNil)) (gName 3) (tSeq (tAsg (tOp (rAddX K) (tOp rMulX (tC (.int 11)) (tVar 3)) (tC (.int 5))) (gName 4)) (C8.tCut (tIfS (tTest (tOp (rLtX K) (tVar 3) (tCB (rLen K) (tCons (tVar 0) tNil)))) (tSeq (tAsg (tCB rIntX (tCons (tOp (rIx K) (tVar 0) (tVar 3)) tNil)) (gName 4)) (tIfS (tTest (tOp (rLtX K) (tVar 4) (tC (.int 0)))) (tAsg (tOp rSubX (tC (.int 1)) (tOp rMulX (tC (.int 2)) (tVar 4))) (gName 4)) tNext)) tNext) (C8.tCut (tIfS (tTest (tOp (rLtX K) (tVar 4) (tC (.int 1000000000)))) (tSeq (tAsg (tOp rModX (tCB rIntX (tCons (tOp (rAddX K) (tOp (rAddX K) (tOp rMulX (tCB rIntX (tCons (tVar 4) tNil)) (tC (.int 48271))) (tOp rMulX (tC (.int 17)) (tVar 3))) (tC (.int 3))) tNil)) (tC (.int 2147483647))) (gName 4)) (tAsg (tOp rModX (tCB rIntX (tCons (tOp (rAddX K) (tOp rMulX (tCB rIntX (tCons (tVar 4) tNil)) (tC (.int 2862933555777941757))) (tC (.int 3037000493))) tNil)) (tC (.int 18446744073709551557))) (gName 4))) tNext) (tDrop (tBM K "list" rAppend (tVar 2) (tCons (tVar 4) tNil))))))) (tRet (tVar 2))))
def sp__law_cells (K : PySem.W.Frag) : Sp := fun vs H Q E => vs.length = 2 ∧ t__law_cells K ⟨fun _ H' => Q .non H', Q, fun _ _ => False, fun _ _ => False⟩ (start ["_law_script", "_law_count", "_law_cells_here", "_law_k", "_law_cell"] vs) H
/-- _law_draw: 0 _law_draws, 1 _law_bound, 2 _law_amount -/
def t__law_draw (K : PySem.W.Frag) : TS :=
  (C8.tCut (tIfS (tAnd (tTest (tOp (rEqX K) (tOp (rIx K) (tVar 0) (tC (.int 0))) (tC (.int 0)))) (tTest (tOp rGtX (tCB (rLen K) (tCons (tVar 0) tNil)) (tC (.int 1))))) (tDrop (tBM K "list" (fun x vs H Q => rPop x vs H Q ∨ rPopAt x vs H Q) (tVar 0) (tCons (tC (.int 0)) tNil))) tNext) (tSeq (tAsg (tOp rModX (tCB rIntX (tCons (tOp (rIx K) (tVar 0) (tC (.int 0))) tNil)) (tVar 1)) (gName 2)) (tSeq (tAsg (tOp rDivX (tOp (rIx K) (tVar 0) (tC (.int 0))) (tVar 1)) (gSub (tVar 0) (tC (.int 0)) rSetL)) (tRet (tVar 2)))))
def sp__law_draw (K : PySem.W.Frag) : Sp := fun vs H Q E => vs.length = 2 ∧ t__law_draw K ⟨fun _ H' => Q .non H', Q, fun _ _ => False, fun _ _ => False⟩ (start ["_law_draws", "_law_bound", "_law_amount"] vs) H
/-- _law_pick: 0 _law_draws, 1 _law_row -/
def t__law_pick (K : PySem.W.Frag) : TS :=
  (tRet (tOp (rIx K) (tVar 1) (tCallSD (sp__law_draw K) [] Ez (tCons (tVar 0) (tCons (tCB (rLen K) (tCons (tVar 1) tNil)) tNil)))))
def sp__law_pick (K : PySem.W.Frag) : Sp := fun vs H Q E => vs.length = 2 ∧ t__law_pick K ⟨fun _ H' => Q .non H', Q, fun _ _ => False, fun _ _ => False⟩ (start ["_law_draws", "_law_row"] vs) H
/-- content_copy: 0 content -/
def t_content_copy (K : PySem.W.Frag) : TS :=
  (tSeq (tIfS (tTru K (tCB (rIsi K) (tCons (tVar 0) (tCons (tC (.ty "list")) tNil)))) (tRet (tCB (rListX K) (tCons (tVar 0) tNil))) tNext) (tRet (tVar 0)))
def sp_content_copy (K : PySem.W.Frag) : Sp := fun vs H Q E => vs.length = 1 ∧ t_content_copy K ⟨fun _ H' => Q .non H', Q, fun _ _ => False, fun _ _ => False⟩ (start ["content"] vs) H
/-- Thing.__init__: 0 self, 1 kind, 2 contents, 3 name -/
def t_Thing_init (K : PySem.W.Frag) : TS :=
  (tSeq (sFld K (tVar 0) (tVar 1) ("kind" : Str)) (sFld K (tVar 0) (tFz (tDc (iKeys (tVar 2)) (gName 3) tYes (tVar 3) (tCallSD (sp_content_copy K) [] Ez (tCons (tDGet (tVar 2) (tVar 3)) tNil)) [3])) ("contents" : Str)))
def sp_Thing_init (K : PySem.W.Frag) : Sp := fun vs H Q E => vs.length = 3 ∧ t_Thing_init K ⟨fun _ H' => Q .non H', Q, fun _ _ => False, fun _ _ => False⟩ (start ["self", "kind", "contents", "name"] vs) H
/-- _law_number: 0 _law_draws, 1 _law_digit -/
def t__law_number (K : PySem.W.Frag) : TS :=
  (tSeq (tAsg (tCallSD (sp__law_draw K) [] Ez (tCons (tVar 0) (tCons (tC (.int 10)) tNil))) (gName 1)) (tSeq (tIfS (tTest (tOp (rEqX K) (tVar 1) (tC (.int 0)))) (tRet (tC .non)) tNext) (tRet (tVar 1))))
def sp__law_number (K : PySem.W.Frag) : Sp := fun vs H Q E => vs.length = 1 ∧ t__law_number K ⟨fun _ H' => Q .non H', Q, fun _ _ => False, fun _ _ => False⟩ (start ["_law_draws", "_law_digit"] vs) H
/-- _law_list: 0 _law_draws, 1 _law_row, 2 _law_turn, 3 _law_digit -/
def t__law_list (K : PySem.W.Frag) : TS :=
  (tSeq (tAsg (tLst tNil) (gName 1)) (tSeq (tFor (iRng1 (tCons (tCallSD (sp__law_draw K) [] Ez (tCons (tVar 0) (tCons (tC (.int 5)) tNil))) tNil)) (gName 2) (tSeq (tAsg (tOp (rAddX K) (tC (.int 1)) (tCallSD (sp__law_draw K) [] Ez (tCons (tVar 0) (tCons (tC (.int 9)) tNil)))) (gName 3)) (tIfS (tTest (tOp (rNotInX K) (tVar 3) (tVar 1))) (tDrop (tBM K "list" rAppend (tVar 1) (tCons (tVar 3) tNil))) tNext))) (tRet (tVar 1))))
def sp__law_list (K : PySem.W.Frag) : Sp := fun vs H Q E => vs.length = 1 ∧ t__law_list K ⟨fun _ H' => Q .non H', Q, fun _ _ => False, fun _ _ => False⟩ (start ["_law_draws", "_law_row", "_law_turn", "_law_digit"] vs) H
/-- _law_contents: 0 _law_draws, 1 _law_kind, 2 _law_known -/
def t__law_contents (K : PySem.W.Frag) : TS :=
  (tSeq (tAsg tDNewK (gName 2)) (tSeq (tIfS (tTest (tOp (rEqX K) (tVar 1) (tC (.str ⟨q_A.toArray⟩)))) (tSeq (sDPut (tVar 2) (tC (.str ⟨q_a.toArray⟩)) (tCallSD (sp__law_pick K) [] Ez (tCons (tVar 0) (tCons (tLst (tCons (tC .non) (tCons (tC (.int 0)) (tCons (tC (.int 1)) (tCons (tC (.int 2)) (tCons (tC (.int 9)) tNil)))))) tNil)))) (tSeq (sDPut (tVar 2) (tC (.str ⟨q_t.toArray⟩)) (tCallSD (sp__law_pick K) [] Ez (tCons (tVar 0) (tCons (tLst (tCons (tC .non) (tCons (tC (.str ⟨q_empty.toArray⟩)) (tCons (tC (.str ⟨q_b.toArray⟩)) (tCons (tC (.str ⟨q_ab.toArray⟩)) tNil))))) tNil)))) (tSeq (sDPut (tVar 2) (tC (.str ⟨q_r.toArray⟩)) (tCallSD (sp__law_number K) [] Ez (tCons (tVar 0) tNil))) (tSeq (sDPut (tVar 2) (tC (.str ⟨q_l.toArray⟩)) (tCallSD (sp__law_list K) [] Ez (tCons (tVar 0) tNil))) (tRet (tFz (tVar 2))))))) tNext) (tSeq (sDPut (tVar 2) (tC (.str ⟨q_p.toArray⟩)) (tCallSD (sp__law_number K) [] Ez (tCons (tVar 0) tNil))) (tSeq (sDPut (tVar 2) (tC (.str ⟨q_q.toArray⟩)) (tCallSD (sp__law_number K) [] Ez (tCons (tVar 0) tNil))) (tSeq (sDPut (tVar 2) (tC (.str ⟨q_m.toArray⟩)) (tCallSD (sp__law_list K) [] Ez (tCons (tVar 0) tNil))) (tRet (tFz (tVar 2))))))))
def sp__law_contents (K : PySem.W.Frag) : Sp := fun vs H Q E => vs.length = 2 ∧ t__law_contents K ⟨fun _ H' => Q .non H', Q, fun _ _ => False, fun _ _ => False⟩ (start ["_law_draws", "_law_kind", "_law_known"] vs) H
/-- _law_picture: 0 _law_draws, 1 _law_picture_here, 2 _law_turn, 3 _law_number_here, 4 _law_kind -/
def t__law_picture (K : PySem.W.Frag) : TS :=
  (tSeq (tAsg tDNewK (gName 1)) (tSeq (tFor (iRng1 (tCons (tCallSD (sp__law_draw K) [] Ez (tCons (tVar 0) (tCons (tC (.int 8)) tNil))) tNil)) (gName 2) (tSeq (tAsg (tOp (rAddX K) (tC (.int 1)) (tCallSD (sp__law_draw K) [] Ez (tCons (tVar 0) (tCons (tC (.int 9)) tNil)))) (gName 3)) (tSeq (tAsg (tCallSD (sp__law_pick K) [] Ez (tCons (tVar 0) (tCons (tLst (tCons (tC (.str ⟨q_A.toArray⟩)) (tCons (tC (.str ⟨q_B.toArray⟩)) tNil))) tNil))) (gName 4)) (sDPut (tVar 1) (tVar 3) (tMake (He.ga K ("Thing" : Str)) (sp_Thing_init K) [] E0 (tCons (tVar 4) (tCons (tCallSD (sp__law_contents K) [] Ez (tCons (tVar 0) (tCons (tVar 4) tNil))) tNil))))))) (tRet (tFz (tVar 1)))))
def sp__law_picture (K : PySem.W.Frag) : Sp := fun vs H Q E => vs.length = 1 ∧ t__law_picture K ⟨fun _ H' => Q .non H', Q, fun _ _ => False, fun _ _ => False⟩ (start ["_law_draws", "_law_picture_here", "_law_turn", "_law_number_here", "_law_kind"] vs) H
/-- Kind.__init__: 0 self, 1 name, 2 fields, 3 key_rows, 4 names -/
def t_Kind_init (K : PySem.W.Frag) : TS :=
  (tSeq (sFld K (tVar 0) (tVar 1) ("name" : Str)) (tSeq (sFld K (tVar 0) (tCB (rListX K) (tCons (tVar 2) tNil)) ("fields" : Str)) (sFld K (tVar 0) (tLc (iAny K (tVar 3)) (gName 4) tYes (tCB (rListX K) (tCons (tVar 4) tNil)) [4]) ("key_rows" : Str))))
def sp_Kind_init (K : PySem.W.Frag) : Sp := fun vs H Q E => vs.length = 4 ∧ t_Kind_init K ⟨fun _ H' => Q .non H', Q, fun _ _ => False, fun _ _ => False⟩ (start ["self", "name", "fields", "key_rows", "names"] vs) H
/-- Field.__init__: 0 self, 1 name, 2 shape, 3 needed -/
def t_Field_init (K : PySem.W.Frag) : TS :=
  (tSeq (sFld K (tVar 0) (tVar 1) ("name" : Str)) (tSeq (sFld K (tVar 0) (tVar 2) ("shape" : Str)) (sFld K (tVar 0) (tVar 3) ("needed" : Str))))
def sp_Field_init (K : PySem.W.Frag) : Sp := fun vs H Q E => vs.length = 4 ∧ t_Field_init K ⟨fun _ H' => Q .non H', Q, fun _ _ => False, fun _ _ => False⟩ (start ["self", "name", "shape", "needed"] vs) H
/-- IntSort.__init__: 0 self, 1 low, 2 high -/
def t_IntSort_init (K : PySem.W.Frag) : TS :=
  (tSeq (sFld K (tVar 0) (tVar 1) ("low" : Str)) (sFld K (tVar 0) (tVar 2) ("high" : Str)))
def sp_IntSort_init (K : PySem.W.Frag) : Sp := fun vs H Q E => vs.length = 3 ∧ t_IntSort_init K ⟨fun _ H' => Q .non H', Q, fun _ _ => False, fun _ _ => False⟩ (start ["self", "low", "high"] vs) H
/-- TextSort.__init__: 0 self, 1 longest, 2 without -/
def t_TextSort_init (K : PySem.W.Frag) : TS :=
  (tSeq (sFld K (tVar 0) (tVar 1) ("longest" : Str)) (sFld K (tVar 0) (tVar 2) ("without" : Str)))
def sp_TextSort_init (K : PySem.W.Frag) : Sp := fun vs H Q E => vs.length = 3 ∧ t_TextSort_init K ⟨fun _ H' => Q .non H', Q, fun _ _ => False, fun _ _ => False⟩ (start ["self", "longest", "without"] vs) H
/-- RefSort.__init__: 0 self, 1 kinds, 2 rule -/
def t_RefSort_init (K : PySem.W.Frag) : TS :=
  (tSeq (sFld K (tVar 0) (tCB (rListX K) (tCons (tVar 1) tNil)) ("kinds" : Str)) (sFld K (tVar 0) (tVar 2) ("rule" : Str)))
def sp_RefSort_init (K : PySem.W.Frag) : Sp := fun vs H Q E => vs.length = 3 ∧ t_RefSort_init K ⟨fun _ H' => Q .non H', Q, fun _ _ => False, fun _ _ => False⟩ (start ["self", "kinds", "rule"] vs) H
/-- ListSort.__init__: 0 self, 1 kinds -/
def t_ListSort_init (K : PySem.W.Frag) : TS :=
  (sFld K (tVar 0) (tCB (rListX K) (tCons (tVar 1) tNil)) ("kinds" : Str))
def sp_ListSort_init (K : PySem.W.Frag) : Sp := fun vs H Q E => vs.length = 2 ∧ t_ListSort_init K ⟨fun _ H' => Q .non H', Q, fun _ _ => False, fun _ _ => False⟩ (start ["self", "kinds"] vs) H
/-- Schema.__init__: 0 self, 1 kinds -/
def t_Schema_init (K : PySem.W.Frag) : TS :=
  (sFld K (tVar 0) (tCB (rListX K) (tCons (tVar 1) tNil)) ("kinds" : Str))
def sp_Schema_init (K : PySem.W.Frag) : Sp := fun vs H Q E => vs.length = 2 ∧ t_Schema_init K ⟨fun _ H' => Q .non H', Q, fun _ _ => False, fun _ _ => False⟩ (start ["self", "kinds"] vs) H
/-- _law_schema: 0 _law_rules, 1 _law_needed, 2 _law_first, 3 _law_second -/
def t__law_schema (K : PySem.W.Frag) : TS :=
  (tSeq (tAsg (tMake (He.ga K ("Kind" : Str)) (sp_Kind_init K) [] E0 (tCons (tC (.str ⟨q_A.toArray⟩)) (tCons (tLst (tCons (tMake (He.ga K ("Field" : Str)) (sp_Field_init K) [] E0 (tCons (tC (.str ⟨q_a.toArray⟩)) (tCons (tMake (He.ga K ("IntSort" : Str)) (sp_IntSort_init K) [] E0 (tCons (tC (.int 0)) (tCons (tC (.int 9)) tNil))) (tCons (tVar 1) tNil)))) (tCons (tMake (He.ga K ("Field" : Str)) (sp_Field_init K) [(.bl false)] E0 (tCons (tC (.str ⟨q_t.toArray⟩)) (tCons (tMake (He.ga K ("TextSort" : Str)) (sp_TextSort_init K) [.non] E0 (tCons (tC (.int 4)) tNil)) tNil))) (tCons (tMake (He.ga K ("Field" : Str)) (sp_Field_init K) [(.bl false)] E0 (tCons (tC (.str ⟨q_r.toArray⟩)) (tCons (tMake (He.ga K ("RefSort" : Str)) (sp_RefSort_init K) [] E0 (tCons (tLst (tCons (tC (.str ⟨q_A.toArray⟩)) (tCons (tC (.str ⟨q_B.toArray⟩)) tNil))) (tCons (tOp (rIx K) (tVar 0) (tC (.int 0))) tNil))) tNil))) (tCons (tMake (He.ga K ("Field" : Str)) (sp_Field_init K) [(.bl false)] E0 (tCons (tC (.str ⟨q_l.toArray⟩)) (tCons (tMake (He.ga K ("ListSort" : Str)) (sp_ListSort_init K) [] E0 (tCons (tLst (tCons (tC (.str ⟨q_A.toArray⟩)) tNil)) tNil)) tNil))) tNil))))) (tCons (tLst (tCons (tLst (tCons (tC (.str ⟨q_a.toArray⟩)) (tCons (tC (.str ⟨q_t.toArray⟩)) tNil))) tNil)) tNil)))) (gName 2)) (tSeq (tAsg (tMake (He.ga K ("Kind" : Str)) (sp_Kind_init K) [] E0 (tCons (tC (.str ⟨q_B.toArray⟩)) (tCons (tLst (tCons (tMake (He.ga K ("Field" : Str)) (sp_Field_init K) [] E0 (tCons (tC (.str ⟨q_p.toArray⟩)) (tCons (tMake (He.ga K ("RefSort" : Str)) (sp_RefSort_init K) [] E0 (tCons (tLst (tCons (tC (.str ⟨q_A.toArray⟩)) tNil)) (tCons (tOp (rIx K) (tVar 0) (tC (.int 1))) tNil))) (tCons (tVar 1) tNil)))) (tCons (tMake (He.ga K ("Field" : Str)) (sp_Field_init K) [(.bl false)] E0 (tCons (tC (.str ⟨q_q.toArray⟩)) (tCons (tMake (He.ga K ("RefSort" : Str)) (sp_RefSort_init K) [] E0 (tCons (tLst (tCons (tC (.str ⟨q_B.toArray⟩)) tNil)) (tCons (tOp (rIx K) (tVar 0) (tC (.int 2))) tNil))) tNil))) (tCons (tMake (He.ga K ("Field" : Str)) (sp_Field_init K) [(.bl false)] E0 (tCons (tC (.str ⟨q_m.toArray⟩)) (tCons (tMake (He.ga K ("ListSort" : Str)) (sp_ListSort_init K) [] E0 (tCons (tLst (tCons (tC (.str ⟨q_A.toArray⟩)) (tCons (tC (.str ⟨q_B.toArray⟩)) tNil))) tNil)) tNil))) tNil)))) (tCons (tLst (tCons (tLst (tCons (tC (.str ⟨q_q.toArray⟩)) tNil)) tNil)) tNil)))) (gName 3)) (tRet (tMake (He.ga K ("Schema" : Str)) (sp_Schema_init K) [] E0 (tCons (tLst (tCons (tVar 2) (tCons (tVar 3) tNil))) tNil)))))
def sp__law_schema (K : PySem.W.Frag) : Sp := fun vs H Q E => vs.length = 2 ∧ t__law_schema K ⟨fun _ H' => Q .non H', Q, fun _ _ => False, fun _ _ => False⟩ (start ["_law_rules", "_law_needed", "_law_first", "_law_second"] vs) H
/-- Reader.__init__: 0 self, 1 base -/
def t_Reader_init (K : PySem.W.Frag) : TS :=
  (tSeq (sFld K (tVar 0) (tVar 1) ("base" : Str)) (tSeq (sFld K (tVar 0) tDNewK ("_things" : Str)) (tSeq (sFld K (tVar 0) tDNewK ("_referrers" : Str)) (tSeq (sFld K (tVar 0) tDNewK ("_companies" : Str)) (sFld K (tVar 0) (tLst tNil) ("_requests" : Str))))))
def sp_Reader_init (K : PySem.W.Frag) : Sp := fun vs H Q E => vs.length = 2 ∧ t_Reader_init K ⟨fun _ H' => Q .non H', Q, fun _ _ => False, fun _ _ => False⟩ (start ["self", "base"] vs) H
/-- PictureSource.__init__: 0 self, 1 picture -/
def t_PictureSource_init (K : PySem.W.Frag) : TS :=
  (sFld K (tVar 0) (tVar 1) ("shown" : Str))
def sp_PictureSource_init (K : PySem.W.Frag) : Sp := fun vs H Q E => vs.length = 2 ∧ t_PictureSource_init K ⟨fun _ H' => Q .non H', Q, fun _ _ => False, fun _ _ => False⟩ (start ["self", "picture"] vs) H
/-- Reader.company: 0 self, 1 number -/
def t_Reader_company (K : PySem.W.Frag) : TS :=
  (tSeq (tIfS (tTest (tDIn (tVar 1) (tFld K (tVar 0) ("_companies" : Str)))) (tRet (tCB (rListX K) (tCons (tDGet (tFld K (tVar 0) ("_companies" : Str)) (tVar 1)) tNil))) tNext) (tRet (tLst (tCons (tVar 1) tNil))))
def sp_Reader_company (K : PySem.W.Frag) : Sp := fun vs H Q E => vs.length = 2 ∧ t_Reader_company K ⟨fun _ H' => Q .non H', Q, fun _ _ => False, fun _ _ => False⟩ (start ["self", "number"] vs) H
/-- Request.__init__: 0 self, 1 what, 2 numbers -/
def t_Request_init (K : PySem.W.Frag) : TS :=
  (tSeq (sFld K (tVar 0) (tVar 1) ("what" : Str)) (sFld K (tVar 0) (tCB (rListX K) (tCons (tVar 2) tNil)) ("numbers" : Str)))
def sp_Request_init (K : PySem.W.Frag) : Sp := fun vs H Q E => vs.length = 3 ∧ t_Request_init K ⟨fun _ H' => Q .non H', Q, fun _ _ => False, fun _ _ => False⟩ (start ["self", "what", "numbers"] vs) H
/-- Reader._note: 0 self, 1 what, 2 numbers -/
def t_Reader__note (K : PySem.W.Frag) : TS :=
  (tDrop (tBM K "list" rAppend (tFld K (tVar 0) ("_requests" : Str)) (tCons (tMake (He.ga K ("Request" : Str)) (sp_Request_init K) [] E0 (tCons (tVar 1) (tCons (tVar 2) tNil))) tNil)))
def sp_Reader__note (K : PySem.W.Frag) : Sp := fun vs H Q E => vs.length = 3 ∧ t_Reader__note K ⟨fun _ H' => Q .non H', Q, fun _ _ => False, fun _ _ => False⟩ (start ["self", "what", "numbers"] vs) H
/-- PictureSource.thing: 0 self, 1 number -/
def t_PictureSource_thing (K : PySem.W.Frag) : TS :=
  (tRet (tDGet1 (tFld K (tVar 0) ("shown" : Str)) (tVar 1)))
def sp_PictureSource_thing (K : PySem.W.Frag) : Sp := fun vs H Q E => vs.length = 2 ∧ t_PictureSource_thing K ⟨fun _ H' => Q .non H', Q, fun _ _ => False, fun _ _ => False⟩ (start ["self", "number"] vs) H
/-- Reader.learn: 0 self, 1 numbers, 2 number -/
def t_Reader_learn (K : PySem.W.Frag) : TS :=
  (tSeq (tDrop (tMethD (He.ga K ("Reader" : Str)) ("_note" : Str) (sp_Reader__note K) [] Ez (tVar 0) (tCons (tC (.str ⟨q_object.toArray⟩)) (tCons (tVar 1) tNil)))) (tFor (iAny K (tVar 1)) (gName 2) (sDPut (tFld K (tVar 0) ("_things" : Str)) (tVar 2) (tMethD (He.ga K ("PictureSource" : Str)) ("thing" : Str) (sp_PictureSource_thing K) [] Ez (tFld K (tVar 0) ("base" : Str)) (tCons (tVar 2) tNil)))))
def sp_Reader_learn (K : PySem.W.Frag) : Sp := fun vs H Q E => vs.length = 2 ∧ t_Reader_learn K ⟨fun _ H' => Q .non H', Q, fun _ _ => False, fun _ _ => False⟩ (start ["self", "numbers", "number"] vs) H
/-- Reader._batch: 0 self, 1 number, 2 unknown, 3 others, 4 other -/
def t_Reader__batch (K : PySem.W.Frag) : TS :=
  (tSeq (tAsg (tCB (rSortedI K) (tCons (tLc (iAny K (tVar 2)) (gName 4) (tTest (tOp (rNeX K) (tVar 4) (tVar 1))) (tVar 4) [4]) tNil)) (gName 3)) (tRet (tCB (rSortedI K) (tCons (tOp (rAddX K) (tLst (tCons (tVar 1) tNil)) (tSl (rSlX K) (tVar 3) tNoPart (tPart (tOp rSubX (tC k_MOST_ASKED) (tC (.int 1)))))) tNil))))
def sp_Reader__batch (K : PySem.W.Frag) : Sp := fun vs H Q E => vs.length = 3 ∧ t_Reader__batch K ⟨fun _ H' => Q .non H', Q, fun _ _ => False, fun _ _ => False⟩ (start ["self", "number", "unknown", "others", "other"] vs) H
/-- Reader.thing: 0 self, 1 number, 2 unknown, 3 other -/
def t_Reader_thing (K : PySem.W.Frag) : TS :=
  (C8.tCut (tIfS (tTest (tDNotIn (tVar 1) (tFld K (tVar 0) ("_things" : Str)))) (tSeq (tAsg (tLc (iAny K (tMethD (He.ga K ("Reader" : Str)) ("company" : Str) (sp_Reader_company K) [] Ez (tVar 0) (tCons (tVar 1) tNil))) (gName 3) (tTest (tDNotIn (tVar 3) (tFld K (tVar 0) ("_things" : Str)))) (tVar 3) [3]) (gName 2)) (tDrop (tMethD (He.ga K ("Reader" : Str)) ("learn" : Str) (sp_Reader_learn K) [] Ez (tVar 0) (tCons (tMethD (He.ga K ("Reader" : Str)) ("_batch" : Str) (sp_Reader__batch K) [] Ez (tVar 0) (tCons (tVar 1) (tCons (tVar 2) tNil))) tNil)))) tNext) (tRet (tDGet (tFld K (tVar 0) ("_things" : Str)) (tVar 1))))
def sp_Reader_thing (K : PySem.W.Frag) : Sp := fun vs H Q E => vs.length = 2 ∧ t_Reader_thing K ⟨fun _ H' => Q .non H', Q, fun _ _ => False, fun _ _ => False⟩ (start ["self", "number", "unknown", "other"] vs) H
/-- _law_company: 0 _law_state, 1 _law_number_here -/
def t__law_company (K : PySem.W.Frag) : TS :=
  (tSeq (tIfS (tTest (tDIn (tVar 1) (tDGet (tVar 0) (tC (.str ⟨q_together.toArray⟩))))) (tRet (tDGet (tDGet (tVar 0) (tC (.str ⟨q_together.toArray⟩))) (tVar 1))) tNext) (tRet (tLst (tCons (tVar 1) tNil))))
def sp__law_company (K : PySem.W.Frag) : Sp := fun vs H Q E => vs.length = 2 ∧ t__law_company K ⟨fun _ H' => Q .non H', Q, fun _ _ => False, fun _ _ => False⟩ (start ["_law_state", "_law_number_here"] vs) H
/-- _law_batch: 0 _law_number_here, 1 _law_unknown, 2 _law_rest, 3 _law_other -/
def t__law_batch (K : PySem.W.Frag) : TS :=
  (tSeq (tAsg (tCB (rSortedI K) (tCons (tLc (iAny K (tVar 1)) (gName 3) (tTest (tOp (rNeX K) (tVar 3) (tVar 0))) (tVar 3) [3]) tNil)) (gName 2)) (tRet (tCB (rSortedI K) (tCons (tOp (rAddX K) (tLst (tCons (tVar 0) tNil)) (tSl (rSlX K) (tVar 2) tNoPart (tPart (tC (.int 9))))) tNil))))
def sp__law_batch (K : PySem.W.Frag) : Sp := fun vs H Q E => vs.length = 2 ∧ t__law_batch K ⟨fun _ H' => Q .non H', Q, fun _ _ => False, fun _ _ => False⟩ (start ["_law_number_here", "_law_unknown", "_law_rest", "_law_other"] vs) H
/-- _law_read: 0 _law_state, 1 _law_number_here, 2 _law_things, 3 _law_unknown, 4 _law_other, 5 _law_row -/
def t__law_read (K : PySem.W.Frag) : TS :=
  (tSeq (tAsg (tDGet (tVar 0) (tC (.str ⟨q_things.toArray⟩))) (gName 2)) (tSeq (tIfS (tTest (tOp (rInX K) (tVar 1) (tVar 2))) (tRet (tLst tNil)) tNext) (tSeq (tAsg (tLc (iAny K (tCallSD (sp__law_company K) [] Ez (tCons (tVar 0) (tCons (tVar 1) tNil)))) (gName 4) (tTest (tOp (rNotInX K) (tVar 4) (tVar 2))) (tVar 4) [4]) (gName 3)) (tSeq (tAsg (tCallSD (sp__law_batch K) [] Ez (tCons (tVar 1) (tCons (tVar 3) tNil))) (gName 5)) (tSeq (tFor (iAny K (tVar 5)) (gName 4) (tDrop (tBM K "list" rAppend (tVar 2) (tCons (tVar 4) tNil)))) (tRet (tLst (tCons (tTup (tCons (tC (.str ⟨q_object.toArray⟩)) (tCons (tVar 5) tNil))) tNil))))))))
def sp__law_read (K : PySem.W.Frag) : Sp := fun vs H Q E => vs.length = 2 ∧ t__law_read K ⟨fun _ H' => Q .non H', Q, fun _ _ => False, fun _ _ => False⟩ (start ["_law_state", "_law_number_here", "_law_things", "_law_unknown", "_law_other", "_law_row"] vs) H
/-- Reader.take_requests: 0 self, 1 found -/
def t_Reader_take_requests (K : PySem.W.Frag) : TS :=
  (tSeq (tAsg (tFld K (tVar 0) ("_requests" : Str)) (gName 1)) (tSeq (sFld K (tVar 0) (tLst tNil) ("_requests" : Str)) (tRet (tVar 1))))
def sp_Reader_take_requests (K : PySem.W.Frag) : Sp := fun vs H Q E => vs.length = 1 ∧ t_Reader_take_requests K ⟨fun _ H' => Q .non H', Q, fun _ _ => False, fun _ _ => False⟩ (start ["self", "found"] vs) H
/-- _law_numbers_row: 0 _law_draws, 1 _law_turn -/
def t__law_numbers_row (K : PySem.W.Frag) : TS :=
  (tRet (tLc (iRng1 (tCons (tCallSD (sp__law_draw K) [] Ez (tCons (tVar 0) (tCons (tC (.int 14)) tNil))) tNil)) (gName 1) tYes (tOp (rAddX K) (tC (.int 1)) (tCallSD (sp__law_draw K) [] Ez (tCons (tVar 0) (tCons (tC (.int 16)) tNil)))) [1]))
def sp__law_numbers_row (K : PySem.W.Frag) : Sp := fun vs H Q E => vs.length = 1 ∧ t__law_numbers_row K ⟨fun _ H' => Q .non H', Q, fun _ _ => False, fun _ _ => False⟩ (start ["_law_draws", "_law_turn"] vs) H
/-- _law_once: 0 _law_row, 1 _law_found, 2 _law_number_here -/
def t__law_once (K : PySem.W.Frag) : TS :=
  (tSeq (tAsg (tLst tNil) (gName 1)) (tSeq (tFor (iAny K (tVar 0)) (gName 2) (tIfS (tTest (tOp (rNotInX K) (tVar 2) (tVar 1))) (tDrop (tBM K "list" rAppend (tVar 1) (tCons (tVar 2) tNil))) tNext)) (tRet (tVar 1))))
def sp__law_once (K : PySem.W.Frag) : Sp := fun vs H Q E => vs.length = 1 ∧ t__law_once K ⟨fun _ H' => Q .non H', Q, fun _ _ => False, fun _ _ => False⟩ (start ["_law_row", "_law_found", "_law_number_here"] vs) H
/-- _law_come: 0 _law_state, 1 _law_row, 2 _law_numbers, 3 _law_together, 4 _law_number_here -/
def t__law_come (K : PySem.W.Frag) : TS :=
  (tSeq (tAsg (tCallSD (sp__law_once K) [] Ez (tCons (tVar 1) tNil)) (gName 2)) (tSeq (tAsg (tDGet (tVar 0) (tC (.str ⟨q_together.toArray⟩))) (gName 3)) (tFor (iAny K (tVar 2)) (gName 4) (sDPut (tVar 3) (tVar 4) (tVar 2)))))
def sp__law_come (K : PySem.W.Frag) : Sp := fun vs H Q E => vs.length = 2 ∧ t__law_come K ⟨fun _ H' => Q .non H', Q, fun _ _ => False, fun _ _ => False⟩ (start ["_law_state", "_law_row", "_law_numbers", "_law_together", "_law_number_here"] vs) H
/-- _law_request: 0 _law_state, 1 _law_row, 2 _law_things, 3 _law_unknown, 4 _law_number_here, 5 _law_found, 6 _law_at -/
def t__law_request (K : PySem.W.Frag) : TS :=
  (tSeq (tAsg (tDGet (tVar 0) (tC (.str ⟨q_things.toArray⟩))) (gName 2)) (tSeq (tAsg (tCB (rSortedI K) (tCons (tLc (iAny K (tCallSD (sp__law_once K) [] Ez (tCons (tVar 1) tNil))) (gName 4) (tTest (tOp (rNotInX K) (tVar 4) (tVar 2))) (tVar 4) [4]) tNil)) (gName 3)) (tSeq (tAsg (tLst tNil) (gName 5)) (tSeq (tFor (iRng3 (tCons (tC (.int 0)) (tCons (tCB (rLen K) (tCons (tVar 3) tNil)) (tCons (tC (.int 10)) tNil)))) (gName 6) (tDrop (tBM K "list" rAppend (tVar 5) (tCons (tTup (tCons (tC (.str ⟨q_object.toArray⟩)) (tCons (tSl (rSlX K) (tVar 3) (tPart (tVar 6)) (tPart (tOp (rAddX K) (tVar 6) (tC (.int 10))))) tNil))) tNil)))) (tSeq (tFor (iAny K (tVar 3)) (gName 4) (tDrop (tBM K "list" rAppend (tVar 2) (tCons (tVar 4) tNil)))) (tRet (tVar 5)))))))
def sp__law_request (K : PySem.W.Frag) : Sp := fun vs H Q E => vs.length = 2 ∧ t__law_request K ⟨fun _ H' => Q .non H', Q, fun _ _ => False, fun _ _ => False⟩ (start ["_law_state", "_law_row", "_law_things", "_law_unknown", "_law_number_here", "_law_found", "_law_at"] vs) H
/-- _law_held: 0 _law_picture_here, 1 _law_number_here, 2 _law_name, 3 _law_content -/
def t__law_held (K : PySem.W.Frag) : TS :=
  (tSeq (tIfS (tOr (tTest (tDNotIn (tVar 1) (tVar 0))) (tOr (tTest (tOp (rNotInX K) (tVar 2) (tLst (tCons (tC (.str ⟨q_r.toArray⟩)) (tCons (tC (.str ⟨q_l.toArray⟩)) (tCons (tC (.str ⟨q_p.toArray⟩)) (tCons (tC (.str ⟨q_q.toArray⟩)) (tCons (tC (.str ⟨q_m.toArray⟩)) tNil)))))))) (tTest (tDNotIn (tVar 2) (tFld K (tDGet (tVar 0) (tVar 1)) ("contents" : Str)))))) (tRet (tLst tNil)) tNext) (tSeq (tAsg (tDGet (tFld K (tDGet (tVar 0) (tVar 1)) ("contents" : Str)) (tVar 2)) (gName 3)) (tSeq (tIfS (tTru K (tCB (rIsi K) (tCons (tVar 3) (tCons (tC (.ty "list")) tNil)))) (tRet (tVar 3)) tNext) (tSeq (tIfS (tTest (tOp rIsX (tVar 3) (tC .non))) (tRet (tLst tNil)) tNext) (tRet (tLst (tCons (tVar 3) tNil)))))))
def sp__law_held (K : PySem.W.Frag) : Sp := fun vs H Q E => vs.length = 3 ∧ t__law_held K ⟨fun _ H' => Q .non H', Q, fun _ _ => False, fun _ _ => False⟩ (start ["_law_picture_here", "_law_number_here", "_law_name", "_law_content"] vs) H
/-- _law_walked: 0 _law_state, 1 _law_picture_here, 2 _law_numbers, 3 _law_paths, 4 _law_first, 5 _law_found, 6 _law_path, 7 _law_row, 8 _law_name, 9 _law_later, 10 _law_number_here -/
def t__law_walked (K : PySem.W.Frag) : TS :=
  (tSeq (tAsg (tCallSD (sp__law_once K) [] Ez (tCons (tVar 2) tNil)) (gName 4)) (tSeq (tDrop (tCallSD (sp__law_come K) [] Ez (tCons (tVar 0) (tCons (tVar 4) tNil)))) (tSeq (tAsg (tCallSD (sp__law_request K) [] Ez (tCons (tVar 0) (tCons (tVar 4) tNil))) (gName 5)) (tSeq (tFor (iAny K (tVar 3)) (gName 6) (tSeq (tAsg (tVar 4) (gName 7)) (tFor (iAny K (tVar 6)) (gName 8) (tSeq (tAsg (tLst tNil) (gName 9)) (tSeq (tFor (iAny K (tVar 7)) (gName 10) (tAsg (tOp (rAddX K) (tVar 9) (tCallSD (sp__law_held K) [] Ez (tCons (tVar 1) (tCons (tVar 10) (tCons (tVar 8) tNil))))) (gName 9))) (tSeq (tAsg (tCallSD (sp__law_once K) [] Ez (tCons (tVar 9) tNil)) (gName 7)) (tSeq (tDrop (tCallSD (sp__law_come K) [] Ez (tCons (tVar 0) (tCons (tVar 7) tNil)))) (tAsg (tOp (rAddX K) (tVar 5) (tCallSD (sp__law_request K) [] Ez (tCons (tVar 0) (tCons (tVar 7) tNil)))) (gName 5))))))))) (tRet (tVar 5))))))
def sp__law_walked (K : PySem.W.Frag) : Sp := fun vs H Q E => vs.length = 4 ∧ t__law_walked K ⟨fun _ H' => Q .non H', Q, fun _ _ => False, fun _ _ => False⟩ (start ["_law_state", "_law_picture_here", "_law_numbers", "_law_paths", "_law_first", "_law_found", "_law_path", "_law_row", "_law_name", "_law_later", "_law_number_here"] vs) H
/-- once_each: 0 numbers, 1 found, 2 number -/
def t_once_each (K : PySem.W.Frag) : TS :=
  (tSeq (tAsg (tLst tNil) (gName 1)) (tSeq (tFor (iAny K (tVar 0)) (gName 2) (tIfS (tTest (tOp (rNotInX K) (tVar 2) (tVar 1))) (tDrop (tBM K "list" rAppend (tVar 1) (tCons (tVar 2) tNil))) tNext)) (tRet (tVar 1))))
def sp_once_each (K : PySem.W.Frag) : Sp := fun vs H Q E => vs.length = 1 ∧ t_once_each K ⟨fun _ H' => Q .non H', Q, fun _ _ => False, fun _ _ => False⟩ (start ["numbers", "found", "number"] vs) H
/-- Reader.together: 0 self, 1 numbers, 2 row, 3 number -/
def t_Reader_together (K : PySem.W.Frag) : TS :=
  (tSeq (tAsg (tCallSD (sp_once_each K) [] Ez (tCons (tVar 1) tNil)) (gName 2)) (tFor (iAny K (tVar 2)) (gName 3) (sDPut (tFld K (tVar 0) ("_companies" : Str)) (tVar 3) (tVar 2))))
def sp_Reader_together (K : PySem.W.Frag) : Sp := fun vs H Q E => vs.length = 2 ∧ t_Reader_together K ⟨fun _ H' => Q .non H', Q, fun _ _ => False, fun _ _ => False⟩ (start ["self", "numbers", "row", "number"] vs) H
/-- Reader.knows: 0 self, 1 number -/
def t_Reader_knows (K : PySem.W.Frag) : TS :=
  (tRet (tDIn (tVar 1) (tFld K (tVar 0) ("_things" : Str))))
def sp_Reader_knows (K : PySem.W.Frag) : Sp := fun vs H Q E => vs.length = 2 ∧ t_Reader_knows K ⟨fun _ H' => Q .non H', Q, fun _ _ => False, fun _ _ => False⟩ (start ["self", "number"] vs) H
/-- request_all: 0 reader, 1 numbers, 2 unknown, 3 number, 4 at -/
def t_request_all (K : PySem.W.Frag) : TS :=
  (tSeq (tAsg (tCB (rSortedI K) (tCons (tLc (iAny K (tCallSD (sp_once_each K) [] Ez (tCons (tVar 1) tNil))) (gName 3) (tNot (tTru K (tMethD (He.ga K ("Reader" : Str)) ("knows" : Str) (sp_Reader_knows K) [] Ez (tVar 0) (tCons (tVar 3) tNil)))) (tVar 3) [3]) tNil)) (gName 2)) (tFor (iRng3 (tCons (tC (.int 0)) (tCons (tCB (rLen K) (tCons (tVar 2) tNil)) (tCons (tC k_MOST_ASKED) tNil)))) (gName 4) (tDrop (tMethD (He.ga K ("Reader" : Str)) ("learn" : Str) (sp_Reader_learn K) [] Ez (tVar 0) (tCons (tSl (rSlX K) (tVar 2) (tPart (tVar 4)) (tPart (tOp (rAddX K) (tVar 4) (tC k_MOST_ASKED)))) tNil)))))
def sp_request_all (K : PySem.W.Frag) : Sp := fun vs H Q E => vs.length = 2 ∧ t_request_all K ⟨fun _ H' => Q .non H', Q, fun _ _ => False, fun _ _ => False⟩ (start ["reader", "numbers", "unknown", "number", "at"] vs) H
/-- Schema.kind_of: 0 self, 1 name, 2 kind -/
def t_Schema_kind_of (K : PySem.W.Frag) : TS :=
  (tSeq (tFor (iAny K (tFld K (tVar 0) ("kinds" : Str))) (gName 2) (tIfS (tTest (tOp (rEqX K) (tFld K (tVar 2) ("name" : Str)) (tVar 1))) (tRet (tVar 2)) tNext)) (tRet (tC .non)))
def sp_Schema_kind_of (K : PySem.W.Frag) : Sp := fun vs H Q E => vs.length = 2 ∧ t_Schema_kind_of K ⟨fun _ H' => Q .non H', Q, fun _ _ => False, fun _ _ => False⟩ (start ["self", "name", "kind"] vs) H
/-- Kind.field_of: 0 self, 1 name, 2 field -/
def t_Kind_field_of (K : PySem.W.Frag) : TS :=
  (tSeq (tFor (iAny K (tFld K (tVar 0) ("fields" : Str))) (gName 2) (tIfS (tTest (tOp (rEqX K) (tFld K (tVar 2) ("name" : Str)) (tVar 1))) (tRet (tVar 2)) tNext)) (tRet (tC .non)))
def sp_Kind_field_of (K : PySem.W.Frag) : Sp := fun vs H Q E => vs.length = 2 ∧ t_Kind_field_of K ⟨fun _ H' => Q .non H', Q, fun _ _ => False, fun _ _ => False⟩ (start ["self", "name", "field"] vs) H
/-- Schema.field_of: 0 self, 1 kind, 2 name, 3 found -/
def t_Schema_field_of (K : PySem.W.Frag) : TS :=
  (tSeq (tAsg (tMethD (He.ga K ("Schema" : Str)) ("kind_of" : Str) (sp_Schema_kind_of K) [] Ez (tVar 0) (tCons (tVar 1) tNil)) (gName 3)) (tSeq (tIfS (tTest (tOp rIsX (tVar 3) (tC .non))) (tRet (tC .non)) tNext) (tRet (tMethD (He.ga K ("Kind" : Str)) ("field_of" : Str) (sp_Kind_field_of K) [] Ez (tVar 3) (tCons (tVar 2) tNil)))))
def sp_Schema_field_of (K : PySem.W.Frag) : Sp := fun vs H Q E => vs.length = 3 ∧ t_Schema_field_of K ⟨fun _ H' => Q .non H', Q, fun _ _ => False, fun _ _ => False⟩ (start ["self", "kind", "name", "found"] vs) H
/-- is_list: 0 sort -/
def t_is_list (K : PySem.W.Frag) : TS :=
  (tRet (tCB (rIsi K) (tCons (tVar 0) (tCons (tC (.ref (He.ga K ("ListSort" : Str)))) tNil))))
def sp_is_list (K : PySem.W.Frag) : Sp := fun vs H Q E => vs.length = 1 ∧ t_is_list K ⟨fun _ H' => Q .non H', Q, fun _ _ => False, fun _ _ => False⟩ (start ["sort"] vs) H
/-- is_reference: 0 sort -/
def t_is_reference (K : PySem.W.Frag) : TS :=
  (tRet (tCB (rIsi K) (tCons (tVar 0) (tCons (tC (.ref (He.ga K ("RefSort" : Str)))) tNil))))
def sp_is_reference (K : PySem.W.Frag) : Sp := fun vs H Q E => vs.length = 1 ∧ t_is_reference K ⟨fun _ H' => Q .non H', Q, fun _ _ => False, fun _ _ => False⟩ (start ["sort"] vs) H
/-- linked_numbers: 0 schema, 1 thing, 2 name, 3 field, 4 content -/
def t_linked_numbers (K : PySem.W.Frag) : TS :=
  (tSeq (tAsg (tMethD (He.ga K ("Schema" : Str)) ("field_of" : Str) (sp_Schema_field_of K) [] Ez (tVar 0) (tCons (tFld K (tVar 1) ("kind" : Str)) (tCons (tVar 2) tNil))) (gName 3)) (tSeq (tIfS (tTest (tOp rIsX (tVar 3) (tC .non))) (tRet (tLst tNil)) tNext) (tSeq (tAsg (tDGet (tFld K (tVar 1) ("contents" : Str)) (tVar 2)) (gName 4)) (tSeq (tIfS (tTru K (tCallSD (sp_is_list K) [] Ez (tCons (tFld K (tVar 3) ("shape" : Str)) tNil))) (tRet (tCB (rListX K) (tCons (tVar 4) tNil))) tNext) (tSeq (tIfS (tAnd (tTru K (tCallSD (sp_is_reference K) [] Ez (tCons (tFld K (tVar 3) ("shape" : Str)) tNil))) (tTest (tOp rIsNotX (tVar 4) (tC .non)))) (tRet (tLst (tCons (tVar 4) tNil))) tNext) (tRet (tLst tNil)))))))
def sp_linked_numbers (K : PySem.W.Frag) : Sp := fun vs H Q E => vs.length = 3 ∧ t_linked_numbers K ⟨fun _ H' => Q .non H', Q, fun _ _ => False, fun _ _ => False⟩ (start ["schema", "thing", "name", "field", "content"] vs) H
/-- walk_on: 0 reader, 1 schema, 2 numbers, 3 name, 4 found, 5 number, 6 thing -/
def t_walk_on (K : PySem.W.Frag) : TS :=
  (tSeq (tAsg (tLst tNil) (gName 4)) (tSeq (tFor (iAny K (tVar 2)) (gName 5) (tSeq (tAsg (tMethD (He.ga K ("Reader" : Str)) ("thing" : Str) (sp_Reader_thing K) [] Ez (tVar 0) (tCons (tVar 5) tNil)) (gName 6)) (tIfS (tTest (tOp rIsNotX (tVar 6) (tC .non))) (tAsg (tOp (rAddX K) (tVar 4) (tCallSD (sp_linked_numbers K) [] Ez (tCons (tVar 1) (tCons (tVar 6) (tCons (tVar 3) tNil))))) (gName 4)) tNext))) (tRet (tCallSD (sp_once_each K) [] Ez (tCons (tVar 4) tNil)))))
def sp_walk_on (K : PySem.W.Frag) : Sp := fun vs H Q E => vs.length = 4 ∧ t_walk_on K ⟨fun _ H' => Q .non H', Q, fun _ _ => False, fun _ _ => False⟩ (start ["reader", "schema", "numbers", "name", "found", "number", "thing"] vs) H
/-- read_ahead: 0 reader, 1 schema, 2 numbers, 3 paths, 4 first, 5 path, 6 row, 7 name -/
def t_read_ahead (K : PySem.W.Frag) : TS :=
  (tSeq (tAsg (tCallSD (sp_once_each K) [] Ez (tCons (tVar 2) tNil)) (gName 4)) (tSeq (tDrop (tMethD (He.ga K ("Reader" : Str)) ("together" : Str) (sp_Reader_together K) [] Ez (tVar 0) (tCons (tVar 4) tNil))) (tSeq (tDrop (tCallSD (sp_request_all K) [] Ez (tCons (tVar 0) (tCons (tVar 4) tNil)))) (tFor (iAny K (tVar 3)) (gName 5) (tSeq (tAsg (tVar 4) (gName 6)) (tFor (iAny K (tVar 5)) (gName 7) (tSeq (tAsg (tCallSD (sp_walk_on K) [] Ez (tCons (tVar 0) (tCons (tVar 1) (tCons (tVar 6) (tCons (tVar 7) tNil))))) (gName 6)) (tSeq (tDrop (tMethD (He.ga K ("Reader" : Str)) ("together" : Str) (sp_Reader_together K) [] Ez (tVar 0) (tCons (tVar 6) tNil))) (tDrop (tCallSD (sp_request_all K) [] Ez (tCons (tVar 0) (tCons (tVar 6) tNil))))))))))))
def sp_read_ahead (K : PySem.W.Frag) : Sp := fun vs H Q E => vs.length = 4 ∧ t_read_ahead K ⟨fun _ H' => Q .non H', Q, fun _ _ => False, fun _ _ => False⟩ (start ["reader", "schema", "numbers", "paths", "first", "path", "row", "name"] vs) H
/-- _law_told_requests: 0 _law_reader, 1 _law_request_here -/
def t__law_told_requests (K : PySem.W.Frag) : TS :=
  (tRet (tLc (iAny K (tMethD (He.ga K ("Reader" : Str)) ("take_requests" : Str) (sp_Reader_take_requests K) [] Ez (tVar 0) tNil)) (gName 1) tYes (tTup (tCons (tFld K (tVar 1) ("what" : Str)) (tCons (tFld K (tVar 1) ("numbers" : Str)) tNil))) [1]))
def sp__law_told_requests (K : PySem.W.Frag) : Sp := fun vs H Q E => vs.length = 1 ∧ t__law_told_requests K ⟨fun _ H' => Q .non H', Q, fun _ _ => False, fun _ _ => False⟩ (start ["_law_reader", "_law_request_here"] vs) H
/-- law: 0 _law_script, 1 _law_draws, 2 _law_picture_here, 3 _law_schema_here, 4 _law_reader, 5 _law_state, 6 _law_turn, 7 _law_number_here, 8 _law_numbers, 9 _law_names, 10 _law_paths, 11 _law_step, 12 _law_given, 13 _law_due -/
def t_law (K : PySem.W.Frag) : TS :=
  (tSeq (tAsg (tCallSD (sp__law_cells K) [] Ez (tCons (tVar 0) (tCons (tC (.int 45)) tNil))) (gName 1)) (tSeq (tAsg (tCallSD (sp__law_picture K) [] Ez (tCons (tVar 1) tNil)) (gName 2)) (tSeq (tAsg (tCallSD (sp__law_schema K) [] Ez (tCons (tLst (tCons (tC (.str ⟨q_clears.toArray⟩)) (tCons (tC (.str ⟨q_refuses.toArray⟩)) (tCons (tC (.str ⟨q_takes.toArray⟩)) tNil)))) (tCons (tC (.bl false)) tNil))) (gName 3)) (tSeq (tAsg (tMake (He.ga K ("Reader" : Str)) (sp_Reader_init K) [] E0 (tCons (tMake (He.ga K ("PictureSource" : Str)) (sp_PictureSource_init K) [] E0 (tCons (tVar 2) tNil)) tNil)) (gName 4)) (tSeq (tAsg (tDisp [((tC (.str ⟨q_things.toArray⟩)), (tLst tNil)), ((tC (.str ⟨q_refs.toArray⟩)), (tLst tNil)), ((tC (.str ⟨q_together.toArray⟩)), tDNewK)]) (gName 5)) (tSeq (tFor (iRng1 (tCons (tCallSD (sp__law_draw K) [] Ez (tCons (tVar 1) (tCons (tC (.int 4)) tNil))) tNil)) (gName 6) (tSeq (tAsg (tOp (rAddX K) (tC (.int 1)) (tCallSD (sp__law_draw K) [] Ez (tCons (tVar 1) (tCons (tC (.int 16)) tNil)))) (gName 7)) (tSeq (tDrop (tMethD (He.ga K ("Reader" : Str)) ("thing" : Str) (sp_Reader_thing K) [] Ez (tVar 4) (tCons (tVar 7) tNil))) (tDrop (tCallSD (sp__law_read K) [] Ez (tCons (tFz (tVar 5)) (tCons (tVar 7) tNil))))))) (tSeq (tDrop (tMethD (He.ga K ("Reader" : Str)) ("take_requests" : Str) (sp_Reader_take_requests K) [] Ez (tVar 4) tNil)) (tSeq (tAsg (tCallSD (sp__law_numbers_row K) [] Ez (tCons (tVar 1) tNil)) (gName 8)) (tSeq (tAsg (tLst (tCons (tC (.str ⟨q_r.toArray⟩)) (tCons (tC (.str ⟨q_l.toArray⟩)) (tCons (tC (.str ⟨q_p.toArray⟩)) (tCons (tC (.str ⟨q_q.toArray⟩)) (tCons (tC (.str ⟨q_m.toArray⟩)) (tCons (tC (.str ⟨q_a.toArray⟩)) (tCons (tC (.str ⟨q_z.toArray⟩)) tNil)))))))) (gName 9)) (tSeq (tAsg (tLst tNil) (gName 10)) (tSeq (tFor (iRng1 (tCons (tCallSD (sp__law_draw K) [] Ez (tCons (tVar 1) (tCons (tC (.int 4)) tNil))) tNil)) (gName 6) (tDrop (tBM K "list" rAppend (tVar 10) (tCons (tLc (iRng1 (tCons (tOp (rAddX K) (tC (.int 1)) (tCallSD (sp__law_draw K) [] Ez (tCons (tVar 1) (tCons (tC (.int 3)) tNil)))) tNil)) (gName 11) tYes (tCallSD (sp__law_pick K) [] Ez (tCons (tVar 1) (tCons (tVar 9) tNil))) [11]) tNil)))) (tSeq (tAsg (tCB (rRepr K) (tCons (tTup (tCons (tVar 8) (tCons (tVar 10) tNil))) tNil)) (gName 12)) (tSeq (tAsg (tCallSD (sp__law_walked K) [] Ez (tCons (tFz (tVar 5)) (tCons (tVar 2) (tCons (tVar 8) (tCons (tVar 10) tNil))))) (gName 13)) (tSeq (tDrop (tCallSD (sp_read_ahead K) [] Ez (tCons (tVar 4) (tCons (tVar 3) (tCons (tVar 8) (tCons (tVar 10) tNil)))))) (tSeq (tIfS (tOr (tTest (tOp (rNeX K) (tCallSD (sp__law_told_requests K) [] Ez (tCons (tVar 4) tNil)) (tVar 13))) (tTest (tOp (rNeX K) (tCB (rRepr K) (tCons (tTup (tCons (tVar 8) (tCons (tVar 10) tNil))) tNil)) (tVar 12)))) (tRet (tC (.bl false))) tNext) (tSeq (tFor (iRng2 (tCons (tC (.int 1)) (tCons (tC (.int 17)) tNil))) (gName 7) (tIfS (tOr (tTest (tOp (rNeX K) (tMethD (He.ga K ("Reader" : Str)) ("company" : Str) (sp_Reader_company K) [] Ez (tVar 4) (tCons (tVar 7) tNil)) (tCallSD (sp__law_company K) [] Ez (tCons (tFz (tVar 5)) (tCons (tVar 7) tNil))))) (tTest (tOp (rNeX K) (tMethD (He.ga K ("Reader" : Str)) ("knows" : Str) (sp_Reader_knows K) [] Ez (tVar 4) (tCons (tVar 7) tNil)) (tOp (rInX K) (tVar 7) (tDGet (tVar 5) (tC (.str ⟨q_things.toArray⟩))))))) (tRet (tC (.bl false))) tNext)) (tRet (tC (.bl true)))))))))))))))))))
def sp_law (K : PySem.W.Frag) : Sp := fun vs H Q E => vs.length = 1 ∧ t_law K ⟨fun _ H' => Q .non H', Q, fun _ _ => False, fun _ _ => False⟩ (start ["_law_script", "_law_draws", "_law_picture_here", "_law_schema_here", "_law_reader", "_law_state", "_law_turn", "_law_number_here", "_law_numbers", "_law_names", "_law_paths", "_law_step", "_law_given", "_law_due"] vs) H
/-! ### the scopes -/
theorem sc__law_cells : FnScope ["_law_script", "_law_count", "_law_cells_here", "_law_k", "_law_cell"] ["_law_script", "_law_count"] (defScope s__law_cells) := ⟨rfl, rfl, rfl, by decide +kernel, rfl, by decide +kernel, by decide +kernel⟩
theorem sc__law_draw : FnScope ["_law_draws", "_law_bound", "_law_amount"] ["_law_draws", "_law_bound"] (defScope s__law_draw) := ⟨rfl, rfl, rfl, by decide +kernel, rfl, by decide +kernel, by decide +kernel⟩
theorem sc__law_pick : FnScope ["_law_draws", "_law_row"] ["_law_draws", "_law_row"] (defScope s__law_pick) := ⟨rfl, rfl, rfl, by decide +kernel, rfl, by decide +kernel, by decide +kernel⟩
theorem sc_content_copy : FnScope ["content"] ["content"] (defScope s_content_copy) := ⟨rfl, rfl, rfl, by decide +kernel, rfl, by decide +kernel, by decide +kernel⟩
theorem sc_Thing_init : FnScope ["self", "kind", "contents", "name"] ["self", "kind", "contents"] (defScope s_Thing_init) := ⟨rfl, rfl, rfl, by decide +kernel, rfl, by decide +kernel, by decide +kernel⟩
theorem sc__law_number : FnScope ["_law_draws", "_law_digit"] ["_law_draws"] (defScope s__law_number) := ⟨rfl, rfl, rfl, by decide +kernel, rfl, by decide +kernel, by decide +kernel⟩
theorem sc__law_list : FnScope ["_law_draws", "_law_row", "_law_turn", "_law_digit"] ["_law_draws"] (defScope s__law_list) := ⟨rfl, rfl, rfl, by decide +kernel, rfl, by decide +kernel, by decide +kernel⟩
theorem sc__law_contents : FnScope ["_law_draws", "_law_kind", "_law_known"] ["_law_draws", "_law_kind"] (defScope s__law_contents) := ⟨rfl, rfl, rfl, by decide +kernel, rfl, by decide +kernel, by decide +kernel⟩
theorem sc__law_picture : FnScope ["_law_draws", "_law_picture_here", "_law_turn", "_law_number_here", "_law_kind"] ["_law_draws"] (defScope s__law_picture) := ⟨rfl, rfl, rfl, by decide +kernel, rfl, by decide +kernel, by decide +kernel⟩
theorem sc_Kind_init : FnScope ["self", "name", "fields", "key_rows", "names"] ["self", "name", "fields", "key_rows"] (defScope s_Kind_init) := ⟨rfl, rfl, rfl, by decide +kernel, rfl, by decide +kernel, by decide +kernel⟩
theorem sc_Field_init : FnScope ["self", "name", "shape", "needed"] ["self", "name", "shape", "needed"] (defScope s_Field_init) := ⟨rfl, rfl, rfl, by decide +kernel, rfl, by decide +kernel, by decide +kernel⟩
theorem sc_IntSort_init : FnScope ["self", "low", "high"] ["self", "low", "high"] (defScope s_IntSort_init) := ⟨rfl, rfl, rfl, by decide +kernel, rfl, by decide +kernel, by decide +kernel⟩
theorem sc_TextSort_init : FnScope ["self", "longest", "without"] ["self", "longest", "without"] (defScope s_TextSort_init) := ⟨rfl, rfl, rfl, by decide +kernel, rfl, by decide +kernel, by decide +kernel⟩
theorem sc_RefSort_init : FnScope ["self", "kinds", "rule"] ["self", "kinds", "rule"] (defScope s_RefSort_init) := ⟨rfl, rfl, rfl, by decide +kernel, rfl, by decide +kernel, by decide +kernel⟩
theorem sc_ListSort_init : FnScope ["self", "kinds"] ["self", "kinds"] (defScope s_ListSort_init) := ⟨rfl, rfl, rfl, by decide +kernel, rfl, by decide +kernel, by decide +kernel⟩
theorem sc_Schema_init : FnScope ["self", "kinds"] ["self", "kinds"] (defScope s_Schema_init) := ⟨rfl, rfl, rfl, by decide +kernel, rfl, by decide +kernel, by decide +kernel⟩
theorem sc__law_schema : FnScope ["_law_rules", "_law_needed", "_law_first", "_law_second"] ["_law_rules", "_law_needed"] (defScope s__law_schema) := ⟨rfl, rfl, rfl, by decide +kernel, rfl, by decide +kernel, by decide +kernel⟩
theorem sc_Reader_init : FnScope ["self", "base"] ["self", "base"] (defScope s_Reader_init) := ⟨rfl, rfl, rfl, by decide +kernel, rfl, by decide +kernel, by decide +kernel⟩
theorem sc_PictureSource_init : FnScope ["self", "picture"] ["self", "picture"] (defScope s_PictureSource_init) := ⟨rfl, rfl, rfl, by decide +kernel, rfl, by decide +kernel, by decide +kernel⟩
theorem sc_Reader_company : FnScope ["self", "number"] ["self", "number"] (defScope s_Reader_company) := ⟨rfl, rfl, rfl, by decide +kernel, rfl, by decide +kernel, by decide +kernel⟩
theorem sc_Request_init : FnScope ["self", "what", "numbers"] ["self", "what", "numbers"] (defScope s_Request_init) := ⟨rfl, rfl, rfl, by decide +kernel, rfl, by decide +kernel, by decide +kernel⟩
theorem sc_Reader__note : FnScope ["self", "what", "numbers"] ["self", "what", "numbers"] (defScope s_Reader__note) := ⟨rfl, rfl, rfl, by decide +kernel, rfl, by decide +kernel, by decide +kernel⟩
theorem sc_PictureSource_thing : FnScope ["self", "number"] ["self", "number"] (defScope s_PictureSource_thing) := ⟨rfl, rfl, rfl, by decide +kernel, rfl, by decide +kernel, by decide +kernel⟩
theorem sc_Reader_learn : FnScope ["self", "numbers", "number"] ["self", "numbers"] (defScope s_Reader_learn) := ⟨rfl, rfl, rfl, by decide +kernel, rfl, by decide +kernel, by decide +kernel⟩
theorem sc_Reader__batch : FnScope ["self", "number", "unknown", "others", "other"] ["self", "number", "unknown"] (defScope s_Reader__batch) := ⟨rfl, rfl, rfl, by decide +kernel, rfl, by decide +kernel, by decide +kernel⟩
theorem sc_Reader_thing : FnScope ["self", "number", "unknown", "other"] ["self", "number"] (defScope s_Reader_thing) := ⟨rfl, rfl, rfl, by decide +kernel, rfl, by decide +kernel, by decide +kernel⟩
theorem sc__law_company : FnScope ["_law_state", "_law_number_here"] ["_law_state", "_law_number_here"] (defScope s__law_company) := ⟨rfl, rfl, rfl, by decide +kernel, rfl, by decide +kernel, by decide +kernel⟩
theorem sc__law_batch : FnScope ["_law_number_here", "_law_unknown", "_law_rest", "_law_other"] ["_law_number_here", "_law_unknown"] (defScope s__law_batch) := ⟨rfl, rfl, rfl, by decide +kernel, rfl, by decide +kernel, by decide +kernel⟩
theorem sc__law_read : FnScope ["_law_state", "_law_number_here", "_law_things", "_law_unknown", "_law_other", "_law_row"] ["_law_state", "_law_number_here"] (defScope s__law_read) := ⟨rfl, rfl, rfl, by decide +kernel, rfl, by decide +kernel, by decide +kernel⟩
theorem sc_Reader_take_requests : FnScope ["self", "found"] ["self"] (defScope s_Reader_take_requests) := ⟨rfl, rfl, rfl, by decide +kernel, rfl, by decide +kernel, by decide +kernel⟩
theorem sc__law_numbers_row : FnScope ["_law_draws", "_law_turn"] ["_law_draws"] (defScope s__law_numbers_row) := ⟨rfl, rfl, rfl, by decide +kernel, rfl, by decide +kernel, by decide +kernel⟩
theorem sc__law_once : FnScope ["_law_row", "_law_found", "_law_number_here"] ["_law_row"] (defScope s__law_once) := ⟨rfl, rfl, rfl, by decide +kernel, rfl, by decide +kernel, by decide +kernel⟩
theorem sc__law_come : FnScope ["_law_state", "_law_row", "_law_numbers", "_law_together", "_law_number_here"] ["_law_state", "_law_row"] (defScope s__law_come) := ⟨rfl, rfl, rfl, by decide +kernel, rfl, by decide +kernel, by decide +kernel⟩
theorem sc__law_request : FnScope ["_law_state", "_law_row", "_law_things", "_law_unknown", "_law_number_here", "_law_found", "_law_at"] ["_law_state", "_law_row"] (defScope s__law_request) := ⟨rfl, rfl, rfl, by decide +kernel, rfl, by decide +kernel, by decide +kernel⟩
theorem sc__law_held : FnScope ["_law_picture_here", "_law_number_here", "_law_name", "_law_content"] ["_law_picture_here", "_law_number_here", "_law_name"] (defScope s__law_held) := ⟨rfl, rfl, rfl, by decide +kernel, rfl, by decide +kernel, by decide +kernel⟩
theorem sc__law_walked : FnScope ["_law_state", "_law_picture_here", "_law_numbers", "_law_paths", "_law_first", "_law_found", "_law_path", "_law_row", "_law_name", "_law_later", "_law_number_here"] ["_law_state", "_law_picture_here", "_law_numbers", "_law_paths"] (defScope s__law_walked) := ⟨rfl, rfl, rfl, by decide +kernel, rfl, by decide +kernel, by decide +kernel⟩
theorem sc_once_each : FnScope ["numbers", "found", "number"] ["numbers"] (defScope s_once_each) := ⟨rfl, rfl, rfl, by decide +kernel, rfl, by decide +kernel, by decide +kernel⟩
theorem sc_Reader_together : FnScope ["self", "numbers", "row", "number"] ["self", "numbers"] (defScope s_Reader_together) := ⟨rfl, rfl, rfl, by decide +kernel, rfl, by decide +kernel, by decide +kernel⟩
theorem sc_Reader_knows : FnScope ["self", "number"] ["self", "number"] (defScope s_Reader_knows) := ⟨rfl, rfl, rfl, by decide +kernel, rfl, by decide +kernel, by decide +kernel⟩
theorem sc_request_all : FnScope ["reader", "numbers", "unknown", "number", "at"] ["reader", "numbers"] (defScope s_request_all) := ⟨rfl, rfl, rfl, by decide +kernel, rfl, by decide +kernel, by decide +kernel⟩
theorem sc_Schema_kind_of : FnScope ["self", "name", "kind"] ["self", "name"] (defScope s_Schema_kind_of) := ⟨rfl, rfl, rfl, by decide +kernel, rfl, by decide +kernel, by decide +kernel⟩
theorem sc_Kind_field_of : FnScope ["self", "name", "field"] ["self", "name"] (defScope s_Kind_field_of) := ⟨rfl, rfl, rfl, by decide +kernel, rfl, by decide +kernel, by decide +kernel⟩
theorem sc_Schema_field_of : FnScope ["self", "kind", "name", "found"] ["self", "kind", "name"] (defScope s_Schema_field_of) := ⟨rfl, rfl, rfl, by decide +kernel, rfl, by decide +kernel, by decide +kernel⟩
theorem sc_is_list : FnScope ["sort"] ["sort"] (defScope s_is_list) := ⟨rfl, rfl, rfl, by decide +kernel, rfl, by decide +kernel, by decide +kernel⟩
theorem sc_is_reference : FnScope ["sort"] ["sort"] (defScope s_is_reference) := ⟨rfl, rfl, rfl, by decide +kernel, rfl, by decide +kernel, by decide +kernel⟩
theorem sc_linked_numbers : FnScope ["schema", "thing", "name", "field", "content"] ["schema", "thing", "name"] (defScope s_linked_numbers) := ⟨rfl, rfl, rfl, by decide +kernel, rfl, by decide +kernel, by decide +kernel⟩
theorem sc_walk_on : FnScope ["reader", "schema", "numbers", "name", "found", "number", "thing"] ["reader", "schema", "numbers", "name"] (defScope s_walk_on) := ⟨rfl, rfl, rfl, by decide +kernel, rfl, by decide +kernel, by decide +kernel⟩
theorem sc_read_ahead : FnScope ["reader", "schema", "numbers", "paths", "first", "path", "row", "name"] ["reader", "schema", "numbers", "paths"] (defScope s_read_ahead) := ⟨rfl, rfl, rfl, by decide +kernel, rfl, by decide +kernel, by decide +kernel⟩
theorem sc__law_told_requests : FnScope ["_law_reader", "_law_request_here"] ["_law_reader"] (defScope s__law_told_requests) := ⟨rfl, rfl, rfl, by decide +kernel, rfl, by decide +kernel, by decide +kernel⟩
theorem sc_law : FnScope ["_law_script", "_law_draws", "_law_picture_here", "_law_schema_here", "_law_reader", "_law_state", "_law_turn", "_law_number_here", "_law_numbers", "_law_names", "_law_paths", "_law_step", "_law_given", "_law_due"] ["_law_script"] (defScope s_law) := ⟨rfl, rfl, rfl, by decide +kernel, rfl, by decide +kernel, by decide +kernel⟩
/-! ### what the top left -/
structure Tx (K : PySem.W.Frag) (mg : Str → Option Value) : Prop where
  d__law_cells : ∃ fd, FunD K "_law_cells" "_law_cells" (defArgs s__law_cells) (defBody s__law_cells) (defScope s__law_cells) [] [] (He.fAd K ("_law_cells", none)) fd
  d__law_draw : ∃ fd, FunD K "_law_draw" "_law_draw" (defArgs s__law_draw) (defBody s__law_draw) (defScope s__law_draw) [] [] (He.fAd K ("_law_draw", none)) fd
  d__law_pick : ∃ fd, FunD K "_law_pick" "_law_pick" (defArgs s__law_pick) (defBody s__law_pick) (defScope s__law_pick) [] [] (He.fAd K ("_law_pick", none)) fd
  d_content_copy : ∃ fd, FunD K "content_copy" "content_copy" (defArgs s_content_copy) (defBody s_content_copy) (defScope s_content_copy) [] [] (He.fAd K ("content_copy", none)) fd
  d_Thing_init : ∃ fd, FunD K "__init__" "Thing.__init__" (defArgs s_Thing_init) (defBody s_Thing_init) (defScope s_Thing_init) [] [] (He.fAd K ("Thing", some "__init__")) fd
  d__law_number : ∃ fd, FunD K "_law_number" "_law_number" (defArgs s__law_number) (defBody s__law_number) (defScope s__law_number) [] [] (He.fAd K ("_law_number", none)) fd
  d__law_list : ∃ fd, FunD K "_law_list" "_law_list" (defArgs s__law_list) (defBody s__law_list) (defScope s__law_list) [] [] (He.fAd K ("_law_list", none)) fd
  d__law_contents : ∃ fd, FunD K "_law_contents" "_law_contents" (defArgs s__law_contents) (defBody s__law_contents) (defScope s__law_contents) [] [] (He.fAd K ("_law_contents", none)) fd
  d__law_picture : ∃ fd, FunD K "_law_picture" "_law_picture" (defArgs s__law_picture) (defBody s__law_picture) (defScope s__law_picture) [] [] (He.fAd K ("_law_picture", none)) fd
  d_Kind_init : ∃ fd, FunD K "__init__" "Kind.__init__" (defArgs s_Kind_init) (defBody s_Kind_init) (defScope s_Kind_init) [] [] (He.fAd K ("Kind", some "__init__")) fd
  d_Field_init : ∃ fd, FunD K "__init__" "Field.__init__" (defArgs s_Field_init) (defBody s_Field_init) (defScope s_Field_init) [(.bl false)] [] (He.fAd K ("Field", some "__init__")) fd
  d_IntSort_init : ∃ fd, FunD K "__init__" "IntSort.__init__" (defArgs s_IntSort_init) (defBody s_IntSort_init) (defScope s_IntSort_init) [] [] (He.fAd K ("IntSort", some "__init__")) fd
  d_TextSort_init : ∃ fd, FunD K "__init__" "TextSort.__init__" (defArgs s_TextSort_init) (defBody s_TextSort_init) (defScope s_TextSort_init) [.non] [] (He.fAd K ("TextSort", some "__init__")) fd
  d_RefSort_init : ∃ fd, FunD K "__init__" "RefSort.__init__" (defArgs s_RefSort_init) (defBody s_RefSort_init) (defScope s_RefSort_init) [] [] (He.fAd K ("RefSort", some "__init__")) fd
  d_ListSort_init : ∃ fd, FunD K "__init__" "ListSort.__init__" (defArgs s_ListSort_init) (defBody s_ListSort_init) (defScope s_ListSort_init) [] [] (He.fAd K ("ListSort", some "__init__")) fd
  d_Schema_init : ∃ fd, FunD K "__init__" "Schema.__init__" (defArgs s_Schema_init) (defBody s_Schema_init) (defScope s_Schema_init) [] [] (He.fAd K ("Schema", some "__init__")) fd
  d__law_schema : ∃ fd, FunD K "_law_schema" "_law_schema" (defArgs s__law_schema) (defBody s__law_schema) (defScope s__law_schema) [] [] (He.fAd K ("_law_schema", none)) fd
  d_Reader_init : ∃ fd, FunD K "__init__" "Reader.__init__" (defArgs s_Reader_init) (defBody s_Reader_init) (defScope s_Reader_init) [] [] (He.fAd K ("Reader", some "__init__")) fd
  d_PictureSource_init : ∃ fd, FunD K "__init__" "PictureSource.__init__" (defArgs s_PictureSource_init) (defBody s_PictureSource_init) (defScope s_PictureSource_init) [] [] (He.fAd K ("PictureSource", some "__init__")) fd
  d_Reader_company : ∃ fd, FunD K "company" "Reader.company" (defArgs s_Reader_company) (defBody s_Reader_company) (defScope s_Reader_company) [] [] (He.fAd K ("Reader", some "company")) fd
  d_Request_init : ∃ fd, FunD K "__init__" "Request.__init__" (defArgs s_Request_init) (defBody s_Request_init) (defScope s_Request_init) [] [] (He.fAd K ("Request", some "__init__")) fd
  d_Reader__note : ∃ fd, FunD K "_note" "Reader._note" (defArgs s_Reader__note) (defBody s_Reader__note) (defScope s_Reader__note) [] [] (He.fAd K ("Reader", some "_note")) fd
  d_PictureSource_thing : ∃ fd, FunD K "thing" "PictureSource.thing" (defArgs s_PictureSource_thing) (defBody s_PictureSource_thing) (defScope s_PictureSource_thing) [] [] (He.fAd K ("PictureSource", some "thing")) fd
  d_Reader_learn : ∃ fd, FunD K "learn" "Reader.learn" (defArgs s_Reader_learn) (defBody s_Reader_learn) (defScope s_Reader_learn) [] [] (He.fAd K ("Reader", some "learn")) fd
  d_Reader__batch : ∃ fd, FunD K "_batch" "Reader._batch" (defArgs s_Reader__batch) (defBody s_Reader__batch) (defScope s_Reader__batch) [] [] (He.fAd K ("Reader", some "_batch")) fd
  d_Reader_thing : ∃ fd, FunD K "thing" "Reader.thing" (defArgs s_Reader_thing) (defBody s_Reader_thing) (defScope s_Reader_thing) [] [] (He.fAd K ("Reader", some "thing")) fd
  d__law_company : ∃ fd, FunD K "_law_company" "_law_company" (defArgs s__law_company) (defBody s__law_company) (defScope s__law_company) [] [] (He.fAd K ("_law_company", none)) fd
  d__law_batch : ∃ fd, FunD K "_law_batch" "_law_batch" (defArgs s__law_batch) (defBody s__law_batch) (defScope s__law_batch) [] [] (He.fAd K ("_law_batch", none)) fd
  d__law_read : ∃ fd, FunD K "_law_read" "_law_read" (defArgs s__law_read) (defBody s__law_read) (defScope s__law_read) [] [] (He.fAd K ("_law_read", none)) fd
  d_Reader_take_requests : ∃ fd, FunD K "take_requests" "Reader.take_requests" (defArgs s_Reader_take_requests) (defBody s_Reader_take_requests) (defScope s_Reader_take_requests) [] [] (He.fAd K ("Reader", some "take_requests")) fd
  d__law_numbers_row : ∃ fd, FunD K "_law_numbers_row" "_law_numbers_row" (defArgs s__law_numbers_row) (defBody s__law_numbers_row) (defScope s__law_numbers_row) [] [] (He.fAd K ("_law_numbers_row", none)) fd
  d__law_once : ∃ fd, FunD K "_law_once" "_law_once" (defArgs s__law_once) (defBody s__law_once) (defScope s__law_once) [] [] (He.fAd K ("_law_once", none)) fd
  d__law_come : ∃ fd, FunD K "_law_come" "_law_come" (defArgs s__law_come) (defBody s__law_come) (defScope s__law_come) [] [] (He.fAd K ("_law_come", none)) fd
  d__law_request : ∃ fd, FunD K "_law_request" "_law_request" (defArgs s__law_request) (defBody s__law_request) (defScope s__law_request) [] [] (He.fAd K ("_law_request", none)) fd
  d__law_held : ∃ fd, FunD K "_law_held" "_law_held" (defArgs s__law_held) (defBody s__law_held) (defScope s__law_held) [] [] (He.fAd K ("_law_held", none)) fd
  d__law_walked : ∃ fd, FunD K "_law_walked" "_law_walked" (defArgs s__law_walked) (defBody s__law_walked) (defScope s__law_walked) [] [] (He.fAd K ("_law_walked", none)) fd
  d_once_each : ∃ fd, FunD K "once_each" "once_each" (defArgs s_once_each) (defBody s_once_each) (defScope s_once_each) [] [] (He.fAd K ("once_each", none)) fd
  d_Reader_together : ∃ fd, FunD K "together" "Reader.together" (defArgs s_Reader_together) (defBody s_Reader_together) (defScope s_Reader_together) [] [] (He.fAd K ("Reader", some "together")) fd
  d_Reader_knows : ∃ fd, FunD K "knows" "Reader.knows" (defArgs s_Reader_knows) (defBody s_Reader_knows) (defScope s_Reader_knows) [] [] (He.fAd K ("Reader", some "knows")) fd
  d_request_all : ∃ fd, FunD K "request_all" "request_all" (defArgs s_request_all) (defBody s_request_all) (defScope s_request_all) [] [] (He.fAd K ("request_all", none)) fd
  d_Schema_kind_of : ∃ fd, FunD K "kind_of" "Schema.kind_of" (defArgs s_Schema_kind_of) (defBody s_Schema_kind_of) (defScope s_Schema_kind_of) [] [] (He.fAd K ("Schema", some "kind_of")) fd
  d_Kind_field_of : ∃ fd, FunD K "field_of" "Kind.field_of" (defArgs s_Kind_field_of) (defBody s_Kind_field_of) (defScope s_Kind_field_of) [] [] (He.fAd K ("Kind", some "field_of")) fd
  d_Schema_field_of : ∃ fd, FunD K "field_of" "Schema.field_of" (defArgs s_Schema_field_of) (defBody s_Schema_field_of) (defScope s_Schema_field_of) [] [] (He.fAd K ("Schema", some "field_of")) fd
  d_is_list : ∃ fd, FunD K "is_list" "is_list" (defArgs s_is_list) (defBody s_is_list) (defScope s_is_list) [] [] (He.fAd K ("is_list", none)) fd
  d_is_reference : ∃ fd, FunD K "is_reference" "is_reference" (defArgs s_is_reference) (defBody s_is_reference) (defScope s_is_reference) [] [] (He.fAd K ("is_reference", none)) fd
  d_linked_numbers : ∃ fd, FunD K "linked_numbers" "linked_numbers" (defArgs s_linked_numbers) (defBody s_linked_numbers) (defScope s_linked_numbers) [] [] (He.fAd K ("linked_numbers", none)) fd
  d_walk_on : ∃ fd, FunD K "walk_on" "walk_on" (defArgs s_walk_on) (defBody s_walk_on) (defScope s_walk_on) [] [] (He.fAd K ("walk_on", none)) fd
  d_read_ahead : ∃ fd, FunD K "read_ahead" "read_ahead" (defArgs s_read_ahead) (defBody s_read_ahead) (defScope s_read_ahead) [] [] (He.fAd K ("read_ahead", none)) fd
  d__law_told_requests : ∃ fd, FunD K "_law_told_requests" "_law_told_requests" (defArgs s__law_told_requests) (defBody s__law_told_requests) (defScope s__law_told_requests) [] [] (He.fAd K ("_law_told_requests", none)) fd
  d_law : ∃ fd, FunD K "law" "law" (defArgs s_law) (defBody s_law) (defScope s_law) [] [] (He.fAd K ("law", none)) fd
  g__law_cells : mg "_law_cells" = some (.ref (He.ga K "_law_cells"))
  g__law_draw : mg "_law_draw" = some (.ref (He.ga K "_law_draw"))
  g__law_pick : mg "_law_pick" = some (.ref (He.ga K "_law_pick"))
  g_content_copy : mg "content_copy" = some (.ref (He.ga K "content_copy"))
  g__law_number : mg "_law_number" = some (.ref (He.ga K "_law_number"))
  g__law_list : mg "_law_list" = some (.ref (He.ga K "_law_list"))
  g__law_contents : mg "_law_contents" = some (.ref (He.ga K "_law_contents"))
  g__law_picture : mg "_law_picture" = some (.ref (He.ga K "_law_picture"))
  g__law_schema : mg "_law_schema" = some (.ref (He.ga K "_law_schema"))
  g__law_company : mg "_law_company" = some (.ref (He.ga K "_law_company"))
  g__law_batch : mg "_law_batch" = some (.ref (He.ga K "_law_batch"))
  g__law_read : mg "_law_read" = some (.ref (He.ga K "_law_read"))
  g__law_numbers_row : mg "_law_numbers_row" = some (.ref (He.ga K "_law_numbers_row"))
  g__law_once : mg "_law_once" = some (.ref (He.ga K "_law_once"))
  g__law_come : mg "_law_come" = some (.ref (He.ga K "_law_come"))
  g__law_request : mg "_law_request" = some (.ref (He.ga K "_law_request"))
  g__law_held : mg "_law_held" = some (.ref (He.ga K "_law_held"))
  g__law_walked : mg "_law_walked" = some (.ref (He.ga K "_law_walked"))
  g_once_each : mg "once_each" = some (.ref (He.ga K "once_each"))
  g_request_all : mg "request_all" = some (.ref (He.ga K "request_all"))
  g_is_list : mg "is_list" = some (.ref (He.ga K "is_list"))
  g_is_reference : mg "is_reference" = some (.ref (He.ga K "is_reference"))
  g_linked_numbers : mg "linked_numbers" = some (.ref (He.ga K "linked_numbers"))
  g_walk_on : mg "walk_on" = some (.ref (He.ga K "walk_on"))
  g_read_ahead : mg "read_ahead" = some (.ref (He.ga K "read_ahead"))
  g__law_told_requests : mg "_law_told_requests" = some (.ref (He.ga K "_law_told_requests"))
  g_law : mg "law" = some (.ref (He.ga K "law"))
  b_int : mg "int" = none
  b_isinstance : mg "isinstance" = none
  b_len : mg "len" = none
  b_list : mg "list" = none
  b_range : mg "range" = none
  b_repr : mg "repr" = none
  b_sorted : mg "sorted" = none
  k_MOST_ASKED : ∃ u, mg "MOST_ASKED" = some u ∧ RelV k_MOST_ASKED u
  gc_IntSort : mg "IntSort" = some (.ref (He.ga K "IntSort"))
  cl_IntSort : Cls K (He.ga K "IntSort")
  mk_IntSort : Mk K (He.ga K "IntSort") (He.fAd K ("IntSort", some "__init__"))
  no_IntSort_high : NoAttr K (He.ga K "IntSort") "high"
  no_IntSort_low : NoAttr K (He.ga K "IntSort") "low"
  gc_TextSort : mg "TextSort" = some (.ref (He.ga K "TextSort"))
  cl_TextSort : Cls K (He.ga K "TextSort")
  mk_TextSort : Mk K (He.ga K "TextSort") (He.fAd K ("TextSort", some "__init__"))
  no_TextSort_longest : NoAttr K (He.ga K "TextSort") "longest"
  no_TextSort_without : NoAttr K (He.ga K "TextSort") "without"
  gc_RefSort : mg "RefSort" = some (.ref (He.ga K "RefSort"))
  cl_RefSort : Cls K (He.ga K "RefSort")
  mk_RefSort : Mk K (He.ga K "RefSort") (He.fAd K ("RefSort", some "__init__"))
  no_RefSort_kinds : NoAttr K (He.ga K "RefSort") "kinds"
  no_RefSort_rule : NoAttr K (He.ga K "RefSort") "rule"
  gc_ListSort : mg "ListSort" = some (.ref (He.ga K "ListSort"))
  cl_ListSort : Cls K (He.ga K "ListSort")
  mk_ListSort : Mk K (He.ga K "ListSort") (He.fAd K ("ListSort", some "__init__"))
  no_ListSort_kinds : NoAttr K (He.ga K "ListSort") "kinds"
  gc_Thing : mg "Thing" = some (.ref (He.ga K "Thing"))
  cl_Thing : Cls K (He.ga K "Thing")
  mk_Thing : Mk K (He.ga K "Thing") (He.fAd K ("Thing", some "__init__"))
  no_Thing_contents : NoAttr K (He.ga K "Thing") "contents"
  no_Thing_kind : NoAttr K (He.ga K "Thing") "kind"
  gc_Request : mg "Request" = some (.ref (He.ga K "Request"))
  cl_Request : Cls K (He.ga K "Request")
  mk_Request : Mk K (He.ga K "Request") (He.fAd K ("Request", some "__init__"))
  no_Request_numbers : NoAttr K (He.ga K "Request") "numbers"
  no_Request_what : NoAttr K (He.ga K "Request") "what"
  gc_Reader : mg "Reader" = some (.ref (He.ga K "Reader"))
  cl_Reader : Cls K (He.ga K "Reader")
  me_Reader__batch : Meth K (He.ga K "Reader") "_batch" (He.fAd K ("Reader", some "_batch"))
  me_Reader__note : Meth K (He.ga K "Reader") "_note" (He.fAd K ("Reader", some "_note"))
  me_Reader_company : Meth K (He.ga K "Reader") "company" (He.fAd K ("Reader", some "company"))
  me_Reader_knows : Meth K (He.ga K "Reader") "knows" (He.fAd K ("Reader", some "knows"))
  me_Reader_learn : Meth K (He.ga K "Reader") "learn" (He.fAd K ("Reader", some "learn"))
  me_Reader_take_requests : Meth K (He.ga K "Reader") "take_requests" (He.fAd K ("Reader", some "take_requests"))
  me_Reader_thing : Meth K (He.ga K "Reader") "thing" (He.fAd K ("Reader", some "thing"))
  me_Reader_together : Meth K (He.ga K "Reader") "together" (He.fAd K ("Reader", some "together"))
  mk_Reader : Mk K (He.ga K "Reader") (He.fAd K ("Reader", some "__init__"))
  no_Reader__companies : NoAttr K (He.ga K "Reader") "_companies"
  no_Reader__referrers : NoAttr K (He.ga K "Reader") "_referrers"
  no_Reader__requests : NoAttr K (He.ga K "Reader") "_requests"
  no_Reader__things : NoAttr K (He.ga K "Reader") "_things"
  no_Reader_base : NoAttr K (He.ga K "Reader") "base"
  gc_PictureSource : mg "PictureSource" = some (.ref (He.ga K "PictureSource"))
  cl_PictureSource : Cls K (He.ga K "PictureSource")
  me_PictureSource_thing : Meth K (He.ga K "PictureSource") "thing" (He.fAd K ("PictureSource", some "thing"))
  mk_PictureSource : Mk K (He.ga K "PictureSource") (He.fAd K ("PictureSource", some "__init__"))
  no_PictureSource_shown : NoAttr K (He.ga K "PictureSource") "shown"
  gc_Field : mg "Field" = some (.ref (He.ga K "Field"))
  cl_Field : Cls K (He.ga K "Field")
  mk_Field : Mk K (He.ga K "Field") (He.fAd K ("Field", some "__init__"))
  no_Field_name : NoAttr K (He.ga K "Field") "name"
  no_Field_needed : NoAttr K (He.ga K "Field") "needed"
  no_Field_shape : NoAttr K (He.ga K "Field") "shape"
  gc_Kind : mg "Kind" = some (.ref (He.ga K "Kind"))
  cl_Kind : Cls K (He.ga K "Kind")
  me_Kind_field_of : Meth K (He.ga K "Kind") "field_of" (He.fAd K ("Kind", some "field_of"))
  mk_Kind : Mk K (He.ga K "Kind") (He.fAd K ("Kind", some "__init__"))
  no_Kind_fields : NoAttr K (He.ga K "Kind") "fields"
  no_Kind_key_rows : NoAttr K (He.ga K "Kind") "key_rows"
  no_Kind_name : NoAttr K (He.ga K "Kind") "name"
  gc_Schema : mg "Schema" = some (.ref (He.ga K "Schema"))
  cl_Schema : Cls K (He.ga K "Schema")
  me_Schema_field_of : Meth K (He.ga K "Schema") "field_of" (He.fAd K ("Schema", some "field_of"))
  me_Schema_kind_of : Meth K (He.ga K "Schema") "kind_of" (He.fAd K ("Schema", some "kind_of"))
  mk_Schema : Mk K (He.ga K "Schema") (He.fAd K ("Schema", some "__init__"))
  no_Schema_kinds : NoAttr K (He.ga K "Schema") "kinds"
  if_IntSort : InsF K (He.ga K "IntSort")
  it_IntSort_list : PySem.W.kitOne K (.ref (He.ga K "IntSort")) (.type "list") = some false
  is_IntSort_ListSort : PySem.W.kitOne K (.ref (He.ga K "IntSort")) (.ref (He.ga K "ListSort")) = some false
  is_IntSort_RefSort : PySem.W.kitOne K (.ref (He.ga K "IntSort")) (.ref (He.ga K "RefSort")) = some false
  if_TextSort : InsF K (He.ga K "TextSort")
  it_TextSort_list : PySem.W.kitOne K (.ref (He.ga K "TextSort")) (.type "list") = some false
  is_TextSort_ListSort : PySem.W.kitOne K (.ref (He.ga K "TextSort")) (.ref (He.ga K "ListSort")) = some false
  is_TextSort_RefSort : PySem.W.kitOne K (.ref (He.ga K "TextSort")) (.ref (He.ga K "RefSort")) = some false
  if_RefSort : InsF K (He.ga K "RefSort")
  it_RefSort_list : PySem.W.kitOne K (.ref (He.ga K "RefSort")) (.type "list") = some false
  is_RefSort_ListSort : PySem.W.kitOne K (.ref (He.ga K "RefSort")) (.ref (He.ga K "ListSort")) = some false
  is_RefSort_RefSort : PySem.W.kitOne K (.ref (He.ga K "RefSort")) (.ref (He.ga K "RefSort")) = some true
  if_ListSort : InsF K (He.ga K "ListSort")
  it_ListSort_list : PySem.W.kitOne K (.ref (He.ga K "ListSort")) (.type "list") = some false
  is_ListSort_ListSort : PySem.W.kitOne K (.ref (He.ga K "ListSort")) (.ref (He.ga K "ListSort")) = some true
  is_ListSort_RefSort : PySem.W.kitOne K (.ref (He.ga K "ListSort")) (.ref (He.ga K "RefSort")) = some false
  if_Thing : InsF K (He.ga K "Thing")
  it_Thing_list : PySem.W.kitOne K (.ref (He.ga K "Thing")) (.type "list") = some false
  is_Thing_ListSort : PySem.W.kitOne K (.ref (He.ga K "Thing")) (.ref (He.ga K "ListSort")) = some false
  is_Thing_RefSort : PySem.W.kitOne K (.ref (He.ga K "Thing")) (.ref (He.ga K "RefSort")) = some false
  if_Request : InsF K (He.ga K "Request")
  it_Request_list : PySem.W.kitOne K (.ref (He.ga K "Request")) (.type "list") = some false
  is_Request_ListSort : PySem.W.kitOne K (.ref (He.ga K "Request")) (.ref (He.ga K "ListSort")) = some false
  is_Request_RefSort : PySem.W.kitOne K (.ref (He.ga K "Request")) (.ref (He.ga K "RefSort")) = some false
  if_Reader : InsF K (He.ga K "Reader")
  it_Reader_list : PySem.W.kitOne K (.ref (He.ga K "Reader")) (.type "list") = some false
  is_Reader_ListSort : PySem.W.kitOne K (.ref (He.ga K "Reader")) (.ref (He.ga K "ListSort")) = some false
  is_Reader_RefSort : PySem.W.kitOne K (.ref (He.ga K "Reader")) (.ref (He.ga K "RefSort")) = some false
  if_PictureSource : InsF K (He.ga K "PictureSource")
  it_PictureSource_list : PySem.W.kitOne K (.ref (He.ga K "PictureSource")) (.type "list") = some false
  is_PictureSource_ListSort : PySem.W.kitOne K (.ref (He.ga K "PictureSource")) (.ref (He.ga K "ListSort")) = some false
  is_PictureSource_RefSort : PySem.W.kitOne K (.ref (He.ga K "PictureSource")) (.ref (He.ga K "RefSort")) = some false
  if_Field : InsF K (He.ga K "Field")
  it_Field_list : PySem.W.kitOne K (.ref (He.ga K "Field")) (.type "list") = some false
  is_Field_ListSort : PySem.W.kitOne K (.ref (He.ga K "Field")) (.ref (He.ga K "ListSort")) = some false
  is_Field_RefSort : PySem.W.kitOne K (.ref (He.ga K "Field")) (.ref (He.ga K "RefSort")) = some false
  if_Kind : InsF K (He.ga K "Kind")
  it_Kind_list : PySem.W.kitOne K (.ref (He.ga K "Kind")) (.type "list") = some false
  is_Kind_ListSort : PySem.W.kitOne K (.ref (He.ga K "Kind")) (.ref (He.ga K "ListSort")) = some false
  is_Kind_RefSort : PySem.W.kitOne K (.ref (He.ga K "Kind")) (.ref (He.ga K "RefSort")) = some false
  if_Schema : InsF K (He.ga K "Schema")
  it_Schema_list : PySem.W.kitOne K (.ref (He.ga K "Schema")) (.type "list") = some false
  is_Schema_ListSort : PySem.W.kitOne K (.ref (He.ga K "Schema")) (.ref (He.ga K "ListSort")) = some false
  is_Schema_RefSort : PySem.W.kitOne K (.ref (He.ga K "Schema")) (.ref (He.ga K "RefSort")) = some false
  ti_NoneType_ListSort : PySem.W.kitOne K (.type "NoneType") (.ref (He.ga K "ListSort")) = some false
  ti_bool_ListSort : PySem.W.kitOne K (.type "bool") (.ref (He.ga K "ListSort")) = some false
  ti_int_ListSort : PySem.W.kitOne K (.type "int") (.ref (He.ga K "ListSort")) = some false
  ti_str_ListSort : PySem.W.kitOne K (.type "str") (.ref (He.ga K "ListSort")) = some false
  ti_list_ListSort : PySem.W.kitOne K (.type "list") (.ref (He.ga K "ListSort")) = some false
  ti_tuple_ListSort : PySem.W.kitOne K (.type "tuple") (.ref (He.ga K "ListSort")) = some false
  ti_dict_ListSort : PySem.W.kitOne K (.type "dict") (.ref (He.ga K "ListSort")) = some false
  ti_NoneType_RefSort : PySem.W.kitOne K (.type "NoneType") (.ref (He.ga K "RefSort")) = some false
  ti_bool_RefSort : PySem.W.kitOne K (.type "bool") (.ref (He.ga K "RefSort")) = some false
  ti_int_RefSort : PySem.W.kitOne K (.type "int") (.ref (He.ga K "RefSort")) = some false
  ti_str_RefSort : PySem.W.kitOne K (.type "str") (.ref (He.ga K "RefSort")) = some false
  ti_list_RefSort : PySem.W.kitOne K (.type "list") (.ref (He.ga K "RefSort")) = some false
  ti_tuple_RefSort : PySem.W.kitOne K (.type "tuple") (.ref (He.ga K "RefSort")) = some false
  ti_dict_RefSort : PySem.W.kitOne K (.type "dict") (.ref (He.ga K "RefSort")) = some false
/-! ### each def keeps its reading -/
section
variable {P : Program} {w : World} {K : PySem.W.Frag} {mg : Str → Option Value} {base : Heap}
theorem fn__law_cells (T : Tx K mg) {fd : FuncData} (F : FunD K "_law_cells" "_law_cells" (defArgs s__law_cells) (defBody s__law_cells) (defScope s__law_cells) [] [] (He.fAd K ("_law_cells", none)) fd) : FnOk P w K mg base (L2.CX P w) 1 (He.fAd K ("_law_cells", none)) fd ["_law_script", "_law_count"] (sp__law_cells K) := by
  refine F.ok sc__law_cells (fun vs H Q E h => h.1) (fun cdv A outer s H vs Q E hr h => ⟨_, ?_, h.2⟩)
  refine PSs.nox ?_
  exact (pss_cons (ps_set (i := 2) sc__law_cells.nd rfl (by first | exact Or.inl rfl | exact Or.inr rfl) (pe_lst pa_nil))
        (pss_cons (ps_for PassesOwn.never rfl (pi_range1 rfl T.b_range (pa_cons (pv 1) pa_nil)) (pg_name (i := 3) sc__law_cells.nd rfl (by first | exact Or.inl rfl | exact Or.inr rfl))
        (pss_cons (ps_set (i := 4) sc__law_cells.nd rfl (by first | exact Or.inl rfl | exact Or.inr rfl) (pe_op op_addX (pe_op op_mulX pe_int (pv 3)) pe_int))
        (C8.pss_cut (ps_if (pt_cmpR (op_ltX hr.units) (pv 3) (pe_callB call_len (by rfl) T.b_len boot_len (pa_cons (pv 0) pa_nil)) (nomark _))
        (pss_cons (ps_set (i := 4) sc__law_cells.nd rfl (by first | exact Or.inl rfl | exact Or.inr rfl) (pe_callTy (CallR.or call_int1 call_int_str) (by rfl) T.b_int (by decide +kernel) (pa_cons (pe_ix ix_seq (pv 0) (pv 3) fun _ _ => rfl) pa_nil)))
        (pss_one (ps_if (pt_cmpR (op_ltX hr.units) (pv 4) pe_int (nomark _))
        (pss_one (ps_set (i := 4) sc__law_cells.nd rfl (by first | exact Or.inl rfl | exact Or.inr rfl) (pe_op op_subX pe_int (pe_op op_mulX pe_int (pv 4)))))
        pss_nil)))
        pss_nil)
        (C8.pss_cut (ps_if (pt_cmpR (op_ltX hr.units) (pv 4) pe_int (nomark _))
        (pss_cons (ps_set (i := 4) sc__law_cells.nd rfl (by first | exact Or.inl rfl | exact Or.inr rfl) (pe_op op_modX (pe_callTy (CallR.or call_int1 call_int_str) (by rfl) T.b_int (by decide +kernel) (pa_cons (pe_op op_addX (pe_op op_addX (pe_op op_mulX (pe_callTy (CallR.or call_int1 call_int_str) (by rfl) T.b_int (by decide +kernel) (pa_cons (pv 4) pa_nil)) pe_int) (pe_op op_mulX pe_int (pv 3))) pe_int) pa_nil)) pe_int))
        (pss_one (ps_set (i := 4) sc__law_cells.nd rfl (by first | exact Or.inl rfl | exact Or.inr rfl) (pe_op op_modX (pe_callTy (CallR.or call_int1 call_int_str) (by rfl) T.b_int (by decide +kernel) (pa_cons (pe_op op_addX (pe_op op_mulX (pe_callTy (CallR.or call_int1 call_int_str) (by rfl) T.b_int (by decide +kernel) (pa_cons (pv 4) pa_nil)) pe_int) pe_int) pa_nil)) pe_int))))
        pss_nil)
        (pss_one (ps_expr (pe_bm PySem.F.plainAttrs_list PySem.F.slot_list_append PySem.F.type_list_append mt_append (pv 2) (pa_cons (pv 4) pa_nil))))))))
        (pss_one (ps_ret (pv 2)))))
theorem Tx.ok__law_cells (T : Tx K mg) : Cl P w K mg base 1 "_law_cells" (sp__law_cells K) [] := by
  obtain ⟨fd, F⟩ := T.d__law_cells
  have ok := fn__law_cells (P := P) (w := w) (base := base) T F
  exact ⟨_, fd, _, [], ok, T.g__law_cells, F.kp, (FunD.bindsN F fun _ _ _ _ _ _ us hl => match us, hl with | [_, _], _ => rfl), .nil⟩
theorem fn__law_draw (T : Tx K mg) {fd : FuncData} (F : FunD K "_law_draw" "_law_draw" (defArgs s__law_draw) (defBody s__law_draw) (defScope s__law_draw) [] [] (He.fAd K ("_law_draw", none)) fd) : FnOk P w K mg base (L2.CX P w) 1 (He.fAd K ("_law_draw", none)) fd ["_law_draws", "_law_bound"] (sp__law_draw K) := by
  refine F.ok sc__law_draw (fun vs H Q E h => h.1) (fun cdv A outer s H vs Q E hr h => ⟨_, ?_, h.2⟩)
  refine PSs.nox ?_
  exact (C8.pss_cut (ps_if (PW.pt (pw_and (pt_cmpR (op_eqX hr.units) (pe_ix ix_seq (pv 0) pe_int fun _ _ => rfl) pe_int (nomark _)) (pw_and1 (pt_cmpR op_gtX (pe_callB call_len (by rfl) T.b_len boot_len (pa_cons (pv 0) pa_nil)) pe_int (nomark _)))))
        (pss_one (ps_expr (pe_bm PySem.F.plainAttrs_list PySem.F.slot_list_pop PySem.F.type_list_pop (MtR.or mt_pop mt_popAt) (pv 0) (pa_cons pe_int pa_nil))))
        pss_nil)
        (pss_cons (ps_set (i := 2) sc__law_draw.nd rfl (by first | exact Or.inl rfl | exact Or.inr rfl) (pe_op op_modX (pe_callTy (CallR.or call_int1 call_int_str) (by rfl) T.b_int (by decide +kernel) (pa_cons (pe_ix ix_seq (pv 0) pe_int fun _ _ => rfl) pa_nil)) (pv 1)))
        (pss_cons (ps_asg (pe_op op_divX (pe_ix ix_seq (pv 0) pe_int fun _ _ => rfl) (pv 1)) (pg_sub (pv 0) pe_int set_list))
        (pss_one (ps_ret (pv 2))))))
theorem Tx.ok__law_draw (T : Tx K mg) : Cl P w K mg base 1 "_law_draw" (sp__law_draw K) [] := by
  obtain ⟨fd, F⟩ := T.d__law_draw
  have ok := fn__law_draw (P := P) (w := w) (base := base) T F
  exact ⟨_, fd, _, [], ok, T.g__law_draw, F.kp, (FunD.bindsN F fun _ _ _ _ _ _ us hl => match us, hl with | [_, _], _ => rfl), .nil⟩
theorem fn__law_pick (T : Tx K mg) {fd : FuncData} (F : FunD K "_law_pick" "_law_pick" (defArgs s__law_pick) (defBody s__law_pick) (defScope s__law_pick) [] [] (He.fAd K ("_law_pick", none)) fd) : FnOk P w K mg base (L2.CX P w) 2 (He.fAd K ("_law_pick", none)) fd ["_law_draws", "_law_row"] (sp__law_pick K) := by
  refine F.ok sc__law_pick (fun vs H Q E h => h.1) (fun cdv A outer s H vs Q E hr h => ⟨_, ?_, h.2⟩)
  refine PSs.nox ?_
  exact (pss_one (ps_ret (pe_ix ix_seq (pv 1) (pe_cl (T.ok__law_draw) hr (by decide) (fun _ => pz) rfl (pa_cons (pv 0) (pa_cons (pe_callB call_len (by rfl) T.b_len boot_len (pa_cons (pv 1) pa_nil)) pa_nil))) fun _ _ => rfl)))
theorem Tx.ok__law_pick (T : Tx K mg) : Cl P w K mg base 2 "_law_pick" (sp__law_pick K) [] := by
  obtain ⟨fd, F⟩ := T.d__law_pick
  have ok := fn__law_pick (P := P) (w := w) (base := base) T F
  exact ⟨_, fd, _, [], ok, T.g__law_pick, F.kp, (FunD.bindsN F fun _ _ _ _ _ _ us hl => match us, hl with | [_, _], _ => rfl), .nil⟩
theorem fn_content_copy (T : Tx K mg) {fd : FuncData} (F : FunD K "content_copy" "content_copy" (defArgs s_content_copy) (defBody s_content_copy) (defScope s_content_copy) [] [] (He.fAd K ("content_copy", none)) fd) : FnOk P w K mg base (L2.CX P w) 1 (He.fAd K ("content_copy", none)) fd ["content"] (sp_content_copy K) := by
  refine F.ok sc_content_copy (fun vs H Q E h => h.1) (fun cdv A outer s H vs Q E hr h => ⟨_, ?_, h.2⟩)
  refine PSs.nox ?_
  exact (pss_cons (ps_if (pt_truth (pe_callB call_isi (by rfl) T.b_isinstance (by decide +kernel) (pa_cons (pv 0) (pa_cons (pe_bltn (by rfl) T.b_list (by decide +kernel) rfl) pa_nil))) fun _ => rfl)
        (pss_one (ps_ret (pe_callTy (CallR.or call_list_of (call_list_dK rfl)) (by rfl) T.b_list (by decide +kernel) (pa_cons (pv 0) pa_nil))))
        pss_nil)
        (pss_one (ps_ret (pv 0))))
theorem Tx.ok_content_copy (T : Tx K mg) : Cl P w K mg base 1 "content_copy" (sp_content_copy K) [] := by
  obtain ⟨fd, F⟩ := T.d_content_copy
  have ok := fn_content_copy (P := P) (w := w) (base := base) T F
  exact ⟨_, fd, _, [], ok, T.g_content_copy, F.kp, (FunD.bindsN F fun _ _ _ _ _ _ us hl => match us, hl with | [_], _ => rfl), .nil⟩
theorem fn_Thing_init (T : Tx K mg) {fd : FuncData} (F : FunD K "__init__" "Thing.__init__" (defArgs s_Thing_init) (defBody s_Thing_init) (defScope s_Thing_init) [] [] (He.fAd K ("Thing", some "__init__")) fd) : FnOk P w K mg base (L2.CX P w) 2 (He.fAd K ("Thing", some "__init__")) fd ["self", "kind", "contents"] (sp_Thing_init K) := by
  refine F.ok sc_Thing_init (fun vs H Q E h => h.1) (fun cdv A outer s H vs Q E hr h => ⟨_, ?_, h.2⟩)
  refine PSs.nox ?_
  exact (pss_cons (ps_fld (pv 0) (pv 1) rfl)
        (pss_one (ps_fld (pv 0) (pe_fz (pe_dc (own := [("name", 3)]) rfl sc_Thing_init.nd (pi_keys (pv 2)) (blkOk_by (N := ["self", "kind", "contents", "name"]) (sc := defScope s_Thing_init) (own := [("name", 3)]) (by decide +kernel)) (fun _ _ _ _ _ => (pg_name (i := 3) sc_Thing_init.nd rfl (by first | exact Or.inl rfl | exact Or.inr rfl))) (fun _ _ _ _ _ => pts_nil) (fun _ _ _ _ _ => (pv 3)) (fun _ _ _ _ _ => (pe_cl (T.ok_content_copy) hr (by decide) (fun _ => pz) rfl (pa_cons (pe_dget (u1 hr) (pv 2) (pv 3) fun _ _ => rfl) pa_nil))))) rfl)))
theorem Tx.ok_Thing_init (T : Tx K mg) : Mq P w K mg base 2 "Thing" (He.ga K ("Thing" : Str)) (sp_Thing_init K) [] := by
  obtain ⟨fd, F⟩ := T.d_Thing_init
  have ok := fn_Thing_init (P := P) (w := w) (base := base) T F
  exact ⟨_, fd, _, [], T.mk_Thing, ok, T.gc_Thing, (FunD.bindsN F fun _ _ _ _ _ _ us hl => match us, hl with | [_, _, _], _ => rfl), .nil⟩
theorem fn__law_number (T : Tx K mg) {fd : FuncData} (F : FunD K "_law_number" "_law_number" (defArgs s__law_number) (defBody s__law_number) (defScope s__law_number) [] [] (He.fAd K ("_law_number", none)) fd) : FnOk P w K mg base (L2.CX P w) 2 (He.fAd K ("_law_number", none)) fd ["_law_draws"] (sp__law_number K) := by
  refine F.ok sc__law_number (fun vs H Q E h => h.1) (fun cdv A outer s H vs Q E hr h => ⟨_, ?_, h.2⟩)
  refine PSs.nox ?_
  exact (pss_cons (ps_set (i := 1) sc__law_number.nd rfl (by first | exact Or.inl rfl | exact Or.inr rfl) (pe_cl (T.ok__law_draw) hr (by decide) (fun _ => pz) rfl (pa_cons (pv 0) (pa_cons pe_int pa_nil))))
        (pss_cons (ps_if (pt_cmpR (op_eqX hr.units) (pv 1) pe_int (nomark _))
        (pss_one (ps_ret pe_non))
        pss_nil)
        (pss_one (ps_ret (pv 1)))))
theorem Tx.ok__law_number (T : Tx K mg) : Cl P w K mg base 2 "_law_number" (sp__law_number K) [] := by
  obtain ⟨fd, F⟩ := T.d__law_number
  have ok := fn__law_number (P := P) (w := w) (base := base) T F
  exact ⟨_, fd, _, [], ok, T.g__law_number, F.kp, (FunD.bindsN F fun _ _ _ _ _ _ us hl => match us, hl with | [_], _ => rfl), .nil⟩
theorem fn__law_list (T : Tx K mg) {fd : FuncData} (F : FunD K "_law_list" "_law_list" (defArgs s__law_list) (defBody s__law_list) (defScope s__law_list) [] [] (He.fAd K ("_law_list", none)) fd) : FnOk P w K mg base (L2.CX P w) 2 (He.fAd K ("_law_list", none)) fd ["_law_draws"] (sp__law_list K) := by
  refine F.ok sc__law_list (fun vs H Q E h => h.1) (fun cdv A outer s H vs Q E hr h => ⟨_, ?_, h.2⟩)
  refine PSs.nox ?_
  exact (pss_cons (ps_set (i := 1) sc__law_list.nd rfl (by first | exact Or.inl rfl | exact Or.inr rfl) (pe_lst pa_nil))
        (pss_cons (ps_for PassesOwn.never rfl (pi_range1 rfl T.b_range (pa_cons (pe_cl (T.ok__law_draw) hr (by decide) (fun _ => pz) rfl (pa_cons (pv 0) (pa_cons pe_int pa_nil))) pa_nil)) (pg_name (i := 2) sc__law_list.nd rfl (by first | exact Or.inl rfl | exact Or.inr rfl))
        (pss_cons (ps_set (i := 3) sc__law_list.nd rfl (by first | exact Or.inl rfl | exact Or.inr rfl) (pe_op op_addX pe_int (pe_cl (T.ok__law_draw) hr (by decide) (fun _ => pz) rfl (pa_cons (pv 0) (pa_cons pe_int pa_nil)))))
        (pss_one (ps_if (pt_cmpR op_notInX (pv 3) (pv 1) (by rfl))
        (pss_one (ps_expr (pe_bm PySem.F.plainAttrs_list PySem.F.slot_list_append PySem.F.type_list_append mt_append (pv 1) (pa_cons (pv 3) pa_nil))))
        pss_nil))))
        (pss_one (ps_ret (pv 1)))))
theorem Tx.ok__law_list (T : Tx K mg) : Cl P w K mg base 2 "_law_list" (sp__law_list K) [] := by
  obtain ⟨fd, F⟩ := T.d__law_list
  have ok := fn__law_list (P := P) (w := w) (base := base) T F
  exact ⟨_, fd, _, [], ok, T.g__law_list, F.kp, (FunD.bindsN F fun _ _ _ _ _ _ us hl => match us, hl with | [_], _ => rfl), .nil⟩
theorem fn__law_contents (T : Tx K mg) {fd : FuncData} (F : FunD K "_law_contents" "_law_contents" (defArgs s__law_contents) (defBody s__law_contents) (defScope s__law_contents) [] [] (He.fAd K ("_law_contents", none)) fd) : FnOk P w K mg base (L2.CX P w) 3 (He.fAd K ("_law_contents", none)) fd ["_law_draws", "_law_kind"] (sp__law_contents K) := by
  refine F.ok sc__law_contents (fun vs H Q E h => h.1) (fun cdv A outer s H vs Q E hr h => ⟨_, ?_, h.2⟩)
  refine PSs.nox ?_
  exact (pss_cons (ps_set (i := 2) sc__law_contents.nd rfl (by first | exact Or.inl rfl | exact Or.inr rfl) pe_dnewK)
        (pss_cons (ps_if (pt_cmpR (op_eqX hr.units) (pv 1) (pe_strE e_A) (nomark _))
        (pss_cons (ps_dput (u1 hr) (pv 2) (pe_strE e_a) (pe_cl (T.ok__law_pick) hr (by decide) (fun _ => pz) rfl (pa_cons (pv 0) (pa_cons (pe_lst (pa_cons pe_non (pa_cons pe_int (pa_cons pe_int (pa_cons pe_int (pa_cons pe_int pa_nil)))))) pa_nil))) rfl)
        (pss_cons (ps_dput (u1 hr) (pv 2) (pe_strE e_t) (pe_cl (T.ok__law_pick) hr (by decide) (fun _ => pz) rfl (pa_cons (pv 0) (pa_cons (pe_lst (pa_cons pe_non (pa_cons (pe_strE e_empty) (pa_cons (pe_strE e_b) (pa_cons (pe_strE e_ab) pa_nil))))) pa_nil))) rfl)
        (pss_cons (ps_dput (u1 hr) (pv 2) (pe_strE e_r) (pe_cl (T.ok__law_number) hr (by decide) (fun _ => pz) rfl (pa_cons (pv 0) pa_nil)) rfl)
        (pss_cons (ps_dput (u1 hr) (pv 2) (pe_strE e_l) (pe_cl (T.ok__law_list) hr (by decide) (fun _ => pz) rfl (pa_cons (pv 0) pa_nil)) rfl)
        (pss_one (ps_ret (pe_fz (pv 2))))))))
        pss_nil)
        (pss_cons (ps_dput (u1 hr) (pv 2) (pe_strE e_p) (pe_cl (T.ok__law_number) hr (by decide) (fun _ => pz) rfl (pa_cons (pv 0) pa_nil)) rfl)
        (pss_cons (ps_dput (u1 hr) (pv 2) (pe_strE e_q) (pe_cl (T.ok__law_number) hr (by decide) (fun _ => pz) rfl (pa_cons (pv 0) pa_nil)) rfl)
        (pss_cons (ps_dput (u1 hr) (pv 2) (pe_strE e_m) (pe_cl (T.ok__law_list) hr (by decide) (fun _ => pz) rfl (pa_cons (pv 0) pa_nil)) rfl)
        (pss_one (ps_ret (pe_fz (pv 2)))))))))
theorem Tx.ok__law_contents (T : Tx K mg) : Cl P w K mg base 3 "_law_contents" (sp__law_contents K) [] := by
  obtain ⟨fd, F⟩ := T.d__law_contents
  have ok := fn__law_contents (P := P) (w := w) (base := base) T F
  exact ⟨_, fd, _, [], ok, T.g__law_contents, F.kp, (FunD.bindsN F fun _ _ _ _ _ _ us hl => match us, hl with | [_, _], _ => rfl), .nil⟩
theorem fn__law_picture (T : Tx K mg) {fd : FuncData} (F : FunD K "_law_picture" "_law_picture" (defArgs s__law_picture) (defBody s__law_picture) (defScope s__law_picture) [] [] (He.fAd K ("_law_picture", none)) fd) : FnOk P w K mg base (L2.CX P w) 4 (He.fAd K ("_law_picture", none)) fd ["_law_draws"] (sp__law_picture K) := by
  refine F.ok sc__law_picture (fun vs H Q E h => h.1) (fun cdv A outer s H vs Q E hr h => ⟨_, ?_, h.2⟩)
  refine PSs.nox ?_
  exact (pss_cons (ps_set (i := 1) sc__law_picture.nd rfl (by first | exact Or.inl rfl | exact Or.inr rfl) pe_dnewK)
        (pss_cons (ps_for PassesOwn.never rfl (pi_range1 rfl T.b_range (pa_cons (pe_cl (T.ok__law_draw) hr (by decide) (fun _ => pz) rfl (pa_cons (pv 0) (pa_cons pe_int pa_nil))) pa_nil)) (pg_name (i := 2) sc__law_picture.nd rfl (by first | exact Or.inl rfl | exact Or.inr rfl))
        (pss_cons (ps_set (i := 3) sc__law_picture.nd rfl (by first | exact Or.inl rfl | exact Or.inr rfl) (pe_op op_addX pe_int (pe_cl (T.ok__law_draw) hr (by decide) (fun _ => pz) rfl (pa_cons (pv 0) (pa_cons pe_int pa_nil)))))
        (pss_cons (ps_set (i := 4) sc__law_picture.nd rfl (by first | exact Or.inl rfl | exact Or.inr rfl) (pe_cl (T.ok__law_pick) hr (by decide) (fun _ => pz) rfl (pa_cons (pv 0) (pa_cons (pe_lst (pa_cons (pe_strE e_A) (pa_cons (pe_strE e_B) pa_nil))) pa_nil))))
        (pss_one (ps_dput (u1 hr) (pv 1) (pv 3) (pe_mq (T.ok_Thing_init) hr (by decide) rfl (pa_cons (pv 4) (pa_cons (pe_cl (T.ok__law_contents) hr (by decide) (fun _ => pz) rfl (pa_cons (pv 0) (pa_cons (pv 4) pa_nil))) pa_nil))) rfl)))))
        (pss_one (ps_ret (pe_fz (pv 1))))))
theorem Tx.ok__law_picture (T : Tx K mg) : Cl P w K mg base 4 "_law_picture" (sp__law_picture K) [] := by
  obtain ⟨fd, F⟩ := T.d__law_picture
  have ok := fn__law_picture (P := P) (w := w) (base := base) T F
  exact ⟨_, fd, _, [], ok, T.g__law_picture, F.kp, (FunD.bindsN F fun _ _ _ _ _ _ us hl => match us, hl with | [_], _ => rfl), .nil⟩
theorem fn_Kind_init (T : Tx K mg) {fd : FuncData} (F : FunD K "__init__" "Kind.__init__" (defArgs s_Kind_init) (defBody s_Kind_init) (defScope s_Kind_init) [] [] (He.fAd K ("Kind", some "__init__")) fd) : FnOk P w K mg base (L2.CX P w) 1 (He.fAd K ("Kind", some "__init__")) fd ["self", "name", "fields", "key_rows"] (sp_Kind_init K) := by
  refine F.ok sc_Kind_init (fun vs H Q E h => h.1) (fun cdv A outer s H vs Q E hr h => ⟨_, ?_, h.2⟩)
  refine PSs.nox ?_
  exact (pss_cons (ps_fld (pv 0) (pv 1) rfl)
        (pss_cons (ps_fld (pv 0) (pe_callTy (CallR.or call_list_of (call_list_dK rfl)) (by rfl) T.b_list (by decide +kernel) (pa_cons (pv 2) pa_nil)) rfl)
        (pss_one (ps_fld (pv 0) (pe_lc (own := [("names", 4)]) rfl sc_Kind_init.nd (pi_any (pv 3)) (blkOk_by (N := ["self", "name", "fields", "key_rows", "names"]) (sc := defScope s_Kind_init) (own := [("names", 4)]) (by decide +kernel)) (fun _ _ _ _ _ => (pg_name (i := 4) sc_Kind_init.nd rfl (by first | exact Or.inl rfl | exact Or.inr rfl))) (fun _ _ _ _ _ => pts_nil) (fun _ _ _ _ _ => (pe_callTy (CallR.or call_list_of (call_list_dK rfl)) (by rfl) T.b_list (by decide +kernel) (pa_cons (pv 4) pa_nil)))) rfl))))
theorem Tx.ok_Kind_init (T : Tx K mg) : Mq P w K mg base 1 "Kind" (He.ga K ("Kind" : Str)) (sp_Kind_init K) [] := by
  obtain ⟨fd, F⟩ := T.d_Kind_init
  have ok := fn_Kind_init (P := P) (w := w) (base := base) T F
  exact ⟨_, fd, _, [], T.mk_Kind, ok, T.gc_Kind, (FunD.bindsN F fun _ _ _ _ _ _ us hl => match us, hl with | [_, _, _, _], _ => rfl), .nil⟩
theorem fn_Field_init (T : Tx K mg) {fd : FuncData} (F : FunD K "__init__" "Field.__init__" (defArgs s_Field_init) (defBody s_Field_init) (defScope s_Field_init) [(.bl false)] [] (He.fAd K ("Field", some "__init__")) fd) : FnOk P w K mg base (L2.CX P w) 1 (He.fAd K ("Field", some "__init__")) fd ["self", "name", "shape", "needed"] (sp_Field_init K) := by
  refine F.ok sc_Field_init (fun vs H Q E h => h.1) (fun cdv A outer s H vs Q E hr h => ⟨_, ?_, h.2⟩)
  refine PSs.nox ?_
  exact (pss_cons (ps_fld (pv 0) (pv 1) rfl)
        (pss_cons (ps_fld (pv 0) (pv 2) rfl)
        (pss_one (ps_fld (pv 0) (pv 3) rfl))))
theorem Tx.ok_Field_init (T : Tx K mg) : Mq P w K mg base 1 "Field" (He.ga K ("Field" : Str)) (sp_Field_init K) [] := by
  obtain ⟨fd, F⟩ := T.d_Field_init
  have ok := fn_Field_init (P := P) (w := w) (base := base) T F
  obtain ⟨ds, hv, b⟩ := FunD.binds1 (ps := ["self", "name", "shape", "needed"]) F 4 1 (by simp) (by simp) fun T kV doc pm an cdv ct us its hu hi => match us, its, hu, hi with | [_, _, _, _], [_], _, _ => ⟨_, rfl, rfl⟩
  exact ⟨_, fd, _, ds, T.mk_Field, ok, T.gc_Field, b, hv⟩
theorem Tx.ok_Field_init_1 (T : Tx K mg) : Mq P w K mg base 1 "Field" (He.ga K ("Field" : Str)) (sp_Field_init K) [(.bl false)] := by
  obtain ⟨fd, F⟩ := T.d_Field_init
  have ok := fn_Field_init (P := P) (w := w) (base := base) T F
  obtain ⟨ds, hv, b⟩ := FunD.binds1 (ps := ["self", "name", "shape", "needed"]) F 3 0 (by simp) (by simp) fun T kV doc pm an cdv ct us its hu hi => match us, its, hu, hi with | [_, _, _], [_], _, _ => ⟨_, rfl, rfl⟩
  exact ⟨_, fd, _, ds, T.mk_Field, ok, T.gc_Field, b, hv⟩
theorem fn_IntSort_init (T : Tx K mg) {fd : FuncData} (F : FunD K "__init__" "IntSort.__init__" (defArgs s_IntSort_init) (defBody s_IntSort_init) (defScope s_IntSort_init) [] [] (He.fAd K ("IntSort", some "__init__")) fd) : FnOk P w K mg base (L2.CX P w) 1 (He.fAd K ("IntSort", some "__init__")) fd ["self", "low", "high"] (sp_IntSort_init K) := by
  refine F.ok sc_IntSort_init (fun vs H Q E h => h.1) (fun cdv A outer s H vs Q E hr h => ⟨_, ?_, h.2⟩)
  refine PSs.nox ?_
  exact (pss_cons (ps_fld (pv 0) (pv 1) rfl)
        (pss_one (ps_fld (pv 0) (pv 2) rfl)))
theorem Tx.ok_IntSort_init (T : Tx K mg) : Mq P w K mg base 1 "IntSort" (He.ga K ("IntSort" : Str)) (sp_IntSort_init K) [] := by
  obtain ⟨fd, F⟩ := T.d_IntSort_init
  have ok := fn_IntSort_init (P := P) (w := w) (base := base) T F
  exact ⟨_, fd, _, [], T.mk_IntSort, ok, T.gc_IntSort, (FunD.bindsN F fun _ _ _ _ _ _ us hl => match us, hl with | [_, _, _], _ => rfl), .nil⟩
theorem fn_TextSort_init (T : Tx K mg) {fd : FuncData} (F : FunD K "__init__" "TextSort.__init__" (defArgs s_TextSort_init) (defBody s_TextSort_init) (defScope s_TextSort_init) [.non] [] (He.fAd K ("TextSort", some "__init__")) fd) : FnOk P w K mg base (L2.CX P w) 1 (He.fAd K ("TextSort", some "__init__")) fd ["self", "longest", "without"] (sp_TextSort_init K) := by
  refine F.ok sc_TextSort_init (fun vs H Q E h => h.1) (fun cdv A outer s H vs Q E hr h => ⟨_, ?_, h.2⟩)
  refine PSs.nox ?_
  exact (pss_cons (ps_fld (pv 0) (pv 1) rfl)
        (pss_one (ps_fld (pv 0) (pv 2) rfl)))
theorem Tx.ok_TextSort_init_1 (T : Tx K mg) : Mq P w K mg base 1 "TextSort" (He.ga K ("TextSort" : Str)) (sp_TextSort_init K) [.non] := by
  obtain ⟨fd, F⟩ := T.d_TextSort_init
  have ok := fn_TextSort_init (P := P) (w := w) (base := base) T F
  obtain ⟨ds, hv, b⟩ := FunD.binds1 (ps := ["self", "longest", "without"]) F 2 0 (by simp) (by simp) fun T kV doc pm an cdv ct us its hu hi => match us, its, hu, hi with | [_, _], [_], _, _ => ⟨_, rfl, rfl⟩
  exact ⟨_, fd, _, ds, T.mk_TextSort, ok, T.gc_TextSort, b, hv⟩
theorem fn_RefSort_init (T : Tx K mg) {fd : FuncData} (F : FunD K "__init__" "RefSort.__init__" (defArgs s_RefSort_init) (defBody s_RefSort_init) (defScope s_RefSort_init) [] [] (He.fAd K ("RefSort", some "__init__")) fd) : FnOk P w K mg base (L2.CX P w) 1 (He.fAd K ("RefSort", some "__init__")) fd ["self", "kinds", "rule"] (sp_RefSort_init K) := by
  refine F.ok sc_RefSort_init (fun vs H Q E h => h.1) (fun cdv A outer s H vs Q E hr h => ⟨_, ?_, h.2⟩)
  refine PSs.nox ?_
  exact (pss_cons (ps_fld (pv 0) (pe_callTy (CallR.or call_list_of (call_list_dK rfl)) (by rfl) T.b_list (by decide +kernel) (pa_cons (pv 1) pa_nil)) rfl)
        (pss_one (ps_fld (pv 0) (pv 2) rfl)))
theorem Tx.ok_RefSort_init (T : Tx K mg) : Mq P w K mg base 1 "RefSort" (He.ga K ("RefSort" : Str)) (sp_RefSort_init K) [] := by
  obtain ⟨fd, F⟩ := T.d_RefSort_init
  have ok := fn_RefSort_init (P := P) (w := w) (base := base) T F
  exact ⟨_, fd, _, [], T.mk_RefSort, ok, T.gc_RefSort, (FunD.bindsN F fun _ _ _ _ _ _ us hl => match us, hl with | [_, _, _], _ => rfl), .nil⟩
theorem fn_ListSort_init (T : Tx K mg) {fd : FuncData} (F : FunD K "__init__" "ListSort.__init__" (defArgs s_ListSort_init) (defBody s_ListSort_init) (defScope s_ListSort_init) [] [] (He.fAd K ("ListSort", some "__init__")) fd) : FnOk P w K mg base (L2.CX P w) 1 (He.fAd K ("ListSort", some "__init__")) fd ["self", "kinds"] (sp_ListSort_init K) := by
  refine F.ok sc_ListSort_init (fun vs H Q E h => h.1) (fun cdv A outer s H vs Q E hr h => ⟨_, ?_, h.2⟩)
  refine PSs.nox ?_
  exact (pss_one (ps_fld (pv 0) (pe_callTy (CallR.or call_list_of (call_list_dK rfl)) (by rfl) T.b_list (by decide +kernel) (pa_cons (pv 1) pa_nil)) rfl))
theorem Tx.ok_ListSort_init (T : Tx K mg) : Mq P w K mg base 1 "ListSort" (He.ga K ("ListSort" : Str)) (sp_ListSort_init K) [] := by
  obtain ⟨fd, F⟩ := T.d_ListSort_init
  have ok := fn_ListSort_init (P := P) (w := w) (base := base) T F
  exact ⟨_, fd, _, [], T.mk_ListSort, ok, T.gc_ListSort, (FunD.bindsN F fun _ _ _ _ _ _ us hl => match us, hl with | [_, _], _ => rfl), .nil⟩
theorem fn_Schema_init (T : Tx K mg) {fd : FuncData} (F : FunD K "__init__" "Schema.__init__" (defArgs s_Schema_init) (defBody s_Schema_init) (defScope s_Schema_init) [] [] (He.fAd K ("Schema", some "__init__")) fd) : FnOk P w K mg base (L2.CX P w) 1 (He.fAd K ("Schema", some "__init__")) fd ["self", "kinds"] (sp_Schema_init K) := by
  refine F.ok sc_Schema_init (fun vs H Q E h => h.1) (fun cdv A outer s H vs Q E hr h => ⟨_, ?_, h.2⟩)
  refine PSs.nox ?_
  exact (pss_one (ps_fld (pv 0) (pe_callTy (CallR.or call_list_of (call_list_dK rfl)) (by rfl) T.b_list (by decide +kernel) (pa_cons (pv 1) pa_nil)) rfl))
theorem Tx.ok_Schema_init (T : Tx K mg) : Mq P w K mg base 1 "Schema" (He.ga K ("Schema" : Str)) (sp_Schema_init K) [] := by
  obtain ⟨fd, F⟩ := T.d_Schema_init
  have ok := fn_Schema_init (P := P) (w := w) (base := base) T F
  exact ⟨_, fd, _, [], T.mk_Schema, ok, T.gc_Schema, (FunD.bindsN F fun _ _ _ _ _ _ us hl => match us, hl with | [_, _], _ => rfl), .nil⟩
theorem fn__law_schema (T : Tx K mg) {fd : FuncData} (F : FunD K "_law_schema" "_law_schema" (defArgs s__law_schema) (defBody s__law_schema) (defScope s__law_schema) [] [] (He.fAd K ("_law_schema", none)) fd) : FnOk P w K mg base (L2.CX P w) 3 (He.fAd K ("_law_schema", none)) fd ["_law_rules", "_law_needed"] (sp__law_schema K) := by
  refine F.ok sc__law_schema (fun vs H Q E h => h.1) (fun cdv A outer s H vs Q E hr h => ⟨_, ?_, h.2⟩)
  refine PSs.nox ?_
  exact (pss_cons (ps_set (i := 2) sc__law_schema.nd rfl (by first | exact Or.inl rfl | exact Or.inr rfl) (pe_mq (T.ok_Kind_init) hr (by decide) rfl (pa_cons (pe_strE e_A) (pa_cons (pe_lst (pa_cons (pe_mq (T.ok_Field_init) hr (by decide) rfl (pa_cons (pe_strE e_a) (pa_cons (pe_mq (T.ok_IntSort_init) hr (by decide) rfl (pa_cons pe_int (pa_cons pe_int pa_nil))) (pa_cons (pv 1) pa_nil)))) (pa_cons (pe_mq (T.ok_Field_init_1) hr (by decide) rfl (pa_cons (pe_strE e_t) (pa_cons (pe_mq (T.ok_TextSort_init_1) hr (by decide) rfl (pa_cons pe_int pa_nil)) pa_nil))) (pa_cons (pe_mq (T.ok_Field_init_1) hr (by decide) rfl (pa_cons (pe_strE e_r) (pa_cons (pe_mq (T.ok_RefSort_init) hr (by decide) rfl (pa_cons (pe_lst (pa_cons (pe_strE e_A) (pa_cons (pe_strE e_B) pa_nil))) (pa_cons (pe_ix ix_seq (pv 0) pe_int fun _ _ => rfl) pa_nil))) pa_nil))) (pa_cons (pe_mq (T.ok_Field_init_1) hr (by decide) rfl (pa_cons (pe_strE e_l) (pa_cons (pe_mq (T.ok_ListSort_init) hr (by decide) rfl (pa_cons (pe_lst (pa_cons (pe_strE e_A) pa_nil)) pa_nil)) pa_nil))) pa_nil))))) (pa_cons (pe_lst (pa_cons (pe_lst (pa_cons (pe_strE e_a) (pa_cons (pe_strE e_t) pa_nil))) pa_nil)) pa_nil)))))
        (pss_cons (ps_set (i := 3) sc__law_schema.nd rfl (by first | exact Or.inl rfl | exact Or.inr rfl) (pe_mq (T.ok_Kind_init) hr (by decide) rfl (pa_cons (pe_strE e_B) (pa_cons (pe_lst (pa_cons (pe_mq (T.ok_Field_init) hr (by decide) rfl (pa_cons (pe_strE e_p) (pa_cons (pe_mq (T.ok_RefSort_init) hr (by decide) rfl (pa_cons (pe_lst (pa_cons (pe_strE e_A) pa_nil)) (pa_cons (pe_ix ix_seq (pv 0) pe_int fun _ _ => rfl) pa_nil))) (pa_cons (pv 1) pa_nil)))) (pa_cons (pe_mq (T.ok_Field_init_1) hr (by decide) rfl (pa_cons (pe_strE e_q) (pa_cons (pe_mq (T.ok_RefSort_init) hr (by decide) rfl (pa_cons (pe_lst (pa_cons (pe_strE e_B) pa_nil)) (pa_cons (pe_ix ix_seq (pv 0) pe_int fun _ _ => rfl) pa_nil))) pa_nil))) (pa_cons (pe_mq (T.ok_Field_init_1) hr (by decide) rfl (pa_cons (pe_strE e_m) (pa_cons (pe_mq (T.ok_ListSort_init) hr (by decide) rfl (pa_cons (pe_lst (pa_cons (pe_strE e_A) (pa_cons (pe_strE e_B) pa_nil))) pa_nil)) pa_nil))) pa_nil)))) (pa_cons (pe_lst (pa_cons (pe_lst (pa_cons (pe_strE e_q) pa_nil)) pa_nil)) pa_nil)))))
        (pss_one (ps_ret (pe_mq (T.ok_Schema_init) hr (by decide) rfl (pa_cons (pe_lst (pa_cons (pv 2) (pa_cons (pv 3) pa_nil))) pa_nil))))))
theorem Tx.ok__law_schema (T : Tx K mg) : Cl P w K mg base 3 "_law_schema" (sp__law_schema K) [] := by
  obtain ⟨fd, F⟩ := T.d__law_schema
  have ok := fn__law_schema (P := P) (w := w) (base := base) T F
  exact ⟨_, fd, _, [], ok, T.g__law_schema, F.kp, (FunD.bindsN F fun _ _ _ _ _ _ us hl => match us, hl with | [_, _], _ => rfl), .nil⟩
theorem fn_Reader_init (T : Tx K mg) {fd : FuncData} (F : FunD K "__init__" "Reader.__init__" (defArgs s_Reader_init) (defBody s_Reader_init) (defScope s_Reader_init) [] [] (He.fAd K ("Reader", some "__init__")) fd) : FnOk P w K mg base (L2.CX P w) 1 (He.fAd K ("Reader", some "__init__")) fd ["self", "base"] (sp_Reader_init K) := by
  refine F.ok sc_Reader_init (fun vs H Q E h => h.1) (fun cdv A outer s H vs Q E hr h => ⟨_, ?_, h.2⟩)
  refine PSs.nox ?_
  exact (pss_cons (ps_fld (pv 0) (pv 1) rfl)
        (pss_cons (ps_fld (pv 0) pe_dnewK rfl)
        (pss_cons (ps_fld (pv 0) pe_dnewK rfl)
        (pss_cons (ps_fld (pv 0) pe_dnewK rfl)
        (pss_one (ps_fld (pv 0) (pe_lst pa_nil) rfl))))))
theorem Tx.ok_Reader_init (T : Tx K mg) : Mq P w K mg base 1 "Reader" (He.ga K ("Reader" : Str)) (sp_Reader_init K) [] := by
  obtain ⟨fd, F⟩ := T.d_Reader_init
  have ok := fn_Reader_init (P := P) (w := w) (base := base) T F
  exact ⟨_, fd, _, [], T.mk_Reader, ok, T.gc_Reader, (FunD.bindsN F fun _ _ _ _ _ _ us hl => match us, hl with | [_, _], _ => rfl), .nil⟩
theorem fn_PictureSource_init (T : Tx K mg) {fd : FuncData} (F : FunD K "__init__" "PictureSource.__init__" (defArgs s_PictureSource_init) (defBody s_PictureSource_init) (defScope s_PictureSource_init) [] [] (He.fAd K ("PictureSource", some "__init__")) fd) : FnOk P w K mg base (L2.CX P w) 1 (He.fAd K ("PictureSource", some "__init__")) fd ["self", "picture"] (sp_PictureSource_init K) := by
  refine F.ok sc_PictureSource_init (fun vs H Q E h => h.1) (fun cdv A outer s H vs Q E hr h => ⟨_, ?_, h.2⟩)
  refine PSs.nox ?_
  exact (pss_one (ps_fld (pv 0) (pv 1) rfl))
theorem Tx.ok_PictureSource_init (T : Tx K mg) : Mq P w K mg base 1 "PictureSource" (He.ga K ("PictureSource" : Str)) (sp_PictureSource_init K) [] := by
  obtain ⟨fd, F⟩ := T.d_PictureSource_init
  have ok := fn_PictureSource_init (P := P) (w := w) (base := base) T F
  exact ⟨_, fd, _, [], T.mk_PictureSource, ok, T.gc_PictureSource, (FunD.bindsN F fun _ _ _ _ _ _ us hl => match us, hl with | [_, _], _ => rfl), .nil⟩
theorem fn_Reader_company (T : Tx K mg) {fd : FuncData} (F : FunD K "company" "Reader.company" (defArgs s_Reader_company) (defBody s_Reader_company) (defScope s_Reader_company) [] [] (He.fAd K ("Reader", some "company")) fd) : FnOk P w K mg base (L2.CX P w) 1 (He.fAd K ("Reader", some "company")) fd ["self", "number"] (sp_Reader_company K) := by
  refine F.ok sc_Reader_company (fun vs H Q E h => h.1) (fun cdv A outer s H vs Q E hr h => ⟨_, ?_, h.2⟩)
  refine PSs.nox ?_
  exact (pss_cons (ps_if (pt_cmp (pc_din (u1 hr) (pv 1) (pe_fld (pv 0) rfl)))
        (pss_one (ps_ret (pe_callTy (CallR.or call_list_of (call_list_dK rfl)) (by rfl) T.b_list (by decide +kernel) (pa_cons (pe_dget (u1 hr) (pe_fld (pv 0) rfl) (pv 1) fun _ _ => rfl) pa_nil))))
        pss_nil)
        (pss_one (ps_ret (pe_lst (pa_cons (pv 1) pa_nil)))))
theorem Tx.ok_Reader_company (T : Tx K mg) : Mt P w K mg base 1 (He.ga K ("Reader" : Str)) "company" (sp_Reader_company K) [] := by
  obtain ⟨fd, F⟩ := T.d_Reader_company
  have ok := fn_Reader_company (P := P) (w := w) (base := base) T F
  exact ⟨_, fd, _, [], T.cl_Reader, T.me_Reader_company, ok, (FunD.bindsN F fun _ _ _ _ _ _ us hl => match us, hl with | [_, _], _ => rfl), .nil⟩
theorem fn_Request_init (T : Tx K mg) {fd : FuncData} (F : FunD K "__init__" "Request.__init__" (defArgs s_Request_init) (defBody s_Request_init) (defScope s_Request_init) [] [] (He.fAd K ("Request", some "__init__")) fd) : FnOk P w K mg base (L2.CX P w) 1 (He.fAd K ("Request", some "__init__")) fd ["self", "what", "numbers"] (sp_Request_init K) := by
  refine F.ok sc_Request_init (fun vs H Q E h => h.1) (fun cdv A outer s H vs Q E hr h => ⟨_, ?_, h.2⟩)
  refine PSs.nox ?_
  exact (pss_cons (ps_fld (pv 0) (pv 1) rfl)
        (pss_one (ps_fld (pv 0) (pe_callTy (CallR.or call_list_of (call_list_dK rfl)) (by rfl) T.b_list (by decide +kernel) (pa_cons (pv 2) pa_nil)) rfl)))
theorem Tx.ok_Request_init (T : Tx K mg) : Mq P w K mg base 1 "Request" (He.ga K ("Request" : Str)) (sp_Request_init K) [] := by
  obtain ⟨fd, F⟩ := T.d_Request_init
  have ok := fn_Request_init (P := P) (w := w) (base := base) T F
  exact ⟨_, fd, _, [], T.mk_Request, ok, T.gc_Request, (FunD.bindsN F fun _ _ _ _ _ _ us hl => match us, hl with | [_, _, _], _ => rfl), .nil⟩
theorem fn_Reader__note (T : Tx K mg) {fd : FuncData} (F : FunD K "_note" "Reader._note" (defArgs s_Reader__note) (defBody s_Reader__note) (defScope s_Reader__note) [] [] (He.fAd K ("Reader", some "_note")) fd) : FnOk P w K mg base (L2.CX P w) 3 (He.fAd K ("Reader", some "_note")) fd ["self", "what", "numbers"] (sp_Reader__note K) := by
  refine F.ok sc_Reader__note (fun vs H Q E h => h.1) (fun cdv A outer s H vs Q E hr h => ⟨_, ?_, h.2⟩)
  refine PSs.nox ?_
  exact (pss_one (ps_expr (pe_bm PySem.F.plainAttrs_list PySem.F.slot_list_append PySem.F.type_list_append mt_append (pe_fld (pv 0) rfl) (pa_cons (pe_mq (T.ok_Request_init) hr (by decide) rfl (pa_cons (pv 1) (pa_cons (pv 2) pa_nil))) pa_nil))))
theorem Tx.ok_Reader__note (T : Tx K mg) : Mt P w K mg base 3 (He.ga K ("Reader" : Str)) "_note" (sp_Reader__note K) [] := by
  obtain ⟨fd, F⟩ := T.d_Reader__note
  have ok := fn_Reader__note (P := P) (w := w) (base := base) T F
  exact ⟨_, fd, _, [], T.cl_Reader, T.me_Reader__note, ok, (FunD.bindsN F fun _ _ _ _ _ _ us hl => match us, hl with | [_, _, _], _ => rfl), .nil⟩
theorem fn_PictureSource_thing (T : Tx K mg) {fd : FuncData} (F : FunD K "thing" "PictureSource.thing" (defArgs s_PictureSource_thing) (defBody s_PictureSource_thing) (defScope s_PictureSource_thing) [] [] (He.fAd K ("PictureSource", some "thing")) fd) : FnOk P w K mg base (L2.CX P w) 1 (He.fAd K ("PictureSource", some "thing")) fd ["self", "number"] (sp_PictureSource_thing K) := by
  refine F.ok sc_PictureSource_thing (fun vs H Q E h => h.1) (fun cdv A outer s H vs Q E hr h => ⟨_, ?_, h.2⟩)
  refine PSs.nox ?_
  exact (pss_one (ps_ret (pe_dget1 (u1 hr) (pe_fld (pv 0) rfl) (pv 1) ⟨rfl, rfl, rfl, rfl⟩)))
theorem Tx.ok_PictureSource_thing (T : Tx K mg) : Mt P w K mg base 1 (He.ga K ("PictureSource" : Str)) "thing" (sp_PictureSource_thing K) [] := by
  obtain ⟨fd, F⟩ := T.d_PictureSource_thing
  have ok := fn_PictureSource_thing (P := P) (w := w) (base := base) T F
  exact ⟨_, fd, _, [], T.cl_PictureSource, T.me_PictureSource_thing, ok, (FunD.bindsN F fun _ _ _ _ _ _ us hl => match us, hl with | [_, _], _ => rfl), .nil⟩
theorem fn_Reader_learn (T : Tx K mg) {fd : FuncData} (F : FunD K "learn" "Reader.learn" (defArgs s_Reader_learn) (defBody s_Reader_learn) (defScope s_Reader_learn) [] [] (He.fAd K ("Reader", some "learn")) fd) : FnOk P w K mg base (L2.CX P w) 4 (He.fAd K ("Reader", some "learn")) fd ["self", "numbers"] (sp_Reader_learn K) := by
  refine F.ok sc_Reader_learn (fun vs H Q E h => h.1) (fun cdv A outer s H vs Q E hr h => ⟨_, ?_, h.2⟩)
  refine PSs.nox ?_
  exact (pss_cons (ps_expr (pe_mt1 (T.ok_Reader__note) hr (by decide) (fun _ => pz) (pv 0) (pa_cons (pe_strE e_object) (pa_cons (pv 1) pa_nil))))
        (pss_one (ps_for PassesOwn.never rfl (pi_any (pv 1)) (pg_name (i := 2) sc_Reader_learn.nd rfl (by first | exact Or.inl rfl | exact Or.inr rfl))
        (pss_one (ps_dput (u1 hr) (pe_fld (pv 0) rfl) (pv 2) (pe_mt1 (T.ok_PictureSource_thing) hr (by decide) (fun _ => pz) (pe_fld (pv 0) rfl) (pa_cons (pv 2) pa_nil)) rfl)))))
theorem Tx.ok_Reader_learn (T : Tx K mg) : Mt P w K mg base 4 (He.ga K ("Reader" : Str)) "learn" (sp_Reader_learn K) [] := by
  obtain ⟨fd, F⟩ := T.d_Reader_learn
  have ok := fn_Reader_learn (P := P) (w := w) (base := base) T F
  exact ⟨_, fd, _, [], T.cl_Reader, T.me_Reader_learn, ok, (FunD.bindsN F fun _ _ _ _ _ _ us hl => match us, hl with | [_, _], _ => rfl), .nil⟩
theorem fn_Reader__batch (T : Tx K mg) {fd : FuncData} (F : FunD K "_batch" "Reader._batch" (defArgs s_Reader__batch) (defBody s_Reader__batch) (defScope s_Reader__batch) [] [] (He.fAd K ("Reader", some "_batch")) fd) : FnOk P w K mg base (L2.CX P w) 1 (He.fAd K ("Reader", some "_batch")) fd ["self", "number", "unknown"] (sp_Reader__batch K) := by
  refine F.ok sc_Reader__batch (fun vs H Q E h => h.1) (fun cdv A outer s H vs Q E hr h => ⟨_, ?_, h.2⟩)
  refine PSs.nox ?_
  exact (pss_cons (ps_set (i := 3) sc_Reader__batch.nd rfl (by first | exact Or.inl rfl | exact Or.inr rfl) (pe_callB cr_sortedI (by rfl) T.b_sorted (by decide +kernel) (pa_cons (pe_lc (own := [("other", 4)]) rfl sc_Reader__batch.nd (pi_any (pv 2)) (blkOk_by (N := ["self", "number", "unknown", "others", "other"]) (sc := defScope s_Reader__batch) (own := [("other", 4)]) (by decide +kernel)) (fun _ _ _ _ _ => (pg_name (i := 4) sc_Reader__batch.nd rfl (by first | exact Or.inl rfl | exact Or.inr rfl))) (fun _ _ _ _ _ => pts_one (pt_cmpR (op_neX hr.units) (pv 4) (pv 1) (nomark _))) (fun _ _ _ _ _ => (pv 4))) pa_nil)))
        (pss_one (ps_ret (pe_callB cr_sortedI (by rfl) T.b_sorted (by decide +kernel) (pa_cons (pe_op op_addX (pe_lst (pa_cons (pv 1) pa_nil)) (pe_slice sl_X (pv 3) po_none (po_some (pe_op op_subX (pe_gc rfl T.k_MOST_ASKED) pe_int)))) pa_nil)))))
theorem Tx.ok_Reader__batch (T : Tx K mg) : Mt P w K mg base 1 (He.ga K ("Reader" : Str)) "_batch" (sp_Reader__batch K) [] := by
  obtain ⟨fd, F⟩ := T.d_Reader__batch
  have ok := fn_Reader__batch (P := P) (w := w) (base := base) T F
  exact ⟨_, fd, _, [], T.cl_Reader, T.me_Reader__batch, ok, (FunD.bindsN F fun _ _ _ _ _ _ us hl => match us, hl with | [_, _, _], _ => rfl), .nil⟩
theorem fn_Reader_thing (T : Tx K mg) {fd : FuncData} (F : FunD K "thing" "Reader.thing" (defArgs s_Reader_thing) (defBody s_Reader_thing) (defScope s_Reader_thing) [] [] (He.fAd K ("Reader", some "thing")) fd) : FnOk P w K mg base (L2.CX P w) 5 (He.fAd K ("Reader", some "thing")) fd ["self", "number"] (sp_Reader_thing K) := by
  refine F.ok sc_Reader_thing (fun vs H Q E h => h.1) (fun cdv A outer s H vs Q E hr h => ⟨_, ?_, h.2⟩)
  refine PSs.nox ?_
  exact (C8.pss_cut (ps_if (pt_cmp (pc_dnotin (u1 hr) (pv 1) (pe_fld (pv 0) rfl)))
        (pss_cons (ps_setLc (i := 2) (own := [("other", 3)]) rfl sc_Reader_thing.nd rfl rfl (sw_true rfl rfl rfl (by decide +kernel)) (pi_any (pe_mt1 (T.ok_Reader_company) hr (by decide) (fun _ => pz) (pv 0) (pa_cons (pv 1) pa_nil))) (blkOk_by (N := ["self", "number", "unknown", "other"]) (sc := defScope s_Reader_thing) (own := [("other", 3)]) (by decide +kernel)) (fun _ _ _ _ _ => (pg_name (i := 3) sc_Reader_thing.nd rfl (by first | exact Or.inl rfl | exact Or.inr rfl))) (fun _ _ _ _ _ => pts_one (pt_cmp (pc_dnotin (u1 hr) (pv 3) (pe_fld (pv 0) rfl)))) (fun _ _ _ _ _ => (pv 3)))
        (pss_one (ps_expr (pe_mt1 (T.ok_Reader_learn) hr (by decide) (fun _ => pz) (pv 0) (pa_cons (pe_mt1 (T.ok_Reader__batch) hr (by decide) (fun _ => pz) (pv 0) (pa_cons (pv 1) (pa_cons (pv 2) pa_nil))) pa_nil)))))
        pss_nil)
        (pss_one (ps_ret (pe_dget (u1 hr) (pe_fld (pv 0) rfl) (pv 1) fun _ _ => rfl))))
theorem Tx.ok_Reader_thing (T : Tx K mg) : Mt P w K mg base 5 (He.ga K ("Reader" : Str)) "thing" (sp_Reader_thing K) [] := by
  obtain ⟨fd, F⟩ := T.d_Reader_thing
  have ok := fn_Reader_thing (P := P) (w := w) (base := base) T F
  exact ⟨_, fd, _, [], T.cl_Reader, T.me_Reader_thing, ok, (FunD.bindsN F fun _ _ _ _ _ _ us hl => match us, hl with | [_, _], _ => rfl), .nil⟩
theorem fn__law_company (T : Tx K mg) {fd : FuncData} (F : FunD K "_law_company" "_law_company" (defArgs s__law_company) (defBody s__law_company) (defScope s__law_company) [] [] (He.fAd K ("_law_company", none)) fd) : FnOk P w K mg base (L2.CX P w) 1 (He.fAd K ("_law_company", none)) fd ["_law_state", "_law_number_here"] (sp__law_company K) := by
  refine F.ok sc__law_company (fun vs H Q E h => h.1) (fun cdv A outer s H vs Q E hr h => ⟨_, ?_, h.2⟩)
  refine PSs.nox ?_
  exact (pss_cons (ps_if (pt_cmp (pc_din (u1 hr) (pv 1) (pe_dget (u1 hr) (pv 0) (pe_strE e_together) fun _ _ => rfl)))
        (pss_one (ps_ret (pe_dget (u1 hr) (pe_dget (u1 hr) (pv 0) (pe_strE e_together) fun _ _ => rfl) (pv 1) fun _ _ => rfl)))
        pss_nil)
        (pss_one (ps_ret (pe_lst (pa_cons (pv 1) pa_nil)))))
theorem Tx.ok__law_company (T : Tx K mg) : Cl P w K mg base 1 "_law_company" (sp__law_company K) [] := by
  obtain ⟨fd, F⟩ := T.d__law_company
  have ok := fn__law_company (P := P) (w := w) (base := base) T F
  exact ⟨_, fd, _, [], ok, T.g__law_company, F.kp, (FunD.bindsN F fun _ _ _ _ _ _ us hl => match us, hl with | [_, _], _ => rfl), .nil⟩
theorem fn__law_batch (T : Tx K mg) {fd : FuncData} (F : FunD K "_law_batch" "_law_batch" (defArgs s__law_batch) (defBody s__law_batch) (defScope s__law_batch) [] [] (He.fAd K ("_law_batch", none)) fd) : FnOk P w K mg base (L2.CX P w) 1 (He.fAd K ("_law_batch", none)) fd ["_law_number_here", "_law_unknown"] (sp__law_batch K) := by
  refine F.ok sc__law_batch (fun vs H Q E h => h.1) (fun cdv A outer s H vs Q E hr h => ⟨_, ?_, h.2⟩)
  refine PSs.nox ?_
  exact (pss_cons (ps_set (i := 2) sc__law_batch.nd rfl (by first | exact Or.inl rfl | exact Or.inr rfl) (pe_callB cr_sortedI (by rfl) T.b_sorted (by decide +kernel) (pa_cons (pe_lc (own := [("_law_other", 3)]) rfl sc__law_batch.nd (pi_any (pv 1)) (blkOk_by (N := ["_law_number_here", "_law_unknown", "_law_rest", "_law_other"]) (sc := defScope s__law_batch) (own := [("_law_other", 3)]) (by decide +kernel)) (fun _ _ _ _ _ => (pg_name (i := 3) sc__law_batch.nd rfl (by first | exact Or.inl rfl | exact Or.inr rfl))) (fun _ _ _ _ _ => pts_one (pt_cmpR (op_neX hr.units) (pv 3) (pv 0) (nomark _))) (fun _ _ _ _ _ => (pv 3))) pa_nil)))
        (pss_one (ps_ret (pe_callB cr_sortedI (by rfl) T.b_sorted (by decide +kernel) (pa_cons (pe_op op_addX (pe_lst (pa_cons (pv 0) pa_nil)) (pe_slice sl_X (pv 2) po_none (po_some pe_int))) pa_nil)))))
theorem Tx.ok__law_batch (T : Tx K mg) : Cl P w K mg base 1 "_law_batch" (sp__law_batch K) [] := by
  obtain ⟨fd, F⟩ := T.d__law_batch
  have ok := fn__law_batch (P := P) (w := w) (base := base) T F
  exact ⟨_, fd, _, [], ok, T.g__law_batch, F.kp, (FunD.bindsN F fun _ _ _ _ _ _ us hl => match us, hl with | [_, _], _ => rfl), .nil⟩
theorem fn__law_read (T : Tx K mg) {fd : FuncData} (F : FunD K "_law_read" "_law_read" (defArgs s__law_read) (defBody s__law_read) (defScope s__law_read) [] [] (He.fAd K ("_law_read", none)) fd) : FnOk P w K mg base (L2.CX P w) 2 (He.fAd K ("_law_read", none)) fd ["_law_state", "_law_number_here"] (sp__law_read K) := by
  refine F.ok sc__law_read (fun vs H Q E h => h.1) (fun cdv A outer s H vs Q E hr h => ⟨_, ?_, h.2⟩)
  refine PSs.nox ?_
  exact (pss_cons (ps_set (i := 2) sc__law_read.nd rfl (by first | exact Or.inl rfl | exact Or.inr rfl) (pe_dget (u1 hr) (pv 0) (pe_strE e_things) fun _ _ => rfl))
        (pss_cons (ps_if (pt_cmpR op_inX (pv 1) (pv 2) (by rfl))
        (pss_one (ps_ret (pe_lst pa_nil)))
        pss_nil)
        (pss_cons (ps_setLc (i := 3) (own := [("_law_other", 4)]) rfl sc__law_read.nd rfl rfl (sw_true rfl rfl rfl (by decide +kernel)) (pi_any (pe_cl (T.ok__law_company) hr (by decide) (fun _ => pz) rfl (pa_cons (pv 0) (pa_cons (pv 1) pa_nil)))) (blkOk_by (N := ["_law_state", "_law_number_here", "_law_things", "_law_unknown", "_law_other", "_law_row"]) (sc := defScope s__law_read) (own := [("_law_other", 4)]) (by decide +kernel)) (fun _ _ _ _ _ => (pg_name (i := 4) sc__law_read.nd rfl (by first | exact Or.inl rfl | exact Or.inr rfl))) (fun _ _ _ _ _ => pts_one (pt_cmpR op_notInX (pv 4) (pv 2) (by rfl))) (fun _ _ _ _ _ => (pv 4)))
        (pss_cons (ps_set (i := 5) sc__law_read.nd rfl (by first | exact Or.inl rfl | exact Or.inr rfl) (pe_cl (T.ok__law_batch) hr (by decide) (fun _ => pz) rfl (pa_cons (pv 1) (pa_cons (pv 3) pa_nil))))
        (pss_cons (ps_for PassesOwn.never rfl (pi_any (pv 5)) (pg_name (i := 4) sc__law_read.nd rfl (by first | exact Or.inl rfl | exact Or.inr rfl))
        (pss_one (ps_expr (pe_bm PySem.F.plainAttrs_list PySem.F.slot_list_append PySem.F.type_list_append mt_append (pv 2) (pa_cons (pv 4) pa_nil)))))
        (pss_one (ps_ret (pe_lst (pa_cons (pe_tup (pa_cons (pe_strE e_object) (pa_cons (pv 5) pa_nil))) pa_nil)))))))))
theorem Tx.ok__law_read (T : Tx K mg) : Cl P w K mg base 2 "_law_read" (sp__law_read K) [] := by
  obtain ⟨fd, F⟩ := T.d__law_read
  have ok := fn__law_read (P := P) (w := w) (base := base) T F
  exact ⟨_, fd, _, [], ok, T.g__law_read, F.kp, (FunD.bindsN F fun _ _ _ _ _ _ us hl => match us, hl with | [_, _], _ => rfl), .nil⟩
theorem fn_Reader_take_requests (T : Tx K mg) {fd : FuncData} (F : FunD K "take_requests" "Reader.take_requests" (defArgs s_Reader_take_requests) (defBody s_Reader_take_requests) (defScope s_Reader_take_requests) [] [] (He.fAd K ("Reader", some "take_requests")) fd) : FnOk P w K mg base (L2.CX P w) 1 (He.fAd K ("Reader", some "take_requests")) fd ["self"] (sp_Reader_take_requests K) := by
  refine F.ok sc_Reader_take_requests (fun vs H Q E h => h.1) (fun cdv A outer s H vs Q E hr h => ⟨_, ?_, h.2⟩)
  refine PSs.nox ?_
  exact (pss_cons (ps_set (i := 1) sc_Reader_take_requests.nd rfl (by first | exact Or.inl rfl | exact Or.inr rfl) (pe_fld (pv 0) rfl))
        (pss_cons (ps_fld (pv 0) (pe_lst pa_nil) rfl)
        (pss_one (ps_ret (pv 1)))))
theorem Tx.ok_Reader_take_requests (T : Tx K mg) : Mt P w K mg base 1 (He.ga K ("Reader" : Str)) "take_requests" (sp_Reader_take_requests K) [] := by
  obtain ⟨fd, F⟩ := T.d_Reader_take_requests
  have ok := fn_Reader_take_requests (P := P) (w := w) (base := base) T F
  exact ⟨_, fd, _, [], T.cl_Reader, T.me_Reader_take_requests, ok, (FunD.bindsN F fun _ _ _ _ _ _ us hl => match us, hl with | [_], _ => rfl), .nil⟩
theorem fn__law_numbers_row (T : Tx K mg) {fd : FuncData} (F : FunD K "_law_numbers_row" "_law_numbers_row" (defArgs s__law_numbers_row) (defBody s__law_numbers_row) (defScope s__law_numbers_row) [] [] (He.fAd K ("_law_numbers_row", none)) fd) : FnOk P w K mg base (L2.CX P w) 2 (He.fAd K ("_law_numbers_row", none)) fd ["_law_draws"] (sp__law_numbers_row K) := by
  refine F.ok sc__law_numbers_row (fun vs H Q E h => h.1) (fun cdv A outer s H vs Q E hr h => ⟨_, ?_, h.2⟩)
  refine PSs.nox ?_
  exact (pss_one (ps_ret (pe_lc (own := [("_law_turn", 1)]) rfl sc__law_numbers_row.nd (pi_range1 rfl T.b_range (pa_cons (pe_cl (T.ok__law_draw) hr (by decide) (fun _ => pz) rfl (pa_cons (pv 0) (pa_cons pe_int pa_nil))) pa_nil)) (blkOk_by (N := ["_law_draws", "_law_turn"]) (sc := defScope s__law_numbers_row) (own := [("_law_turn", 1)]) (by decide +kernel)) (fun _ _ _ _ _ => (pg_name (i := 1) sc__law_numbers_row.nd rfl (by first | exact Or.inl rfl | exact Or.inr rfl))) (fun _ _ _ _ _ => pts_nil) (fun _ _ _ _ _ => (pe_op op_addX pe_int (pe_cl (T.ok__law_draw) hr (by decide) (fun _ => pz) rfl (pa_cons (pv 0) (pa_cons pe_int pa_nil))))))))
theorem Tx.ok__law_numbers_row (T : Tx K mg) : Cl P w K mg base 2 "_law_numbers_row" (sp__law_numbers_row K) [] := by
  obtain ⟨fd, F⟩ := T.d__law_numbers_row
  have ok := fn__law_numbers_row (P := P) (w := w) (base := base) T F
  exact ⟨_, fd, _, [], ok, T.g__law_numbers_row, F.kp, (FunD.bindsN F fun _ _ _ _ _ _ us hl => match us, hl with | [_], _ => rfl), .nil⟩
theorem fn__law_once (T : Tx K mg) {fd : FuncData} (F : FunD K "_law_once" "_law_once" (defArgs s__law_once) (defBody s__law_once) (defScope s__law_once) [] [] (He.fAd K ("_law_once", none)) fd) : FnOk P w K mg base (L2.CX P w) 1 (He.fAd K ("_law_once", none)) fd ["_law_row"] (sp__law_once K) := by
  refine F.ok sc__law_once (fun vs H Q E h => h.1) (fun cdv A outer s H vs Q E hr h => ⟨_, ?_, h.2⟩)
  refine PSs.nox ?_
  exact (pss_cons (ps_set (i := 1) sc__law_once.nd rfl (by first | exact Or.inl rfl | exact Or.inr rfl) (pe_lst pa_nil))
        (pss_cons (ps_for PassesOwn.never rfl (pi_any (pv 0)) (pg_name (i := 2) sc__law_once.nd rfl (by first | exact Or.inl rfl | exact Or.inr rfl))
        (pss_one (ps_if (pt_cmpR op_notInX (pv 2) (pv 1) (by rfl))
        (pss_one (ps_expr (pe_bm PySem.F.plainAttrs_list PySem.F.slot_list_append PySem.F.type_list_append mt_append (pv 1) (pa_cons (pv 2) pa_nil))))
        pss_nil)))
        (pss_one (ps_ret (pv 1)))))
theorem Tx.ok__law_once (T : Tx K mg) : Cl P w K mg base 1 "_law_once" (sp__law_once K) [] := by
  obtain ⟨fd, F⟩ := T.d__law_once
  have ok := fn__law_once (P := P) (w := w) (base := base) T F
  exact ⟨_, fd, _, [], ok, T.g__law_once, F.kp, (FunD.bindsN F fun _ _ _ _ _ _ us hl => match us, hl with | [_], _ => rfl), .nil⟩
theorem fn__law_come (T : Tx K mg) {fd : FuncData} (F : FunD K "_law_come" "_law_come" (defArgs s__law_come) (defBody s__law_come) (defScope s__law_come) [] [] (He.fAd K ("_law_come", none)) fd) : FnOk P w K mg base (L2.CX P w) 2 (He.fAd K ("_law_come", none)) fd ["_law_state", "_law_row"] (sp__law_come K) := by
  refine F.ok sc__law_come (fun vs H Q E h => h.1) (fun cdv A outer s H vs Q E hr h => ⟨_, ?_, h.2⟩)
  refine PSs.nox ?_
  exact (pss_cons (ps_set (i := 2) sc__law_come.nd rfl (by first | exact Or.inl rfl | exact Or.inr rfl) (pe_cl (T.ok__law_once) hr (by decide) (fun _ => pz) rfl (pa_cons (pv 1) pa_nil)))
        (pss_cons (ps_set (i := 3) sc__law_come.nd rfl (by first | exact Or.inl rfl | exact Or.inr rfl) (pe_dget (u1 hr) (pv 0) (pe_strE e_together) fun _ _ => rfl))
        (pss_one (ps_for PassesOwn.never rfl (pi_any (pv 2)) (pg_name (i := 4) sc__law_come.nd rfl (by first | exact Or.inl rfl | exact Or.inr rfl))
        (pss_one (ps_dput (u1 hr) (pv 3) (pv 4) (pv 2) rfl))))))
theorem Tx.ok__law_come (T : Tx K mg) : Cl P w K mg base 2 "_law_come" (sp__law_come K) [] := by
  obtain ⟨fd, F⟩ := T.d__law_come
  have ok := fn__law_come (P := P) (w := w) (base := base) T F
  exact ⟨_, fd, _, [], ok, T.g__law_come, F.kp, (FunD.bindsN F fun _ _ _ _ _ _ us hl => match us, hl with | [_, _], _ => rfl), .nil⟩
theorem fn__law_request (T : Tx K mg) {fd : FuncData} (F : FunD K "_law_request" "_law_request" (defArgs s__law_request) (defBody s__law_request) (defScope s__law_request) [] [] (He.fAd K ("_law_request", none)) fd) : FnOk P w K mg base (L2.CX P w) 2 (He.fAd K ("_law_request", none)) fd ["_law_state", "_law_row"] (sp__law_request K) := by
  refine F.ok sc__law_request (fun vs H Q E h => h.1) (fun cdv A outer s H vs Q E hr h => ⟨_, ?_, h.2⟩)
  refine PSs.nox ?_
  exact (pss_cons (ps_set (i := 2) sc__law_request.nd rfl (by first | exact Or.inl rfl | exact Or.inr rfl) (pe_dget (u1 hr) (pv 0) (pe_strE e_things) fun _ _ => rfl))
        (pss_cons (ps_set (i := 3) sc__law_request.nd rfl (by first | exact Or.inl rfl | exact Or.inr rfl) (pe_callB cr_sortedI (by rfl) T.b_sorted (by decide +kernel) (pa_cons (pe_lc (own := [("_law_number_here", 4)]) rfl sc__law_request.nd (pi_any (pe_cl (T.ok__law_once) hr (by decide) (fun _ => pz) rfl (pa_cons (pv 1) pa_nil))) (blkOk_by (N := ["_law_state", "_law_row", "_law_things", "_law_unknown", "_law_number_here", "_law_found", "_law_at"]) (sc := defScope s__law_request) (own := [("_law_number_here", 4)]) (by decide +kernel)) (fun _ _ _ _ _ => (pg_name (i := 4) sc__law_request.nd rfl (by first | exact Or.inl rfl | exact Or.inr rfl))) (fun _ _ _ _ _ => pts_one (pt_cmpR op_notInX (pv 4) (pv 2) (by rfl))) (fun _ _ _ _ _ => (pv 4))) pa_nil)))
        (pss_cons (ps_set (i := 5) sc__law_request.nd rfl (by first | exact Or.inl rfl | exact Or.inr rfl) (pe_lst pa_nil))
        (pss_cons (ps_for PassesOwn.never rfl (pi_range3 rfl T.b_range (pa_cons pe_int (pa_cons (pe_callB call_len (by rfl) T.b_len boot_len (pa_cons (pv 3) pa_nil)) (pa_cons pe_int pa_nil)))) (pg_name (i := 6) sc__law_request.nd rfl (by first | exact Or.inl rfl | exact Or.inr rfl))
        (pss_one (ps_expr (pe_bm PySem.F.plainAttrs_list PySem.F.slot_list_append PySem.F.type_list_append mt_append (pv 5) (pa_cons (pe_tup (pa_cons (pe_strE e_object) (pa_cons (pe_slice sl_X (pv 3) (po_some (pv 6)) (po_some (pe_op op_addX (pv 6) pe_int))) pa_nil))) pa_nil)))))
        (pss_cons (ps_for PassesOwn.never rfl (pi_any (pv 3)) (pg_name (i := 4) sc__law_request.nd rfl (by first | exact Or.inl rfl | exact Or.inr rfl))
        (pss_one (ps_expr (pe_bm PySem.F.plainAttrs_list PySem.F.slot_list_append PySem.F.type_list_append mt_append (pv 2) (pa_cons (pv 4) pa_nil)))))
        (pss_one (ps_ret (pv 5))))))))
theorem Tx.ok__law_request (T : Tx K mg) : Cl P w K mg base 2 "_law_request" (sp__law_request K) [] := by
  obtain ⟨fd, F⟩ := T.d__law_request
  have ok := fn__law_request (P := P) (w := w) (base := base) T F
  exact ⟨_, fd, _, [], ok, T.g__law_request, F.kp, (FunD.bindsN F fun _ _ _ _ _ _ us hl => match us, hl with | [_, _], _ => rfl), .nil⟩
theorem fn__law_held (T : Tx K mg) {fd : FuncData} (F : FunD K "_law_held" "_law_held" (defArgs s__law_held) (defBody s__law_held) (defScope s__law_held) [] [] (He.fAd K ("_law_held", none)) fd) : FnOk P w K mg base (L2.CX P w) 1 (He.fAd K ("_law_held", none)) fd ["_law_picture_here", "_law_number_here", "_law_name"] (sp__law_held K) := by
  refine F.ok sc__law_held (fun vs H Q E h => h.1) (fun cdv A outer s H vs Q E hr h => ⟨_, ?_, h.2⟩)
  refine PSs.nox ?_
  exact (pss_cons (ps_if (PW.pt (pw_or (pt_cmp (pc_dnotin (u1 hr) (pv 1) (pv 0))) (pw_or (pt_cmpR op_notInX (pv 2) (pe_lst (pa_cons (pe_strE e_r) (pa_cons (pe_strE e_l) (pa_cons (pe_strE e_p) (pa_cons (pe_strE e_q) (pa_cons (pe_strE e_m) pa_nil)))))) (by rfl)) (pw_or1 (pt_cmp (pc_dnotin (u1 hr) (pv 2) (pe_fld (pe_dget (u1 hr) (pv 0) (pv 1) fun _ _ => rfl) rfl)))))))
        (pss_one (ps_ret (pe_lst pa_nil)))
        pss_nil)
        (pss_cons (ps_set (i := 3) sc__law_held.nd rfl (by first | exact Or.inl rfl | exact Or.inr rfl) (pe_dget (u1 hr) (pe_fld (pe_dget (u1 hr) (pv 0) (pv 1) fun _ _ => rfl) rfl) (pv 2) fun _ _ => rfl))
        (pss_cons (ps_if (pt_truth (pe_callB call_isi (by rfl) T.b_isinstance (by decide +kernel) (pa_cons (pv 3) (pa_cons (pe_bltn (by rfl) T.b_list (by decide +kernel) rfl) pa_nil))) fun _ => rfl)
        (pss_one (ps_ret (pv 3)))
        pss_nil)
        (pss_cons (ps_if (pt_cmpR op_isX (pv 3) pe_non (nomark _))
        (pss_one (ps_ret (pe_lst pa_nil)))
        pss_nil)
        (pss_one (ps_ret (pe_lst (pa_cons (pv 3) pa_nil))))))))
theorem Tx.ok__law_held (T : Tx K mg) : Cl P w K mg base 1 "_law_held" (sp__law_held K) [] := by
  obtain ⟨fd, F⟩ := T.d__law_held
  have ok := fn__law_held (P := P) (w := w) (base := base) T F
  exact ⟨_, fd, _, [], ok, T.g__law_held, F.kp, (FunD.bindsN F fun _ _ _ _ _ _ us hl => match us, hl with | [_, _, _], _ => rfl), .nil⟩
theorem fn__law_walked (T : Tx K mg) {fd : FuncData} (F : FunD K "_law_walked" "_law_walked" (defArgs s__law_walked) (defBody s__law_walked) (defScope s__law_walked) [] [] (He.fAd K ("_law_walked", none)) fd) : FnOk P w K mg base (L2.CX P w) 3 (He.fAd K ("_law_walked", none)) fd ["_law_state", "_law_picture_here", "_law_numbers", "_law_paths"] (sp__law_walked K) := by
  refine F.ok sc__law_walked (fun vs H Q E h => h.1) (fun cdv A outer s H vs Q E hr h => ⟨_, ?_, h.2⟩)
  refine PSs.nox ?_
  exact (pss_cons (ps_set (i := 4) sc__law_walked.nd rfl (by first | exact Or.inl rfl | exact Or.inr rfl) (pe_cl (T.ok__law_once) hr (by decide) (fun _ => pz) rfl (pa_cons (pv 2) pa_nil)))
        (pss_cons (ps_expr (pe_cl (T.ok__law_come) hr (by decide) (fun _ => pz) rfl (pa_cons (pv 0) (pa_cons (pv 4) pa_nil))))
        (pss_cons (ps_set (i := 5) sc__law_walked.nd rfl (by first | exact Or.inl rfl | exact Or.inr rfl) (pe_cl (T.ok__law_request) hr (by decide) (fun _ => pz) rfl (pa_cons (pv 0) (pa_cons (pv 4) pa_nil))))
        (pss_cons (ps_for PassesOwn.never rfl (pi_any (pv 3)) (pg_name (i := 6) sc__law_walked.nd rfl (by first | exact Or.inl rfl | exact Or.inr rfl))
        (pss_cons (ps_set (i := 7) sc__law_walked.nd rfl (by first | exact Or.inl rfl | exact Or.inr rfl) (pv 4))
        (pss_one (ps_for PassesOwn.never rfl (pi_any (pv 6)) (pg_name (i := 8) sc__law_walked.nd rfl (by first | exact Or.inl rfl | exact Or.inr rfl))
        (pss_cons (ps_set (i := 9) sc__law_walked.nd rfl (by first | exact Or.inl rfl | exact Or.inr rfl) (pe_lst pa_nil))
        (pss_cons (ps_for PassesOwn.never rfl (pi_any (pv 7)) (pg_name (i := 10) sc__law_walked.nd rfl (by first | exact Or.inl rfl | exact Or.inr rfl))
        (pss_one (ps_set (i := 9) sc__law_walked.nd rfl (by first | exact Or.inl rfl | exact Or.inr rfl) (pe_op op_addX (pv 9) (pe_cl (T.ok__law_held) hr (by decide) (fun _ => pz) rfl (pa_cons (pv 1) (pa_cons (pv 10) (pa_cons (pv 8) pa_nil))))))))
        (pss_cons (ps_set (i := 7) sc__law_walked.nd rfl (by first | exact Or.inl rfl | exact Or.inr rfl) (pe_cl (T.ok__law_once) hr (by decide) (fun _ => pz) rfl (pa_cons (pv 9) pa_nil)))
        (pss_cons (ps_expr (pe_cl (T.ok__law_come) hr (by decide) (fun _ => pz) rfl (pa_cons (pv 0) (pa_cons (pv 7) pa_nil))))
        (pss_one (ps_set (i := 5) sc__law_walked.nd rfl (by first | exact Or.inl rfl | exact Or.inr rfl) (pe_op op_addX (pv 5) (pe_cl (T.ok__law_request) hr (by decide) (fun _ => pz) rfl (pa_cons (pv 0) (pa_cons (pv 7) pa_nil))))))))))))))
        (pss_one (ps_ret (pv 5)))))))
theorem Tx.ok__law_walked (T : Tx K mg) : Cl P w K mg base 3 "_law_walked" (sp__law_walked K) [] := by
  obtain ⟨fd, F⟩ := T.d__law_walked
  have ok := fn__law_walked (P := P) (w := w) (base := base) T F
  exact ⟨_, fd, _, [], ok, T.g__law_walked, F.kp, (FunD.bindsN F fun _ _ _ _ _ _ us hl => match us, hl with | [_, _, _, _], _ => rfl), .nil⟩
theorem fn_once_each (T : Tx K mg) {fd : FuncData} (F : FunD K "once_each" "once_each" (defArgs s_once_each) (defBody s_once_each) (defScope s_once_each) [] [] (He.fAd K ("once_each", none)) fd) : FnOk P w K mg base (L2.CX P w) 1 (He.fAd K ("once_each", none)) fd ["numbers"] (sp_once_each K) := by
  refine F.ok sc_once_each (fun vs H Q E h => h.1) (fun cdv A outer s H vs Q E hr h => ⟨_, ?_, h.2⟩)
  refine PSs.nox ?_
  exact (pss_cons (ps_set (i := 1) sc_once_each.nd rfl (by first | exact Or.inl rfl | exact Or.inr rfl) (pe_lst pa_nil))
        (pss_cons (ps_for PassesOwn.never rfl (pi_any (pv 0)) (pg_name (i := 2) sc_once_each.nd rfl (by first | exact Or.inl rfl | exact Or.inr rfl))
        (pss_one (ps_if (pt_cmpR op_notInX (pv 2) (pv 1) (by rfl))
        (pss_one (ps_expr (pe_bm PySem.F.plainAttrs_list PySem.F.slot_list_append PySem.F.type_list_append mt_append (pv 1) (pa_cons (pv 2) pa_nil))))
        pss_nil)))
        (pss_one (ps_ret (pv 1)))))
theorem Tx.ok_once_each (T : Tx K mg) : Cl P w K mg base 1 "once_each" (sp_once_each K) [] := by
  obtain ⟨fd, F⟩ := T.d_once_each
  have ok := fn_once_each (P := P) (w := w) (base := base) T F
  exact ⟨_, fd, _, [], ok, T.g_once_each, F.kp, (FunD.bindsN F fun _ _ _ _ _ _ us hl => match us, hl with | [_], _ => rfl), .nil⟩
theorem fn_Reader_together (T : Tx K mg) {fd : FuncData} (F : FunD K "together" "Reader.together" (defArgs s_Reader_together) (defBody s_Reader_together) (defScope s_Reader_together) [] [] (He.fAd K ("Reader", some "together")) fd) : FnOk P w K mg base (L2.CX P w) 2 (He.fAd K ("Reader", some "together")) fd ["self", "numbers"] (sp_Reader_together K) := by
  refine F.ok sc_Reader_together (fun vs H Q E h => h.1) (fun cdv A outer s H vs Q E hr h => ⟨_, ?_, h.2⟩)
  refine PSs.nox ?_
  exact (pss_cons (ps_set (i := 2) sc_Reader_together.nd rfl (by first | exact Or.inl rfl | exact Or.inr rfl) (pe_cl (T.ok_once_each) hr (by decide) (fun _ => pz) rfl (pa_cons (pv 1) pa_nil)))
        (pss_one (ps_for PassesOwn.never rfl (pi_any (pv 2)) (pg_name (i := 3) sc_Reader_together.nd rfl (by first | exact Or.inl rfl | exact Or.inr rfl))
        (pss_one (ps_dput (u1 hr) (pe_fld (pv 0) rfl) (pv 3) (pv 2) rfl)))))
theorem Tx.ok_Reader_together (T : Tx K mg) : Mt P w K mg base 2 (He.ga K ("Reader" : Str)) "together" (sp_Reader_together K) [] := by
  obtain ⟨fd, F⟩ := T.d_Reader_together
  have ok := fn_Reader_together (P := P) (w := w) (base := base) T F
  exact ⟨_, fd, _, [], T.cl_Reader, T.me_Reader_together, ok, (FunD.bindsN F fun _ _ _ _ _ _ us hl => match us, hl with | [_, _], _ => rfl), .nil⟩
theorem fn_Reader_knows (T : Tx K mg) {fd : FuncData} (F : FunD K "knows" "Reader.knows" (defArgs s_Reader_knows) (defBody s_Reader_knows) (defScope s_Reader_knows) [] [] (He.fAd K ("Reader", some "knows")) fd) : FnOk P w K mg base (L2.CX P w) 1 (He.fAd K ("Reader", some "knows")) fd ["self", "number"] (sp_Reader_knows K) := by
  refine F.ok sc_Reader_knows (fun vs H Q E h => h.1) (fun cdv A outer s H vs Q E hr h => ⟨_, ?_, h.2⟩)
  refine PSs.nox ?_
  exact (pss_one (ps_ret (pe_cmp (pc_din (u1 hr) (pv 1) (pe_fld (pv 0) rfl)))))
theorem Tx.ok_Reader_knows (T : Tx K mg) : Mt P w K mg base 1 (He.ga K ("Reader" : Str)) "knows" (sp_Reader_knows K) [] := by
  obtain ⟨fd, F⟩ := T.d_Reader_knows
  have ok := fn_Reader_knows (P := P) (w := w) (base := base) T F
  exact ⟨_, fd, _, [], T.cl_Reader, T.me_Reader_knows, ok, (FunD.bindsN F fun _ _ _ _ _ _ us hl => match us, hl with | [_, _], _ => rfl), .nil⟩
theorem fn_request_all (T : Tx K mg) {fd : FuncData} (F : FunD K "request_all" "request_all" (defArgs s_request_all) (defBody s_request_all) (defScope s_request_all) [] [] (He.fAd K ("request_all", none)) fd) : FnOk P w K mg base (L2.CX P w) 5 (He.fAd K ("request_all", none)) fd ["reader", "numbers"] (sp_request_all K) := by
  refine F.ok sc_request_all (fun vs H Q E h => h.1) (fun cdv A outer s H vs Q E hr h => ⟨_, ?_, h.2⟩)
  refine PSs.nox ?_
  exact (pss_cons (ps_set (i := 2) sc_request_all.nd rfl (by first | exact Or.inl rfl | exact Or.inr rfl) (pe_callB cr_sortedI (by rfl) T.b_sorted (by decide +kernel) (pa_cons (pe_lc (own := [("number", 3)]) rfl sc_request_all.nd (pi_any (pe_cl (T.ok_once_each) hr (by decide) (fun _ => pz) rfl (pa_cons (pv 1) pa_nil))) (blkOk_by (N := ["reader", "numbers", "unknown", "number", "at"]) (sc := defScope s_request_all) (own := [("number", 3)]) (by decide +kernel)) (fun _ _ _ _ _ => (pg_name (i := 3) sc_request_all.nd rfl (by first | exact Or.inl rfl | exact Or.inr rfl))) (fun _ _ _ _ _ => pts_one (pt_not (pt_truth (pe_mt1 (T.ok_Reader_knows) hr (by decide) (fun _ => pz) (pv 0) (pa_cons (pv 3) pa_nil)) fun _ => rfl))) (fun _ _ _ _ _ => (pv 3))) pa_nil)))
        (pss_one (ps_for PassesOwn.never rfl (pi_range3 rfl T.b_range (pa_cons pe_int (pa_cons (pe_callB call_len (by rfl) T.b_len boot_len (pa_cons (pv 2) pa_nil)) (pa_cons (pe_gc rfl T.k_MOST_ASKED) pa_nil)))) (pg_name (i := 4) sc_request_all.nd rfl (by first | exact Or.inl rfl | exact Or.inr rfl))
        (pss_one (ps_expr (pe_mt1 (T.ok_Reader_learn) hr (by decide) (fun _ => pz) (pv 0) (pa_cons (pe_slice sl_X (pv 2) (po_some (pv 4)) (po_some (pe_op op_addX (pv 4) (pe_gc rfl T.k_MOST_ASKED)))) pa_nil)))))))
theorem Tx.ok_request_all (T : Tx K mg) : Cl P w K mg base 5 "request_all" (sp_request_all K) [] := by
  obtain ⟨fd, F⟩ := T.d_request_all
  have ok := fn_request_all (P := P) (w := w) (base := base) T F
  exact ⟨_, fd, _, [], ok, T.g_request_all, F.kp, (FunD.bindsN F fun _ _ _ _ _ _ us hl => match us, hl with | [_, _], _ => rfl), .nil⟩
theorem fn_Schema_kind_of (T : Tx K mg) {fd : FuncData} (F : FunD K "kind_of" "Schema.kind_of" (defArgs s_Schema_kind_of) (defBody s_Schema_kind_of) (defScope s_Schema_kind_of) [] [] (He.fAd K ("Schema", some "kind_of")) fd) : FnOk P w K mg base (L2.CX P w) 1 (He.fAd K ("Schema", some "kind_of")) fd ["self", "name"] (sp_Schema_kind_of K) := by
  refine F.ok sc_Schema_kind_of (fun vs H Q E h => h.1) (fun cdv A outer s H vs Q E hr h => ⟨_, ?_, h.2⟩)
  refine PSs.nox ?_
  exact (pss_cons (ps_for PassesOwn.never rfl (pi_any (pe_fld (pv 0) rfl)) (pg_name (i := 2) sc_Schema_kind_of.nd rfl (by first | exact Or.inl rfl | exact Or.inr rfl))
        (pss_one (ps_if (pt_cmpR (op_eqX hr.units) (pe_fld (pv 2) rfl) (pv 1) (nomark _))
        (pss_one (ps_ret (pv 2)))
        pss_nil)))
        (pss_one (ps_ret pe_non)))
theorem Tx.ok_Schema_kind_of (T : Tx K mg) : Mt P w K mg base 1 (He.ga K ("Schema" : Str)) "kind_of" (sp_Schema_kind_of K) [] := by
  obtain ⟨fd, F⟩ := T.d_Schema_kind_of
  have ok := fn_Schema_kind_of (P := P) (w := w) (base := base) T F
  exact ⟨_, fd, _, [], T.cl_Schema, T.me_Schema_kind_of, ok, (FunD.bindsN F fun _ _ _ _ _ _ us hl => match us, hl with | [_, _], _ => rfl), .nil⟩
theorem fn_Kind_field_of (T : Tx K mg) {fd : FuncData} (F : FunD K "field_of" "Kind.field_of" (defArgs s_Kind_field_of) (defBody s_Kind_field_of) (defScope s_Kind_field_of) [] [] (He.fAd K ("Kind", some "field_of")) fd) : FnOk P w K mg base (L2.CX P w) 1 (He.fAd K ("Kind", some "field_of")) fd ["self", "name"] (sp_Kind_field_of K) := by
  refine F.ok sc_Kind_field_of (fun vs H Q E h => h.1) (fun cdv A outer s H vs Q E hr h => ⟨_, ?_, h.2⟩)
  refine PSs.nox ?_
  exact (pss_cons (ps_for PassesOwn.never rfl (pi_any (pe_fld (pv 0) rfl)) (pg_name (i := 2) sc_Kind_field_of.nd rfl (by first | exact Or.inl rfl | exact Or.inr rfl))
        (pss_one (ps_if (pt_cmpR (op_eqX hr.units) (pe_fld (pv 2) rfl) (pv 1) (nomark _))
        (pss_one (ps_ret (pv 2)))
        pss_nil)))
        (pss_one (ps_ret pe_non)))
theorem Tx.ok_Kind_field_of (T : Tx K mg) : Mt P w K mg base 1 (He.ga K ("Kind" : Str)) "field_of" (sp_Kind_field_of K) [] := by
  obtain ⟨fd, F⟩ := T.d_Kind_field_of
  have ok := fn_Kind_field_of (P := P) (w := w) (base := base) T F
  exact ⟨_, fd, _, [], T.cl_Kind, T.me_Kind_field_of, ok, (FunD.bindsN F fun _ _ _ _ _ _ us hl => match us, hl with | [_, _], _ => rfl), .nil⟩
theorem fn_Schema_field_of (T : Tx K mg) {fd : FuncData} (F : FunD K "field_of" "Schema.field_of" (defArgs s_Schema_field_of) (defBody s_Schema_field_of) (defScope s_Schema_field_of) [] [] (He.fAd K ("Schema", some "field_of")) fd) : FnOk P w K mg base (L2.CX P w) 2 (He.fAd K ("Schema", some "field_of")) fd ["self", "kind", "name"] (sp_Schema_field_of K) := by
  refine F.ok sc_Schema_field_of (fun vs H Q E h => h.1) (fun cdv A outer s H vs Q E hr h => ⟨_, ?_, h.2⟩)
  refine PSs.nox ?_
  exact (pss_cons (ps_set (i := 3) sc_Schema_field_of.nd rfl (by first | exact Or.inl rfl | exact Or.inr rfl) (pe_mt1 (T.ok_Schema_kind_of) hr (by decide) (fun _ => pz) (pv 0) (pa_cons (pv 1) pa_nil)))
        (pss_cons (ps_if (pt_cmpR op_isX (pv 3) pe_non (nomark _))
        (pss_one (ps_ret pe_non))
        pss_nil)
        (pss_one (ps_ret (pe_mt1 (T.ok_Kind_field_of) hr (by decide) (fun _ => pz) (pv 3) (pa_cons (pv 2) pa_nil))))))
theorem Tx.ok_Schema_field_of (T : Tx K mg) : Mt P w K mg base 2 (He.ga K ("Schema" : Str)) "field_of" (sp_Schema_field_of K) [] := by
  obtain ⟨fd, F⟩ := T.d_Schema_field_of
  have ok := fn_Schema_field_of (P := P) (w := w) (base := base) T F
  exact ⟨_, fd, _, [], T.cl_Schema, T.me_Schema_field_of, ok, (FunD.bindsN F fun _ _ _ _ _ _ us hl => match us, hl with | [_, _, _], _ => rfl), .nil⟩
theorem fn_is_list (T : Tx K mg) {fd : FuncData} (F : FunD K "is_list" "is_list" (defArgs s_is_list) (defBody s_is_list) (defScope s_is_list) [] [] (He.fAd K ("is_list", none)) fd) : FnOk P w K mg base (L2.CX P w) 1 (He.fAd K ("is_list", none)) fd ["sort"] (sp_is_list K) := by
  refine F.ok sc_is_list (fun vs H Q E h => h.1) (fun cdv A outer s H vs Q E hr h => ⟨_, ?_, h.2⟩)
  refine PSs.nox ?_
  exact (pss_one (ps_ret (pe_callB call_isi (by rfl) T.b_isinstance (by decide +kernel) (pa_cons (pv 0) (pa_cons (pe_glob rfl T.gc_ListSort rfl) pa_nil)))))
theorem Tx.ok_is_list (T : Tx K mg) : Cl P w K mg base 1 "is_list" (sp_is_list K) [] := by
  obtain ⟨fd, F⟩ := T.d_is_list
  have ok := fn_is_list (P := P) (w := w) (base := base) T F
  exact ⟨_, fd, _, [], ok, T.g_is_list, F.kp, (FunD.bindsN F fun _ _ _ _ _ _ us hl => match us, hl with | [_], _ => rfl), .nil⟩
theorem fn_is_reference (T : Tx K mg) {fd : FuncData} (F : FunD K "is_reference" "is_reference" (defArgs s_is_reference) (defBody s_is_reference) (defScope s_is_reference) [] [] (He.fAd K ("is_reference", none)) fd) : FnOk P w K mg base (L2.CX P w) 1 (He.fAd K ("is_reference", none)) fd ["sort"] (sp_is_reference K) := by
  refine F.ok sc_is_reference (fun vs H Q E h => h.1) (fun cdv A outer s H vs Q E hr h => ⟨_, ?_, h.2⟩)
  refine PSs.nox ?_
  exact (pss_one (ps_ret (pe_callB call_isi (by rfl) T.b_isinstance (by decide +kernel) (pa_cons (pv 0) (pa_cons (pe_glob rfl T.gc_RefSort rfl) pa_nil)))))
theorem Tx.ok_is_reference (T : Tx K mg) : Cl P w K mg base 1 "is_reference" (sp_is_reference K) [] := by
  obtain ⟨fd, F⟩ := T.d_is_reference
  have ok := fn_is_reference (P := P) (w := w) (base := base) T F
  exact ⟨_, fd, _, [], ok, T.g_is_reference, F.kp, (FunD.bindsN F fun _ _ _ _ _ _ us hl => match us, hl with | [_], _ => rfl), .nil⟩
theorem fn_linked_numbers (T : Tx K mg) {fd : FuncData} (F : FunD K "linked_numbers" "linked_numbers" (defArgs s_linked_numbers) (defBody s_linked_numbers) (defScope s_linked_numbers) [] [] (He.fAd K ("linked_numbers", none)) fd) : FnOk P w K mg base (L2.CX P w) 3 (He.fAd K ("linked_numbers", none)) fd ["schema", "thing", "name"] (sp_linked_numbers K) := by
  refine F.ok sc_linked_numbers (fun vs H Q E h => h.1) (fun cdv A outer s H vs Q E hr h => ⟨_, ?_, h.2⟩)
  refine PSs.nox ?_
  exact (pss_cons (ps_set (i := 3) sc_linked_numbers.nd rfl (by first | exact Or.inl rfl | exact Or.inr rfl) (pe_mt1 (T.ok_Schema_field_of) hr (by decide) (fun _ => pz) (pv 0) (pa_cons (pe_fld (pv 1) rfl) (pa_cons (pv 2) pa_nil))))
        (pss_cons (ps_if (pt_cmpR op_isX (pv 3) pe_non (nomark _))
        (pss_one (ps_ret (pe_lst pa_nil)))
        pss_nil)
        (pss_cons (ps_set (i := 4) sc_linked_numbers.nd rfl (by first | exact Or.inl rfl | exact Or.inr rfl) (pe_dget (u1 hr) (pe_fld (pv 1) rfl) (pv 2) fun _ _ => rfl))
        (pss_cons (ps_if (pt_truth (pe_cl (T.ok_is_list) hr (by decide) (fun _ => pz) rfl (pa_cons (pe_fld (pv 3) rfl) pa_nil)) fun _ => rfl)
        (pss_one (ps_ret (pe_callTy (CallR.or call_list_of (call_list_dK rfl)) (by rfl) T.b_list (by decide +kernel) (pa_cons (pv 4) pa_nil))))
        pss_nil)
        (pss_cons (ps_if (PW.pt (pw_and (pt_truth (pe_cl (T.ok_is_reference) hr (by decide) (fun _ => pz) rfl (pa_cons (pe_fld (pv 3) rfl) pa_nil)) fun _ => rfl) (pw_and1 (pt_cmpR op_isNotX (pv 4) pe_non (nomark _)))))
        (pss_one (ps_ret (pe_lst (pa_cons (pv 4) pa_nil))))
        pss_nil)
        (pss_one (ps_ret (pe_lst pa_nil))))))))
theorem Tx.ok_linked_numbers (T : Tx K mg) : Cl P w K mg base 3 "linked_numbers" (sp_linked_numbers K) [] := by
  obtain ⟨fd, F⟩ := T.d_linked_numbers
  have ok := fn_linked_numbers (P := P) (w := w) (base := base) T F
  exact ⟨_, fd, _, [], ok, T.g_linked_numbers, F.kp, (FunD.bindsN F fun _ _ _ _ _ _ us hl => match us, hl with | [_, _, _], _ => rfl), .nil⟩
theorem fn_walk_on (T : Tx K mg) {fd : FuncData} (F : FunD K "walk_on" "walk_on" (defArgs s_walk_on) (defBody s_walk_on) (defScope s_walk_on) [] [] (He.fAd K ("walk_on", none)) fd) : FnOk P w K mg base (L2.CX P w) 6 (He.fAd K ("walk_on", none)) fd ["reader", "schema", "numbers", "name"] (sp_walk_on K) := by
  refine F.ok sc_walk_on (fun vs H Q E h => h.1) (fun cdv A outer s H vs Q E hr h => ⟨_, ?_, h.2⟩)
  refine PSs.nox ?_
  exact (pss_cons (ps_set (i := 4) sc_walk_on.nd rfl (by first | exact Or.inl rfl | exact Or.inr rfl) (pe_lst pa_nil))
        (pss_cons (ps_for PassesOwn.never rfl (pi_any (pv 2)) (pg_name (i := 5) sc_walk_on.nd rfl (by first | exact Or.inl rfl | exact Or.inr rfl))
        (pss_cons (ps_set (i := 6) sc_walk_on.nd rfl (by first | exact Or.inl rfl | exact Or.inr rfl) (pe_mt1 (T.ok_Reader_thing) hr (by decide) (fun _ => pz) (pv 0) (pa_cons (pv 5) pa_nil)))
        (pss_one (ps_if (pt_cmpR op_isNotX (pv 6) pe_non (nomark _))
        (pss_one (ps_set (i := 4) sc_walk_on.nd rfl (by first | exact Or.inl rfl | exact Or.inr rfl) (pe_op op_addX (pv 4) (pe_cl (T.ok_linked_numbers) hr (by decide) (fun _ => pz) rfl (pa_cons (pv 1) (pa_cons (pv 6) (pa_cons (pv 3) pa_nil)))))))
        pss_nil))))
        (pss_one (ps_ret (pe_cl (T.ok_once_each) hr (by decide) (fun _ => pz) rfl (pa_cons (pv 4) pa_nil))))))
theorem Tx.ok_walk_on (T : Tx K mg) : Cl P w K mg base 6 "walk_on" (sp_walk_on K) [] := by
  obtain ⟨fd, F⟩ := T.d_walk_on
  have ok := fn_walk_on (P := P) (w := w) (base := base) T F
  exact ⟨_, fd, _, [], ok, T.g_walk_on, F.kp, (FunD.bindsN F fun _ _ _ _ _ _ us hl => match us, hl with | [_, _, _, _], _ => rfl), .nil⟩
theorem fn_read_ahead (T : Tx K mg) {fd : FuncData} (F : FunD K "read_ahead" "read_ahead" (defArgs s_read_ahead) (defBody s_read_ahead) (defScope s_read_ahead) [] [] (He.fAd K ("read_ahead", none)) fd) : FnOk P w K mg base (L2.CX P w) 7 (He.fAd K ("read_ahead", none)) fd ["reader", "schema", "numbers", "paths"] (sp_read_ahead K) := by
  refine F.ok sc_read_ahead (fun vs H Q E h => h.1) (fun cdv A outer s H vs Q E hr h => ⟨_, ?_, h.2⟩)
  refine PSs.nox ?_
  exact (pss_cons (ps_set (i := 4) sc_read_ahead.nd rfl (by first | exact Or.inl rfl | exact Or.inr rfl) (pe_cl (T.ok_once_each) hr (by decide) (fun _ => pz) rfl (pa_cons (pv 2) pa_nil)))
        (pss_cons (ps_expr (pe_mt1 (T.ok_Reader_together) hr (by decide) (fun _ => pz) (pv 0) (pa_cons (pv 4) pa_nil)))
        (pss_cons (ps_expr (pe_cl (T.ok_request_all) hr (by decide) (fun _ => pz) rfl (pa_cons (pv 0) (pa_cons (pv 4) pa_nil))))
        (pss_one (ps_for PassesOwn.never rfl (pi_any (pv 3)) (pg_name (i := 5) sc_read_ahead.nd rfl (by first | exact Or.inl rfl | exact Or.inr rfl))
        (pss_cons (ps_set (i := 6) sc_read_ahead.nd rfl (by first | exact Or.inl rfl | exact Or.inr rfl) (pv 4))
        (pss_one (ps_for PassesOwn.never rfl (pi_any (pv 5)) (pg_name (i := 7) sc_read_ahead.nd rfl (by first | exact Or.inl rfl | exact Or.inr rfl))
        (pss_cons (ps_set (i := 6) sc_read_ahead.nd rfl (by first | exact Or.inl rfl | exact Or.inr rfl) (pe_cl (T.ok_walk_on) hr (by decide) (fun _ => pz) rfl (pa_cons (pv 0) (pa_cons (pv 1) (pa_cons (pv 6) (pa_cons (pv 7) pa_nil))))))
        (pss_cons (ps_expr (pe_mt1 (T.ok_Reader_together) hr (by decide) (fun _ => pz) (pv 0) (pa_cons (pv 6) pa_nil)))
        (pss_one (ps_expr (pe_cl (T.ok_request_all) hr (by decide) (fun _ => pz) rfl (pa_cons (pv 0) (pa_cons (pv 6) pa_nil)))))))))))))))
theorem Tx.ok_read_ahead (T : Tx K mg) : Cl P w K mg base 7 "read_ahead" (sp_read_ahead K) [] := by
  obtain ⟨fd, F⟩ := T.d_read_ahead
  have ok := fn_read_ahead (P := P) (w := w) (base := base) T F
  exact ⟨_, fd, _, [], ok, T.g_read_ahead, F.kp, (FunD.bindsN F fun _ _ _ _ _ _ us hl => match us, hl with | [_, _, _, _], _ => rfl), .nil⟩
theorem fn__law_told_requests (T : Tx K mg) {fd : FuncData} (F : FunD K "_law_told_requests" "_law_told_requests" (defArgs s__law_told_requests) (defBody s__law_told_requests) (defScope s__law_told_requests) [] [] (He.fAd K ("_law_told_requests", none)) fd) : FnOk P w K mg base (L2.CX P w) 2 (He.fAd K ("_law_told_requests", none)) fd ["_law_reader"] (sp__law_told_requests K) := by
  refine F.ok sc__law_told_requests (fun vs H Q E h => h.1) (fun cdv A outer s H vs Q E hr h => ⟨_, ?_, h.2⟩)
  refine PSs.nox ?_
  exact (pss_one (ps_ret (pe_lc (own := [("_law_request_here", 1)]) rfl sc__law_told_requests.nd (pi_any (pe_mt0 (T.ok_Reader_take_requests) hr (by decide) (fun _ => pz) (pv 0))) (blkOk_by (N := ["_law_reader", "_law_request_here"]) (sc := defScope s__law_told_requests) (own := [("_law_request_here", 1)]) (by decide +kernel)) (fun _ _ _ _ _ => (pg_name (i := 1) sc__law_told_requests.nd rfl (by first | exact Or.inl rfl | exact Or.inr rfl))) (fun _ _ _ _ _ => pts_nil) (fun _ _ _ _ _ => (pe_tup (pa_cons (pe_fld (pv 1) rfl) (pa_cons (pe_fld (pv 1) rfl) pa_nil)))))))
theorem Tx.ok__law_told_requests (T : Tx K mg) : Cl P w K mg base 2 "_law_told_requests" (sp__law_told_requests K) [] := by
  obtain ⟨fd, F⟩ := T.d__law_told_requests
  have ok := fn__law_told_requests (P := P) (w := w) (base := base) T F
  exact ⟨_, fd, _, [], ok, T.g__law_told_requests, F.kp, (FunD.bindsN F fun _ _ _ _ _ _ us hl => match us, hl with | [_], _ => rfl), .nil⟩
theorem fn_law (T : Tx K mg) {fd : FuncData} (F : FunD K "law" "law" (defArgs s_law) (defBody s_law) (defScope s_law) [] [] (He.fAd K ("law", none)) fd) : FnG P w K mg base 8 (He.fAd K ("law", none)) fd ["_law_script"] (sp_law K) := by
  refine fnG F sc_law (fun vs H Q E h => h.1) (fun cdv A outer s H vs Q E gd hr h => ⟨_, ?_, h.2⟩)
  refine PSs.nox ?_
  exact (pss_cons (ps_set (i := 1) sc_law.nd rfl (by first | exact Or.inl rfl | exact Or.inr rfl) (pe_cl (T.ok__law_cells) hr (by decide) (fun _ => pz) rfl (pa_cons (pv 0) (pa_cons pe_int pa_nil))))
        (pss_cons (ps_set (i := 2) sc_law.nd rfl (by first | exact Or.inl rfl | exact Or.inr rfl) (pe_cl (T.ok__law_picture) hr (by decide) (fun _ => pz) rfl (pa_cons (pv 1) pa_nil)))
        (pss_cons (ps_set (i := 3) sc_law.nd rfl (by first | exact Or.inl rfl | exact Or.inr rfl) (pe_cl (T.ok__law_schema) hr (by decide) (fun _ => pz) rfl (pa_cons (pe_lst (pa_cons (pe_strE e_clears) (pa_cons (pe_strE e_refuses) (pa_cons (pe_strE e_takes) pa_nil)))) (pa_cons pe_bl pa_nil))))
        (pss_cons (ps_set (i := 4) sc_law.nd rfl (by first | exact Or.inl rfl | exact Or.inr rfl) (pe_mq (T.ok_Reader_init) hr (by decide) rfl (pa_cons (pe_mq (T.ok_PictureSource_init) hr (by decide) rfl (pa_cons (pv 2) pa_nil)) pa_nil)))
        (pss_cons (ps_set (i := 5) sc_law.nd rfl (by first | exact Or.inl rfl | exact Or.inr rfl) (pe_disp (pps_cons (pe_strE e_things) (pe_lst pa_nil) (pps_cons (pe_strE e_refs) (pe_lst pa_nil) (pps_cons (pe_strE e_together) pe_dnewK pps_nil))) rfl rfl (by decide) (by decide)))
        (pss_cons (ps_for PassesOwn.never rfl (pi_range1 rfl T.b_range (pa_cons (pe_cl (T.ok__law_draw) hr (by decide) (fun _ => pz) rfl (pa_cons (pv 1) (pa_cons pe_int pa_nil))) pa_nil)) (pg_name (i := 6) sc_law.nd rfl (by first | exact Or.inl rfl | exact Or.inr rfl))
        (pss_cons (ps_set (i := 7) sc_law.nd rfl (by first | exact Or.inl rfl | exact Or.inr rfl) (pe_op op_addX pe_int (pe_cl (T.ok__law_draw) hr (by decide) (fun _ => pz) rfl (pa_cons (pv 1) (pa_cons pe_int pa_nil)))))
        (pss_cons (ps_expr (pe_mt1 (T.ok_Reader_thing) hr (by decide) (fun _ => pz) (pv 4) (pa_cons (pv 7) pa_nil)))
        (pss_one (ps_expr (pe_cl (T.ok__law_read) hr (by decide) (fun _ => pz) rfl (pa_cons (pe_fz (pv 5)) (pa_cons (pv 7) pa_nil))))))))
        (pss_cons (ps_expr (pe_mt0 (T.ok_Reader_take_requests) hr (by decide) (fun _ => pz) (pv 4)))
        (pss_cons (ps_set (i := 8) sc_law.nd rfl (by first | exact Or.inl rfl | exact Or.inr rfl) (pe_cl (T.ok__law_numbers_row) hr (by decide) (fun _ => pz) rfl (pa_cons (pv 1) pa_nil)))
        (pss_cons (ps_set (i := 9) sc_law.nd rfl (by first | exact Or.inl rfl | exact Or.inr rfl) (pe_lst (pa_cons (pe_strE e_r) (pa_cons (pe_strE e_l) (pa_cons (pe_strE e_p) (pa_cons (pe_strE e_q) (pa_cons (pe_strE e_m) (pa_cons (pe_strE e_a) (pa_cons (pe_strE e_z) pa_nil)))))))))
        (pss_cons (ps_set (i := 10) sc_law.nd rfl (by first | exact Or.inl rfl | exact Or.inr rfl) (pe_lst pa_nil))
        (pss_cons (ps_for PassesOwn.never rfl (pi_range1 rfl T.b_range (pa_cons (pe_cl (T.ok__law_draw) hr (by decide) (fun _ => pz) rfl (pa_cons (pv 1) (pa_cons pe_int pa_nil))) pa_nil)) (pg_name (i := 6) sc_law.nd rfl (by first | exact Or.inl rfl | exact Or.inr rfl))
        (pss_one (ps_expr (pe_bm PySem.F.plainAttrs_list PySem.F.slot_list_append PySem.F.type_list_append mt_append (pv 10) (pa_cons (pe_lc (own := [("_law_step", 11)]) rfl sc_law.nd (pi_range1 rfl T.b_range (pa_cons (pe_op op_addX pe_int (pe_cl (T.ok__law_draw) hr (by decide) (fun _ => pz) rfl (pa_cons (pv 1) (pa_cons pe_int pa_nil)))) pa_nil)) (blkOk_by (N := ["_law_script", "_law_draws", "_law_picture_here", "_law_schema_here", "_law_reader", "_law_state", "_law_turn", "_law_number_here", "_law_numbers", "_law_names", "_law_paths", "_law_step", "_law_given", "_law_due"]) (sc := defScope s_law) (own := [("_law_step", 11)]) (by decide +kernel)) (fun _ _ _ _ _ => (pg_name (i := 11) sc_law.nd rfl (by first | exact Or.inl rfl | exact Or.inr rfl))) (fun _ _ _ _ _ => pts_nil) (fun _ _ _ _ _ => (pe_cl (T.ok__law_pick) hr (by decide) (fun _ => pz) rfl (pa_cons (pv 1) (pa_cons (pv 9) pa_nil))))) pa_nil)))))
        (pss_cons (ps_set (i := 12) sc_law.nd rfl (by first | exact Or.inl rfl | exact Or.inr rfl) (pe_callB (call_repr gd hr.units) (by rfl) T.b_repr (by decide +kernel) (pa_cons (pe_tup (pa_cons (pv 8) (pa_cons (pv 10) pa_nil))) pa_nil)))
        (pss_cons (ps_set (i := 13) sc_law.nd rfl (by first | exact Or.inl rfl | exact Or.inr rfl) (pe_cl (T.ok__law_walked) hr (by decide) (fun _ => pz) rfl (pa_cons (pe_fz (pv 5)) (pa_cons (pv 2) (pa_cons (pv 8) (pa_cons (pv 10) pa_nil))))))
        (pss_cons (ps_expr (pe_cl (T.ok_read_ahead) hr (by decide) (fun _ => pz) rfl (pa_cons (pv 4) (pa_cons (pv 3) (pa_cons (pv 8) (pa_cons (pv 10) pa_nil))))))
        (pss_cons (ps_if (PW.pt (pw_or (pt_cmpR (op_neX hr.units) (pe_cl (T.ok__law_told_requests) hr (by decide) (fun _ => pz) rfl (pa_cons (pv 4) pa_nil)) (pv 13) (nomark _)) (pw_or1 (pt_cmpR (op_neX hr.units) (pe_callB (call_repr gd hr.units) (by rfl) T.b_repr (by decide +kernel) (pa_cons (pe_tup (pa_cons (pv 8) (pa_cons (pv 10) pa_nil))) pa_nil)) (pv 12) (nomark _)))))
        (pss_one (ps_ret pe_bl))
        pss_nil)
        (pss_cons (ps_for PassesOwn.never rfl (pi_range2 rfl T.b_range (pa_cons pe_int (pa_cons pe_int pa_nil))) (pg_name (i := 7) sc_law.nd rfl (by first | exact Or.inl rfl | exact Or.inr rfl))
        (pss_one (ps_if (PW.pt (pw_or (pt_cmpR (op_neX hr.units) (pe_mt1 (T.ok_Reader_company) hr (by decide) (fun _ => pz) (pv 4) (pa_cons (pv 7) pa_nil)) (pe_cl (T.ok__law_company) hr (by decide) (fun _ => pz) rfl (pa_cons (pe_fz (pv 5)) (pa_cons (pv 7) pa_nil))) (nomark _)) (pw_or1 (pt_cmpR (op_neX hr.units) (pe_mt1 (T.ok_Reader_knows) hr (by decide) (fun _ => pz) (pv 4) (pa_cons (pv 7) pa_nil)) (pe_cmpR op_inX (pv 7) (pe_dget (u1 hr) (pv 5) (pe_strE e_things) fun _ _ => rfl) (by rfl)) (nomark _)))))
        (pss_one (ps_ret pe_bl))
        pss_nil)))
        (pss_one (ps_ret pe_bl))))))))))))))))))
theorem Tx.law (T : Tx K mg) : ∃ fd : FuncData, (∀ (s : Shared) (u : Value), BindsTo s fd ⟨[u], []⟩ [("_law_script", u)]) ∧ ∀ base : Heap, FnG P w K mg base 8 (He.ga K "law") fd ["_law_script"] (sp_law K) := by
  obtain ⟨fd, F⟩ := T.d_law
  have b := FunD.bindsA (ps := ["_law_script"]) F fun _ _ _ _ _ _ us hl => match us, hl with | [_], _ => rfl
  exact ⟨fd, fun s v => b s [v] rfl, fun base => fn_law T F⟩
end
end Lw

namespace Lw
open PySem PySem.W PySem.Calls PySem.Spec PyProof.Rows L2 G
def dd__law_cells : He.DefD := ⟨("_law_cells", none), "_law_cells", "_law_cells", defArgs s__law_cells, defBody s__law_cells, defScope s__law_cells, [], []⟩
def dd__law_draw : He.DefD := ⟨("_law_draw", none), "_law_draw", "_law_draw", defArgs s__law_draw, defBody s__law_draw, defScope s__law_draw, [], []⟩
def dd__law_pick : He.DefD := ⟨("_law_pick", none), "_law_pick", "_law_pick", defArgs s__law_pick, defBody s__law_pick, defScope s__law_pick, [], []⟩
def dd_content_copy : He.DefD := ⟨("content_copy", none), "content_copy", "content_copy", defArgs s_content_copy, defBody s_content_copy, defScope s_content_copy, [], []⟩
def dd_Thing_init : He.DefD := ⟨("Thing", some "__init__"), "__init__", "Thing.__init__", defArgs s_Thing_init, defBody s_Thing_init, defScope s_Thing_init, [], []⟩
def dd__law_number : He.DefD := ⟨("_law_number", none), "_law_number", "_law_number", defArgs s__law_number, defBody s__law_number, defScope s__law_number, [], []⟩
def dd__law_list : He.DefD := ⟨("_law_list", none), "_law_list", "_law_list", defArgs s__law_list, defBody s__law_list, defScope s__law_list, [], []⟩
def dd__law_contents : He.DefD := ⟨("_law_contents", none), "_law_contents", "_law_contents", defArgs s__law_contents, defBody s__law_contents, defScope s__law_contents, [], []⟩
def dd__law_picture : He.DefD := ⟨("_law_picture", none), "_law_picture", "_law_picture", defArgs s__law_picture, defBody s__law_picture, defScope s__law_picture, [], []⟩
def dd_Kind_init : He.DefD := ⟨("Kind", some "__init__"), "__init__", "Kind.__init__", defArgs s_Kind_init, defBody s_Kind_init, defScope s_Kind_init, [], []⟩
def dd_Field_init : He.DefD := ⟨("Field", some "__init__"), "__init__", "Field.__init__", defArgs s_Field_init, defBody s_Field_init, defScope s_Field_init, [(.bl false)], []⟩
def dd_IntSort_init : He.DefD := ⟨("IntSort", some "__init__"), "__init__", "IntSort.__init__", defArgs s_IntSort_init, defBody s_IntSort_init, defScope s_IntSort_init, [], []⟩
def dd_TextSort_init : He.DefD := ⟨("TextSort", some "__init__"), "__init__", "TextSort.__init__", defArgs s_TextSort_init, defBody s_TextSort_init, defScope s_TextSort_init, [.non], []⟩
def dd_RefSort_init : He.DefD := ⟨("RefSort", some "__init__"), "__init__", "RefSort.__init__", defArgs s_RefSort_init, defBody s_RefSort_init, defScope s_RefSort_init, [], []⟩
def dd_ListSort_init : He.DefD := ⟨("ListSort", some "__init__"), "__init__", "ListSort.__init__", defArgs s_ListSort_init, defBody s_ListSort_init, defScope s_ListSort_init, [], []⟩
def dd_Schema_init : He.DefD := ⟨("Schema", some "__init__"), "__init__", "Schema.__init__", defArgs s_Schema_init, defBody s_Schema_init, defScope s_Schema_init, [], []⟩
def dd__law_schema : He.DefD := ⟨("_law_schema", none), "_law_schema", "_law_schema", defArgs s__law_schema, defBody s__law_schema, defScope s__law_schema, [], []⟩
def dd_Reader_init : He.DefD := ⟨("Reader", some "__init__"), "__init__", "Reader.__init__", defArgs s_Reader_init, defBody s_Reader_init, defScope s_Reader_init, [], []⟩
def dd_PictureSource_init : He.DefD := ⟨("PictureSource", some "__init__"), "__init__", "PictureSource.__init__", defArgs s_PictureSource_init, defBody s_PictureSource_init, defScope s_PictureSource_init, [], []⟩
def dd_Reader_company : He.DefD := ⟨("Reader", some "company"), "company", "Reader.company", defArgs s_Reader_company, defBody s_Reader_company, defScope s_Reader_company, [], []⟩
def dd_Request_init : He.DefD := ⟨("Request", some "__init__"), "__init__", "Request.__init__", defArgs s_Request_init, defBody s_Request_init, defScope s_Request_init, [], []⟩
def dd_Reader__note : He.DefD := ⟨("Reader", some "_note"), "_note", "Reader._note", defArgs s_Reader__note, defBody s_Reader__note, defScope s_Reader__note, [], []⟩
def dd_PictureSource_thing : He.DefD := ⟨("PictureSource", some "thing"), "thing", "PictureSource.thing", defArgs s_PictureSource_thing, defBody s_PictureSource_thing, defScope s_PictureSource_thing, [], []⟩
def dd_Reader_learn : He.DefD := ⟨("Reader", some "learn"), "learn", "Reader.learn", defArgs s_Reader_learn, defBody s_Reader_learn, defScope s_Reader_learn, [], []⟩
def dd_Reader__batch : He.DefD := ⟨("Reader", some "_batch"), "_batch", "Reader._batch", defArgs s_Reader__batch, defBody s_Reader__batch, defScope s_Reader__batch, [], []⟩
def dd_Reader_thing : He.DefD := ⟨("Reader", some "thing"), "thing", "Reader.thing", defArgs s_Reader_thing, defBody s_Reader_thing, defScope s_Reader_thing, [], []⟩
def dd__law_company : He.DefD := ⟨("_law_company", none), "_law_company", "_law_company", defArgs s__law_company, defBody s__law_company, defScope s__law_company, [], []⟩
def dd__law_batch : He.DefD := ⟨("_law_batch", none), "_law_batch", "_law_batch", defArgs s__law_batch, defBody s__law_batch, defScope s__law_batch, [], []⟩
def dd__law_read : He.DefD := ⟨("_law_read", none), "_law_read", "_law_read", defArgs s__law_read, defBody s__law_read, defScope s__law_read, [], []⟩
def dd_Reader_take_requests : He.DefD := ⟨("Reader", some "take_requests"), "take_requests", "Reader.take_requests", defArgs s_Reader_take_requests, defBody s_Reader_take_requests, defScope s_Reader_take_requests, [], []⟩
def dd__law_numbers_row : He.DefD := ⟨("_law_numbers_row", none), "_law_numbers_row", "_law_numbers_row", defArgs s__law_numbers_row, defBody s__law_numbers_row, defScope s__law_numbers_row, [], []⟩
def dd__law_once : He.DefD := ⟨("_law_once", none), "_law_once", "_law_once", defArgs s__law_once, defBody s__law_once, defScope s__law_once, [], []⟩
def dd__law_come : He.DefD := ⟨("_law_come", none), "_law_come", "_law_come", defArgs s__law_come, defBody s__law_come, defScope s__law_come, [], []⟩
def dd__law_request : He.DefD := ⟨("_law_request", none), "_law_request", "_law_request", defArgs s__law_request, defBody s__law_request, defScope s__law_request, [], []⟩
def dd__law_held : He.DefD := ⟨("_law_held", none), "_law_held", "_law_held", defArgs s__law_held, defBody s__law_held, defScope s__law_held, [], []⟩
def dd__law_walked : He.DefD := ⟨("_law_walked", none), "_law_walked", "_law_walked", defArgs s__law_walked, defBody s__law_walked, defScope s__law_walked, [], []⟩
def dd_once_each : He.DefD := ⟨("once_each", none), "once_each", "once_each", defArgs s_once_each, defBody s_once_each, defScope s_once_each, [], []⟩
def dd_Reader_together : He.DefD := ⟨("Reader", some "together"), "together", "Reader.together", defArgs s_Reader_together, defBody s_Reader_together, defScope s_Reader_together, [], []⟩
def dd_Reader_knows : He.DefD := ⟨("Reader", some "knows"), "knows", "Reader.knows", defArgs s_Reader_knows, defBody s_Reader_knows, defScope s_Reader_knows, [], []⟩
def dd_request_all : He.DefD := ⟨("request_all", none), "request_all", "request_all", defArgs s_request_all, defBody s_request_all, defScope s_request_all, [], []⟩
def dd_Schema_kind_of : He.DefD := ⟨("Schema", some "kind_of"), "kind_of", "Schema.kind_of", defArgs s_Schema_kind_of, defBody s_Schema_kind_of, defScope s_Schema_kind_of, [], []⟩
def dd_Kind_field_of : He.DefD := ⟨("Kind", some "field_of"), "field_of", "Kind.field_of", defArgs s_Kind_field_of, defBody s_Kind_field_of, defScope s_Kind_field_of, [], []⟩
def dd_Schema_field_of : He.DefD := ⟨("Schema", some "field_of"), "field_of", "Schema.field_of", defArgs s_Schema_field_of, defBody s_Schema_field_of, defScope s_Schema_field_of, [], []⟩
def dd_is_list : He.DefD := ⟨("is_list", none), "is_list", "is_list", defArgs s_is_list, defBody s_is_list, defScope s_is_list, [], []⟩
def dd_is_reference : He.DefD := ⟨("is_reference", none), "is_reference", "is_reference", defArgs s_is_reference, defBody s_is_reference, defScope s_is_reference, [], []⟩
def dd_linked_numbers : He.DefD := ⟨("linked_numbers", none), "linked_numbers", "linked_numbers", defArgs s_linked_numbers, defBody s_linked_numbers, defScope s_linked_numbers, [], []⟩
def dd_walk_on : He.DefD := ⟨("walk_on", none), "walk_on", "walk_on", defArgs s_walk_on, defBody s_walk_on, defScope s_walk_on, [], []⟩
def dd_read_ahead : He.DefD := ⟨("read_ahead", none), "read_ahead", "read_ahead", defArgs s_read_ahead, defBody s_read_ahead, defScope s_read_ahead, [], []⟩
def dd__law_told_requests : He.DefD := ⟨("_law_told_requests", none), "_law_told_requests", "_law_told_requests", defArgs s__law_told_requests, defBody s__law_told_requests, defScope s__law_told_requests, [], []⟩
def dd_law : He.DefD := ⟨("law", none), "law", "law", defArgs s_law, defBody s_law, defScope s_law, [], []⟩
def gs : List DefP := []
def fn : List He.DefD := [dd__law_cells, dd__law_draw, dd__law_pick, dd_content_copy, dd_Thing_init, dd__law_number, dd__law_list, dd__law_contents, dd__law_picture, dd_Kind_init, dd_Field_init, dd_IntSort_init, dd_TextSort_init, dd_RefSort_init, dd_ListSort_init, dd_Schema_init, dd__law_schema, dd_Reader_init, dd_PictureSource_init, dd_Reader_company, dd_Request_init, dd_Reader__note, dd_PictureSource_thing, dd_Reader_learn, dd_Reader__batch, dd_Reader_thing, dd__law_company, dd__law_batch, dd__law_read, dd_Reader_take_requests, dd__law_numbers_row, dd__law_once, dd__law_come, dd__law_request, dd__law_held, dd__law_walked, dd_once_each, dd_Reader_together, dd_Reader_knows, dd_request_all, dd_Schema_kind_of, dd_Kind_field_of, dd_Schema_field_of, dd_is_list, dd_is_reference, dd_linked_numbers, dd_walk_on, dd_read_ahead, dd__law_told_requests, dd_law]
def fa : List He.Fa := [.glo "_law_cells", .glo "_law_draw", .glo "_law_pick", .glo "content_copy", .glo "_law_number", .glo "_law_list", .glo "_law_contents", .glo "_law_picture", .glo "_law_schema", .glo "_law_company", .glo "_law_batch", .glo "_law_read", .glo "_law_numbers_row", .glo "_law_once", .glo "_law_come", .glo "_law_request", .glo "_law_held", .glo "_law_walked", .glo "once_each", .glo "request_all", .glo "is_list", .glo "is_reference", .glo "linked_numbers", .glo "walk_on", .glo "read_ahead", .glo "_law_told_requests", .glo "law", .free "int", .free "isinstance", .free "len", .free "list", .free "range", .free "repr", .free "sorted", .int "MOST_ASKED" 10, .glo "IntSort", .cls "IntSort", .mkr "IntSort", .noat "IntSort" "high", .noat "IntSort" "low", .glo "TextSort", .cls "TextSort", .mkr "TextSort", .noat "TextSort" "longest", .noat "TextSort" "without", .glo "RefSort", .cls "RefSort", .mkr "RefSort", .noat "RefSort" "kinds", .noat "RefSort" "rule", .glo "ListSort", .cls "ListSort", .mkr "ListSort", .noat "ListSort" "kinds", .glo "Thing", .cls "Thing", .mkr "Thing", .noat "Thing" "contents", .noat "Thing" "kind", .glo "Request", .cls "Request", .mkr "Request", .noat "Request" "numbers", .noat "Request" "what", .glo "Reader", .cls "Reader", .meth "Reader" "_batch", .meth "Reader" "_note", .meth "Reader" "company", .meth "Reader" "knows", .meth "Reader" "learn", .meth "Reader" "take_requests", .meth "Reader" "thing", .meth "Reader" "together", .mkr "Reader", .noat "Reader" "_companies", .noat "Reader" "_referrers", .noat "Reader" "_requests", .noat "Reader" "_things", .noat "Reader" "base", .glo "PictureSource", .cls "PictureSource", .meth "PictureSource" "thing", .mkr "PictureSource", .noat "PictureSource" "shown", .glo "Field", .cls "Field", .mkr "Field", .noat "Field" "name", .noat "Field" "needed", .noat "Field" "shape", .glo "Kind", .cls "Kind", .meth "Kind" "field_of", .mkr "Kind", .noat "Kind" "fields", .noat "Kind" "key_rows", .noat "Kind" "name", .glo "Schema", .cls "Schema", .meth "Schema" "field_of", .meth "Schema" "kind_of", .mkr "Schema", .noat "Schema" "kinds"]
theorem kstr {K : PySem.W.Frag} {h : Heap} {mg : Str → Option Value} (X : K.In h) (G : h.Ns mainGlobals mg) {x z z' : Str} (ez : z = z') (c : (He.Fa.str x z).ok K = true) : ∃ u, mg x = some u ∧ RelV (.str z') u := by
  obtain ⟨t, e⟩ := He.str_ok X G c
  subst ez
  exact ⟨_, e, _, rfl⟩
theorem kint {K : PySem.W.Frag} {h : Heap} {mg : Str → Option Value} (X : K.In h) (G : h.Ns mainGlobals mg) {x : Str} {z : Int} (c : (He.Fa.int x z).ok K = true) : ∃ u, mg x = some u ∧ RelV (.int z) u := by
  obtain ⟨t, e⟩ := He.int_ok X G c
  exact ⟨_, e, _, rfl⟩
def exs : List (PySem.W.Frag → Bool) := [fIn "IntSort", fIsT "IntSort" "list" false, fIs "IntSort" "ListSort" false, fIs "IntSort" "RefSort" false, fIn "TextSort", fIsT "TextSort" "list" false, fIs "TextSort" "ListSort" false, fIs "TextSort" "RefSort" false, fIn "RefSort", fIsT "RefSort" "list" false, fIs "RefSort" "ListSort" false, fIs "RefSort" "RefSort" true, fIn "ListSort", fIsT "ListSort" "list" false, fIs "ListSort" "ListSort" true, fIs "ListSort" "RefSort" false, fIn "Thing", fIsT "Thing" "list" false, fIs "Thing" "ListSort" false, fIs "Thing" "RefSort" false, fIn "Request", fIsT "Request" "list" false, fIs "Request" "ListSort" false, fIs "Request" "RefSort" false, fIn "Reader", fIsT "Reader" "list" false, fIs "Reader" "ListSort" false, fIs "Reader" "RefSort" false, fIn "PictureSource", fIsT "PictureSource" "list" false, fIs "PictureSource" "ListSort" false, fIs "PictureSource" "RefSort" false, fIn "Field", fIsT "Field" "list" false, fIs "Field" "ListSort" false, fIs "Field" "RefSort" false, fIn "Kind", fIsT "Kind" "list" false, fIs "Kind" "ListSort" false, fIs "Kind" "RefSort" false, fIn "Schema", fIsT "Schema" "list" false, fIs "Schema" "ListSort" false, fIs "Schema" "RefSort" false, fTIs "NoneType" "ListSort" false, fTIs "bool" "ListSort" false, fTIs "int" "ListSort" false, fTIs "str" "ListSort" false, fTIs "list" "ListSort" false, fTIs "tuple" "ListSort" false, fTIs "dict" "ListSort" false, fTIs "NoneType" "RefSort" false, fTIs "bool" "RefSort" false, fTIs "int" "RefSort" false, fTIs "str" "RefSort" false, fTIs "list" "RefSort" false, fTIs "tuple" "RefSort" false, fTIs "dict" "RefSort" false]
theorem tx {K : PySem.W.Frag} {h : Heap} {mg : Str → Option Value} (X : K.In h) (G : h.Ns mainGlobals mg) (c : He.SaysD fa fn K) (x : allB exs K = true) (p : SaysP gs K) : Tx K mg where
  d__law_cells := c.def_ 0 (d := dd__law_cells) rfl
  d__law_draw := c.def_ 1 (d := dd__law_draw) rfl
  d__law_pick := c.def_ 2 (d := dd__law_pick) rfl
  d_content_copy := c.def_ 3 (d := dd_content_copy) rfl
  d_Thing_init := c.def_ 4 (d := dd_Thing_init) rfl
  d__law_number := c.def_ 5 (d := dd__law_number) rfl
  d__law_list := c.def_ 6 (d := dd__law_list) rfl
  d__law_contents := c.def_ 7 (d := dd__law_contents) rfl
  d__law_picture := c.def_ 8 (d := dd__law_picture) rfl
  d_Kind_init := c.def_ 9 (d := dd_Kind_init) rfl
  d_Field_init := c.def_ 10 (d := dd_Field_init) rfl
  d_IntSort_init := c.def_ 11 (d := dd_IntSort_init) rfl
  d_TextSort_init := c.def_ 12 (d := dd_TextSort_init) rfl
  d_RefSort_init := c.def_ 13 (d := dd_RefSort_init) rfl
  d_ListSort_init := c.def_ 14 (d := dd_ListSort_init) rfl
  d_Schema_init := c.def_ 15 (d := dd_Schema_init) rfl
  d__law_schema := c.def_ 16 (d := dd__law_schema) rfl
  d_Reader_init := c.def_ 17 (d := dd_Reader_init) rfl
  d_PictureSource_init := c.def_ 18 (d := dd_PictureSource_init) rfl
  d_Reader_company := c.def_ 19 (d := dd_Reader_company) rfl
  d_Request_init := c.def_ 20 (d := dd_Request_init) rfl
  d_Reader__note := c.def_ 21 (d := dd_Reader__note) rfl
  d_PictureSource_thing := c.def_ 22 (d := dd_PictureSource_thing) rfl
  d_Reader_learn := c.def_ 23 (d := dd_Reader_learn) rfl
  d_Reader__batch := c.def_ 24 (d := dd_Reader__batch) rfl
  d_Reader_thing := c.def_ 25 (d := dd_Reader_thing) rfl
  d__law_company := c.def_ 26 (d := dd__law_company) rfl
  d__law_batch := c.def_ 27 (d := dd__law_batch) rfl
  d__law_read := c.def_ 28 (d := dd__law_read) rfl
  d_Reader_take_requests := c.def_ 29 (d := dd_Reader_take_requests) rfl
  d__law_numbers_row := c.def_ 30 (d := dd__law_numbers_row) rfl
  d__law_once := c.def_ 31 (d := dd__law_once) rfl
  d__law_come := c.def_ 32 (d := dd__law_come) rfl
  d__law_request := c.def_ 33 (d := dd__law_request) rfl
  d__law_held := c.def_ 34 (d := dd__law_held) rfl
  d__law_walked := c.def_ 35 (d := dd__law_walked) rfl
  d_once_each := c.def_ 36 (d := dd_once_each) rfl
  d_Reader_together := c.def_ 37 (d := dd_Reader_together) rfl
  d_Reader_knows := c.def_ 38 (d := dd_Reader_knows) rfl
  d_request_all := c.def_ 39 (d := dd_request_all) rfl
  d_Schema_kind_of := c.def_ 40 (d := dd_Schema_kind_of) rfl
  d_Kind_field_of := c.def_ 41 (d := dd_Kind_field_of) rfl
  d_Schema_field_of := c.def_ 42 (d := dd_Schema_field_of) rfl
  d_is_list := c.def_ 43 (d := dd_is_list) rfl
  d_is_reference := c.def_ 44 (d := dd_is_reference) rfl
  d_linked_numbers := c.def_ 45 (d := dd_linked_numbers) rfl
  d_walk_on := c.def_ 46 (d := dd_walk_on) rfl
  d_read_ahead := c.def_ 47 (d := dd_read_ahead) rfl
  d__law_told_requests := c.def_ 48 (d := dd__law_told_requests) rfl
  d_law := c.def_ 49 (d := dd_law) rfl
  g__law_cells := He.glo_ok X G (c.fact 0 (f := .glo "_law_cells") rfl)
  g__law_draw := He.glo_ok X G (c.fact 1 (f := .glo "_law_draw") rfl)
  g__law_pick := He.glo_ok X G (c.fact 2 (f := .glo "_law_pick") rfl)
  g_content_copy := He.glo_ok X G (c.fact 3 (f := .glo "content_copy") rfl)
  g__law_number := He.glo_ok X G (c.fact 4 (f := .glo "_law_number") rfl)
  g__law_list := He.glo_ok X G (c.fact 5 (f := .glo "_law_list") rfl)
  g__law_contents := He.glo_ok X G (c.fact 6 (f := .glo "_law_contents") rfl)
  g__law_picture := He.glo_ok X G (c.fact 7 (f := .glo "_law_picture") rfl)
  g__law_schema := He.glo_ok X G (c.fact 8 (f := .glo "_law_schema") rfl)
  g__law_company := He.glo_ok X G (c.fact 9 (f := .glo "_law_company") rfl)
  g__law_batch := He.glo_ok X G (c.fact 10 (f := .glo "_law_batch") rfl)
  g__law_read := He.glo_ok X G (c.fact 11 (f := .glo "_law_read") rfl)
  g__law_numbers_row := He.glo_ok X G (c.fact 12 (f := .glo "_law_numbers_row") rfl)
  g__law_once := He.glo_ok X G (c.fact 13 (f := .glo "_law_once") rfl)
  g__law_come := He.glo_ok X G (c.fact 14 (f := .glo "_law_come") rfl)
  g__law_request := He.glo_ok X G (c.fact 15 (f := .glo "_law_request") rfl)
  g__law_held := He.glo_ok X G (c.fact 16 (f := .glo "_law_held") rfl)
  g__law_walked := He.glo_ok X G (c.fact 17 (f := .glo "_law_walked") rfl)
  g_once_each := He.glo_ok X G (c.fact 18 (f := .glo "once_each") rfl)
  g_request_all := He.glo_ok X G (c.fact 19 (f := .glo "request_all") rfl)
  g_is_list := He.glo_ok X G (c.fact 20 (f := .glo "is_list") rfl)
  g_is_reference := He.glo_ok X G (c.fact 21 (f := .glo "is_reference") rfl)
  g_linked_numbers := He.glo_ok X G (c.fact 22 (f := .glo "linked_numbers") rfl)
  g_walk_on := He.glo_ok X G (c.fact 23 (f := .glo "walk_on") rfl)
  g_read_ahead := He.glo_ok X G (c.fact 24 (f := .glo "read_ahead") rfl)
  g__law_told_requests := He.glo_ok X G (c.fact 25 (f := .glo "_law_told_requests") rfl)
  g_law := He.glo_ok X G (c.fact 26 (f := .glo "law") rfl)
  b_int := He.free_ok X G (c.fact 27 (f := .free "int") rfl)
  b_isinstance := He.free_ok X G (c.fact 28 (f := .free "isinstance") rfl)
  b_len := He.free_ok X G (c.fact 29 (f := .free "len") rfl)
  b_list := He.free_ok X G (c.fact 30 (f := .free "list") rfl)
  b_range := He.free_ok X G (c.fact 31 (f := .free "range") rfl)
  b_repr := He.free_ok X G (c.fact 32 (f := .free "repr") rfl)
  b_sorted := He.free_ok X G (c.fact 33 (f := .free "sorted") rfl)
  k_MOST_ASKED := kint X G (c.fact 34 (f := .int "MOST_ASKED" 10) rfl)
  gc_IntSort := He.glo_ok X G (c.fact 35 (f := .glo "IntSort") rfl)
  cl_IntSort := He.cls_ok (c.fact 36 (f := .cls "IntSort") rfl)
  mk_IntSort := He.mkr_ok (c.fact 37 (f := .mkr "IntSort") rfl)
  no_IntSort_high := He.noat_ok (c.fact 38 (f := .noat "IntSort" "high") rfl)
  no_IntSort_low := He.noat_ok (c.fact 39 (f := .noat "IntSort" "low") rfl)
  gc_TextSort := He.glo_ok X G (c.fact 40 (f := .glo "TextSort") rfl)
  cl_TextSort := He.cls_ok (c.fact 41 (f := .cls "TextSort") rfl)
  mk_TextSort := He.mkr_ok (c.fact 42 (f := .mkr "TextSort") rfl)
  no_TextSort_longest := He.noat_ok (c.fact 43 (f := .noat "TextSort" "longest") rfl)
  no_TextSort_without := He.noat_ok (c.fact 44 (f := .noat "TextSort" "without") rfl)
  gc_RefSort := He.glo_ok X G (c.fact 45 (f := .glo "RefSort") rfl)
  cl_RefSort := He.cls_ok (c.fact 46 (f := .cls "RefSort") rfl)
  mk_RefSort := He.mkr_ok (c.fact 47 (f := .mkr "RefSort") rfl)
  no_RefSort_kinds := He.noat_ok (c.fact 48 (f := .noat "RefSort" "kinds") rfl)
  no_RefSort_rule := He.noat_ok (c.fact 49 (f := .noat "RefSort" "rule") rfl)
  gc_ListSort := He.glo_ok X G (c.fact 50 (f := .glo "ListSort") rfl)
  cl_ListSort := He.cls_ok (c.fact 51 (f := .cls "ListSort") rfl)
  mk_ListSort := He.mkr_ok (c.fact 52 (f := .mkr "ListSort") rfl)
  no_ListSort_kinds := He.noat_ok (c.fact 53 (f := .noat "ListSort" "kinds") rfl)
  gc_Thing := He.glo_ok X G (c.fact 54 (f := .glo "Thing") rfl)
  cl_Thing := He.cls_ok (c.fact 55 (f := .cls "Thing") rfl)
  mk_Thing := He.mkr_ok (c.fact 56 (f := .mkr "Thing") rfl)
  no_Thing_contents := He.noat_ok (c.fact 57 (f := .noat "Thing" "contents") rfl)
  no_Thing_kind := He.noat_ok (c.fact 58 (f := .noat "Thing" "kind") rfl)
  gc_Request := He.glo_ok X G (c.fact 59 (f := .glo "Request") rfl)
  cl_Request := He.cls_ok (c.fact 60 (f := .cls "Request") rfl)
  mk_Request := He.mkr_ok (c.fact 61 (f := .mkr "Request") rfl)
  no_Request_numbers := He.noat_ok (c.fact 62 (f := .noat "Request" "numbers") rfl)
  no_Request_what := He.noat_ok (c.fact 63 (f := .noat "Request" "what") rfl)
  gc_Reader := He.glo_ok X G (c.fact 64 (f := .glo "Reader") rfl)
  cl_Reader := He.cls_ok (c.fact 65 (f := .cls "Reader") rfl)
  me_Reader__batch := He.meth_ok (c.fact 66 (f := .meth "Reader" "_batch") rfl)
  me_Reader__note := He.meth_ok (c.fact 67 (f := .meth "Reader" "_note") rfl)
  me_Reader_company := He.meth_ok (c.fact 68 (f := .meth "Reader" "company") rfl)
  me_Reader_knows := He.meth_ok (c.fact 69 (f := .meth "Reader" "knows") rfl)
  me_Reader_learn := He.meth_ok (c.fact 70 (f := .meth "Reader" "learn") rfl)
  me_Reader_take_requests := He.meth_ok (c.fact 71 (f := .meth "Reader" "take_requests") rfl)
  me_Reader_thing := He.meth_ok (c.fact 72 (f := .meth "Reader" "thing") rfl)
  me_Reader_together := He.meth_ok (c.fact 73 (f := .meth "Reader" "together") rfl)
  mk_Reader := He.mkr_ok (c.fact 74 (f := .mkr "Reader") rfl)
  no_Reader__companies := He.noat_ok (c.fact 75 (f := .noat "Reader" "_companies") rfl)
  no_Reader__referrers := He.noat_ok (c.fact 76 (f := .noat "Reader" "_referrers") rfl)
  no_Reader__requests := He.noat_ok (c.fact 77 (f := .noat "Reader" "_requests") rfl)
  no_Reader__things := He.noat_ok (c.fact 78 (f := .noat "Reader" "_things") rfl)
  no_Reader_base := He.noat_ok (c.fact 79 (f := .noat "Reader" "base") rfl)
  gc_PictureSource := He.glo_ok X G (c.fact 80 (f := .glo "PictureSource") rfl)
  cl_PictureSource := He.cls_ok (c.fact 81 (f := .cls "PictureSource") rfl)
  me_PictureSource_thing := He.meth_ok (c.fact 82 (f := .meth "PictureSource" "thing") rfl)
  mk_PictureSource := He.mkr_ok (c.fact 83 (f := .mkr "PictureSource") rfl)
  no_PictureSource_shown := He.noat_ok (c.fact 84 (f := .noat "PictureSource" "shown") rfl)
  gc_Field := He.glo_ok X G (c.fact 85 (f := .glo "Field") rfl)
  cl_Field := He.cls_ok (c.fact 86 (f := .cls "Field") rfl)
  mk_Field := He.mkr_ok (c.fact 87 (f := .mkr "Field") rfl)
  no_Field_name := He.noat_ok (c.fact 88 (f := .noat "Field" "name") rfl)
  no_Field_needed := He.noat_ok (c.fact 89 (f := .noat "Field" "needed") rfl)
  no_Field_shape := He.noat_ok (c.fact 90 (f := .noat "Field" "shape") rfl)
  gc_Kind := He.glo_ok X G (c.fact 91 (f := .glo "Kind") rfl)
  cl_Kind := He.cls_ok (c.fact 92 (f := .cls "Kind") rfl)
  me_Kind_field_of := He.meth_ok (c.fact 93 (f := .meth "Kind" "field_of") rfl)
  mk_Kind := He.mkr_ok (c.fact 94 (f := .mkr "Kind") rfl)
  no_Kind_fields := He.noat_ok (c.fact 95 (f := .noat "Kind" "fields") rfl)
  no_Kind_key_rows := He.noat_ok (c.fact 96 (f := .noat "Kind" "key_rows") rfl)
  no_Kind_name := He.noat_ok (c.fact 97 (f := .noat "Kind" "name") rfl)
  gc_Schema := He.glo_ok X G (c.fact 98 (f := .glo "Schema") rfl)
  cl_Schema := He.cls_ok (c.fact 99 (f := .cls "Schema") rfl)
  me_Schema_field_of := He.meth_ok (c.fact 100 (f := .meth "Schema" "field_of") rfl)
  me_Schema_kind_of := He.meth_ok (c.fact 101 (f := .meth "Schema" "kind_of") rfl)
  mk_Schema := He.mkr_ok (c.fact 102 (f := .mkr "Schema") rfl)
  no_Schema_kinds := He.noat_ok (c.fact 103 (f := .noat "Schema" "kinds") rfl)
  if_IntSort := fIn_ok (allB_at x 0 (f := fIn "IntSort") rfl)
  it_IntSort_list := fIsT_ok (allB_at x 1 (f := fIsT "IntSort" "list" false) rfl)
  is_IntSort_ListSort := fIs_ok (allB_at x 2 (f := fIs "IntSort" "ListSort" false) rfl)
  is_IntSort_RefSort := fIs_ok (allB_at x 3 (f := fIs "IntSort" "RefSort" false) rfl)
  if_TextSort := fIn_ok (allB_at x 4 (f := fIn "TextSort") rfl)
  it_TextSort_list := fIsT_ok (allB_at x 5 (f := fIsT "TextSort" "list" false) rfl)
  is_TextSort_ListSort := fIs_ok (allB_at x 6 (f := fIs "TextSort" "ListSort" false) rfl)
  is_TextSort_RefSort := fIs_ok (allB_at x 7 (f := fIs "TextSort" "RefSort" false) rfl)
  if_RefSort := fIn_ok (allB_at x 8 (f := fIn "RefSort") rfl)
  it_RefSort_list := fIsT_ok (allB_at x 9 (f := fIsT "RefSort" "list" false) rfl)
  is_RefSort_ListSort := fIs_ok (allB_at x 10 (f := fIs "RefSort" "ListSort" false) rfl)
  is_RefSort_RefSort := fIs_ok (allB_at x 11 (f := fIs "RefSort" "RefSort" true) rfl)
  if_ListSort := fIn_ok (allB_at x 12 (f := fIn "ListSort") rfl)
  it_ListSort_list := fIsT_ok (allB_at x 13 (f := fIsT "ListSort" "list" false) rfl)
  is_ListSort_ListSort := fIs_ok (allB_at x 14 (f := fIs "ListSort" "ListSort" true) rfl)
  is_ListSort_RefSort := fIs_ok (allB_at x 15 (f := fIs "ListSort" "RefSort" false) rfl)
  if_Thing := fIn_ok (allB_at x 16 (f := fIn "Thing") rfl)
  it_Thing_list := fIsT_ok (allB_at x 17 (f := fIsT "Thing" "list" false) rfl)
  is_Thing_ListSort := fIs_ok (allB_at x 18 (f := fIs "Thing" "ListSort" false) rfl)
  is_Thing_RefSort := fIs_ok (allB_at x 19 (f := fIs "Thing" "RefSort" false) rfl)
  if_Request := fIn_ok (allB_at x 20 (f := fIn "Request") rfl)
  it_Request_list := fIsT_ok (allB_at x 21 (f := fIsT "Request" "list" false) rfl)
  is_Request_ListSort := fIs_ok (allB_at x 22 (f := fIs "Request" "ListSort" false) rfl)
  is_Request_RefSort := fIs_ok (allB_at x 23 (f := fIs "Request" "RefSort" false) rfl)
  if_Reader := fIn_ok (allB_at x 24 (f := fIn "Reader") rfl)
  it_Reader_list := fIsT_ok (allB_at x 25 (f := fIsT "Reader" "list" false) rfl)
  is_Reader_ListSort := fIs_ok (allB_at x 26 (f := fIs "Reader" "ListSort" false) rfl)
  is_Reader_RefSort := fIs_ok (allB_at x 27 (f := fIs "Reader" "RefSort" false) rfl)
  if_PictureSource := fIn_ok (allB_at x 28 (f := fIn "PictureSource") rfl)
  it_PictureSource_list := fIsT_ok (allB_at x 29 (f := fIsT "PictureSource" "list" false) rfl)
  is_PictureSource_ListSort := fIs_ok (allB_at x 30 (f := fIs "PictureSource" "ListSort" false) rfl)
  is_PictureSource_RefSort := fIs_ok (allB_at x 31 (f := fIs "PictureSource" "RefSort" false) rfl)
  if_Field := fIn_ok (allB_at x 32 (f := fIn "Field") rfl)
  it_Field_list := fIsT_ok (allB_at x 33 (f := fIsT "Field" "list" false) rfl)
  is_Field_ListSort := fIs_ok (allB_at x 34 (f := fIs "Field" "ListSort" false) rfl)
  is_Field_RefSort := fIs_ok (allB_at x 35 (f := fIs "Field" "RefSort" false) rfl)
  if_Kind := fIn_ok (allB_at x 36 (f := fIn "Kind") rfl)
  it_Kind_list := fIsT_ok (allB_at x 37 (f := fIsT "Kind" "list" false) rfl)
  is_Kind_ListSort := fIs_ok (allB_at x 38 (f := fIs "Kind" "ListSort" false) rfl)
  is_Kind_RefSort := fIs_ok (allB_at x 39 (f := fIs "Kind" "RefSort" false) rfl)
  if_Schema := fIn_ok (allB_at x 40 (f := fIn "Schema") rfl)
  it_Schema_list := fIsT_ok (allB_at x 41 (f := fIsT "Schema" "list" false) rfl)
  is_Schema_ListSort := fIs_ok (allB_at x 42 (f := fIs "Schema" "ListSort" false) rfl)
  is_Schema_RefSort := fIs_ok (allB_at x 43 (f := fIs "Schema" "RefSort" false) rfl)
  ti_NoneType_ListSort := fTIs_ok (allB_at x 44 (f := fTIs "NoneType" "ListSort" false) rfl)
  ti_bool_ListSort := fTIs_ok (allB_at x 45 (f := fTIs "bool" "ListSort" false) rfl)
  ti_int_ListSort := fTIs_ok (allB_at x 46 (f := fTIs "int" "ListSort" false) rfl)
  ti_str_ListSort := fTIs_ok (allB_at x 47 (f := fTIs "str" "ListSort" false) rfl)
  ti_list_ListSort := fTIs_ok (allB_at x 48 (f := fTIs "list" "ListSort" false) rfl)
  ti_tuple_ListSort := fTIs_ok (allB_at x 49 (f := fTIs "tuple" "ListSort" false) rfl)
  ti_dict_ListSort := fTIs_ok (allB_at x 50 (f := fTIs "dict" "ListSort" false) rfl)
  ti_NoneType_RefSort := fTIs_ok (allB_at x 51 (f := fTIs "NoneType" "RefSort" false) rfl)
  ti_bool_RefSort := fTIs_ok (allB_at x 52 (f := fTIs "bool" "RefSort" false) rfl)
  ti_int_RefSort := fTIs_ok (allB_at x 53 (f := fTIs "int" "RefSort" false) rfl)
  ti_str_RefSort := fTIs_ok (allB_at x 54 (f := fTIs "str" "RefSort" false) rfl)
  ti_list_RefSort := fTIs_ok (allB_at x 55 (f := fTIs "list" "RefSort" false) rfl)
  ti_tuple_RefSort := fTIs_ok (allB_at x 56 (f := fTIs "tuple" "RefSort" false) rfl)
  ti_dict_RefSort := fTIs_ok (allB_at x 57 (f := fTIs "dict" "RefSort" false) rfl)
abbrev R : PySem.W.OpenRow := PySem.W.OpenLaw.row PySem.Challenge.rw_oneheap_k78_reading_ahead
abbrev hk : PySem.W.Hook := G.hookZ 5 fa fn gs (allB exs) (fun _ => none) none (fun _ => true)
def ob (s : PySem.W.SharedT) : G.AlZ := G.obsZ 5 fa fn gs (allB exs) (fun _ => none) (fun _ => true) (HandSHeadRun.getT s)
theorem ob_eq (s : PySem.W.SharedT) : ob s = hk.obs s.abs := G.obsZ_eq (HandSHeadRun.getT_eq s)
def nm : List Str := [("_wall" : Str), ("is_whole" : Str), ("IntSort" : Str), ("TextSort" : Str), ("RefSort" : Str), ("ListSort" : Str), ("is_list" : Str), ("is_reference" : Str), ("Thing" : Str), ("content_copy" : Str), ("Request" : Str), ("once_each" : Str), ("Reader" : Str), ("linked_numbers" : Str), ("request_all" : Str), ("walk_on" : Str), ("read_ahead" : Str), ("PictureSource" : Str), ("Field" : Str), ("Kind" : Str), ("Schema" : Str), ("_law_cells" : Str), ("_law_draw" : Str), ("_law_pick" : Str), ("_law_schema" : Str), ("_law_number" : Str), ("_law_list" : Str), ("_law_contents" : Str), ("_law_picture" : Str), ("_law_once" : Str), ("_law_company" : Str), ("_law_come" : Str), ("_law_batch" : Str), ("_law_read" : Str), ("_law_told_requests" : Str), ("_law_numbers_row" : Str), ("_law_held" : Str), ("_law_request" : Str), ("_law_walked" : Str), ("MOST_ASKED" : Str)]
noncomputable abbrev EndR (w : World) (os : OsState) : Option PySem.W.SharedT := HandSHeadRun.endF (HandSHeadRun.stepQ (HandSHeadRun.denQ HandSHeadRun.tabQ) R.prog w) 6000 R.prog w os
abbrev Ks (s : PySem.W.SharedT) : PySem.W.Frag := He.frT (HandSHeadRun.getT s) (asY (HandSHeadRun.getT s) 5)
theorem map2 {α β γ : Type} {o : Option α} {f : α → β} {g : α → γ} {b : β} {c : γ} (h1 : o.map f = some b) (h2 : o.map g = some c) : o.map (fun s => (f s, g s)) = some (b, c) := by
  cases o with
  | none => cases h1
  | some a =>
    injection h1 with h1
    injection h2 with h2
    subst h1 h2
    rfl
theorem mapA {α : Type} {o : Option α} {f g : α → Bool} (h1 : o.map f = some true) (h2 : o.map g = some true) : o.map (fun s => f s && g s) = some true := by
  cases o with
  | none => cases h1
  | some a =>
    injection h1 with h1
    injection h2 with h2
    show some (f a && g a) = _
    rw [h1, h2]
    rfl
theorem run_a (w : World) (os : OsState) : (EndR w os).map (fun s => HandSHeadRun.looksF R.prog (boot_heap w.params) s.abs) = some true := by kernel_rfl
theorem run_b (w : World) (os : OsState) : (EndR w os).map (fun s => HandSHeadRun.seenQ (PySem.W.view R.prog [47]) nm (importedModules R.prog.main.body) (fun s => xlAt (PySem.W.view R.prog [47]) [] s && recOk R.toRowW.records s) s.abs) = some (openGood (PySem.W.view R.prog [47]) nm) := by kernel_rfl
theorem run_c (w : World) (os : OsState) : (EndR w os).map (fun s => (fa.all fun f => f.ok (Ks s))) = some true := by kernel_rfl
theorem run_d (w : World) (os : OsState) : (EndR w os).map (fun s => (fn.all fun d => d.ok (Ks s))) = some true := by kernel_rfl
theorem run_e (w : World) (os : OsState) : (EndR w os).map (fun s => (fn.map fun d => He.fnW (Ks s) d.at_)) = some (fn.map He.DefD.val) := by kernel_rfl
theorem run_f (w : World) (os : OsState) : (EndR w os).map (fun s => ((gs.map fun d => fnA (Ks s) (pAd (Ks s) d.cls d.name)), ((none : FnC)))) = some (gs.map DefP.val, none) := by kernel_rfl
theorem run_g (w : World) (os : OsState) : (EndR w os).map (fun s => (allB exs (Ks s) && ((true) && gs.all fun d => d.ok (Ks s)))) = some true := by kernel_rfl
theorem run_ob (w : World) (os : OsState) : (EndR w os).map (fun s => ob s) = some (hk.val w) := by
  have h := map2 (map2 (mapA (run_c w os) (run_d w os)) (run_e w os)) (map2 (run_f w os) (run_g w os))
  revert h
  generalize EndR w os = z
  cases z with
  | none => intro h; cases h
  | some s =>
    intro h
    injection h with h
    have h1 := congrArg (fun x => x.1) h
    have h2 := congrArg (fun x => x.2.1.1) h
    have h3 := congrArg (fun x => x.2.1.2) h
    have h4 := congrArg (fun x => x.2.2) h
    exact congrArg some (Prod.ext h1 (Prod.ext h2 (Prod.ext h3 h4)))
theorem run (w : World) : HandSHeadRun.RunEq R (PySem.W.view R.prog [47]) hk ob 6000 nm w := fun os => map2 (run_a w os) (map2 (run_b w os) (run_ob w os))
end Lw

local macro_rules | `(tactic| walk_at "go1") => `(tactic| first
  | with_reducible refine G.g_seq ?_
  | (with_reducible show L2.tVar _ _ _ _; refine G.g_var rfl ?_)
  | with_reducible refine G.g_c ?_
  | with_reducible refine G.g_op ?_
  | with_reducible refine G.g_asg ?_
  | with_reducible refine G.g_if ?_
  | with_reducible refine G.g_test ?_
  | with_reducible refine G.g_k ?_
  | with_reducible refine G.g_tru ?_
  | with_reducible refine G.v_truB ?_
  | with_reducible refine G.v_truN ?_
  | with_reducible refine L2.iteT ?_
  | with_reducible refine L2.iteF ?_
  | with_reducible refine G.iteNT ?_
  | with_reducible refine G.iteNF ?_
  | with_reducible refine G.v_addI ?_
  | with_reducible refine G.v_sub ?_
  | with_reducible refine G.v_lt ?_
  | with_reducible refine G.v_le ?_
  | with_reducible refine G.v_gt ?_
  | with_reducible refine G.v_ge ?_
  | with_reducible refine G.v_eqI ?_
  | with_reducible refine G.v_eqT ?_
  | with_reducible refine G.v_eqB ?_
  | with_reducible refine G.v_neI ?_
  | with_reducible refine G.v_neT ?_
  | with_reducible refine G.v_neB ?_
  | with_reducible refine G.v_inC ?_
  | with_reducible refine G.v_notInC ?_
  | with_reducible refine G.v_isN ?_
  | with_reducible refine G.v_isNotN ?_
  | with_reducible refine G.v_isB ?_
  | with_reducible refine G.v_isNotB ?_
  | with_reducible refine G.g_chain ?_
  | with_reducible refine G.v_find ?_
  | with_reducible refine G.g_meth1 ?_
  | with_reducible refine G.g_yes ?_
  | with_reducible refine G.g_lstRg ?_
  | with_reducible refine G.v_intI ?_
  | with_reducible refine G.g_callB ?_
  | with_reducible refine G.g_call ?_
  | with_reducible refine G.g_nil ?_
  | with_reducible refine G.g_cons ?_
  | with_reducible refine G.g_and ?_
  | with_reducible refine G.g_or ?_
  | with_reducible refine G.g_not ?_
  | with_reducible refine G.g_andV ?_
  | with_reducible refine G.g_orV ?_
  | with_reducible refine G.g_notV ?_
  | with_reducible refine G.g_ifE ?_
  | with_reducible refine G.g_un ?_
  | with_reducible refine G.g_tupK ?_
  | with_reducible refine G.g_lstK ?_
  | with_reducible refine G.g_small (Nat.le_of_ble_eq_true rfl) ?_
  | with_reducible refine G.g_drop ?_
  | with_reducible refine G.g_ret ?_
  | with_reducible refine G.g_retN ?_
  | with_reducible refine G.g_next ?_
  | with_reducible refine G.g_brk ?_
  | with_reducible refine G.g_cont ?_
  | with_reducible refine G.g_for ?_
  | with_reducible refine G.g_name ?_
  | with_reducible refine G.g_rng1 ?_
  | with_reducible refine G.g_rng2 ?_
  | with_reducible refine G.g_bm ?_
  | with_reducible refine G.g_bm0 ?_
  | with_reducible refine G.g_tyS ?_
  | with_reducible refine G.g_m1 ?_
  | with_reducible refine G.g_isS ?_
  | with_reducible refine G.v_starts3 ?_
  | with_reducible refine G.g_sl ?_
  | with_reducible refine G.g_no ?_
  | with_reducible refine G.g_part ?_
  | with_reducible refine G.g_isI ?_
  | with_reducible refine G.g_makeK ?_
  | with_reducible refine G.g_fld ?_
  | with_reducible refine G.g_sfld ?_
  | with_reducible refine G.g_asgG ?_
  | with_reducible refine G.g_sub ?_
  | with_reducible refine G.g_gcons ?_
  | with_reducible refine G.g_gnil ?_
  | with_reducible refine G.v_mulI (by unfold L2.CMul; first | (left; omega) | (right; omega)) ?_
  | with_reducible refine G.v_mod (by omega) ?_
  | with_reducible refine G.v_div (by unfold L2.CDiv; omega) ?_
  | with_reducible refine G.v_leS ?_
  | with_reducible refine G.g_raise ?_
  | with_reducible refine G.v_neg ?_
  | with_reducible refine G.g_lcK ?_
  | with_reducible refine G.g_wt ?_
  | with_reducible refine G.g_prop ?_
  | with_reducible refine G.g_joinE ?_
  | with_reducible refine G.g_jsC ?_
  | with_reducible refine G.g_jsN ?_
  | with_reducible refine G.g_fmt ?_
  | with_reducible refine G.g_fz ?_
  | with_reducible refine G.g_dget ?_
  | with_reducible refine G.g_din ?_
  | with_reducible refine G.g_dnin ?_
  | with_reducible refine G.g_dget1 ?_
  | with_reducible refine G.g_dnew ?_
  | with_reducible refine G.g_dput ?_
  | with_reducible refine G.g_dcK ?_
  | with_reducible refine G.gi_keys ?_
  | walk_at "fld")
local macro_rules | `(tactic| walk_at "sm") => `(tactic| first
  | assumption
  | exact L2.Same.refl _
  | exact G.HH.sub (by assumption)
  | (refine L2.Same.trans (by assumption) ?_; walk_at "sm"))
local macro_rules | `(tactic| walk_at "at") => `(tactic| first
  | assumption
  | exact G.At.of
  | (refine G.At.mono ?_ (by assumption); walk_at "sm"))
local macro_rules | `(tactic| walk_at "atl") => `(tactic| first
  | exact G.AtA.nil
  | (refine G.AtA.cons (by walk_at "at") ?_; walk_at "atl"))
local macro_rules | `(tactic| walk_at "er") => `(tactic| first
  | exact fun _ _ b => b
  | exact fun _ _ b => G.Er.mono b (by walk_at "sm")
  | exact fun _ _ b => G.Er.up b
  | exact fun _ _ b => G.Er.up (G.Er.mono b (by walk_at "sm"))
  | exact fun _ _ b => G.Er.up (G.Er.up b)
  | exact fun _ _ b => G.Er.up (G.Er.up (G.Er.mono b (by walk_at "sm")))
  | exact fun _ _ b => G.Er.up (G.Er.up (G.Er.up (G.Er.mono b (by walk_at "sm"))))
  | exact fun _ _ b => G.Er.up (G.Er.up (G.Er.up (G.Er.up (G.Er.mono b (by walk_at "sm"))))))
local macro_rules | `(tactic| walk_at "fld") => `(tactic| fail "no field")
local macro_rules | `(tactic| walk_at "go") => `(tactic| repeat walk_at "go1")

namespace Lw
open PySem PySem.Spec PyProof.Rows L2 G
section
variable {K : PySem.W.Frag} {F F0 H H' : Hp} {Q : VK} {E : XK} {mg : Str → Option Value} {M : List (Addr × HO)} {x m : V}
abbrev o_IntSort (a0 a1 : D) : D := .obj "IntSort" [("low", a0), ("high", a1)]
theorem f_IntSort_low (T : Tx K mg) {a0 a1 : D} (h : At K F0 (o_IntSort a0 a1) x) (s : Same F0 H) (q : ∀ w, At K F0 a0 w → Q w H) : FldK K "low" x H Q := s_fld h s T.cl_IntSort T.no_IntSort_low (lk1 rfl) q
theorem fv_IntSort_low (T : Tx K mg) {a1 : D} (h : At K F0 (o_IntSort (.v m) a1) x) (s : Same F0 H) (q : Q m H) : FldK K "low" x H Q := s_fld h s T.cl_IntSort T.no_IntSort_low (lk1 rfl) fun w e => by rw [At.v_.mp e]; exact q
theorem f_IntSort_high (T : Tx K mg) {a0 a1 : D} (h : At K F0 (o_IntSort a0 a1) x) (s : Same F0 H) (q : ∀ w, At K F0 a1 w → Q w H) : FldK K "high" x H Q := s_fld h s T.cl_IntSort T.no_IntSort_high (lk2 (by decide +kernel) (lk1 rfl)) q
theorem fv_IntSort_high (T : Tx K mg) {a0 : D} (h : At K F0 (o_IntSort a0 (.v m)) x) (s : Same F0 H) (q : Q m H) : FldK K "high" x H Q := s_fld h s T.cl_IntSort T.no_IntSort_high (lk2 (by decide +kernel) (lk1 rfl)) fun w e => by rw [At.v_.mp e]; exact q
theorem mk_IntSort (T : Tx K mg) {a0 a1 : D} {x0 x1 : V} (hh : HH F H M) (h0 : At K F a0 x0) (h1 : At K F a1 x1) (q : ∀ F' H' u, Same F F' → HH F' H' M → At K F' (o_IntSort a0 a1) u → Q u H') : MakeK (He.ga K "IntSort") (sp_IntSort_init K) [x0, x1] Q H E := by
  refine mk_start hh fun F1 H1 v dx s1 hh => ?_
  refine ⟨rfl, ?_⟩
  unfold t_IntSort_init
  walk_at "go"
  refine s_sfld hh T.cl_IntSort T.no_IntSort_low [] rfl (by decide +kernel) (Nat.le_of_ble_eq_true rfl) fun H1'' hh => ?_
  walk_at "go"
  refine s_sfld hh T.cl_IntSort T.no_IntSort_high ["low"] rfl (by decide +kernel) (Nat.le_of_ble_eq_true rfl) fun H1'' hh => ?_
  exact ⟨rfl, mk_end hh (AtF.cons (h0.mono s1) (AtF.cons (h1.mono s1) (AtF.nil))) fun F2 H2 u s2 hh2 ha => q F2 H2 u (s1.trans s2) hh2 ha⟩
abbrev o_TextSort (a0 a1 : D) : D := .obj "TextSort" [("longest", a0), ("without", a1)]
theorem f_TextSort_longest (T : Tx K mg) {a0 a1 : D} (h : At K F0 (o_TextSort a0 a1) x) (s : Same F0 H) (q : ∀ w, At K F0 a0 w → Q w H) : FldK K "longest" x H Q := s_fld h s T.cl_TextSort T.no_TextSort_longest (lk1 rfl) q
theorem fv_TextSort_longest (T : Tx K mg) {a1 : D} (h : At K F0 (o_TextSort (.v m) a1) x) (s : Same F0 H) (q : Q m H) : FldK K "longest" x H Q := s_fld h s T.cl_TextSort T.no_TextSort_longest (lk1 rfl) fun w e => by rw [At.v_.mp e]; exact q
theorem f_TextSort_without (T : Tx K mg) {a0 a1 : D} (h : At K F0 (o_TextSort a0 a1) x) (s : Same F0 H) (q : ∀ w, At K F0 a1 w → Q w H) : FldK K "without" x H Q := s_fld h s T.cl_TextSort T.no_TextSort_without (lk2 (by decide +kernel) (lk1 rfl)) q
theorem fv_TextSort_without (T : Tx K mg) {a0 : D} (h : At K F0 (o_TextSort a0 (.v m)) x) (s : Same F0 H) (q : Q m H) : FldK K "without" x H Q := s_fld h s T.cl_TextSort T.no_TextSort_without (lk2 (by decide +kernel) (lk1 rfl)) fun w e => by rw [At.v_.mp e]; exact q
theorem mk_TextSort (T : Tx K mg) {a0 a1 : D} {x0 x1 : V} (hh : HH F H M) (h0 : At K F a0 x0) (h1 : At K F a1 x1) (q : ∀ F' H' u, Same F F' → HH F' H' M → At K F' (o_TextSort a0 a1) u → Q u H') : MakeK (He.ga K "TextSort") (sp_TextSort_init K) [x0, x1] Q H E := by
  refine mk_start hh fun F1 H1 v dx s1 hh => ?_
  refine ⟨rfl, ?_⟩
  unfold t_TextSort_init
  walk_at "go"
  refine s_sfld hh T.cl_TextSort T.no_TextSort_longest [] rfl (by decide +kernel) (Nat.le_of_ble_eq_true rfl) fun H1'' hh => ?_
  walk_at "go"
  refine s_sfld hh T.cl_TextSort T.no_TextSort_without ["longest"] rfl (by decide +kernel) (Nat.le_of_ble_eq_true rfl) fun H1'' hh => ?_
  exact ⟨rfl, mk_end hh (AtF.cons (h0.mono s1) (AtF.cons (h1.mono s1) (AtF.nil))) fun F2 H2 u s2 hh2 ha => q F2 H2 u (s1.trans s2) hh2 ha⟩
abbrev o_RefSort (a0 a1 : D) : D := .obj "RefSort" [("kinds", a0), ("rule", a1)]
theorem f_RefSort_kinds (T : Tx K mg) {a0 a1 : D} (h : At K F0 (o_RefSort a0 a1) x) (s : Same F0 H) (q : ∀ w, At K F0 a0 w → Q w H) : FldK K "kinds" x H Q := s_fld h s T.cl_RefSort T.no_RefSort_kinds (lk1 rfl) q
theorem fv_RefSort_kinds (T : Tx K mg) {a1 : D} (h : At K F0 (o_RefSort (.v m) a1) x) (s : Same F0 H) (q : Q m H) : FldK K "kinds" x H Q := s_fld h s T.cl_RefSort T.no_RefSort_kinds (lk1 rfl) fun w e => by rw [At.v_.mp e]; exact q
theorem f_RefSort_rule (T : Tx K mg) {a0 a1 : D} (h : At K F0 (o_RefSort a0 a1) x) (s : Same F0 H) (q : ∀ w, At K F0 a1 w → Q w H) : FldK K "rule" x H Q := s_fld h s T.cl_RefSort T.no_RefSort_rule (lk2 (by decide +kernel) (lk1 rfl)) q
theorem fv_RefSort_rule (T : Tx K mg) {a0 : D} (h : At K F0 (o_RefSort a0 (.v m)) x) (s : Same F0 H) (q : Q m H) : FldK K "rule" x H Q := s_fld h s T.cl_RefSort T.no_RefSort_rule (lk2 (by decide +kernel) (lk1 rfl)) fun w e => by rw [At.v_.mp e]; exact q
theorem mk_RefSort (T : Tx K mg) {a1 : D} {a0 : List D} {x0 x1 : V} (hh : HH F H M) (h0 : At K F (.lst a0) x0) (h1 : At K F a1 x1) (q : ∀ F' H' u, Same F F' → HH F' H' M → At K F' (o_RefSort (.lst a0) a1) u → Q u H') : MakeK (He.ga K "RefSort") (sp_RefSort_init K) [x0, x1] Q H E := by
  refine mk_start hh fun F1 H1 v dx s1 hh => ?_
  refine ⟨rfl, ?_⟩
  unfold t_RefSort_init
  walk_at "go"
  refine s_listL h0 hh s1 fun F1' H1' u0 s2 hh h0 => ?_
  replace s1 := s1.trans s2
  walk_at "go"
  refine s_sfld hh T.cl_RefSort T.no_RefSort_kinds [] rfl (by decide +kernel) (Nat.le_of_ble_eq_true rfl) fun H1'' hh => ?_
  walk_at "go"
  refine s_sfld hh T.cl_RefSort T.no_RefSort_rule ["kinds"] rfl (by decide +kernel) (Nat.le_of_ble_eq_true rfl) fun H1'' hh => ?_
  exact ⟨rfl, mk_end hh (AtF.cons h0 (AtF.cons (h1.mono s1) (AtF.nil))) fun F2 H2 u s2 hh2 ha => q F2 H2 u (s1.trans s2) hh2 ha⟩
abbrev o_ListSort (a0 : D) : D := .obj "ListSort" [("kinds", a0)]
theorem f_ListSort_kinds (T : Tx K mg) {a0 : D} (h : At K F0 (o_ListSort a0) x) (s : Same F0 H) (q : ∀ w, At K F0 a0 w → Q w H) : FldK K "kinds" x H Q := s_fld h s T.cl_ListSort T.no_ListSort_kinds (lk1 rfl) q
theorem fv_ListSort_kinds (T : Tx K mg) {z : D} (h : At K F0 (o_ListSort (.v m)) x) (s : Same F0 H) (q : Q m H) : FldK K "kinds" x H Q := s_fld h s T.cl_ListSort T.no_ListSort_kinds (lk1 rfl) fun w e => by rw [At.v_.mp e]; exact q
theorem mk_ListSort (T : Tx K mg) {a0 : List D} {x0 : V} (hh : HH F H M) (h0 : At K F (.lst a0) x0) (q : ∀ F' H' u, Same F F' → HH F' H' M → At K F' (o_ListSort (.lst a0)) u → Q u H') : MakeK (He.ga K "ListSort") (sp_ListSort_init K) [x0] Q H E := by
  refine mk_start hh fun F1 H1 v dx s1 hh => ?_
  refine ⟨rfl, ?_⟩
  unfold t_ListSort_init
  walk_at "go"
  refine s_listL h0 hh s1 fun F1' H1' u0 s2 hh h0 => ?_
  replace s1 := s1.trans s2
  walk_at "go"
  refine s_sfld hh T.cl_ListSort T.no_ListSort_kinds [] rfl (by decide +kernel) (Nat.le_of_ble_eq_true rfl) fun H1'' hh => ?_
  exact ⟨rfl, mk_end hh (AtF.cons h0 (AtF.nil)) fun F2 H2 u s2 hh2 ha => q F2 H2 u (s1.trans s2) hh2 ha⟩
abbrev o_Request (a0 a1 : D) : D := .obj "Request" [("what", a0), ("numbers", a1)]
theorem f_Request_what (T : Tx K mg) {a0 a1 : D} (h : At K F0 (o_Request a0 a1) x) (s : Same F0 H) (q : ∀ w, At K F0 a0 w → Q w H) : FldK K "what" x H Q := s_fld h s T.cl_Request T.no_Request_what (lk1 rfl) q
theorem fv_Request_what (T : Tx K mg) {a1 : D} (h : At K F0 (o_Request (.v m) a1) x) (s : Same F0 H) (q : Q m H) : FldK K "what" x H Q := s_fld h s T.cl_Request T.no_Request_what (lk1 rfl) fun w e => by rw [At.v_.mp e]; exact q
theorem f_Request_numbers (T : Tx K mg) {a0 a1 : D} (h : At K F0 (o_Request a0 a1) x) (s : Same F0 H) (q : ∀ w, At K F0 a1 w → Q w H) : FldK K "numbers" x H Q := s_fld h s T.cl_Request T.no_Request_numbers (lk2 (by decide +kernel) (lk1 rfl)) q
theorem fv_Request_numbers (T : Tx K mg) {a0 : D} (h : At K F0 (o_Request a0 (.v m)) x) (s : Same F0 H) (q : Q m H) : FldK K "numbers" x H Q := s_fld h s T.cl_Request T.no_Request_numbers (lk2 (by decide +kernel) (lk1 rfl)) fun w e => by rw [At.v_.mp e]; exact q
theorem mk_Request (T : Tx K mg) {a0 : D} {a1 : List D} {x0 x1 : V} (hh : HH F H M) (h0 : At K F a0 x0) (h1 : At K F (.lst a1) x1) (q : ∀ F' H' u, Same F F' → HH F' H' M → At K F' (o_Request a0 (.lst a1)) u → Q u H') : MakeK (He.ga K "Request") (sp_Request_init K) [x0, x1] Q H E := by
  refine mk_start hh fun F1 H1 v dx s1 hh => ?_
  refine ⟨rfl, ?_⟩
  unfold t_Request_init
  walk_at "go"
  refine s_sfld hh T.cl_Request T.no_Request_what [] rfl (by decide +kernel) (Nat.le_of_ble_eq_true rfl) fun H1'' hh => ?_
  walk_at "go"
  refine s_listL h1 hh s1 fun F1' H1' u1 s2 hh h1 => ?_
  replace s1 := s1.trans s2
  walk_at "go"
  refine s_sfld hh T.cl_Request T.no_Request_numbers ["what"] rfl (by decide +kernel) (Nat.le_of_ble_eq_true rfl) fun H1'' hh => ?_
  exact ⟨rfl, mk_end hh (AtF.cons (h0.mono s1) (AtF.cons h1 (AtF.nil))) fun F2 H2 u s2 hh2 ha => q F2 H2 u (s1.trans s2) hh2 ha⟩
abbrev o_PictureSource (a0 : D) : D := .obj "PictureSource" [("shown", a0)]
theorem f_PictureSource_shown (T : Tx K mg) {a0 : D} (h : At K F0 (o_PictureSource a0) x) (s : Same F0 H) (q : ∀ w, At K F0 a0 w → Q w H) : FldK K "shown" x H Q := s_fld h s T.cl_PictureSource T.no_PictureSource_shown (lk1 rfl) q
theorem fv_PictureSource_shown (T : Tx K mg) {z : D} (h : At K F0 (o_PictureSource (.v m)) x) (s : Same F0 H) (q : Q m H) : FldK K "shown" x H Q := s_fld h s T.cl_PictureSource T.no_PictureSource_shown (lk1 rfl) fun w e => by rw [At.v_.mp e]; exact q
theorem mk_PictureSource (T : Tx K mg) {a0 : D} {x0 : V} (hh : HH F H M) (h0 : At K F a0 x0) (q : ∀ F' H' u, Same F F' → HH F' H' M → At K F' (o_PictureSource a0) u → Q u H') : MakeK (He.ga K "PictureSource") (sp_PictureSource_init K) [x0] Q H E := by
  refine mk_start hh fun F1 H1 v dx s1 hh => ?_
  refine ⟨rfl, ?_⟩
  unfold t_PictureSource_init
  walk_at "go"
  refine s_sfld hh T.cl_PictureSource T.no_PictureSource_shown [] rfl (by decide +kernel) (Nat.le_of_ble_eq_true rfl) fun H1'' hh => ?_
  exact ⟨rfl, mk_end hh (AtF.cons (h0.mono s1) (AtF.nil)) fun F2 H2 u s2 hh2 ha => q F2 H2 u (s1.trans s2) hh2 ha⟩
abbrev o_Field (a0 a1 a2 : D) : D := .obj "Field" [("name", a0), ("shape", a1), ("needed", a2)]
theorem f_Field_name (T : Tx K mg) {a0 a1 a2 : D} (h : At K F0 (o_Field a0 a1 a2) x) (s : Same F0 H) (q : ∀ w, At K F0 a0 w → Q w H) : FldK K "name" x H Q := s_fld h s T.cl_Field T.no_Field_name (lk1 rfl) q
theorem fv_Field_name (T : Tx K mg) {a1 a2 : D} (h : At K F0 (o_Field (.v m) a1 a2) x) (s : Same F0 H) (q : Q m H) : FldK K "name" x H Q := s_fld h s T.cl_Field T.no_Field_name (lk1 rfl) fun w e => by rw [At.v_.mp e]; exact q
theorem f_Field_shape (T : Tx K mg) {a0 a1 a2 : D} (h : At K F0 (o_Field a0 a1 a2) x) (s : Same F0 H) (q : ∀ w, At K F0 a1 w → Q w H) : FldK K "shape" x H Q := s_fld h s T.cl_Field T.no_Field_shape (lk2 (by decide +kernel) (lk1 rfl)) q
theorem fv_Field_shape (T : Tx K mg) {a0 a2 : D} (h : At K F0 (o_Field a0 (.v m) a2) x) (s : Same F0 H) (q : Q m H) : FldK K "shape" x H Q := s_fld h s T.cl_Field T.no_Field_shape (lk2 (by decide +kernel) (lk1 rfl)) fun w e => by rw [At.v_.mp e]; exact q
theorem f_Field_needed (T : Tx K mg) {a0 a1 a2 : D} (h : At K F0 (o_Field a0 a1 a2) x) (s : Same F0 H) (q : ∀ w, At K F0 a2 w → Q w H) : FldK K "needed" x H Q := s_fld h s T.cl_Field T.no_Field_needed (lk2 (by decide +kernel) (lk2 (by decide +kernel) (lk1 rfl))) q
theorem fv_Field_needed (T : Tx K mg) {a0 a1 : D} (h : At K F0 (o_Field a0 a1 (.v m)) x) (s : Same F0 H) (q : Q m H) : FldK K "needed" x H Q := s_fld h s T.cl_Field T.no_Field_needed (lk2 (by decide +kernel) (lk2 (by decide +kernel) (lk1 rfl))) fun w e => by rw [At.v_.mp e]; exact q
theorem mk_Field (T : Tx K mg) {a0 a1 a2 : D} {x0 x1 x2 : V} (hh : HH F H M) (h0 : At K F a0 x0) (h1 : At K F a1 x1) (h2 : At K F a2 x2) (q : ∀ F' H' u, Same F F' → HH F' H' M → At K F' (o_Field a0 a1 a2) u → Q u H') : MakeK (He.ga K "Field") (sp_Field_init K) [x0, x1, x2] Q H E := by
  refine mk_start hh fun F1 H1 v dx s1 hh => ?_
  refine ⟨rfl, ?_⟩
  unfold t_Field_init
  walk_at "go"
  refine s_sfld hh T.cl_Field T.no_Field_name [] rfl (by decide +kernel) (Nat.le_of_ble_eq_true rfl) fun H1'' hh => ?_
  walk_at "go"
  refine s_sfld hh T.cl_Field T.no_Field_shape ["name"] rfl (by decide +kernel) (Nat.le_of_ble_eq_true rfl) fun H1'' hh => ?_
  walk_at "go"
  refine s_sfld hh T.cl_Field T.no_Field_needed ["name", "shape"] rfl (by decide +kernel) (Nat.le_of_ble_eq_true rfl) fun H1'' hh => ?_
  exact ⟨rfl, mk_end hh (AtF.cons (h0.mono s1) (AtF.cons (h1.mono s1) (AtF.cons (h2.mono s1) (AtF.nil)))) fun F2 H2 u s2 hh2 ha => q F2 H2 u (s1.trans s2) hh2 ha⟩
abbrev o_Schema (a0 : D) : D := .obj "Schema" [("kinds", a0)]
theorem f_Schema_kinds (T : Tx K mg) {a0 : D} (h : At K F0 (o_Schema a0) x) (s : Same F0 H) (q : ∀ w, At K F0 a0 w → Q w H) : FldK K "kinds" x H Q := s_fld h s T.cl_Schema T.no_Schema_kinds (lk1 rfl) q
theorem fv_Schema_kinds (T : Tx K mg) {z : D} (h : At K F0 (o_Schema (.v m)) x) (s : Same F0 H) (q : Q m H) : FldK K "kinds" x H Q := s_fld h s T.cl_Schema T.no_Schema_kinds (lk1 rfl) fun w e => by rw [At.v_.mp e]; exact q
theorem mk_Schema (T : Tx K mg) {a0 : List D} {x0 : V} (hh : HH F H M) (h0 : At K F (.lst a0) x0) (q : ∀ F' H' u, Same F F' → HH F' H' M → At K F' (o_Schema (.lst a0)) u → Q u H') : MakeK (He.ga K "Schema") (sp_Schema_init K) [x0] Q H E := by
  refine mk_start hh fun F1 H1 v dx s1 hh => ?_
  refine ⟨rfl, ?_⟩
  unfold t_Schema_init
  walk_at "go"
  refine s_listL h0 hh s1 fun F1' H1' u0 s2 hh h0 => ?_
  replace s1 := s1.trans s2
  walk_at "go"
  refine s_sfld hh T.cl_Schema T.no_Schema_kinds [] rfl (by decide +kernel) (Nat.le_of_ble_eq_true rfl) fun H1'' hh => ?_
  exact ⟨rfl, mk_end hh (AtF.cons h0 (AtF.nil)) fun F2 H2 u s2 hh2 ha => q F2 H2 u (s1.trans s2) hh2 ha⟩
end
end Lw
local macro_rules | `(tactic| walk_at "fld") => `(tactic| first
  | (with_reducible refine Lw.fv_IntSort_low (by assumption) (by assumption) (by walk_at "sm") ?_)
  | (with_reducible refine Lw.f_IntSort_low (by assumption) (by assumption) (by walk_at "sm") ?_; intro _ _)
  | (with_reducible refine Lw.fv_IntSort_high (by assumption) (by assumption) (by walk_at "sm") ?_)
  | (with_reducible refine Lw.f_IntSort_high (by assumption) (by assumption) (by walk_at "sm") ?_; intro _ _)
  | (with_reducible refine Lw.fv_TextSort_longest (by assumption) (by assumption) (by walk_at "sm") ?_)
  | (with_reducible refine Lw.f_TextSort_longest (by assumption) (by assumption) (by walk_at "sm") ?_; intro _ _)
  | (with_reducible refine Lw.fv_TextSort_without (by assumption) (by assumption) (by walk_at "sm") ?_)
  | (with_reducible refine Lw.f_TextSort_without (by assumption) (by assumption) (by walk_at "sm") ?_; intro _ _)
  | (with_reducible refine Lw.fv_RefSort_kinds (by assumption) (by assumption) (by walk_at "sm") ?_)
  | (with_reducible refine Lw.f_RefSort_kinds (by assumption) (by assumption) (by walk_at "sm") ?_; intro _ _)
  | (with_reducible refine Lw.fv_RefSort_rule (by assumption) (by assumption) (by walk_at "sm") ?_)
  | (with_reducible refine Lw.f_RefSort_rule (by assumption) (by assumption) (by walk_at "sm") ?_; intro _ _)
  | (with_reducible refine Lw.fv_ListSort_kinds (by assumption) (by assumption) (by walk_at "sm") ?_)
  | (with_reducible refine Lw.f_ListSort_kinds (by assumption) (by assumption) (by walk_at "sm") ?_; intro _ _)
  | (with_reducible refine Lw.fv_Request_what (by assumption) (by assumption) (by walk_at "sm") ?_)
  | (with_reducible refine Lw.f_Request_what (by assumption) (by assumption) (by walk_at "sm") ?_; intro _ _)
  | (with_reducible refine Lw.fv_Request_numbers (by assumption) (by assumption) (by walk_at "sm") ?_)
  | (with_reducible refine Lw.f_Request_numbers (by assumption) (by assumption) (by walk_at "sm") ?_; intro _ _)
  | (with_reducible refine Lw.fv_PictureSource_shown (by assumption) (by assumption) (by walk_at "sm") ?_)
  | (with_reducible refine Lw.f_PictureSource_shown (by assumption) (by assumption) (by walk_at "sm") ?_; intro _ _)
  | (with_reducible refine Lw.fv_Field_name (by assumption) (by assumption) (by walk_at "sm") ?_)
  | (with_reducible refine Lw.f_Field_name (by assumption) (by assumption) (by walk_at "sm") ?_; intro _ _)
  | (with_reducible refine Lw.fv_Field_shape (by assumption) (by assumption) (by walk_at "sm") ?_)
  | (with_reducible refine Lw.f_Field_shape (by assumption) (by assumption) (by walk_at "sm") ?_; intro _ _)
  | (with_reducible refine Lw.fv_Field_needed (by assumption) (by assumption) (by walk_at "sm") ?_)
  | (with_reducible refine Lw.f_Field_needed (by assumption) (by assumption) (by walk_at "sm") ?_; intro _ _)
  | (with_reducible refine Lw.fv_Schema_kinds (by assumption) (by assumption) (by walk_at "sm") ?_)
  | (with_reducible refine Lw.f_Schema_kinds (by assumption) (by assumption) (by walk_at "sm") ?_; intro _ _))


-- fld
namespace Lw
open PySem PySem.Spec PyProof.Rows L2 G
theorem HH.same {F H H' : Hp} {M : List (Addr × HO)} (h : HH F H M) (s : Same H H') : HH F H' M := ⟨h.sub.trans s, h.nd, fun p hp => ⟨s _ _ (h.cell p hp).1, (h.cell p hp).2⟩⟩
/-- the draws' cell: a list of ints, not empty -/
def DrO (o : HO) : Prop := ∃ xs : List Int, xs ≠ [] ∧ xs.length ≤ 64 ∧ o = .lst (xs.map V.int)
section
variable {K : PySem.W.Frag} {F F0 F1 F2 H H' : Hp} {Q : VK} {E : XK} {mg : Str → Option Value} {M : List (Addr × HO)} {x : V} {o : HO} {d : Addr}
theorem rd_cells {a : Addr} {ns : List Int} {n : Nat} (hh : HH F H M) (hS : SqL K F a (ns.map V.int)) (hn0 : 0 < n) (hn : n ≤ 64)
    (q : ∀ H' d o, DrO o → HH F H' ((d, o) :: M) → Q (.ref d) H') : sp__law_cells K [.ref a, .int (n : Int)] H Q E := by
  refine ⟨rfl, ?_⟩
  unfold t__law_cells
  walk_at "go"
  refine o_lst hh (by decide) fun H1 p hh => ?_
  walk_at "go"
  refine g_rngN (n := n) (by omega) ?_
  refine l_range (fun i σ H' => i ≤ n ∧ ∃ (xs : List Int) (v4 v5 : Option V), xs.length = i ∧ σ = [some (.ref a), some (.int n), some (.ref p), v4, v5] ∧ HH F H' ((p, .lst (xs.map V.int)) :: M))
    ⟨Nat.zero_le _, [], none, none, rfl, rfl, hh⟩ ?_ ?_
  · clear hh
    rintro i σ H' hi ⟨_, xs, v4, v5, hl, rfl, hh⟩
    walk_at "go"
    refine g_cut (fun σ' H'' => H' = H'' ∧ ∃ c : Int, σ' = [some (.ref a), some (.int n), some (.ref p), some (.int (0 + i)), some (.int c)]) ?_ ?_
    · walk_at "go"
      refine v_lenSq (hh.sub.seq hS) ?_
      walk_at "go"
      refine ite2 (fun hlt => ?_) (fun hlt => ?_)
      · have hlt' := of_decide_eq_true hlt
        rw [List.length_map] at hlt'
        walk_at "go"
        refine v_ixSq (hh.sub.seq hS) (atN (i := i) (by omega) (List.getElem?_eq_getElem (by rw [List.length_map]; omega))) ?_
        rw [List.getElem_map]
        walk_at "go"
        refine ite2 (fun h0 => ?_) (fun h0 => ?_)
        · walk_at "go"
          exact ⟨rfl, _, rfl⟩
        · walk_at "go"
          exact ⟨rfl, _, rfl⟩
      · walk_at "go"
        exact ⟨rfl, _, rfl⟩
    rintro σ' H'' ⟨rfl, c, rfl⟩
    refine g_cut (fun σ' H'' => H' = H'' ∧ ∃ c : Int, σ' = [some (.ref a), some (.int n), some (.ref p), some (.int (0 + i)), some (.int c)]) ?_ ?_
    · walk_at "go"
      refine ite2 (fun hlt => ?_) (fun hlt => ?_)
      · walk_at "go"
        exact ⟨rfl, _, rfl⟩
      · walk_at "go"
        exact ⟨rfl, _, rfl⟩
    rintro σ' H'' ⟨rfl, c, rfl⟩
    walk_at "go"
    refine o_tyL (i := 0) hh rfl ?_
    walk_at "go"
    refine o_app0 hh (by rw [List.length_map]; omega) fun H7 hh => ?_
    refine ⟨by omega, xs ++ [c], some (.int (0 + i)), some (.int c), by simp [hl], rfl, ?_⟩
    rw [List.map_append]
    exact hh
  · rintro σ H' ⟨_, xs, v4, v5, hl, rfl, hh⟩
    walk_at "go"
    exact q _ p _ ⟨xs, fun z => by rw [z] at hl; simp at hl; omega, by omega, rfl⟩ hh
theorem rd_draw {b : Int} (hh : HH F H ((d, o) :: M)) (ho : DrO o) (hb : 0 < b ∧ b < 1073741824) (q : ∀ v H' o', 0 ≤ v → v < b → DrO o' → HH F H' ((d, o') :: M) → Q (.int v) H') : sp__law_draw K [.ref d, .int b] H Q E := by
  obtain ⟨xs, hx, hxl, rfl⟩ := ho
  refine ⟨rfl, ?_⟩
  unfold t__law_draw
  refine g_cut (fun σ' H' => σ' = [some (.ref d), some (.int b), none] ∧ ∃ (y : Int) (ys : List Int), ys.length + 1 ≤ 64 ∧ HH F H' ((d, .lst ((y :: ys).map V.int)) :: M)) ?_ ?_
  · obtain ⟨y, ys, rfl⟩ : ∃ y ys, xs = y :: ys := by
      cases xs with
      | nil => exact absurd rfl hx
      | cons y ys => exact ⟨y, ys, rfl⟩
    walk_at "go"
    refine v_ixL (hh.get (i := 0) rfl) (atN (i := 0) rfl rfl) ?_
    walk_at "go"
    refine ite2 (fun h0 => ?_) (fun h0 => ?_)
    · walk_at "go"
      refine o_lenL (i := 0) hh rfl ?_
      walk_at "go"
      refine ite2 (fun h1 => ?_) (fun h1 => ?_)
      · have h1' := of_decide_eq_true h1
        rw [List.length_map] at h1'
        cases ys with
        | nil => simp at h1'
        | cons z zs =>
          walk_at "go"
          refine o_tyL (i := 0) hh rfl ?_
          walk_at "go"
          refine .inr ⟨_, _, 0, 0, _, rfl, rfl, hh.get (i := 0) rfl, by decide, by decide, (ixN_seq (j := 0) (by simp [ixN]; omega)).1, rfl, ?_⟩
          exact ⟨rfl, z, zs, by simp at hxl ⊢; omega, hh.set0⟩
      · walk_at "go"
        exact ⟨rfl, y, ys, hxl, hh⟩
    · walk_at "go"
      exact ⟨rfl, y, ys, hxl, hh⟩
  clear hh
  rintro σ' H' ⟨rfl, y, ys, hl, hh⟩
  walk_at "go"
  refine v_ixL (hh.get (i := 0) rfl) (atN (i := 0) rfl rfl) ?_
  walk_at "go"
  refine v_ixL (hh.get (i := 0) rfl) (atN (i := 0) rfl rfl) ?_
  walk_at "go"
  refine v_setL (j := 0) (hh.get (i := 0) rfl) (by simp [ixN]) ?_
  walk_at "go"
  exact q _ _ _ (Int.emod_nonneg _ (by omega)) (Int.emod_lt_of_pos _ hb.1) ⟨y / b :: ys, by simp, by simpa using hl, rfl⟩ hh.set0
theorem rd_pick {ds : List D} (hh : HH F H ((d, o) :: M)) (ho : DrO o) (hx : At K F0 (.lst ds) x) (s : Same F0 F) (hn : 0 < ds.length) (hl : ds.length ≤ 1000000) (q : ∀ (i : Nat) (e : D) (v : V) H' o', ds[i]? = some e → At K F e v → DrO o' → HH F H' ((d, o') :: M) → Q v H') : sp__law_pick K [.ref d, x] H Q E := by
  refine ⟨rfl, ?_⟩
  unfold t__law_pick
  walk_at "go"
  refine a_lenL (hx.mono s) hh ?_
  walk_at "go"
  refine rd_draw hh ho ⟨by omega, by omega⟩ fun v H' o' h0 h1 ho hh => ?_
  obtain ⟨i, rfl⟩ := Int.eq_ofNat_of_zero_le h0
  have hi : i < ds.length := by omega
  refine a_ixL (i := i) (hx.mono s) hh rfl (List.getElem?_eq_getElem hi) fun w hw => ?_
  exact q i _ w H' o' (List.getElem?_eq_getElem hi) hw ho hh
end
theorem AtA.ci {K : PySem.W.Frag} {F : Hp} {d : D} {ds : List D} {us : List V} (h : AtA K F (d :: ds) us) : ∃ u us', us = u :: us' ∧ At K F d u ∧ AtA K F ds us' := by unfold AtA at h; exact h
theorem AtA.ni {K : PySem.W.Frag} {F : Hp} {us : List V} (h : AtA K F [] us) : us = [] := by unfold AtA at h; exact h
end Lw

-- fld
namespace Lw
open PySem PySem.Spec PyProof.Rows L2 G
/-! ### things: flat fields, and behind them one list -/
inductive Th where
  | A (a t r : V) (l : List Int)
  | B (p q : V) (m : List Int)
def Th.kind : Th → List Nat
  | .A .. => q_A
  | .B .. => q_B
def Th.fl : Th → List (List Nat × V)
  | .A a t r _ => [(q_a, a), (q_t, t), (q_r, r)]
  | .B p q _ => [(q_p, p), (q_q, q)]
def Th.ln : Th → List Nat
  | .A .. => q_l
  | .B .. => q_m
def Th.ls : Th → List Int
  | .A _ _ _ l => l
  | .B _ _ m => m
/-- a number from 0 to 9, or None -/
def Nm (v : V) : Prop := v = .non ∨ ∃ i : Int, v = .int i ∧ 0 ≤ i ∧ i ≤ 9
def Tx3 (v : V) : Prop := v = .non ∨ ∃ z ∈ [q_empty, q_b, q_ab], v = .str ⟨z.toArray⟩
def LsOk (ns : List Int) : Prop := ns.length ≤ 8 ∧ ∀ n ∈ ns, 0 ≤ n ∧ n ≤ 9
def Th.ok : Th → Prop
  | .A a t r l => Nm a ∧ Tx3 t ∧ Nm r ∧ LsOk l
  | .B p q m => Nm p ∧ Nm q ∧ LsOk m
def Fl (v : V) : Prop := Nm v ∨ Tx3 v
theorem Th.ok.fl {t : Th} (h : t.ok) : ∀ p ∈ t.fl, Fl p.2 := by
  cases t with
  | A a t r l =>
    obtain ⟨h1, h2, h3, _⟩ := h
    intro p hp
    rcases List.mem_cons.mp hp with rfl | hp
    · exact .inl h1
    rcases List.mem_cons.mp hp with rfl | hp
    · exact .inr h2
    rcases List.mem_cons.mp hp with rfl | hp
    · exact .inl h3
    cases hp
  | B p q m =>
    obtain ⟨h1, h2, _⟩ := h
    intro p hp
    rcases List.mem_cons.mp hp with rfl | hp
    · exact .inl h1
    rcases List.mem_cons.mp hp with rfl | hp
    · exact .inl h2
    cases hp
theorem Th.ok.ls {t : Th} (h : t.ok) : LsOk t.ls := by
  cases t with
  | A => exact h.2.2.2
  | B => exact h.2.2
theorem Fl.flat {v : V} (h : Fl v) : flatV v = true := by
  rcases h with (rfl | ⟨_, rfl, _⟩) | (rfl | ⟨_, _, rfl⟩) <;> rfl
theorem fl_keys {t : Th} : (t.fl.map fun p => kT p.1).Nodup ∧ ∀ p ∈ t.fl, kT p.1 ≠ kT t.ln := by
  cases t with
  | A a t r l =>
    refine ⟨by show [kT q_a, kT q_t, kT q_r].Nodup; decide, fun p hp => ?_⟩
    have h : ∀ z ∈ [q_a, q_t, q_r], kT z ≠ kT q_l := by decide
    have hp : p ∈ [(q_a, a), (q_t, t), (q_r, r)] := hp
    exact h p.1 (List.mem_map.mpr ⟨p, hp, rfl⟩)
  | B a t l =>
    refine ⟨by show [kT q_p, kT q_q].Nodup; decide, fun p hp => ?_⟩
    have h : ∀ z ∈ [q_p, q_q], kT z ≠ kT q_m := by decide
    have hp : p ∈ [(q_p, a), (q_q, t)] := hp
    exact h p.1 (List.mem_map.mpr ⟨p, hp, rfl⟩)
theorem val_none {kvs : List (L2.Key × V)} {k : L2.Key} (h : k ∉ kvs.map (·.1)) : valV kvs k = none := by
  cases e : valV kvs k with
  | none => rfl
  | some w =>
    unfold valV at e
    obtain ⟨kv, h1, _⟩ := Option.map_eq_some_iff.mp e
    have h2 := List.find?_some h1
    exact (h (List.mem_map.mpr ⟨kv, List.mem_of_find?_eq_some h1, of_decide_eq_true h2⟩)).elim
theorem nd_take {α : Type} : ∀ {ks : List α} {i : Nat} {k : α}, ks.Nodup → ks[i]? = some k → k ∉ ks.take i
  | [], _, _, _, e => by cases e
  | _ :: _, 0, _, _, _ => by rw [List.take_zero]; exact List.not_mem_nil
  | a :: ks, i + 1, k, nd, e => by
    rw [List.nodup_cons] at nd
    rw [List.getElem?_cons_succ] at e
    rw [List.take_succ_cons, List.mem_cons, not_or]
    exact ⟨fun z => nd.1 (by rw [← z]; exact List.mem_of_getElem? e), nd_take nd.2 e⟩
/-- contents, the list being the object at l -/
def Th.ck (t : Th) (l : Addr) : List (L2.Key × D) := (t.fl.map fun p => (kT p.1, D.v p.2)) ++ [(kT t.ln, .v (.ref l))]
abbrev cR (t : Th) (l : Addr) : D := .dk (t.ck l)
abbrev dR (t : Th) (l : Addr) : D := .obj "Thing" [("kind", .t t.kind), ("contents", cR t l)]
/-- its list may be read -/
def RL (F : Hp) (M : List (Addr × HO)) (l : Addr) (ns : List Int) : Prop := F l = some (.lst (ns.map V.int)) ∨ (l, HO.lst (ns.map V.int)) ∈ M
theorem RL.at_ {F F' H' : Hp} {M M' : List (Addr × HO)} {l : Addr} {ns : List Int} (h : RL F M l ns) (s : Same F F') (hh : HH F' H' M') (m : ∀ p ∈ M, p ∈ M') : H' l = some (.lst (ns.map V.int)) := by
  rcases h with h | h
  · exact hh.sub _ _ (s _ _ h)
  · exact (hh.cell _ (m _ h)).1
theorem RL.mono {F F' : Hp} {M M' : List (Addr × HO)} {l : Addr} {ns : List Int} (h : RL F M l ns) (s : Same F F') (m : ∀ p ∈ M, p ∈ M') : RL F' M' l ns := h.imp (fun h => s _ _ h) fun h => m _ h
theorem ck_vals {K : PySem.W.Frag} {F : Hp} {t : Th} {l : Addr} {gs : List (L2.Key × V)} (h : AtK K F (t.ck l) gs) : gs = (t.fl.map fun p => (kT p.1, p.2)) ++ [(kT t.ln, .ref l)] := by
  unfold Th.ck at h
  generalize t.fl = fs at h ⊢
  induction fs generalizing gs with
  | nil =>
    obtain ⟨u, us, rfl, h1, h2⟩ := h.ci
    rw [At.v_.mp h1, h2.ni]
    rfl
  | cons p fs ih =>
    obtain ⟨u, us, rfl, h1, h2⟩ := h.ci
    rw [At.v_.mp h1, ih h2]
    rfl
theorem ck_at {K : PySem.W.Frag} {F : Hp} {t : Th} {l : Addr} : AtK K F (t.ck l) ((t.fl.map fun p => (kT p.1, p.2)) ++ [(kT t.ln, .ref l)]) := by
  unfold Th.ck
  generalize t.fl = fs
  induction fs with
  | nil => exact AtK.cons At.of AtK.nil
  | cons p fs ih => exact AtK.cons At.of ih
theorem valD_app {k : L2.Key} {a b : List (L2.Key × D)} (h : ∀ p ∈ a, p.1 ≠ k) : valD (a ++ b) k = valD b k := by
  induction a with
  | nil => rfl
  | cons p a ih =>
    rw [List.cons_append, show p = (p.1, p.2) from rfl, valD_neg (h p (List.mem_cons_self ..))]
    exact ih fun q hq => h q (List.mem_cons_of_mem _ hq)
theorem ck_ln {t : Th} {l : Addr} : valD (t.ck l) (kT t.ln) = some (.v (.ref l)) := by
  unfold Th.ck
  rw [valD_app]
  · exact valD_pos
  · intro p hp
    obtain ⟨q, hq, rfl⟩ := List.mem_map.mp hp
    exact fl_keys.2 q hq
theorem ck_fl {t : Th} {l : Addr} {p : List Nat × V} (hp : p ∈ t.fl) : valD (t.ck l) (kT p.1) = some (.v p.2) := by
  unfold Th.ck
  have nd := (fl_keys (t := t)).1
  revert hp nd
  generalize t.fl = fs
  intro hp nd
  induction fs with
  | nil => cases hp
  | cons q fs ih =>
    rw [List.map_cons, List.nodup_cons] at nd
    rw [List.map_cons, List.cons_append]
    rcases List.mem_cons.mp hp with rfl | hp
    · exact valD_pos
    · rw [valD_neg (fun e => nd.1 (by rw [e]; exact List.mem_map.mpr ⟨p, hp, rfl⟩))]
      exact ih hp nd.2
section
variable {K : PySem.W.Frag} {F F0 F1 F2 H H' : Hp} {Q : VK} {E : XK} {mg : Str → Option Value} {M : List (Addr × HO)} {x y : V} {o : HO} {d l : Addr}
theorem v_isiLF (f : Fl x) (q : Q (.bl false) H) : rIsi K [x, .ty "list"] H Q := by
  refine isi_flat ?_ q
  rcases f with (rfl | ⟨_, rfl, _⟩) | (rfl | ⟨_, _, rfl⟩)
  · exact (by decide +kernel : kitB "NoneType" "list" = some false)
  · exact (by decide +kernel : kitB "int" "list" = some false)
  · exact (by decide +kernel : kitB "NoneType" "list" = some false)
  · exact (by decide +kernel : kitB "str" "list" = some false)
theorem rd_copyV (f : Fl x) (q : Q x H) : sp_content_copy K [x] H Q E := by
  refine ⟨rfl, ?_⟩
  unfold t_content_copy
  walk_at "go"
  refine v_isiLF f ?_
  walk_at "go"
  exact q
theorem v_listR {vs : List V} (h : H l = some (.lst vs)) (q : ∀ p, H p = none → Q (.ref p) (upd H p (.lst vs))) : rListX K [.ref l] H Q := .inl ⟨l, vs, rfl, .inl (SqL.of h), q⟩
theorem rd_copyL {ns : List Int} (h : H l = some (.lst (ns.map V.int))) (q : ∀ p, H p = none → Q (.ref p) (upd H p (.lst (ns.map V.int)))) : sp_content_copy K [.ref l] H Q E := by
  refine ⟨rfl, ?_⟩
  unfold t_content_copy
  walk_at "go"
  refine v_isiL h ?_
  walk_at "go"
  exact v_listR h q
/-- a thing is made of contents that stand still: its list is a new cell -/
theorem mk_ThingR (T : Tx K mg) {t : Th} (ht : ∀ p ∈ t.fl, Fl p.2) (hh : HH F H M) (hy : At K F (cR t l) y) (hl : RL F M l t.ls) (q : ∀ F' H' u l', Same F F' → HH F' H' ((l', .lst (t.ls.map V.int)) :: M) → At K F' (dR t l') u → Q u H') :
    MakeK (He.ga K "Thing") (sp_Thing_init K) [.str ⟨t.kind.toArray⟩, y] Q H E := by
  refine mk_start hh fun F1 H1 v dx s1 hh => ?_
  refine ⟨rfl, ?_⟩
  unfold t_Thing_init
  walk_at "go"
  refine s_sfld hh T.cl_Thing T.no_Thing_kind [] rfl (by decide +kernel) (Nat.le_of_ble_eq_true rfl) fun H2 hh => ?_
  walk_at "go"
  obtain ⟨a, od, vs, rfl, hf, hv⟩ := (hy.mono s1).dk_
  obtain rfl := ck_vals hv
  refine v_ovK (hh.sub _ _ hf) fun D hD => ?_
  have len : ((t.fl.map fun p => (kT p.1, p.2)) ++ [(kT t.ln, V.ref l)]).length = t.fl.length + 1 := by simp
  have nd : ((t.fl.map fun p => (kT p.1, p.2)).map (·.1)).Nodup := by
    have e : ((t.fl.map fun p => (kT p.1, p.2)).map (·.1)) = t.fl.map fun p => kT p.1 := by rw [List.map_map]; rfl
    rw [e]
    exact fl_keys.1
  have newk : ∀ i p, t.fl[i]? = some p → valV ((t.fl.map fun p => (kT p.1, p.2)).take i) (kT p.1) = none := by
    intro i p e
    refine val_none ?_
    rw [List.map_take]
    refine nd_take nd ?_
    rw [List.getElem?_map, List.getElem?_map, e]
    rfl
  refine dc_keys (fun i H' => (i ≤ t.fl.length → HH F1 H' ((D, .dK ((t.fl.map fun p => (kT p.1, p.2)).take i)) :: (v, .ins (He.ga K "Thing") dx ([] ++ [(("kind" : Str), V.str ⟨t.kind.toArray⟩)])) :: M)) ∧
      (i = t.fl.length + 1 → ∃ l', HH F1 H' ((l', .lst (t.ls.map V.int)) :: (D, .dK ((t.fl.map fun p => (kT p.1, p.2)) ++ [(kT t.ln, .ref l')])) :: (v, .ins (He.ga K "Thing") dx ([] ++ [(("kind" : Str), V.str ⟨t.kind.toArray⟩)])) :: M)) ∧ i ≤ t.fl.length + 1)
    ⟨fun _ => by rw [List.take_zero]; exact hh.new hD, fun e => by omega, Nat.zero_le _⟩ (fun i H' h => ?_) (fun i k w H' e h => ?_) (fun H' h => ?_)
  · rcases Nat.lt_or_ge i (t.fl.length + 1) with z | z
    · exact (h.1 (by omega)).sub _ _ hf
    · obtain ⟨l', h2⟩ := h.2.1 (by omega)
      exact h2.sub _ _ hf
  · rcases Nat.lt_or_ge i t.fl.length with z | z
    · have h1 := h.1 (by omega)
      rw [List.getElem?_append_left (by rw [List.length_map]; exact z), List.getElem?_map, List.getElem?_eq_getElem z] at e
      obtain ⟨rfl, rfl⟩ := Prod.mk.inj (Option.some.inj e)
      show gName 3 (.str ⟨(t.fl[i]).1.toArray⟩) _ _ _
      walk_at "go"
      refine ⟨rfl, ?_⟩
      walk_at "go"
      refine s_dgetT (hy.mono s1) h1.sub (ck_fl (List.getElem_mem z)) fun u hu => ?_
      obtain rfl := At.v_.mp hu
      refine rd_copyV (E := fun _ _ _ => False) (ht _ (List.getElem_mem z)) ?_
      refine v_putD (k := kT (t.fl[i]).1) (h1.get (i := 0) rfl) (by rw [List.length_take, List.length_map]; cases t <;> (simp [Th.fl] at z ⊢ <;> omega)) ⟨fun _ => ?_, fun e => by omega, by omega⟩
      have e2 : putK ((t.fl.map fun p => (kT p.1, p.2)).take i) (kT (t.fl[i]).1) (t.fl[i]).2 = (t.fl.map fun p => (kT p.1, p.2)).take (i + 1) := by
        rw [putK_new _ (newk i _ (List.getElem?_eq_getElem z)), List.take_add_one, List.getElem?_map, List.getElem?_eq_getElem z]
        rfl
      rw [e2]
      exact h1.set0
    · have ei : i = t.fl.length := by
        have := (List.getElem?_eq_some_iff.mp e).1
        rw [len] at this
        omega
      subst ei
      have h1 := h.1 (Nat.le_refl _)
      rw [List.getElem?_append_right (by rw [List.length_map]; exact Nat.le_refl _), List.length_map, Nat.sub_self] at e
      obtain ⟨rfl, rfl⟩ := Prod.mk.inj (Option.some.inj e)
      rw [List.take_of_length_le (by rw [List.length_map]; exact Nat.le_refl _)] at h1
      show gName 3 (.str ⟨t.ln.toArray⟩) _ _ _
      walk_at "go"
      refine ⟨rfl, ?_⟩
      walk_at "go"
      refine s_dgetT (hy.mono s1) h1.sub ck_ln fun u hu => ?_
      obtain rfl := At.v_.mp hu
      refine rd_copyL (E := fun _ _ _ => False) (hl.at_ s1 h1 fun p hp => List.mem_cons_of_mem _ (List.mem_cons_of_mem _ hp)) fun p hp => ?_
      have h2 := h1.new (o := .lst (t.ls.map V.int)) hp
      refine v_putD (k := kT t.ln) (h2.get (i := 1) rfl) (by rw [List.length_map]; cases t <;> (simp [Th.fl])) ⟨fun e => by omega, fun _ => ⟨p, ?_⟩, by omega⟩
      have e2 : putK (t.fl.map fun p => (kT p.1, p.2)) (kT t.ln) (.ref p) = (t.fl.map fun p => (kT p.1, p.2)) ++ [(kT t.ln, .ref p)] := by
        refine putK_new _ (val_none fun z => ?_)
        rw [List.map_map] at z
        obtain ⟨q, hq, e⟩ := List.mem_map.mp z
        exact fl_keys.2 q hq e
      rw [e2]
      exact h2.set1
  · rw [len] at h
    obtain ⟨l', h2⟩ := h.2.1 rfl
    refine o_fz h2.swap fun F3 H3 od s3 hh hF => ?_
    walk_at "go"
    refine s_sfld hh.swap T.cl_Thing T.no_Thing_contents ["kind"] rfl (by decide +kernel) (Nat.le_of_ble_eq_true rfl) fun H4 hh => ?_
    refine ⟨rfl, mk_end hh (AtF.cons At.of (AtF.cons (At.mkK hF ck_at) AtF.nil)) fun F5 H5 u s5 hh5 ha => q F5 H5 u l' (s1.trans (s3.trans s5)) hh5 ha⟩
variable {F0 : Hp} {t : Th}
theorem fk_kind (T : Tx K mg) (h : At K F0 (dR t l) x) (s : Same F0 H) (q : Q (.str ⟨t.kind.toArray⟩) H) : FldK K "kind" x H Q := s_fld h s T.cl_Thing T.no_Thing_kind (lk1 rfl) fun w e => by rw [At.v_.mp e]; exact q
theorem fk_contents (T : Tx K mg) (h : At K F0 (dR t l) x) (s : Same F0 H) (q : ∀ w, At K F0 (cR t l) w → Q w H) : FldK K "contents" x H Q := s_fld h s T.cl_Thing T.no_Thing_contents (lk2 (by decide +kernel) (lk1 rfl)) q
end
end Lw

-- fld
namespace Lw
open PySem PySem.Spec PyProof.Rows L2 G
/-! ### the law's schema, the draws -/
inductive Sh where
  | i
  | t
  | r (ks : List (List Nat)) (z : List Nat)
  | l (ks : List (List Nat))
def Sh.d : Sh → D
  | .i => o_IntSort (.i 0) (.i 9)
  | .t => o_TextSort (.i 4) .n
  | .r ks z => o_RefSort (.lst (ks.map D.t)) (.t z)
  | .l ks => o_ListSort (.lst (ks.map D.t))
structure Fdd where
  name : List Nat
  sh : Sh
  need : Bool
def Fdd.d (f : Fdd) : D := o_Field (.t f.name) f.sh.d (.b f.need)
structure Kdd where
  name : List Nat
  fs : List Fdd
  keys : List (List (List Nat))
abbrev dTs (r : List (List Nat)) : D := .lst (r.map D.t)
abbrev Kdd.d (k : Kdd) : D := .obj "Kind" [("name", .t k.name), ("fields", .lst (k.fs.map Fdd.d)), ("key_rows", .lst (k.keys.map dTs))]
def kA (r0 : List Nat) (b : Bool) : Kdd := ⟨q_A, [⟨q_a, .i, b⟩, ⟨q_t, .t, false⟩, ⟨q_r, .r [q_A, q_B] r0, false⟩, ⟨q_l, .l [q_A], false⟩], [[q_a, q_t]]⟩
def kB (r1 r2 : List Nat) (b : Bool) : Kdd := ⟨q_B, [⟨q_p, .r [q_A] r1, b⟩, ⟨q_q, .r [q_B] r2, false⟩, ⟨q_m, .l [q_A, q_B], false⟩], [[q_q]]⟩
abbrev dSch (r0 r1 r2 : List Nat) (b : Bool) : D := o_Schema (.lst ([kA r0 b, kB r1 r2 b].map Kdd.d))
def l_ru : List (List Nat) := [q_clears, q_refuses, q_takes]
/-! pictures -/
abbrev Pic := List (Int × Th × Addr)
def pK (ps : Pic) : List (L2.Key × D) := ps.map fun p => (kI p.1, dR p.2.1 p.2.2)
abbrev dPic (ps : Pic) : D := .dk (pK ps)
def putP (ps : Pic) (n : Int) (t : Th × Addr) : Pic := if (ps.any fun p => decide (p.1 = n)) = true then ps.map (fun p => if p.1 = n then (n, t) else p) else ps ++ [(n, t)]
structure PicOk (F : Hp) (M : List (Addr × HO)) (ps : Pic) : Prop where
  nd : (ps.map (·.1)).Nodup
  th : ∀ p ∈ ps, p.2.1.ok
  ls : ∀ p ∈ ps, RL F M p.2.2 p.2.1.ls
theorem PicOk.mono {F F' : Hp} {M M' : List (Addr × HO)} {ps : Pic} (h : PicOk F M ps) (s : Same F F') (m : ∀ p ∈ M, p ∈ M') : PicOk F' M' ps := ⟨h.nd, h.th, fun p hp => (h.ls p hp).mono s m⟩
theorem putP_keys {ps : Pic} {n : Int} {t : Th × Addr} (h : (ps.map (·.1)).Nodup) : ((putP ps n t).map (·.1)).Nodup := by
  unfold putP
  split
  · rw [List.map_map]
    have e : ((fun x : Int × Th × Addr => x.1) ∘ fun p => if p.1 = n then (n, t) else p) = fun p : Int × Th × Addr => p.1 := by
      funext p
      show (if p.1 = n then (n, t) else p).1 = p.1
      split
      · rename_i h; exact h.symm
      · rfl
    rw [e]
    exact h
  · rename_i hn
    rw [List.map_append, List.nodup_append]
    refine ⟨h, by simp, fun a ha b hb e => hn ?_⟩
    obtain ⟨p, hp, rfl⟩ := List.mem_map.mp ha
    rw [List.map_cons, List.map_nil, List.mem_singleton] at hb
    exact List.any_eq_true.mpr ⟨p, hp, decide_eq_true (e.trans hb)⟩
theorem putP_mem {ps : Pic} {n : Int} {t : Th × Addr} {p : Int × Th × Addr} (h : p ∈ putP ps n t) : p = (n, t) ∨ p ∈ ps := by
  unfold putP at h
  split at h
  · obtain ⟨q, hq, rfl⟩ := List.mem_map.mp h
    by_cases c : q.1 = n
    · rw [if_pos c]; exact .inl rfl
    · rw [if_neg c]; exact .inr hq
  · rcases List.mem_append.mp h with h | h
    · exact .inr h
    · exact .inl (List.mem_singleton.mp h)
theorem at_map {K : PySem.W.Frag} {F : Hp} {n : Int} {t : Th × Addr} {u : V} (ht : At K F (dR t.1 t.2) u) : ∀ {ps : Pic} {kvs : List (L2.Key × V)}, AtK K F (pK ps) kvs →
    AtK K F (pK (ps.map fun p => if p.1 = n then (n, t) else p)) (kvs.map fun kv => if kv.1 = kI n then (kv.1, u) else kv)
  | [], kvs, h => by rw [AtK.ni h]; exact AtK.nil
  | p :: ps, kvs, h => by
    obtain ⟨z, us, rfl, h1, h2⟩ := AtK.ci h
    show AtK K F (pK ((if p.1 = n then (n, t) else p) :: _)) ((if (kI p.1 : L2.Key) = kI n then (kI p.1, u) else (kI p.1, z)) :: _)
    by_cases c : p.1 = n
    · rw [if_pos c, if_pos (show (kI p.1 : L2.Key) = kI n by rw [c])]
      show AtK K F ((kI n, dR t.1 t.2) :: _) ((kI p.1, u) :: _)
      rw [c]
      exact AtK.cons ht (at_map ht h2)
    · rw [if_neg c, if_neg (show ¬(kI p.1 : L2.Key) = kI n from fun e => c (Sum.inl.inj e))]
      exact AtK.cons h1 (at_map ht h2)
theorem at_any {K : PySem.W.Frag} {F : Hp} {n : Int} : ∀ {ps : Pic} {kvs : List (L2.Key × V)}, AtK K F (pK ps) kvs → (kvs.any fun kv => decide (kv.1 = kI n)) = (ps.any fun p => decide (p.1 = n))
  | [], kvs, h => by rw [AtK.ni h]; rfl
  | p :: ps, kvs, h => by
    obtain ⟨z, us, rfl, _, h2⟩ := AtK.ci h
    rw [List.any_cons, List.any_cons, at_any h2]
    congr 1
    exact decide_eq_decide.mpr ⟨fun e => Sum.inl.inj e, fun e => by show kI p.1 = _; rw [e]⟩
theorem at_put {K : PySem.W.Frag} {F : Hp} {n : Int} {t : Th × Addr} {u : V} {ps : Pic} {kvs : List (L2.Key × V)} (h : AtK K F (pK ps) kvs) (ht : At K F (dR t.1 t.2) u) : AtK K F (pK (putP ps n t)) (putK kvs (kI n) u) := by
  unfold putP putK
  rw [at_any h]
  split
  · exact at_map ht h
  · have : pK (ps ++ [(n, t)]) = pK ps ++ [(kI n, dR t.1 t.2)] := by unfold pK; rw [List.map_append]; rfl
    rw [this]
    exact AtK.snoc h ht
section
variable {K : PySem.W.Frag} {F F0 F1 F2 H H' : Hp} {Q : VK} {E : XK} {mg : Str → Option Value} {M : List (Addr × HO)} {x y z : V} {o : HO} {d l l' : Addr} {t t' : Th} {ns ms : List Int}
theorem mk_Kind (T : Tx K mg) {k : Kdd} {fv kv : V} (hh : HH F H M) (hf : At K F (.lst (k.fs.map Fdd.d)) fv) (hk : At K F (.lst (k.keys.map dTs)) kv) (hkl : k.keys.length ≤ 1000) (q : ∀ F' H' u, Same F F' → HH F' H' M → At K F' k.d u → Q u H') :
    MakeK (He.ga K "Kind") (sp_Kind_init K) [.str ⟨k.name.toArray⟩, fv, kv] Q H E := by
  refine mk_start hh fun F1 H1 y dx s1 hh => ?_
  refine ⟨rfl, ?_⟩
  unfold t_Kind_init
  walk_at "go"
  refine s_sfld hh T.cl_Kind T.no_Kind_name [] rfl (by decide +kernel) (Nat.le_of_ble_eq_true rfl) fun H2 hh => ?_
  walk_at "go"
  refine s_listL hf hh s1 fun F3 H3 u3 s3 hh hu3 => ?_
  walk_at "go"
  refine s_sfld hh T.cl_Kind T.no_Kind_fields ["name"] rfl (by decide +kernel) (Nat.le_of_ble_eq_true rfl) fun H4 hh => ?_
  walk_at "go"
  refine gi_list ?_
  walk_at "go"
  refine a_lcL (e := dTs) (f := dTs) (hk.mono (s1.trans s3)) hh (by rw [sl16]; omega) (fun k => some k) (fun y w F' H' c' P N hy hw sF hh' hP hN => ?_) fun F5 H5 u5 s5 hh hu5 => ?_
  · walk_at "go"
    refine ⟨rfl, ?_⟩
    walk_at "go"
    exact s_listL hw hh' (Same.refl _) fun F6 H6 u6 s6 hh6 hu6 => hP F6 H6 u6 y s6 hh6 rfl hu6
  rw [List.filterMap_some] at hu5
  walk_at "go"
  refine s_sfld hh T.cl_Kind T.no_Kind_key_rows ["name", "fields"] rfl (by decide +kernel) (Nat.le_of_ble_eq_true rfl) fun H6 hh => ?_
  exact ⟨rfl, mk_end hh (AtF.cons At.of (AtF.cons (hu3.mono s5) (AtF.cons hu5 AtF.nil))) fun F7 H7 u s7 hh7 ha => q F7 H7 u (s1.trans (s3.trans (s5.trans s7))) hh7 ha⟩
theorem fk_name (T : Tx K mg) {k : Kdd} (h : At K F0 k.d x) (s : Same F0 H) (q : Q (.str ⟨k.name.toArray⟩) H) : FldK K "name" x H Q := s_fld h s T.cl_Kind T.no_Kind_name (lk1 rfl) fun w e => by rw [At.v_.mp e]; exact q
theorem fk_fields (T : Tx K mg) {k : Kdd} (h : At K F0 k.d x) (s : Same F0 H) (q : ∀ w, At K F0 (.lst (k.fs.map Fdd.d)) w → Q w H) : FldK K "fields" x H Q := s_fld h s T.cl_Kind T.no_Kind_fields (lk2 (by decide +kernel) (lk1 rfl)) q
theorem rd_schema (T : Tx K mg) {r0 r1 r2 : List Nat} {b : Bool} (hh : HH F H M) (hx : At K F (.lst ([r0, r1, r2].map D.t)) x) (q : ∀ F' H' u, Same F F' → HH F' H' M → At K F' (dSch r0 r1 r2 b) u → Q u H') : sp__law_schema K [x, .bl b] H Q E := by
  refine ⟨rfl, ?_⟩
  unfold t__law_schema
  walk_at "go"
  refine mk_IntSort T hh At.of At.of fun F1 H1 u1 s1 hh h1 => ?_
  walk_at "go"
  refine mk_Field T hh At.of h1 At.of fun F2 H2 u2 s2 hh h2 => ?_
  walk_at "go"
  refine g_makeD ?_
  walk_at "go"
  refine g_makeD ?_
  walk_at "go"
  refine mk_TextSort T hh At.of At.of fun F3 H3 u3 s3 hh h3 => ?_
  walk_at "go"
  refine mk_Field T hh At.of h3 At.of fun F4 H4 u4 s4 hh h4 => ?_
  walk_at "go"
  refine g_makeD ?_
  walk_at "go"
  refine s_lst (K := K) (ds := [q_A, q_B].map D.t) hh (AtA.ofFlat (g := svv) (xs := [q_A, q_B])) (by show 2 ≤ 1000; decide) fun F5 H5 u5 s5 hh h5 => ?_
  walk_at "go"
  refine a_ixL (i := 0) (d := D.t r0) (hx.mono (s1.trans (s2.trans (s3.trans (s4.trans s5))))) hh rfl rfl fun w hw => ?_
  walk_at "go"
  refine mk_RefSort T hh h5 hw fun F6 H6 u6 s6 hh h6 => ?_
  walk_at "go"
  refine mk_Field T hh At.of h6 At.of fun F7 H7 u7 s7 hh h7 => ?_
  walk_at "go"
  refine g_makeD ?_
  walk_at "go"
  refine s_lst (K := K) (ds := [q_A].map D.t) hh (AtA.ofFlat (g := svv) (xs := [q_A])) (by show 1 ≤ 1000; decide) fun F8 H8 u8 s8 hh h8 => ?_
  walk_at "go"
  refine mk_ListSort T hh h8 fun F9 H9 u9 s9 hh h9 => ?_
  walk_at "go"
  refine mk_Field T hh At.of h9 At.of fun F10 H10 u10 s10 hh h10 => ?_
  walk_at "go"
  refine s_lst (K := K) (ds := (kA r0 b).fs.map Fdd.d) hh (AtA.cons (h2.mono (by walk_at "sm")) (AtA.cons (h4.mono (by walk_at "sm")) (AtA.cons (h7.mono (by walk_at "sm")) (AtA.cons h10 AtA.nil)))) (by show 4 ≤ 1000; decide) fun F11 H11 u11 s11 hh h11 => ?_
  walk_at "go"
  refine s_lst (K := K) (ds := [q_a, q_t].map D.t) hh (AtA.ofFlat (g := svv) (xs := [q_a, q_t])) (by show 2 ≤ 1000; decide) fun F12 H12 u12 s12 hh h12 => ?_
  walk_at "go"
  refine s_lst (K := K) (ds := (kA r0 b).keys.map dTs) hh (AtA.cons h12 AtA.nil) (by show 1 ≤ 1000; decide) fun F13 H13 u13 s13 hh h13 => ?_
  walk_at "go"
  refine mk_Kind T (k := kA r0 b) hh (h11.mono (s12.trans s13)) h13 (by show 1 ≤ 1000; decide) fun F14 H14 u14 s14 hh h14 => ?_
  have sa : Same F F14 := s1.trans (s2.trans (s3.trans (s4.trans (s5.trans (s6.trans (s7.trans (s8.trans (s9.trans (s10.trans (s11.trans (s12.trans (s13.trans s14))))))))))))
  clear s1 s2 s3 s4 s5 s6 s7 s8 s9 s10 s11 s12 s13 s14 h1 h2 h3 h4 h5 h6 h7 h8 h9 h10 h11 h12 h13 hw
  walk_at "go"
  refine s_lst (K := K) (ds := [q_A].map D.t) hh (AtA.ofFlat (g := svv) (xs := [q_A])) (by show 1 ≤ 1000; decide) fun F1 H1 u1 s1 hh h1 => ?_
  walk_at "go"
  refine a_ixL (i := 1) (d := D.t r1) (hx.mono (sa.trans s1)) hh rfl rfl fun w hw => ?_
  walk_at "go"
  refine mk_RefSort T hh h1 hw fun F2 H2 u2 s2 hh h2 => ?_
  walk_at "go"
  refine mk_Field T hh At.of h2 At.of fun F3 H3 u3 s3 hh h3 => ?_
  walk_at "go"
  refine g_makeD ?_
  walk_at "go"
  refine s_lst (K := K) (ds := [q_B].map D.t) hh (AtA.ofFlat (g := svv) (xs := [q_B])) (by show 1 ≤ 1000; decide) fun F4 H4 u4 s4 hh h4 => ?_
  walk_at "go"
  refine a_ixL (i := 2) (d := D.t r2) (hx.mono (sa.trans (s1.trans (s2.trans (s3.trans s4))))) hh rfl rfl fun w hw2 => ?_
  walk_at "go"
  refine mk_RefSort T hh h4 hw2 fun F5 H5 u5 s5 hh h5 => ?_
  walk_at "go"
  refine mk_Field T hh At.of h5 At.of fun F6 H6 u6 s6 hh h6 => ?_
  walk_at "go"
  refine g_makeD ?_
  walk_at "go"
  refine s_lst (K := K) (ds := [q_A, q_B].map D.t) hh (AtA.ofFlat (g := svv) (xs := [q_A, q_B])) (by show 2 ≤ 1000; decide) fun F7 H7 u7 s7 hh h7 => ?_
  walk_at "go"
  refine mk_ListSort T hh h7 fun F8 H8 u8 s8 hh h8 => ?_
  walk_at "go"
  refine mk_Field T hh At.of h8 At.of fun F9 H9 u9 s9 hh h9 => ?_
  walk_at "go"
  refine s_lst (K := K) (ds := (kB r1 r2 b).fs.map Fdd.d) hh (AtA.cons (h3.mono (by walk_at "sm")) (AtA.cons (h6.mono (by walk_at "sm")) (AtA.cons h9 AtA.nil))) (by show 3 ≤ 1000; decide) fun F11 H11 u11 s11 hh h11 => ?_
  walk_at "go"
  refine s_lst (K := K) (ds := [q_q].map D.t) hh (AtA.ofFlat (g := svv) (xs := [q_q])) (by show 1 ≤ 1000; decide) fun F12 H12 u12 s12 hh h12 => ?_
  walk_at "go"
  refine s_lst (K := K) (ds := (kB r1 r2 b).keys.map dTs) hh (AtA.cons h12 AtA.nil) (by show 1 ≤ 1000; decide) fun F13 H13 u13 s13 hh h13 => ?_
  walk_at "go"
  refine mk_Kind T (k := kB r1 r2 b) hh (h11.mono (s12.trans s13)) h13 (by show 1 ≤ 1000; decide) fun F15 H15 u15 s15 hh h15 => ?_
  walk_at "go"
  refine s_lst (K := K) (ds := [kA r0 b, kB r1 r2 b].map Kdd.d) hh (AtA.cons (h14.mono (by walk_at "sm")) (AtA.cons h15 AtA.nil)) (by show 2 ≤ 1000; decide) fun F16 H16 u16 s16 hh h16 => ?_
  walk_at "go"
  exact mk_Schema T hh h16 fun F17 H17 u17 s17 hh h17 => q F17 H17 u17 (by walk_at "sm") hh h17
end
end Lw

-- fld
namespace Lw
open PySem PySem.Spec PyProof.Rows L2 G
/-! ### contents and pictures drawn -/
theorem nin {ks : List L2.Key} {k : L2.Key} (h : (ks.all fun j => decide (j ≠ k)) = true) : k ∉ ks := fun hm => of_decide_eq_true (List.all_eq_true.mp h k hm) rfl
theorem pick_mem {K : PySem.W.Frag} {F : Hp} {xs : List V} {i : Nat} {e : D} {v : V} (he : (xs.map D.v)[i]? = some e) (hv : At K F e v) : v ∈ xs := by
  rw [List.getElem?_map] at he
  obtain ⟨z, hz, rfl⟩ := Option.map_eq_some_iff.mp he
  rw [At.v_.mp hv]
  exact List.mem_of_getElem? hz
theorem flatI : ∀ {ns : List Int}, (ns.map V.int).all flatV = true
  | [] => rfl
  | n :: ns => by rw [List.map_cons, List.all_cons, flatI]; rfl
section
variable {K : PySem.W.Frag} {F F0 F1 F2 H H' : Hp} {Q : VK} {E : XK} {mg : Str → Option Value} {M : List (Addr × HO)} {x y z : V} {o : HO} {d l l' : Addr} {t t' : Th} {ns ms : List Int}
theorem rd_number (hh : HH F H ((d, o) :: M)) (ho : DrO o) (q : ∀ v H' o', Nm v → DrO o' → HH F H' ((d, o') :: M) → Q v H') : sp__law_number K [.ref d] H Q E := by
  refine ⟨rfl, ?_⟩
  unfold t__law_number
  walk_at "go"
  refine rd_draw hh ho ⟨by decide, by decide⟩ fun v H1 o1 h0 h1 ho hh => ?_
  walk_at "go"
  refine ite2 (fun z => ?_) (fun z => ?_)
  · walk_at "go"
    exact q _ _ o1 (.inl rfl) ho hh
  · walk_at "go"
    exact q _ _ o1 (.inr ⟨v, rfl, h0, by omega⟩) ho hh
theorem rd_list (hh : HH F H ((d, o) :: M)) (ho : DrO o) (q : ∀ F' H' o' l ns, LsOk ns → Same F F' → DrO o' → HH F' H' ((d, o') :: M) → F' l = some (.lst (ns.map V.int)) → Q (.ref l) H') : sp__law_list K [.ref d] H Q E := by
  refine ⟨rfl, ?_⟩
  unfold t__law_list
  walk_at "go"
  refine o_lst1 hh (by decide) fun H1 p hh => ?_
  walk_at "go"
  refine rd_draw hh ho ⟨by decide, by decide⟩ fun v H2 o2 h0 h1 ho hh => ?_
  walk_at "go"
  refine g_rngI (by omega) (by omega) ?_
  have hv : v.toNat ≤ 4 := by omega
  refine l_range (fun i σ H' => i ≤ v.toNat ∧ ∃ (ns : List Int) (o : HO) (v2 v3 : Option V), ns.length ≤ i ∧ (∀ n ∈ ns, 0 ≤ n ∧ n ≤ 9) ∧ σ = [some (.ref d), some (.ref p), v2, v3] ∧ DrO o ∧ HH F H' ((d, o) :: (p, .lst (ns.map V.int)) :: M))
    ⟨Nat.zero_le _, [], o2, none, none, Nat.le_refl _, (fun _ h => nomatch h), rfl, ho, hh⟩ ?_ ?_
  · clear hh ho
    rintro i σ H' hi ⟨_, ns, o, v2, v3, hl, hn, rfl, ho, hh⟩
    walk_at "go"
    refine rd_draw hh ho ⟨by decide, by decide⟩ fun w H3 o3 h2 h3 ho hh => ?_
    walk_at "go"
    refine v_notInL (SqL.of (hh.get (i := 1) rfl)) rfl flatI ?_
    walk_at "go"
    refine ite2 (fun z => ?_) (fun z => ?_)
    · walk_at "go"
      refine o_tyL (i := 1) hh rfl ?_
      walk_at "go"
      refine o_app1 hh (by rw [List.length_map]; omega) fun H4 hh => ?_
      refine ⟨by omega, ns ++ [1 + w], o3, _, _, by rw [List.length_append]; show ns.length + 1 ≤ _; omega, fun n h => ?_, rfl, ho, ?_⟩
      · rcases List.mem_append.mp h with h | h
        · exact hn n h
        · rw [List.mem_singleton.mp h]; omega
      · rw [List.map_append]
        exact hh
    · walk_at "go"
      exact ⟨by omega, ns, o3, _, _, by omega, hn, rfl, ho, hh⟩
  · rintro σ H' ⟨_, ns, o, v2, v3, hl, hn, rfl, ho, hh⟩
    walk_at "go"
    exact q _ _ o p ns ⟨by omega, hn⟩ hh.frz1S ho hh.frz1 upd_same
abbrev l_pa : List V := [.non, .int 0, .int 1, .int 2, .int 9]
abbrev l_pt : List V := [.non, svv q_empty, svv q_b, svv q_ab]
theorem pa_nm : ∀ v ∈ l_pa, Nm v := by
  intro v h
  simp only [List.mem_cons, List.not_mem_nil, or_false] at h
  rcases h with rfl | rfl | rfl | rfl | rfl
  · exact .inl rfl
  · exact .inr ⟨_, rfl, by decide, by decide⟩
  · exact .inr ⟨_, rfl, by decide, by decide⟩
  · exact .inr ⟨_, rfl, by decide, by decide⟩
  · exact .inr ⟨_, rfl, by decide, by decide⟩
theorem pt_tx : ∀ v ∈ l_pt, Tx3 v := by
  intro v h
  simp only [List.mem_cons, List.not_mem_nil, or_false] at h
  rcases h with rfl | rfl | rfl | rfl
  · exact .inl rfl
  · exact .inr ⟨_, List.mem_cons_self .., rfl⟩
  · exact .inr ⟨_, List.mem_cons_of_mem _ (List.mem_cons_self ..), rfl⟩
  · exact .inr ⟨_, List.mem_cons_of_mem _ (List.mem_cons_of_mem _ (List.mem_cons_self ..)), rfl⟩
theorem rd_contents {k : List Nat} (hk : k = q_A ∨ k = q_B) (hh : HH F H ((d, o) :: M)) (ho : DrO o)
    (q : ∀ F' H' u o' t l, t.kind = k → t.ok → Same F F' → DrO o' → HH F' H' ((d, o') :: M) → At K F' (cR t l) u → F' l = some (.lst (t.ls.map V.int)) → Q u H') : sp__law_contents K [.ref d, .str ⟨k.toArray⟩] H Q E := by
  refine ⟨rfl, ?_⟩
  unfold t__law_contents
  walk_at "go"
  refine o_dnew1 hh fun H1 c hh => ?_
  walk_at "go"
  rcases hk with rfl | rfl
  · rw [decide_eq_true rfl]
    walk_at "go"
    refine s_lst (K := K) (ds := l_pa.map D.v) hh (AtA.cons At.of (AtA.cons At.of (AtA.cons At.of (AtA.cons At.of (AtA.cons At.of AtA.nil))))) (by show 5 ≤ 1000; decide) fun F2 H2 u2 s2 hh h2 => ?_
    walk_at "go"
    refine rd_pick hh ho h2 (Same.refl _) (by decide) (by decide) fun j e va H3 o3 he hv ho hh => ?_
    have na := pa_nm _ (pick_mem he hv)
    walk_at "go"
    refine o_dput1 (k := kT q_a) hh (by decide) fun H4 hh => ?_
    replace hh : HH F2 H4 ((d, o3) :: (c, .dK [(kT q_a, va)]) :: M) := hh
    walk_at "go"
    refine s_lst (K := K) (ds := l_pt.map D.v) hh (AtA.cons At.of (AtA.cons At.of (AtA.cons At.of (AtA.cons At.of AtA.nil)))) (by show 4 ≤ 1000; decide) fun F5 H5 u5 s5 hh h5 => ?_
    walk_at "go"
    refine rd_pick hh ho h5 (Same.refl _) (by decide) (by decide) fun j e vt H6 o6 he hv ho hh => ?_
    have nt := pt_tx _ (pick_mem he hv)
    walk_at "go"
    refine o_dput1 (k := kT q_t) hh (by show 1 < 1000000; decide) fun H7 hh => ?_
    rw [show putK [(kT q_a, va)] (kT q_t) vt = [(kT q_a, va), (kT q_t, vt)] from putK_new _ (val_none (nin (ks := [kT q_a]) (by decide)))] at hh
    walk_at "go"
    refine rd_number hh ho fun vr H8 o8 nr ho hh => ?_
    walk_at "go"
    refine o_dput1 (k := kT q_r) hh (by show 2 < 1000000; decide) fun H9 hh => ?_
    rw [show putK [(kT q_a, va), (kT q_t, vt)] (kT q_r) vr = [(kT q_a, va), (kT q_t, vt), (kT q_r, vr)] from putK_new _ (val_none (nin (ks := [kT q_a, kT q_t]) (by decide)))] at hh
    walk_at "go"
    refine rd_list hh ho fun F10 H10 o10 l ns hls s10 ho hh hl => ?_
    walk_at "go"
    refine o_dput1 (k := kT q_l) hh (by show 3 < 1000000; decide) fun H11 hh => ?_
    rw [show putK [(kT q_a, va), (kT q_t, vt), (kT q_r, vr)] (kT q_l) (.ref l) = [(kT q_a, va), (kT q_t, vt), (kT q_r, vr), (kT q_l, .ref l)] from putK_new _ (val_none (nin (ks := [kT q_a, kT q_t, kT q_r]) (by decide)))] at hh
    walk_at "go"
    refine o_fz hh.swap fun F12 H12 od s12 hh hF => ?_
    exact q F12 H12 _ o10 (.A va vt vr ns) l rfl ⟨na, nt, nr, hls⟩ (s2.trans (s5.trans (s10.trans s12))) ho hh (At.mkK hF (ck_at (t := .A va vt vr ns))) (s12 _ _ hl)
  · rw [decide_eq_false (by decide)]
    walk_at "go"
    refine rd_number hh ho fun va H8 o8 na ho hh => ?_
    walk_at "go"
    refine o_dput1 (k := kT q_p) hh (by decide) fun H9 hh => ?_
    replace hh : HH F H9 ((d, o8) :: (c, .dK [(kT q_p, va)]) :: M) := hh
    walk_at "go"
    refine rd_number hh ho fun vt H8 o8 nt ho hh => ?_
    walk_at "go"
    refine o_dput1 (k := kT q_q) hh (by show 1 < 1000000; decide) fun H9 hh => ?_
    rw [show putK [(kT q_p, va)] (kT q_q) vt = [(kT q_p, va), (kT q_q, vt)] from putK_new _ (val_none (nin (ks := [kT q_p]) (by decide)))] at hh
    walk_at "go"
    refine rd_list hh ho fun F10 H10 o10 l ns hls s10 ho hh hl => ?_
    walk_at "go"
    refine o_dput1 (k := kT q_m) hh (by show 2 < 1000000; decide) fun H11 hh => ?_
    rw [show putK [(kT q_p, va), (kT q_q, vt)] (kT q_m) (.ref l) = [(kT q_p, va), (kT q_q, vt), (kT q_m, .ref l)] from putK_new _ (val_none (nin (ks := [kT q_p, kT q_q]) (by decide)))] at hh
    walk_at "go"
    refine o_fz hh.swap fun F12 H12 od s12 hh hF => ?_
    exact q F12 H12 _ o10 (.B va vt ns) l rfl ⟨na, nt, hls⟩ (s10.trans s12) ho hh (At.mkK hF (ck_at (t := .B va vt ns))) (s12 _ _ hl)
theorem rd_picture (T : Tx K mg) (hh : HH F H ((d, o) :: M)) (ho : DrO o) (q : ∀ F' H' u o' ps, PicOk F' [] ps → (∀ p ∈ ps, 1 ≤ p.1 ∧ p.1 ≤ 9) → ps.length ≤ 7 → Same F F' → DrO o' → HH F' H' ((d, o') :: M) → At K F' (dPic ps) u → Q u H') : sp__law_picture K [.ref d] H Q E := by
  refine ⟨rfl, ?_⟩
  unfold t__law_picture
  walk_at "go"
  refine o_dnew1 hh fun H1 c hh => ?_
  walk_at "go"
  refine rd_draw hh ho ⟨by decide, by decide⟩ fun v H2 o2 h0 h1 ho hh => ?_
  walk_at "go"
  refine g_rngI (by omega) (by omega) ?_
  have hv : v.toNat ≤ 7 := by omega
  refine l_range (fun i σ H' => i ≤ v.toNat ∧ ∃ (F' : Hp) (ps : Pic) (kvs : List (L2.Key × V)) (o : HO) (v2 v3 v4 : Option V), kvs.length ≤ i ∧ σ = [some (.ref d), some (.ref c), v2, v3, v4] ∧ Same F F' ∧ DrO o ∧ HH F' H' ((d, o) :: (c, .dK kvs) :: M) ∧ AtK K F' (pK ps) kvs ∧ PicOk F' [] ps ∧ ∀ p ∈ ps, 1 ≤ p.1 ∧ p.1 ≤ 9)
    ⟨Nat.zero_le _, F, [], [], o2, none, none, none, Nat.le_refl _, rfl, Same.refl _, ho, hh, AtK.nil, ⟨.nil, (fun _ h => nomatch h), fun _ h => nomatch h⟩, fun _ h => nomatch h⟩ ?_ ?_
  · clear hh ho
    rintro i σ H' hi ⟨_, F', ps, kvs, o, v2, v3, v4, hl, rfl, s, ho, hh, hk, ok, hr⟩
    walk_at "go"
    refine rd_draw hh ho ⟨by decide, by decide⟩ fun w H3 o3 h2 h3 ho hh => ?_
    walk_at "go"
    refine s_lst (K := K) (ds := [q_A, q_B].map D.t) hh (AtA.ofFlat (g := svv) (xs := [q_A, q_B])) (by show 2 ≤ 1000; decide) fun F4 H4 u4 s4 hh h4 => ?_
    walk_at "go"
    refine rd_pick hh ho h4 (Same.refl _) (by decide) (by decide) fun j e kv H5 o5 he hv ho hh => ?_
    rw [List.getElem?_map] at he
    obtain ⟨k, hz, rfl⟩ := Option.map_eq_some_iff.mp he
    obtain rfl := At.v_.mp hv
    have hkk : k = q_A ∨ k = q_B := by
      have := List.mem_of_getElem? hz
      simpa using this
    walk_at "go"
    refine rd_contents hkk hh ho fun F6 H6 u6 o6 t l ek ht s6 ho hh hc hl6 => ?_
    walk_at "go"
    rw [← ek]
    refine mk_ThingR T ht.fl hh hc (.inl hl6) fun F7 H7 u7 l' s7 hh hu7 => ?_
    have hh8 := hh.frz
    have s8 := hh.frzS
    walk_at "go"
    refine o_dput1 (k := kI (1 + w)) hh8 (by omega) fun H9 hh => ?_
    have sa := s4.trans (s6.trans (s7.trans s8))
    refine ⟨by omega, _, putP ps (1 + w) (t, l'), _, o6, _, _, _, Nat.le_trans (length_putK _ _ _) (by omega), rfl, s.trans sa, ho, hh, at_put (t := (t, l')) (hk.mono sa) (hu7.mono s8), ⟨putP_keys ok.nd, fun p hp => ?_, fun p hp => ?_⟩, fun p hp => ?_⟩
    · rcases putP_mem hp with rfl | hp
      · exact ht
      · exact ok.th p hp
    · rcases putP_mem hp with rfl | hp
      · exact .inl upd_same
      · exact (ok.ls p hp).mono sa fun _ h => h
    · rcases putP_mem hp with rfl | hp
      · exact ⟨by show (1 : Int) ≤ 1 + w; omega, by show (1 : Int) + w ≤ 9; omega⟩
      · exact hr p hp
  · rintro σ H' ⟨_, F', ps, kvs, o, v2, v3, v4, hl, rfl, s, ho, hh, hk, ok, hr⟩
    walk_at "go"
    refine o_fz hh.swap fun F12 H12 od s12 hh hF => ?_
    exact q F12 H12 _ o ps (ok.mono s12 fun _ h => h) hr (by have := hk.len; unfold pK at this; rw [List.length_map] at this; omega) (s.trans s12) ho hh (At.mkK hF (hk.mono s12))
end
end Lw

-- fld
namespace G
open PySem PySem.Spec PyProof.Rows L2
theorem AtF.non {K : PySem.W.Frag} {F : Hp} {f : Str} : ∀ {fs : List (Str × D)} {gs : List (Str × V)}, AtF K F fs gs → (fs.map (·.1)).contains f = false → gs.lookup f = none
  | [], gs, h, _ => by unfold AtF at h; rw [h]; rfl
  | (g, d') :: fs, gs, h, e => by
    unfold AtF at h
    obtain ⟨u, us, rfl, h1, h⟩ := h
    rw [List.map_cons, List.contains_cons, Bool.or_eq_false_iff] at e
    rw [List.lookup_cons, e.1]
    exact AtF.non h e.2
section
variable {K : PySem.W.Frag} {F F0 F' H H' : Hp} {x y w : V} {M : List (Addr × HO)} {Q : VK} {S : Hp → Prop} {σ : L2.St}
/-- a method of an object that stands -/
theorem s_meth {c m : Str} {fs : List (Str × D)} (h : At K F0 (.obj c fs) x) (s : Same F0 H) (ks : List Str) (e : fs.map (·.1) = ks) (n : ks.contains m = false) (q : S H) : MethK (He.ga K c) m x H S := by
  obtain ⟨a, dx, vs, rfl, hF, hv⟩ := h.obj_
  exact v_meth (s _ _ hF) (hv.non (by rw [e]; exact n)) q
/-- those of a list of numbers for which p holds, as a new cell -/
theorem i_lc {g : TG} {tt : TT} {te : TE} {ws : List Nat} {l : Addr} {ns : List Int} {p : Int → Bool} (hh : HH F H M) (hl : F l = some (.lst (ns.map V.int)) ∨ (l, HO.lst (ns.map V.int)) ∈ M) (hz : ns.length ≤ 1000)
    (hs : ∀ n H' c (P : V → Hp → Prop) (N : Hp → Prop), n ∈ ns → HH F H' (c :: M) → (p n = true → P (.int n) H') → (p n = false → N H') → g (.int n) (wipe σ ws) H' fun σ2 H2 => wipe σ2 ws = wipe σ ws ∧ tt σ2 H2 fun b H3 => if b = true then te σ2 H3 (fun v H4 => P v H4) else N H3)
    (q : ∀ H' D, HH F H' ((D, .lst ((ns.filter p).map V.int)) :: M) → Q (.ref D) H') : OvL K (fun J H1 => LcK J g tt te σ ws H1 Q) (.ref l) H := by
  have rd : ∀ {H' : Hp} {M' : List (Addr × HO)}, HH F H' M' → (∀ z ∈ M, z ∈ M') → H' l = some (.lst (ns.map V.int)) := fun h m => by
    rcases hl with e | e
    · exact h.sub _ _ e
    · exact (h.cell _ (m _ e)).1
  refine v_ovL (SqL.of (rd hh fun _ h => h)) fun Dl hD => ?_
  refine c_list (xs := ns.map V.int) (fun i H' => HH F H' ((Dl, .lst (((ns.take i).filter p).map V.int)) :: M)) (hh.new hD) (fun i H' _ h => SqL.of (rd h fun _ m => List.mem_cons_of_mem _ m)) (fun i v H' hv h => ?_) (fun H' h => ?_)
  · rw [List.getElem?_map] at hv
    obtain ⟨n, hn, rfl⟩ := Option.map_eq_some_iff.mp hv
    have et : ns.take (i + 1) = ns.take i ++ [n] := by rw [List.take_add_one, hn]; rfl
    refine hs n H' _ _ _ (List.mem_of_getElem? hn) h (fun hp => ?_) (fun hp => ?_)
    · refine v_put (h.get (i := 0) rfl) ?_ ?_
      · have := List.length_filter_le p (ns.take i)
        rw [List.length_map, sl16]
        rw [List.length_take] at this
        omega
      · rw [et, List.filter_append, List.filter_cons, hp]
        show HH F _ ((Dl, .lst (((ns.take i).filter p ++ [n]).map V.int)) :: M)
        rw [List.map_append]
        exact h.set0
    · rw [et, List.filter_append, List.filter_cons, hp]
      show HH F _ ((Dl, .lst (((ns.take i).filter p ++ []).map V.int)) :: M)
      rw [List.append_nil]
      exact h
  · rw [List.length_map, List.take_length] at h
    exact q _ Dl h
end
end G
namespace Lw
open PySem PySem.Spec PyProof.Rows L2 G
/-! ### what contents tell -/
def fnd (ps : Pic) (n : Int) : Option (Th × Addr) := (ps.find? fun p => decide (p.1 = n)).map (·.2)
theorem fnd_val {n : Int} : ∀ {ps : Pic}, valD (pK ps) (kI n) = (fnd ps n).map fun t => dR t.1 t.2
  | [] => rfl
  | p :: ps => by
    show valD ((kI p.1, dR p.2.1 p.2.2) :: pK ps) _ = _
    unfold fnd
    rw [List.find?_cons]
    by_cases c : p.1 = n
    · rw [c, valD_pos, decide_eq_true rfl]
      rfl
    · rw [valD_neg (fun e => c (Sum.inl.inj e)), decide_eq_false c]
      exact fnd_val
theorem fnd_mem {ps : Pic} {n : Int} {t : Th × Addr} (h : fnd ps n = some t) : (n, t) ∈ ps := by
  unfold fnd at h
  obtain ⟨p, h1, rfl⟩ := Option.map_eq_some_iff.mp h
  have h2 := List.find?_some h1
  have h2 : p.1 = n := of_decide_eq_true h2
  have h3 := List.mem_of_find?_eq_some h1
  rw [← h2]
  exact h3
theorem fnd_some {ps : Pic} {n : Int} (h : n ∈ ps.map (·.1)) : ∃ t, fnd ps n = some t := by
  obtain ⟨p, hp, rfl⟩ := List.mem_map.mp h
  cases e : fnd ps p.1 with
  | some t => exact ⟨t, rfl⟩
  | none =>
    unfold fnd at e
    rw [Option.map_eq_none_iff] at e
    exact (List.find?_eq_none.mp e p hp (decide_eq_true rfl)).elim
section
variable {K : PySem.W.Frag} {F F0 F1 F2 H H' : Hp} {Q : VK} {E : XK} {mg : Str → Option Value} {M : List (Addr × HO)} {x y z kv : V} {o : HO} {d l l' : Addr} {t t' : Th} {ns ms : List Int} {ps : Pic} {ks : List (List Nat)}
theorem HH.ofS (s : Same F H) : HH F H [] := ⟨s, .nil, fun _ h => nomatch h⟩
theorem rd_kind_of (T : Tx K mg) {rows : List Kdd} {k : Kdd} {z : List Nat} (hx : At K F0 (o_Schema (.lst (rows.map Kdd.d))) x) (s : Same F0 H) (e : rows.find? (fun k => decide (k.name = z)) = some k) (q : ∀ w, At K F0 k.d w → Q w H) : sp_Schema_kind_of K [x, .str ⟨z.toArray⟩] H Q E := by
  refine ⟨rfl, ?_⟩
  unfold t_Schema_kind_of
  walk_at "go"
  refine gi_list ?_
  walk_at "go"
  rename_i w hw
  refine a_forL (e := Kdd.d) hw (HH.ofS s) (fun r σ H' => H' = H ∧ r.find? (fun k => decide (k.name = z)) = some k ∧ ∃ v2, σ = [some x, some (.str ⟨z.toArray⟩), v2]) (fun _ _ _ h => h.1 ▸ s) ⟨rfl, e, none, rfl⟩ ?_ ?_
  · rintro k' r u σ H' hu ⟨rfl, e, v2, rfl⟩
    walk_at "go"
    refine fk_name T hu s ?_
    walk_at "go"
    rw [List.find?_cons] at e
    by_cases c : k'.name = z
    · rw [decide_eq_true c] at e ⊢
      cases e
      walk_at "go"
      exact q u hu
    · rw [decide_eq_false c] at e ⊢
      walk_at "go"
      exact ⟨rfl, e, _, rfl⟩
  · rintro σ H' ⟨_, e, _⟩
    cases e
theorem rd_field_of (T : Tx K mg) {k : Kdd} {f : Fdd} {z : List Nat} (hx : At K F0 k.d x) (s : Same F0 H) (e : k.fs.find? (fun f => decide (f.name = z)) = some f) (q : ∀ w, At K F0 f.d w → Q w H) : sp_Kind_field_of K [x, .str ⟨z.toArray⟩] H Q E := by
  refine ⟨rfl, ?_⟩
  unfold t_Kind_field_of
  walk_at "go"
  refine gi_list ?_
  walk_at "go"
  refine fk_fields T hx s fun w hw => ?_
  refine a_forL (e := Fdd.d) hw (HH.ofS s) (fun r σ H' => H' = H ∧ r.find? (fun f => decide (f.name = z)) = some f ∧ ∃ v2, σ = [some x, some (.str ⟨z.toArray⟩), v2]) (fun _ _ _ h => h.1 ▸ s) ⟨rfl, e, none, rfl⟩ ?_ ?_
  · rintro f' r u σ H' hu ⟨rfl, e, v2, rfl⟩
    unfold Fdd.d at hu
    walk_at "go"
    rw [List.find?_cons] at e
    by_cases c : f'.name = z
    · rw [decide_eq_true c] at e ⊢
      cases e
      walk_at "go"
      exact q u hu
    · rw [decide_eq_false c] at e ⊢
      walk_at "go"
      exact ⟨rfl, e, _, rfl⟩
  · rintro σ H' ⟨_, e, _⟩
    cases e
def isL : Sh → Bool
  | .l _ => true
  | _ => false
def isR : Sh → Bool
  | .r _ _ => true
  | _ => false
theorem rd_is_list (T : Tx K mg) {sh : Sh} (h : At K F0 sh.d x) (s : Same F0 H) (q : Q (.bl (isL sh)) H) : sp_is_list K [x] H Q E := by
  refine ⟨rfl, ?_⟩
  unfold t_is_list
  walk_at "go"
  cases sh with
  | i => exact s_isi h s T.cl_IntSort T.if_IntSort T.is_IntSort_ListSort q
  | t => exact s_isi h s T.cl_TextSort T.if_TextSort T.is_TextSort_ListSort q
  | r _ _ => exact s_isi h s T.cl_RefSort T.if_RefSort T.is_RefSort_ListSort q
  | l _ => exact s_isi h s T.cl_ListSort T.if_ListSort T.is_ListSort_ListSort q
theorem rd_is_reference (T : Tx K mg) {sh : Sh} (h : At K F0 sh.d x) (s : Same F0 H) (q : Q (.bl (isR sh)) H) : sp_is_reference K [x] H Q E := by
  refine ⟨rfl, ?_⟩
  unfold t_is_reference
  walk_at "go"
  cases sh with
  | i => exact s_isi h s T.cl_IntSort T.if_IntSort T.is_IntSort_RefSort q
  | t => exact s_isi h s T.cl_TextSort T.if_TextSort T.is_TextSort_RefSort q
  | r _ _ => exact s_isi h s T.cl_RefSort T.if_RefSort T.is_RefSort_RefSort q
  | l _ => exact s_isi h s T.cl_ListSort T.if_ListSort T.is_ListSort_RefSort q
theorem rd_thing (T : Tx K mg) {n : Int} (hx : At K F0 (o_PictureSource (dPic ps)) x) (s : Same F0 H) (q0 : fnd ps n = none → Q .non H) (q1 : ∀ t w, fnd ps n = some t → At K F0 (dR t.1 t.2) w → Q w H) : sp_PictureSource_thing K [x, .int n] H Q E := by
  refine ⟨rfl, ?_⟩
  unfold t_PictureSource_thing
  walk_at "go"
  rename_i w hw
  refine s_dgetD hw s fun a get => ?_
  walk_at "go"
  refine get s (fun e => ?_) fun d u e hu => ?_
  · rw [fnd_val, Option.map_eq_none_iff] at e
    exact q0 e
  · rw [fnd_val] at e
    obtain ⟨t, ht, rfl⟩ := Option.map_eq_some_iff.mp e
    exact q1 t u ht hu
end
end Lw

-- fld
namespace G
open PySem PySem.Spec PyProof.Rows L2
/-- a list's part -/
def cutD {α : Type} (xs : List α) (lo hi : Option Int) : List α := (xs.drop (HT.sIx xs.length 0 lo)).take (HT.sIx xs.length xs.length hi - HT.sIx xs.length 0 lo)
theorem cutD_map {α β : Type} {f : α → β} {xs : List α} {lo hi : Option Int} : cutD (xs.map f) lo hi = (cutD xs lo hi).map f := by
  unfold cutD
  rw [List.length_map, ← List.map_drop, ← List.map_take]
theorem cutD_to {α : Type} {xs : List α} {n : Nat} : cutD xs none (some (n : Int)) = xs.take n := by
  unfold cutD
  rw [HT.sIx_none, HT.sIx_nat, List.drop_zero, Nat.sub_zero]
  rcases Nat.le_total n xs.length with h | h
  · rw [Nat.min_eq_left h]
  · rw [Nat.min_eq_right h, List.take_length, List.take_of_length_le h]
theorem cutD_from {α : Type} {xs : List α} {n : Nat} (h : n ≤ xs.length) : cutD xs (some (n : Int)) none = xs.drop n := by
  unfold cutD
  rw [HT.sIx_none, HT.sIx_nat, Nat.min_eq_left h]
  exact List.take_of_length_le (by rw [List.length_drop]; exact Nat.le_refl _)
theorem AtA.takeD {K : PySem.W.Frag} {F : Hp} : ∀ {n : Nat} {ds : List D} {us : List V}, AtA K F ds us → AtA K F (ds.take n) (us.take n)
  | 0, ds, us, h => AtA.nil
  | n + 1, [], us, h => by
    unfold AtA at h
    rw [h]
    exact AtA.nil
  | n + 1, d :: ds, us, h => by
    unfold AtA at h
    obtain ⟨u, us, rfl, h1, h⟩ := h
    exact AtA.cons h1 (AtA.takeD h)
theorem AtA.dropD {K : PySem.W.Frag} {F : Hp} : ∀ {n : Nat} {ds : List D} {us : List V}, AtA K F ds us → AtA K F (ds.drop n) (us.drop n)
  | 0, ds, us, h => h
  | n + 1, [], us, h => by
    unfold AtA at h
    rw [h]
    exact AtA.nil
  | n + 1, d :: ds, us, h => by
    unfold AtA at h
    obtain ⟨u, us, rfl, h1, h⟩ := h
    show AtA K F (ds.drop n) (us.drop n)
    exact AtA.dropD h
section
variable {K : PySem.W.Frag} {F F0 H : Hp} {x : V} {ds : List D} {M : List (Addr × HO)} {Q : VK}
/-- a part of a list that stands -/
theorem s_slG {lo hi : Option Int} (hx : At K F0 (.lst ds) x) (hh : HH F H M) (s : Same F0 F) (q : ∀ F' H' u, Same F F' → HH F' H' M → At K F' (.lst (cutD ds lo hi)) u → Q u H') : rSlX K x lo hi H Q := by
  obtain ⟨a, vs, rfl, h, t⟩ := hx.lstR
  refine v_slL (hh.sub _ _ (s _ _ h)) ?_
  have e : AtA K F0 (cutD ds lo hi) (cutV vs lo hi) := by
    unfold cutD cutV
    rw [t.len]
    exact t.dropD.takeD
  exact a_lst hh (e.mono s) q
end
end G

-- fld
namespace G
open PySem PySem.Spec PyProof.Rows L2
theorem set_keys {a : Addr} {o o' : HO} : ∀ {M : List (Addr × HO)} {i : Nat}, M[i]? = some (a, o) → (M.set i (a, o')).map (·.1) = M.map (·.1)
  | [], _, e => by cases e
  | p :: M, 0, e => by cases e; rfl
  | p :: M, i + 1, e => by
    show p.1 :: (M.set i (a, o')).map (·.1) = _
    rw [set_keys (M := M) (i := i) e]
    rfl
theorem set_mem {a : Addr} {o o' : HO} {p : Addr × HO} : ∀ {M : List (Addr × HO)} {i : Nat}, M[i]? = some (a, o) → (M.map (·.1)).Nodup → p ∈ M.set i (a, o') → p = (a, o') ∨ (p ∈ M ∧ p.1 ≠ a)
  | [], _, e, _, _ => by cases e
  | q :: M, 0, e, nd, h => by
    cases e
    rw [List.map_cons, List.nodup_cons] at nd
    rcases List.mem_cons.mp (show p ∈ (a, o') :: M from h) with h | h
    · exact .inl h
    · exact .inr ⟨List.mem_cons_of_mem _ h, fun z => nd.1 (by show a ∈ _; rw [← z]; exact List.mem_map.mpr ⟨p, h, rfl⟩)⟩
  | q :: M, i + 1, e, nd, h => by
    rw [List.map_cons, List.nodup_cons] at nd
    have e : M[i]? = some (a, o) := e
    rcases List.mem_cons.mp (show p ∈ q :: M.set i (a, o') from h) with rfl | h
    · exact .inr ⟨List.mem_cons_self .., fun z => nd.1 (by rw [z]; exact List.mem_map.mpr ⟨(a, o), List.mem_of_getElem? e, rfl⟩)⟩
    · rcases set_mem e nd.2 h with z | ⟨z1, z2⟩
      · exact .inl z
      · exact .inr ⟨List.mem_cons_of_mem _ z1, z2⟩
section
variable {K : PySem.W.Frag} {F F0 F' H H' : Hp} {x y v w : V} {M : List (Addr × HO)} {Q : VK} {S : Hp → Prop} {σ : L2.St} {o o' : HO} {a : Addr} {us vs : List V} {i : Nat}
/-- a cell at any place is written -/
theorem HH.setI (h : HH F H M) (e : M[i]? = some (a, o)) : HH F (upd H a o') (M.set i (a, o')) := by
  have hF : F a = Option.none := h.out e
  refine ⟨fun b u e2 => ?_, by rw [set_keys e]; exact h.nd, fun p hp => ?_⟩
  · rw [upd_ne (ne_of_none e2 hF)]; exact h.sub _ _ e2
  · rcases set_mem e h.nd hp with rfl | ⟨h1, h2⟩
    · exact ⟨upd_same, hF⟩
    · obtain ⟨h3, h4⟩ := h.cell _ h1
      exact ⟨by rw [upd_ne h2]; exact h3, h4⟩
theorem o_appI (hh : HH F H M) (e : M[i]? = some (a, .lst vs)) (hl : vs.length < 16777216) (q : ∀ H', HH F H' (M.set i (a, .lst (vs ++ [x]))) → Q .non H') : rAppend (.ref a) [x] H Q := v_append (hh.get e) (by rw [sl16]; exact hl) (q _ (hh.setI e))
theorem o_dputI {kvs : List (L2.Key × V)} {k : L2.Key} (hh : HH F H M) (e : M[i]? = some (a, .dK kvs)) (l : kvs.length < 10000000) (q : ∀ H', HH F H' (M.set i (a, .dK (putK kvs k v))) → S H') : DpK S (.ref a) (kV k) v H :=
  ⟨a, _, rfl, DPut.k (hh.get e) (by rw [sl16]; omega), q _ (hh.setI e)⟩
theorem o_sfldI {C dx : Addr} {f : Str} {fs : List (Str × V)} (hh : HH F H M) (e : M[i]? = some (a, .ins C dx fs)) (cl : Cls K C) (n : NoAttr K C f) (l : fs.length < 1000) (q : ∀ H', HH F H' (M.set i (a, .ins C dx (putF f y fs))) → S H') : SfldK K f (.ref a) y H S :=
  v_sfld (hh.get e) cl n l (q _ (hh.setI e))
theorem At.intL {ns : List Int} (h : At K F (.lst (ns.map D.i)) x) : ∃ l, x = .ref l ∧ F l = some (.lst (ns.map V.int)) := by
  obtain ⟨a, vs, rfl, h, t⟩ := h.lstR
  have e := t.flat (g := V.int)
  subst e
  exact ⟨a, rfl, h⟩
theorem inV_i {n : Int} : ∀ {ns : List Int}, inV (.int n) (ns.map V.int) = ns.contains n
  | [] => rfl
  | m :: ns => by
    have ih := inV_i (n := n) (ns := ns)
    unfold inV at ih ⊢
    rw [List.map_cons, List.any_cons, ih, List.contains_cons]
    congr 1
    show (m == n) = (n == m)
    rw [Bool.eq_iff_iff, beq_iff_eq, beq_iff_eq]
    exact eq_comm
/-- numbers of a list that pass, frozen -/
theorem i_lcF {g : TG} {tt : TT} {te : TE} {ws : List Nat} {ns : List Int} {p : Int → Bool} (hx : At K F (.lst (ns.map D.i)) x) (hh : HH F H M) (hz : ns.length ≤ 1000000)
    (hs : ∀ n H' c (P : V → Hp → Prop) (N : Hp → Prop), n ∈ ns → HH F H' (c :: M) → (p n = true → P (.int n) H') → (p n = false → N H') → g (.int n) (wipe σ ws) H' fun σ2 H2 => wipe σ2 ws = wipe σ ws ∧ tt σ2 H2 fun b H3 => if b = true then te σ2 H3 (fun v H4 => P v H4) else N H3)
    (q : ∀ F' H' u, Same F F' → HH F' H' M → At K F' (.lst ((ns.filter p).map D.i)) u → Q u H') : OvL K (fun J H1 => LcK J g tt te σ ws H1 Q) x H := by
  obtain ⟨l, rfl, hl⟩ := hx.intL
  refine v_ovL (SqL.of (hh.sub _ _ hl)) fun Dl hD => ?_
  refine c_list (xs := ns.map V.int) (fun i H' => HH F H' ((Dl, .lst (((ns.take i).filter p).map V.int)) :: M)) (hh.new hD) (fun i H' _ h => SqL.of (h.sub _ _ hl)) (fun i v H' hv h => ?_) (fun H' h => ?_)
  · rw [List.getElem?_map] at hv
    obtain ⟨n, hn, rfl⟩ := Option.map_eq_some_iff.mp hv
    have et : ns.take (i + 1) = ns.take i ++ [n] := by rw [List.take_add_one, hn]; rfl
    refine hs n H' _ _ _ (List.mem_of_getElem? hn) h (fun hp => ?_) (fun hp => ?_)
    · refine v_put (h.get (i := 0) rfl) ?_ ?_
      · have := List.length_filter_le p (ns.take i)
        rw [List.length_map, sl16]
        rw [List.length_take] at this
        omega
      · rw [et, List.filter_append, List.filter_cons, hp]
        show HH F _ ((Dl, .lst (((ns.take i).filter p ++ [n]).map V.int)) :: M)
        rw [List.map_append]
        exact h.set0
    · rw [et, List.filter_append, List.filter_cons, hp]
      show HH F _ ((Dl, .lst (((ns.take i).filter p ++ []).map V.int)) :: M)
      rw [List.append_nil]
      exact h
  · rw [List.length_map, List.take_length] at h
    exact q _ _ _ h.frzS h.frz (At.mkL upd_same (AtA.ofFlat (g := V.int)))
end
end G
namespace Lw
open PySem PySem.Spec PyProof.Rows L2 G
/-! ### once each, batches -/
abbrev dL (ns : List Int) : D := .lst (ns.map D.i)
def onceA : List Int → List Int → List Int
  | acc, [] => acc
  | acc, n :: r => if acc.contains n = true then onceA acc r else onceA (acc ++ [n]) r
def once (ns : List Int) : List Int := onceA [] ns
theorem onceA_len : ∀ {r acc : List Int}, (onceA acc r).length ≤ acc.length + r.length
  | [], acc => Nat.le_refl _
  | n :: r, acc => by
    unfold onceA
    split
    · exact Nat.le_trans onceA_len (by rw [List.length_cons]; omega)
    · exact Nat.le_trans onceA_len (by rw [List.length_append, List.length_cons]; simp; omega)
theorem once_len {ns : List Int} : (once ns).length ≤ ns.length := by have := onceA_len (acc := []) (r := ns); rw [List.length_nil, Nat.zero_add] at this; exact this
theorem onceA_mem {n : Int} : ∀ {r acc : List Int}, n ∈ onceA acc r ↔ n ∈ acc ∨ n ∈ r
  | [], acc => by unfold onceA; simp
  | m :: r, acc => by
    unfold onceA
    split
    · rename_i h
      rw [onceA_mem, List.mem_cons]
      constructor
      · rintro (h | h)
        · exact .inl h
        · exact .inr (.inr h)
      · rintro (h | rfl | h)
        · exact .inl h
        · exact .inl (List.contains_iff_mem.mp (by assumption))
        · exact .inr h
    · rw [onceA_mem]
      simp only [List.mem_append, List.mem_cons, List.not_mem_nil, or_false]
      exact or_assoc
theorem once_mem {n : Int} {ns : List Int} : n ∈ once ns ↔ n ∈ ns := by unfold once; rw [onceA_mem]; simp
def batch (n : Int) (unk : List Int) : List Int := srt ([n] ++ (srt (unk.filter fun m => !decide (m = n))).take 9)
theorem srt_len {ns : List Int} : (srt ns).length = ns.length := srt_perm.length_eq
theorem batch_mem {n : Int} {unk : List Int} : n ∈ batch n unk := srt_perm.mem_iff.mpr (List.mem_append_left _ (List.mem_singleton.mpr rfl))
theorem batch_len {n : Int} {unk : List Int} : (batch n unk).length ≤ 10 := by
  unfold batch
  rw [srt_len, List.length_append, List.length_take]
  show 1 + _ ≤ 10
  omega
section
variable {K : PySem.W.Frag} {F F0 F1 F2 F3 H H' : Hp} {Q : VK} {E : XK} {mg : Str → Option Value} {M : List (Addr × HO)} {x y sv : V} {ns ms : List Int} {n : Int}
theorem rd_once (hh : HH F H M) (hx : At K F (dL ns) x) (hz : ns.length ≤ 1000000) (q : ∀ F' H' u, Same F F' → HH F' H' M → At K F' (dL (once ns)) u → Q u H') : sp_once_each K [x] H Q E := by
  refine ⟨rfl, ?_⟩
  unfold t_once_each
  walk_at "go"
  refine o_lst hh (by decide) fun H1 p hh => ?_
  walk_at "go"
  refine gi_list ?_
  walk_at "go"
  refine a_forL (e := D.i) hx hh (fun r σ H' => ∃ acc v2, acc.length + r.length ≤ 1000000 ∧ σ = [some x, some (.ref p), v2] ∧ HH F H' ((p, .lst (acc.map V.int)) :: M) ∧ onceA acc r = once ns) (fun _ _ _ ⟨_, _, _, _, h, _⟩ => h.sub) ⟨[], none, by simpa using hz, rfl, hh, rfl⟩ ?_ ?_
  · clear hh
    rintro n r w σ H' hw ⟨acc, v2, hl, rfl, hh, e⟩
    obtain rfl := At.v_.mp hw
    rw [List.length_cons] at hl
    walk_at "go"
    refine v_notInL (SqL.of (hh.get (i := 0) rfl)) rfl flatI ?_
    rw [inV_i]
    unfold onceA at e
    cases c : acc.contains n with
    | true =>
      rw [c, if_pos rfl] at e
      walk_at "go"
      exact ⟨acc, _, by omega, rfl, hh, e⟩
    | false =>
      rw [c, if_neg (by decide)] at e
      walk_at "go"
      refine o_tyL (i := 0) hh rfl ?_
      walk_at "go"
      refine o_app0 hh (by rw [List.length_map]; omega) fun H4 hh => ?_
      refine ⟨acc ++ [n], _, by rw [List.length_append]; show acc.length + 1 + _ ≤ _; omega, rfl, ?_, e⟩
      rw [List.map_append]
      exact hh
  · rintro σ H' ⟨acc, v2, hl, rfl, hh, e⟩
    walk_at "go"
    have e : acc = once ns := e
    subst e
    exact q _ _ _ hh.frzS hh.frz (At.mkL upd_same (AtA.ofFlat (g := V.int)))
theorem rd_law_once (hh : HH F H M) (hx : At K F (dL ns) x) (hz : ns.length ≤ 1000000) (q : ∀ F' H' u, Same F F' → HH F' H' M → At K F' (dL (once ns)) u → Q u H') : sp__law_once K [x] H Q E := rd_once (E := E) hh hx hz q
theorem rd_batch (hh : HH F H M) (hx : At K F (dL ns) x) (hz : ns.length ≤ 1000000) (q : ∀ F' H' u, Same F F' → HH F' H' M → At K F' (dL (batch n ns)) u → Q u H') : sp_Reader__batch K [y, .int n, x] H Q E := by
  refine ⟨rfl, ?_⟩
  unfold t_Reader__batch k_MOST_ASKED
  walk_at "go"
  refine gi_list ?_
  walk_at "go"
  refine i_lcF (p := fun m => !decide (m = n)) hx hh hz (fun m H' c P N hm h2 hP hN => ?_) fun F1 H1 u1 s1 hh h1 => ?_
  · walk_at "go"
    refine ⟨rfl, ?_⟩
    walk_at "go"
    cases c : !decide (m = n) with
    | true => walk_at "go"; exact hP c
    | false => walk_at "go"; exact hN c
  walk_at "go"
  refine s_sorted h1 hh (Same.refl _) fun F2 H2 u2 s2 hh h2 => ?_
  walk_at "go"
  refine s_lst (K := K) (ds := [D.i n]) hh (AtA.cons At.of AtA.nil) (by show 1 ≤ 1000; decide) fun F3 H3 u3 s3 hh h3 => ?_
  walk_at "go"
  refine s_slG h2 hh s3 fun F4 H4 u4 s4 hh h4 => ?_
  rw [show ((10 : Int) - 1) = ((9 : Nat) : Int) from rfl, cutD_map, cutD_to] at h4
  refine s_cat h3 h4 hh s4 (Same.refl _) (by show 1 + _ ≤ _; rw [List.length_map, List.length_take]; omega) fun F5 H5 u5 s5 hh h5 => ?_
  walk_at "go"
  refine s_sorted (ns := [n] ++ (srt (ns.filter fun m => !decide (m = n))).take 9) (by rw [List.map_append]; exact h5) hh (Same.refl _) fun F6 H6 u6 s6 hh h6 => ?_
  exact q F6 H6 u6 (s1.trans (s2.trans (s3.trans (s4.trans (s5.trans s6))))) hh h6
theorem rd_law_batch (hh : HH F H M) (hx : At K F (dL ns) x) (hz : ns.length ≤ 1000000) (q : ∀ F' H' u, Same F F' → HH F' H' M → At K F' (dL (batch n ns)) u → Q u H') : sp__law_batch K [.int n, x] H Q E := by
  refine ⟨rfl, ?_⟩
  unfold t__law_batch
  walk_at "go"
  refine gi_list ?_
  walk_at "go"
  refine i_lcF (p := fun m => !decide (m = n)) hx hh hz (fun m H' c P N hm h2 hP hN => ?_) fun F1 H1 u1 s1 hh h1 => ?_
  · walk_at "go"
    refine ⟨rfl, ?_⟩
    walk_at "go"
    cases c : !decide (m = n) with
    | true => walk_at "go"; exact hP c
    | false => walk_at "go"; exact hN c
  walk_at "go"
  refine s_sorted h1 hh (Same.refl _) fun F2 H2 u2 s2 hh h2 => ?_
  walk_at "go"
  refine s_lst (K := K) (ds := [D.i n]) hh (AtA.cons At.of AtA.nil) (by show 1 ≤ 1000; decide) fun F3 H3 u3 s3 hh h3 => ?_
  walk_at "go"
  refine s_slG h2 hh s3 fun F4 H4 u4 s4 hh h4 => ?_
  rw [show ((9 : Int)) = ((9 : Nat) : Int) from rfl, cutD_map, cutD_to] at h4
  refine s_cat h3 h4 hh s4 (Same.refl _) (by show 1 + _ ≤ _; rw [List.length_map, List.length_take]; omega) fun F5 H5 u5 s5 hh h5 => ?_
  walk_at "go"
  refine s_sorted (ns := [n] ++ (srt (ns.filter fun m => !decide (m = n))).take 9) (by rw [List.map_append]; exact h5) hh (Same.refl _) fun F6 H6 u6 s6 hh h6 => ?_
  exact q F6 H6 u6 (s1.trans (s2.trans (s3.trans (s4.trans (s5.trans s6))))) hh h6
end
end Lw

-- fld
namespace Lw
open PySem PySem.Spec PyProof.Rows L2 G
/-! ### the reader -/
structure Wd where
  ra : Addr
  dx : Addr
  th : Addr
  rf : Addr
  co : Addr
  rq : Addr
  sv : V
abbrev Wd.fs (w : Wd) : List (Str × V) := [("base", w.sv), ("_things", .ref w.th), ("_referrers", .ref w.rf), ("_companies", .ref w.co), ("_requests", .ref w.rq)]
abbrev pc (K : PySem.W.Frag) (w : Wd) (t c : List (L2.Key × V)) (z : List V) (M : List (Addr × HO)) : List (Addr × HO) := (w.ra, .ins (He.ga K "Reader") w.dx w.fs) :: (w.th, .dK t) :: (w.co, .dK c) :: (w.rq, .lst z) :: M
abbrev Cos := List (Int × List Int)
def coK (co : Cos) : List (L2.Key × D) := co.map fun p => (kI p.1, dL p.2)
def comp (co : Cos) (n : Int) : List Int := match co.find? (fun p => decide (p.1 = n)) with
  | some p => p.2
  | none => [n]
def putC (co : Cos) (n : Int) (row : List Int) : Cos := if (co.any fun p => decide (p.1 = n)) = true then co.map (fun p => if p.1 = n then (n, row) else p) else co ++ [(n, row)]
def thD (ps : Pic) (n : Int) : D := match fnd ps n with
  | some t => dR t.1 t.2
  | none => D.n
abbrev dRq (row : List Int) : D := o_Request (.t q_object) (dL row)
structure SP (K : PySem.W.Frag) (F : Hp) (ps : Pic) (kn : List Int) (co : Cos) (rs : List (List Int)) (t c : List (L2.Key × V)) (z : List V) (b : Nat) : Prop where
  t1 : ∀ n, kn.contains n = true → ∃ v, valV t (kI n) = some v ∧ At K F (thD ps n) v
  t0 : ∀ n, kn.contains n = false → valV t (kI n) = none
  cc : AtK K F (coK co) c
  zz : AtA K F (rs.map dRq) z
  tb : t.length ≤ b
  cb : c.length ≤ b
  zb : z.length ≤ b
  col : ∀ n, (comp co n).length ≤ 100000
theorem coK_any {K : PySem.W.Frag} {F : Hp} {n : Int} : ∀ {co : Cos} {kvs : List (L2.Key × V)}, AtK K F (coK co) kvs → (kvs.any fun kv => decide (kv.1 = kI n)) = (co.any fun p => decide (p.1 = n))
  | [], kvs, h => by rw [AtK.ni h]; rfl
  | p :: co, kvs, h => by
    obtain ⟨z, us, rfl, _, h2⟩ := AtK.ci h
    rw [List.any_cons, List.any_cons, coK_any h2]
    congr 1
    exact decide_eq_decide.mpr ⟨fun e => Sum.inl.inj e, fun e => by show kI p.1 = _; rw [e]⟩
theorem coK_map {K : PySem.W.Frag} {F : Hp} {n : Int} {row : List Int} {u : V} (ht : At K F (dL row) u) : ∀ {co : Cos} {kvs : List (L2.Key × V)}, AtK K F (coK co) kvs →
    AtK K F (coK (co.map fun p => if p.1 = n then (n, row) else p)) (kvs.map fun kv => if kv.1 = kI n then (kv.1, u) else kv)
  | [], kvs, h => by rw [AtK.ni h]; exact AtK.nil
  | p :: co, kvs, h => by
    obtain ⟨z, us, rfl, h1, h2⟩ := AtK.ci h
    show AtK K F (coK ((if p.1 = n then (n, row) else p) :: _)) ((if (kI p.1 : L2.Key) = kI n then (kI p.1, u) else (kI p.1, z)) :: _)
    by_cases c : p.1 = n
    · rw [if_pos c, if_pos (show (kI p.1 : L2.Key) = kI n by rw [c])]
      show AtK K F ((kI n, dL row) :: _) ((kI p.1, u) :: _)
      rw [c]
      exact AtK.cons ht (coK_map ht h2)
    · rw [if_neg c, if_neg (show ¬(kI p.1 : L2.Key) = kI n from fun e => c (Sum.inl.inj e))]
      exact AtK.cons h1 (coK_map ht h2)
theorem coK_put {K : PySem.W.Frag} {F : Hp} {n : Int} {row : List Int} {u : V} {co : Cos} {kvs : List (L2.Key × V)} (h : AtK K F (coK co) kvs) (ht : At K F (dL row) u) : AtK K F (coK (putC co n row)) (putK kvs (kI n) u) := by
  unfold putC putK
  rw [coK_any h]
  split
  · exact coK_map ht h
  · have : coK (co ++ [(n, row)]) = coK co ++ [(kI n, dL row)] := by unfold coK; rw [List.map_append]; rfl
    rw [this]
    exact AtK.snoc h ht
theorem coK_val {n : Int} : ∀ {co : Cos}, valD (coK co) (kI n) = (co.find? fun p => decide (p.1 = n)).map fun p => dL p.2
  | [] => rfl
  | p :: co => by
    show valD ((kI p.1, dL p.2) :: coK co) _ = _
    rw [List.find?_cons]
    by_cases c : p.1 = n
    · rw [c, valD_pos, decide_eq_true rfl]
      rfl
    · rw [valD_neg (fun e => c (Sum.inl.inj e)), decide_eq_false c]
      exact coK_val
theorem find_map {n m : Int} {row : List Int} : ∀ {co : Cos}, (co.map fun p => if p.1 = n then (n, row) else p).find? (fun p => decide (p.1 = m)) = (co.find? fun p => decide (p.1 = m)).map fun p => if p.1 = n then (n, row) else p
  | [] => rfl
  | p :: co => by
    rw [List.map_cons, List.find?_cons, List.find?_cons, find_map]
    have e : decide ((if p.1 = n then (n, row) else p).1 = m) = decide (p.1 = m) := by
      by_cases c : p.1 = n
      · rw [if_pos c, c]
      · rw [if_neg c]
    rw [e]
    cases decide (p.1 = m) <;> rfl
theorem comp_len {co : Cos} {n m : Int} {row : List Int} {b : Nat} (h : ∀ k, (comp co k).length ≤ b) (hr : row.length ≤ b) : (comp (putC co n row) m).length ≤ b := by
  have hm := h m
  unfold comp putC at *
  split
  · rename_i p e
    split at e
    · rw [find_map] at e
      obtain ⟨q, h1, rfl⟩ := Option.map_eq_some_iff.mp e
      rw [h1] at hm
      by_cases c : q.1 = n
      · rw [if_pos c]; exact hr
      · rw [if_neg c]; exact hm
    · rw [List.find?_append] at e
      cases h1 : co.find? (fun p => decide (p.1 = m)) with
      | some q =>
        rw [h1] at e hm
        cases e
        exact hm
      | none =>
        rw [h1] at e
        have e2 : List.find? (fun p : Int × List Int => decide (p.1 = m)) [(n, row)] = some p := e
        have := List.mem_of_find?_eq_some e2
        rw [List.mem_singleton] at this
        rw [this]
        exact hr
  · split at hm
    · rename_i e1 _ _ e2
      exfalso
      split at e1
      · rw [find_map, e2] at e1
        cases e1
      · rw [List.find?_append, e2] at e1
        cases e1
    · exact hm
theorem SP.mono {K : PySem.W.Frag} {F F' : Hp} {ps : Pic} {kn : List Int} {co : Cos} {rs : List (List Int)} {t c : List (L2.Key × V)} {z : List V} {b b' : Nat} (h : SP K F ps kn co rs t c z b) (s : Same F F') (hb : b ≤ b') : SP K F' ps kn co rs t c z b' :=
  ⟨fun n e => by obtain ⟨v, h1, h2⟩ := h.t1 n e; exact ⟨v, h1, h2.mono s⟩, h.t0, h.cc.mono s, h.zz.mono s, Nat.le_trans h.tb hb, Nat.le_trans h.cb hb, Nat.le_trans h.zb hb, h.col⟩
def addC (co : Cos) (row : List Int) : List Int → Cos
  | [] => co
  | n :: r => addC (putC co n row) row r
section
variable {K : PySem.W.Frag} {F F0 F1 F2 F3 H H' : Hp} {Q : VK} {E : XK} {mg : Str → Option Value} {M : List (Addr × HO)} {x y sv u : V} {ns ms kn : List Int} {n : Int} {w : Wd} {t c : List (L2.Key × V)} {z : List V} {ps : Pic} {co : Cos} {rs : List (List Int)} {b : Nat} {i : Nat}
theorem fr_base (T : Tx K mg) (hh : HH F H M) (e : M[i]? = some (w.ra, .ins (He.ga K "Reader") w.dx w.fs)) (q : Q w.sv H) : FldK K "base" (.ref w.ra) H Q := m_fld hh e T.cl_Reader T.no_Reader_base (lk1 rfl) q
theorem fr_th (T : Tx K mg) (hh : HH F H M) (e : M[i]? = some (w.ra, .ins (He.ga K "Reader") w.dx w.fs)) (q : Q (.ref w.th) H) : FldK K "_things" (.ref w.ra) H Q := m_fld hh e T.cl_Reader T.no_Reader__things (lk2 (by decide +kernel) (lk1 rfl)) q
theorem fr_co (T : Tx K mg) (hh : HH F H M) (e : M[i]? = some (w.ra, .ins (He.ga K "Reader") w.dx w.fs)) (q : Q (.ref w.co) H) : FldK K "_companies" (.ref w.ra) H Q := m_fld hh e T.cl_Reader T.no_Reader__companies (lk2 (by decide +kernel) (lk2 (by decide +kernel) (lk2 (by decide +kernel) (lk1 rfl)))) q
theorem fr_rq (T : Tx K mg) (hh : HH F H M) (e : M[i]? = some (w.ra, .ins (He.ga K "Reader") w.dx w.fs)) (q : Q (.ref w.rq) H) : FldK K "_requests" (.ref w.ra) H Q := m_fld hh e T.cl_Reader T.no_Reader__requests (lk2 (by decide +kernel) (lk2 (by decide +kernel) (lk2 (by decide +kernel) (lk2 (by decide +kernel) (lk1 rfl))))) q
theorem mr (hh : HH F H M) (e : M[i]? = some (w.ra, .ins (He.ga K "Reader") w.dx w.fs)) {m : Str} {S : Hp → Prop} (n : (["base", "_things", "_referrers", "_companies", "_requests"] : List Str).contains m = false) (q : S H) : MethK (He.ga K "Reader") m (.ref w.ra) H S := by
  refine v_meth (hh.get e) ?_ q
  have : ∀ {fs : List (Str × V)}, (fs.map (·.1)).contains m = false → fs.lookup m = none := by
    intro fs
    induction fs with
    | nil => intro _; rfl
    | cons p fs ih =>
      intro h
      rw [List.map_cons, List.contains_cons, Bool.or_eq_false_iff] at h
      rw [show p = (p.1, p.2) from rfl, List.lookup_cons, h.1]
      exact ih h.2
  exact this n
/-- the company of a number; the cells stay -/
theorem rd_company (T : Tx K mg) (hh : HH F H (pc K w t c z M)) (hs : SP K F ps kn co rs t c z b) (q : ∀ F' H' u, Same F F' → HH F' H' (pc K w t c z M) → At K F' (dL (comp co n)) u → Q u H') : sp_Reader_company K [.ref w.ra, .int n] H Q E := by
  refine ⟨rfl, ?_⟩
  unfold t_Reader_company
  walk_at "go"
  refine fr_co T hh (i := 0) rfl ?_
  refine v_din (k := kI n) (.inl (hh.get (i := 2) rfl)) ?_
  unfold comp at q
  have hv := coK_val (co := co) (n := n)
  rw [if_neg (by decide)]
  cases e : co.find? (fun p => decide (p.1 = n)) with
  | none =>
    rw [e] at q hv
    rw [hs.cc.non hv, show (none : Option V).isSome = false from rfl]
    walk_at "go"
    exact s_lst (K := K) (ds := [D.i n]) hh (AtA.cons At.of AtA.nil) (by show 1 ≤ 1000; decide) q
  | some p =>
    rw [e] at q hv
    obtain ⟨u, hu, ha⟩ := hs.cc.val hv
    rw [hu, show (some u).isSome = true from rfl]
    walk_at "go"
    refine fr_co T hh (i := 0) rfl ?_
    walk_at "go"
    refine v_dget (k := kI n) (.inl (hh.get (i := 2) rfl)) hu ?_
    exact s_listL ha hh (Same.refl _) q
theorem rd_knows (T : Tx K mg) (hh : HH F H M) (e0 : M[i]? = some (w.ra, .ins (He.ga K "Reader") w.dx w.fs)) (e1 : M[i + 1]? = some (w.th, .dK t)) (h1 : ∀ n, kn.contains n = true → ∃ v, valV t (kI n) = some v ∧ At K F0 (thD ps n) v) (h0 : ∀ n, kn.contains n = false → valV t (kI n) = none) (q : Q (.bl (kn.contains n)) H) : sp_Reader_knows K [.ref w.ra, .int n] H Q E := by
  refine ⟨rfl, ?_⟩
  unfold t_Reader_knows
  walk_at "go"
  refine fr_th T hh e0 ?_
  refine v_din (k := kI n) (.inl (hh.get e1)) ?_
  rw [if_neg (by decide)]
  cases e : kn.contains n with
  | true =>
    rw [e] at q
    obtain ⟨v, hv, _⟩ := h1 n e
    rw [hv]
    exact q
  | false =>
    rw [e] at q
    rw [h0 n e]
    exact q
theorem rd_learn (T : Tx K mg) {row : List Int} (hrow : row.length ≤ 100000) (hb : b ≤ 1000000) (hh : HH F H (pc K w t c z M)) (hs : SP K F ps kn co rs t c z b) (hsv : At K F (o_PictureSource (dPic ps)) w.sv) (hx : At K F (dL row) x)
    (q : ∀ F' H' t' z', Same F F' → HH F' H' (pc K w t' c z' M) → SP K F' ps (kn ++ row) co (rs ++ [row]) t' c z' (b + row.length + 1) → Q .non H') : sp_Reader_learn K [.ref w.ra, x] H Q E := by
  refine ⟨rfl, ?_⟩
  unfold t_Reader_learn
  walk_at "go"
  refine mr hh (i := 0) rfl (by decide +kernel) ?_
  walk_at "go"
  -- _note
  refine ⟨rfl, ?_⟩
  unfold t_Reader__note
  walk_at "go"
  refine fr_rq T hh (i := 0) rfl ?_
  refine o_tyL (i := 3) hh rfl ?_
  walk_at "go"
  refine mk_Request T hh At.of hx fun F1 H1 u1 s1 hh h1 => ?_
  walk_at "go"
  refine o_appI hh (i := 3) rfl (by have := hs.zb; omega) fun H2 hh => ?_
  replace hh : HH F1 H2 (pc K w t c (z ++ [u1]) M) := hh
  have hs1 : SP K F1 ps kn co (rs ++ [row]) t c (z ++ [u1]) (b + 1) := by
    have h := hs.mono s1 (Nat.le_succ b)
    exact ⟨h.t1, h.t0, h.cc, AtA.snocM h.zz h1, h.tb, h.cb, by rw [List.length_append]; have := hs.zb; show z.length + 1 ≤ b + 1; omega, h.col⟩
  walk_at "go"
  refine gi_list ?_
  walk_at "go"
  refine a_forL (e := D.i) (hx.mono s1) hh (fun r σ H' => ∃ done t' v2, row = done ++ r ∧ t'.length ≤ b + done.length ∧ σ = [some (.ref w.ra), some x, v2] ∧ HH F1 H' (pc K w t' c (z ++ [u1]) M) ∧ SP K F1 ps (kn ++ done) co (rs ++ [row]) t' c (z ++ [u1]) (b + done.length + 1))
    (fun _ _ _ ⟨_, _, _, _, _, _, h, _⟩ => h.sub) ⟨[], t, none, rfl, hs.tb, rfl, hh, by rw [List.append_nil]; exact hs1⟩ ?_ ?_
  · clear hh
    rintro n r u σ H' hu ⟨done, t', v2, er, htb, rfl, hh, hsd⟩
    obtain rfl := At.v_.mp hu
    have hdl : done.length + 1 + r.length = row.length := by rw [er, List.length_append, List.length_cons]; omega
    walk_at "go"
    refine fr_base T hh (i := 0) rfl ?_
    refine s_meth (hsv.mono s1) hh.sub ["shown"] rfl (by decide +kernel) ?_
    walk_at "go"
    have fin : ∀ v, At K F1 (thD ps n) v → (tVar 2 : TE) [some (.ref w.ra), some x, some (.int n)] H' (fun y H3 => DpK (fun H4 => ∃ done t' v2, row = done ++ r ∧ t'.length ≤ b + done.length ∧ [some (.ref w.ra), some x, some (V.int n)] = [some (.ref w.ra), some x, v2] ∧ HH F1 H4 (pc K w t' c (z ++ [u1]) M) ∧ SP K F1 ps (kn ++ done) co (rs ++ [row]) t' c (z ++ [u1]) (b + done.length + 1)) (.ref w.th) y v H3) := by
      intro v hv
      walk_at "go"
      refine o_dputI (k := kI n) hh (i := 1) rfl (by omega) fun H5 hh => ?_
      have hlen : (done ++ [n]).length = done.length + 1 := by rw [List.length_append]; rfl
      have hpl := length_putK t' (kI n) v
      refine ⟨done ++ [n], putK t' (kI n) v, _, by rw [er, List.append_assoc]; rfl, by omega, rfl, hh, fun m hm => ?_, fun m hm => ?_, hsd.cc, hsd.zz, by omega, by have := hsd.cb; omega, by have := hsd.zb; omega, hsd.col⟩
      · rw [valV_put]
        by_cases c : m = n
        · subst c
          rw [if_pos rfl]
          exact ⟨v, rfl, hv⟩
        · rw [if_neg (fun e => c (Sum.inl.inj e))]
          refine hsd.t1 m ?_
          rw [← List.append_assoc, List.contains_iff_mem, List.mem_append, List.mem_singleton] at hm
          exact List.contains_iff_mem.mpr (hm.resolve_right c)
      · rw [valV_put]
        have c : m ≠ n := fun e => by
          rw [e, ← List.append_assoc, List.contains_eq_mem] at hm
          exact of_decide_eq_false hm (List.mem_append_right _ (List.mem_singleton.mpr rfl))
        rw [if_neg (fun e => c (Sum.inl.inj e))]
        refine hsd.t0 m ?_
        rw [List.contains_eq_mem] at hm ⊢
        refine decide_eq_false fun h => of_decide_eq_false hm ?_
        rw [← List.append_assoc]
        exact List.mem_append_left _ h
    refine rd_thing T (hsv.mono s1) hh.sub (fun e => ?_) fun tt v e hv => ?_
    · walk_at "go"
      refine fr_th T hh (i := 0) rfl ?_
      exact fin .non (by unfold thD; rw [e]; exact At.of)
    · walk_at "go"
      refine fr_th T hh (i := 0) rfl ?_
      exact fin v (by unfold thD; rw [e]; exact hv)
  · rintro σ H' ⟨done, t', v2, er, htb, rfl, hh, hsd⟩
    rw [List.append_nil] at er
    subst er
    exact q F1 H' t' _ s1 hh hsd
end
end Lw

-- fld
namespace Lw
open PySem PySem.Spec PyProof.Rows L2 G
theorem fitL {i : Int} (h0 : -1000000000 ≤ i) (h1 : i ≤ 1000000000) : Builtin.Range.rangeFitsLong i = true := by
  unfold Builtin.Range.rangeFitsLong
  rw [Bool.and_eq_true, decide_eq_true_iff, decide_eq_true_iff]
  have e : (2 : Int) ^ 63 = 9223372036854775808 := by decide
  rw [e]
  omega
theorem rg10 {n : Nat} (h : n ≤ 1000000) : RgC 0 (n : Int) 10 ((n + 9) / 10) := by
  have e : Builtin.Range.rangeSize 0 (n : Int) 10 = (((n + 9) / 10 : Nat) : Int) := by
    unfold Builtin.Range.rangeSize
    rw [if_pos (by decide)]
    split <;> omega
  refine ⟨by decide, by decide, ?_, e⟩
  unfold Builtin.Range.small
  rw [e, fitL (i := 0) (by decide) (by decide), fitL (i := (n : Int)) (by omega) (by omega), fitL (i := 10) (by decide) (by decide), fitL (i := (((n + 9) / 10 : Nat) : Int)) (by omega) (by omega), if_pos (by decide), fitL (i := (n : Int) + (10 - 1)) (by omega) (by omega), Bool.or_true]
  rfl
def Rng3 (R : It → Hp → Prop) (vs : List V) (H : Hp) : Prop := ∃ (i j c : Int) (n : Nat), vs = [.int i, .int j, .int c] ∧ RgC i j c n ∧ R (Itc i c n) H
theorem g_rng3 {ta : TA} {σ : L2.St} {H : Hp} {R : It → Hp → Prop} (h : ta σ H (Rng3 R)) : iRng3 ta σ H R := h
theorem l_rangeC {lo c : Int} {n : Nat} {g : TG} {tb : TS} {nx bk ct : L2.St → Hp → Prop} {rt : VK} {σ : L2.St} {H : Hp} (Pv : Nat → L2.St → Hp → Prop) (h0 : Pv 0 σ H) (hs : ∀ i σ H, i < n → Pv i σ H → g (.int (lo + (i : Nat) * c)) σ H fun σ2 H2 => tb ⟨Pv (i + 1), rt, nx, Pv (i + 1)⟩ σ2 H2)
    (hd : ∀ σ H, Pv n σ H → nx σ H) : LoopG (Itc lo c n) g tb ⟨nx, rt, bk, ct⟩ σ H := for_rangeC (D := ⟨nx, rt, bk, ct⟩) Pv h0 hs hd
def chunk (u : List Int) (i : Nat) : List Int := (u.drop (10 * i)).take 10
def chunks (u : List Int) : List (List Int) := (List.range ((u.length + 9) / 10)).map (chunk u)
theorem take_chunk {u : List Int} {i : Nat} : u.take (10 * i) ++ chunk u i = u.take (10 * (i + 1)) := by
  unfold chunk
  rw [Nat.mul_succ, List.take_add]
theorem take_all {u : List Int} : u.take (10 * ((u.length + 9) / 10)) = u := List.take_of_length_le (by omega)
theorem cutD_ii {α : Type} {xs : List α} {i k : Nat} (h : i ≤ xs.length) : G.cutD xs (some (i : Int)) (some ((i + k : Nat) : Int)) = (xs.drop i).take k := by
  unfold G.cutD
  rw [HT.sIx_nat, HT.sIx_nat, Nat.min_eq_left h]
  rcases Nat.le_total (i + k) xs.length with z | z
  · rw [Nat.min_eq_left z, Nat.add_sub_cancel_left]
  · rw [Nat.min_eq_right z, List.take_of_length_le (by rw [List.length_drop]; exact Nat.le_refl _), List.take_of_length_le (by rw [List.length_drop]; omega)]
abbrev KR := List Int × List (List Int)
def rdS (co : Cos) (s : KR) (n : Int) : KR := if s.1.contains n = true then s else (s.1 ++ batch n ((comp co n).filter fun m => !s.1.contains m), s.2 ++ [batch n ((comp co n).filter fun m => !s.1.contains m)])
def unk (kn : List Int) (ns : List Int) : List Int := srt ((once ns).filter fun m => !kn.contains m)
def rqS (s : KR) (ns : List Int) : KR := (s.1 ++ unk s.1 ns, s.2 ++ chunks (unk s.1 ns))
theorem unk_len {kn ns : List Int} : (unk kn ns).length ≤ ns.length := by
  unfold unk
  rw [srt_len]
  exact Nat.le_trans (List.length_filter_le _ _) once_len
section
variable {K : PySem.W.Frag} {F F0 F1 F2 F3 H H' : Hp} {Q : VK} {E : XK} {mg : Str → Option Value} {M : List (Addr × HO)} {x y sv u : V} {ns ms kn : List Int} {n : Int} {w : Wd} {t c : List (L2.Key × V)} {z : List V} {ps : Pic} {co : Cos} {rs : List (List Int)} {b : Nat} {i : Nat}
theorem rd_thingR (T : Tx K mg) (hb : b ≤ 500000) (hh : HH F H (pc K w t c z M)) (hs : SP K F ps kn co rs t c z b) (hsv : At K F (o_PictureSource (dPic ps)) w.sv)
    (q : ∀ F' H' t' z' u, Same F F' → HH F' H' (pc K w t' c z' M) → SP K F' ps (rdS co (kn, rs) n).1 co (rdS co (kn, rs) n).2 t' c z' (b + 11) → At K F' (thD ps n) u → Q u H') : sp_Reader_thing K [.ref w.ra, .int n] H Q E := by
  refine ⟨rfl, ?_⟩
  unfold t_Reader_thing
  refine g_cut (fun σ' H' => ∃ F' t' z' v2 v3, σ' = [some (.ref w.ra), some (.int n), v2, v3] ∧ Same F F' ∧ HH F' H' (pc K w t' c z' M) ∧ SP K F' ps (rdS co (kn, rs) n).1 co (rdS co (kn, rs) n).2 t' c z' (b + 11) ∧ (rdS co (kn, rs) n).1.contains n = true) ?_ ?_
  · walk_at "go"
    refine fr_th T hh (i := 0) rfl ?_
    refine v_din (k := kI n) (.inl (hh.get (i := 1) rfl)) ?_
    rw [if_pos rfl]
    cases e : kn.contains n with
    | true =>
      obtain ⟨v, hv, _⟩ := hs.t1 n e
      rw [hv, show (!(some v).isSome) = false from rfl]
      walk_at "go"
      have er : rdS co (kn, rs) n = (kn, rs) := if_pos e
      rw [er]
      exact ⟨F, t, z, _, _, rfl, Same.refl _, hh, hs.mono (Same.refl _) (by omega), e⟩
    | false =>
      rw [hs.t0 n e, show (!(none : Option V).isSome) = true from rfl]
      walk_at "go"
      refine gi_list ?_
      walk_at "go"
      refine mr hh (i := 0) rfl (by decide +kernel) ?_
      walk_at "go"
      refine rd_company T hh hs fun F1 H1 u1 s1 hh h1 => ?_
      have hs1 := hs.mono s1 (Nat.le_refl _)
      have hcl := hs.col n
      refine i_lcF (p := fun m => !kn.contains m) h1 hh (by omega) (fun m H' c' P N hm h2 hP hN => ?_) fun F2 H2 u2 s2 hh h2 => ?_
      · walk_at "go"
        refine ⟨rfl, ?_⟩
        walk_at "go"
        refine fr_th T h2 (i := 1) rfl ?_
        refine v_din (k := kI m) (.inl (h2.get (i := 2) rfl)) ?_
        rw [if_pos rfl]
        cases e2 : kn.contains m with
        | true =>
          obtain ⟨v, hv, _⟩ := hs1.t1 m e2
          rw [hv, show (!(some v).isSome) = false from rfl]
          walk_at "go"
          exact hN (by rw [e2]; rfl)
        | false =>
          rw [hs1.t0 m e2, show (!(none : Option V).isSome) = true from rfl]
          walk_at "go"
          exact hP (by rw [e2]; rfl)
      walk_at "go"
      refine mr hh (i := 0) rfl (by decide +kernel) ?_
      walk_at "go"
      refine mr hh (i := 0) rfl (by decide +kernel) ?_
      walk_at "go"
      refine rd_batch (n := n) hh h2 (by have := List.length_filter_le (fun m => !kn.contains m) (comp co n); omega) fun F3 H3 u3 s3 hh h3 => ?_
      walk_at "go"
      have hbl := batch_len (n := n) (unk := (comp co n).filter fun m => !kn.contains m)
      refine rd_learn T (by omega) (by omega) hh (hs1.mono (s2.trans s3) (Nat.le_refl _)) (hsv.mono (s1.trans (s2.trans s3))) h3 fun F4 H4 t' z' s4 hh hs4 => ?_
      have er : rdS co (kn, rs) n = (kn ++ batch n ((comp co n).filter fun m => !kn.contains m), rs ++ [batch n ((comp co n).filter fun m => !kn.contains m)]) := if_neg (by rw [e]; decide)
      rw [er]
      exact ⟨F4, t', z', _, _, rfl, s1.trans (s2.trans (s3.trans s4)), hh, hs4.mono (Same.refl _) (by omega), List.contains_iff_mem.mpr (List.mem_append_right _ batch_mem)⟩
  · rintro σ' H' ⟨F', t', z', v2, v3, rfl, s, hh, hs, e⟩
    walk_at "go"
    refine fr_th T hh (i := 0) rfl ?_
    walk_at "go"
    obtain ⟨v, hv, ha⟩ := hs.t1 n e
    exact v_dget (k := kI n) (.inl (hh.get (i := 1) rfl)) hv (q F' _ t' z' v s hh hs ha)
theorem rd_together (T : Tx K mg) (hb : b ≤ 500000) (hz : ns.length ≤ 100000) (hh : HH F H (pc K w t c z M)) (hs : SP K F ps kn co rs t c z b) (hx : At K F (dL ns) x)
    (q : ∀ F' H' c', Same F F' → HH F' H' (pc K w t c' z M) → SP K F' ps kn (addC co (once ns) (once ns)) rs t c' z (b + ns.length) → Q .non H') : sp_Reader_together K [.ref w.ra, x] H Q E := by
  refine ⟨rfl, ?_⟩
  unfold t_Reader_together
  walk_at "go"
  refine rd_once hh hx (by omega) fun F1 H1 u1 s1 hh h1 => ?_
  walk_at "go"
  refine gi_list ?_
  walk_at "go"
  have hol := once_len (ns := ns)
  refine a_forL (e := D.i) h1 hh (fun r σ H' => ∃ co' c' v3, addC co' (once ns) r = addC co (once ns) (once ns) ∧ r.length ≤ (once ns).length ∧ c'.length + r.length ≤ b + (once ns).length ∧ σ = [some (.ref w.ra), some x, some u1, v3] ∧ HH F1 H' (pc K w t c' z M) ∧ SP K F1 ps kn co' rs t c' z (b + (once ns).length))
    (fun _ _ _ ⟨_, _, _, _, _, _, _, h, _⟩ => h.sub) ⟨co, c, none, rfl, Nat.le_refl _, by have := hs.cb; omega, rfl, hh, hs.mono s1 (by omega)⟩ ?_ ?_
  · clear hh
    rintro n r u σ H' hu ⟨co', c', v3, ea, hr, hc, rfl, hh, hs'⟩
    obtain rfl := At.v_.mp hu
    rw [List.length_cons] at hr hc
    walk_at "go"
    refine fr_co T hh (i := 0) rfl ?_
    walk_at "go"
    refine o_dputI (k := kI n) hh (i := 2) rfl (by omega) fun H5 hh => ?_
    have hpl := length_putK c' (kI n) u1
    refine ⟨putC co' n (once ns), putK c' (kI n) u1, _, ea, by omega, by omega, rfl, hh, hs'.t1, hs'.t0, coK_put hs'.cc h1, hs'.zz, hs'.tb, by omega, hs'.zb, fun m => comp_len hs'.col (by omega)⟩
  · rintro σ H' ⟨co', c', v3, ea, hr, hc, rfl, hh, hs'⟩
    have ea : co' = addC co (once ns) (once ns) := ea
    subst ea
    exact q F1 H' c' s1 hh (hs'.mono (Same.refl _) (by omega))
theorem rd_request_all (T : Tx K mg) (hb : b ≤ 500000) (hz : ns.length ≤ 100000) (hh : HH F H (pc K w t c z M)) (hs : SP K F ps kn co rs t c z b) (hsv : At K F (o_PictureSource (dPic ps)) w.sv) (hx : At K F (dL ns) x)
    (q : ∀ F' H' t' z', Same F F' → HH F' H' (pc K w t' c z' M) → SP K F' ps (rqS (kn, rs) ns).1 co (rqS (kn, rs) ns).2 t' c z' (b + 2 * ns.length + 10) → Q .non H') : sp_request_all K [.ref w.ra, x] H Q E := by
  refine ⟨rfl, ?_⟩
  unfold t_request_all k_MOST_ASKED
  walk_at "go"
  refine gi_list ?_
  walk_at "go"
  refine rd_once hh hx (by omega) fun F1 H1 u1 s1 hh h1 => ?_
  have hol := once_len (ns := ns)
  have hs1 := hs.mono s1 (Nat.le_refl _)
  refine i_lcF (p := fun m => !kn.contains m) h1 hh (by omega) (fun m H' c' P N hm h2 hP hN => ?_) fun F2 H2 u2 s2 hh h2 => ?_
  · walk_at "go"
    refine ⟨rfl, ?_⟩
    walk_at "go"
    refine mr h2 (i := 1) rfl (by decide +kernel) ?_
    walk_at "go"
    refine rd_knows T h2 (i := 1) rfl rfl hs1.t1 hs1.t0 ?_
    cases e2 : kn.contains m with
    | true =>
      walk_at "go"
      exact hN (by rw [e2]; rfl)
    | false =>
      walk_at "go"
      exact hP (by rw [e2]; rfl)
  walk_at "go"
  refine s_sorted h2 hh (Same.refl _) fun F3 H3 u3 s3 hh h3 => ?_
  have hul := unk_len (kn := kn) (ns := ns)
  have h3 : At K F3 (dL (unk kn ns)) u3 := h3
  walk_at "go"
  refine g_rng3 ?_
  walk_at "go"
  refine s_lenL (e := D.i) h3 hh.sub ?_
  walk_at "go"
  have hs3 := hs1.mono (s2.trans s3) (Nat.le_refl _)
  have hsv3 := hsv.mono (s1.trans (s2.trans s3))
  refine ⟨0, _, 10, _, rfl, rg10 (by omega), l_rangeC (fun i σ H' => i ≤ ((unk kn ns).length + 9) / 10 ∧ ∃ F' t' z' v4, σ = [some (.ref w.ra), some x, some u3, none, v4] ∧ Same F3 F' ∧ HH F' H' (pc K w t' c z' M) ∧
    SP K F' ps (kn ++ (unk kn ns).take (10 * i)) co (rs ++ (List.range i).map (chunk (unk kn ns))) t' c z' (b + 11 * i)) ⟨Nat.zero_le _, F3, t, z, none, rfl, Same.refl _, hh, by rw [Nat.mul_zero, List.take_zero, List.append_nil, List.range_zero, List.map_nil, List.append_nil]; exact hs3⟩ ?_ ?_⟩
  · clear hh
    rintro i σ H' hi ⟨_, F', t', z', v4, rfl, s, hh, hs'⟩
    have hil : 10 * i ≤ (unk kn ns).length := by omega
    walk_at "go"
    refine mr hh (i := 0) rfl (by decide +kernel) ?_
    walk_at "go"
    refine s_slG (h3.mono s) hh (Same.refl _) fun F4 H4 u4 s4 hh h4 => ?_
    rw [show (0 + (i : Int) * 10) = ((10 * i : Nat) : Int) by omega, show (((10 * i : Nat) : Int) + 10) = ((10 * i + 10 : Nat) : Int) by omega, cutD_map, cutD_ii hil] at h4
    have h4 : At K F4 (dL (chunk (unk kn ns) i)) u4 := h4
    have hcl : (chunk (unk kn ns) i).length ≤ 10 := by unfold chunk; rw [List.length_take]; omega
    walk_at "go"
    refine rd_learn T (by omega) (by omega) hh (hs'.mono s4 (Nat.le_refl _)) (hsv3.mono (s.trans s4)) h4 fun F5 H5 t'' z'' s5 hh hs5 => ?_
    rw [List.append_assoc, take_chunk, List.append_assoc] at hs5
    refine ⟨by omega, F5, t'', z'', _, rfl, s.trans (s4.trans s5), hh, ?_⟩
    rw [List.range_succ, List.map_append]
    exact hs5.mono (Same.refl _) (by omega)
  · rintro σ H' ⟨_, F', t', z', v4, rfl, s, hh, hs'⟩
    rw [take_all] at hs'
    exact q F' H' t' z' (s1.trans (s2.trans (s3.trans s))) hh (hs'.mono (Same.refl _) (by omega))
end
end Lw

-- fld
namespace Lw
open PySem PySem.Spec PyProof.Rows L2 G
/-! ### what things link to -/
def nmV : V → List Int
  | .int n => [n]
  | _ => []
def linked (t : Th) (z : List Nat) : List Int := match t with
  | .A _ _ r l => if z = q_r then nmV r else if z = q_l then l else []
  | .B p q m => if z = q_p then nmV p else if z = q_q then nmV q else if z = q_m then m else []
def held (ps : Pic) (z : List Nat) (n : Int) : List Int := match fnd ps n with
  | some t => linked t.1 z
  | none => []
def l_nm : List (List Nat) := [q_r, q_l, q_p, q_q, q_m, q_a, q_z]
def kOf (r0 r1 r2 : List Nat) (b : Bool) : Th → Kdd
  | .A .. => kA r0 b
  | .B .. => kB r1 r2 b
theorem kOf_find {r0 r1 r2 : List Nat} {b : Bool} {t : Th} : ([kA r0 b, kB r1 r2 b].find? fun k => decide (k.name = t.kind)) = some (kOf r0 r1 r2 b t) := by cases t <;> rfl
inductive LCase (r0 r1 r2 : List Nat) (b : Bool) (t : Th) (z : List Nat) : Prop
  | non (e : (kOf r0 r1 r2 b t).fs.find? (fun f => decide (f.name = z)) = none) (h : linked t z = []) (m : z ∉ t.fl.map (·.1)) (m2 : z ≠ t.ln)
  | flat (v : V) (f : Fdd) (m : (z, v) ∈ t.fl) (e : (kOf r0 r1 r2 b t).fs.find? (fun f => decide (f.name = z)) = some f) (h1 : isL f.sh = false) (h2 : isR f.sh = false) (h : linked t z = []) (a : z = q_a)
  | ref (v : V) (f : Fdd) (ks : List (List Nat)) (ρ : List Nat) (m : (z, v) ∈ t.fl) (n : Nm v) (e : (kOf r0 r1 r2 b t).fs.find? (fun f => decide (f.name = z)) = some f) (hs : f.sh = .r ks ρ) (h : linked t z = nmV v)
  | list (f : Fdd) (ks : List (List Nat)) (m : z = t.ln) (e : (kOf r0 r1 r2 b t).fs.find? (fun f => decide (f.name = z)) = some f) (hs : f.sh = .l ks) (h : linked t z = t.ls)
theorem lcase {r0 r1 r2 : List Nat} {b : Bool} {t : Th} {z : List Nat} (ht : t.ok) (hz : z ∈ l_nm) : LCase r0 r1 r2 b t z := by
  unfold l_nm at hz
  simp only [List.mem_cons, List.not_mem_nil, or_false] at hz
  cases t with
  | A a tt r l =>
    obtain ⟨ha, hb, hc, _⟩ := ht
    rcases hz with rfl | rfl | rfl | rfl | rfl | rfl | rfl
    · exact .ref r ⟨q_r, .r [q_A, q_B] r0, false⟩ _ _ (List.mem_cons_of_mem _ (List.mem_cons_of_mem _ (List.mem_cons_self ..))) hc rfl rfl rfl
    · exact .list ⟨q_l, .l [q_A], false⟩ _ rfl rfl rfl rfl
    · exact .non rfl rfl (by show q_p ∉ [q_a, q_t, q_r]; decide) (by show q_p ≠ q_l; decide)
    · exact .non rfl rfl (by show q_q ∉ [q_a, q_t, q_r]; decide) (by show q_q ≠ q_l; decide)
    · exact .non rfl rfl (by show q_m ∉ [q_a, q_t, q_r]; decide) (by show q_m ≠ q_l; decide)
    · exact .flat a ⟨q_a, .i, b⟩ (List.mem_cons_self ..) rfl rfl rfl rfl rfl
    · exact .non rfl rfl (by show q_z ∉ [q_a, q_t, q_r]; decide) (by show q_z ≠ q_l; decide)
  | B a tt l =>
    obtain ⟨ha, hb, _⟩ := ht
    rcases hz with rfl | rfl | rfl | rfl | rfl | rfl | rfl
    · exact .non rfl rfl (by show q_r ∉ [q_p, q_q]; decide) (by show q_r ≠ q_m; decide)
    · exact .non rfl rfl (by show q_l ∉ [q_p, q_q]; decide) (by show q_l ≠ q_m; decide)
    · exact .ref a ⟨q_p, .r [q_A] r1, b⟩ _ _ (List.mem_cons_self ..) ha rfl rfl rfl
    · exact .ref tt ⟨q_q, .r [q_B] r2, false⟩ _ _ (List.mem_cons_of_mem _ (List.mem_cons_self ..)) hb rfl rfl rfl
    · exact .list ⟨q_m, .l [q_A, q_B], false⟩ _ rfl rfl rfl rfl
    · exact .non rfl rfl (by show q_a ∉ [q_p, q_q]; decide) (by show q_a ≠ q_m; decide)
    · exact .non rfl rfl (by show q_z ∉ [q_p, q_q]; decide) (by show q_z ≠ q_m; decide)
theorem linked_len {t : Th} {z : List Nat} (ht : t.ok) (hz : z ∈ l_nm) : (linked t z).length ≤ 8 := by
  cases lcase (r0 := []) (r1 := []) (r2 := []) (b := false) ht hz with
  | non e h => rw [h]; decide
  | flat v f m e h1 h2 h => rw [h]; decide
  | ref v f ks ρ m n e hs h =>
    rw [h]
    cases v <;> first | exact (show 0 ≤ 8 by decide) | exact (show 1 ≤ 8 by decide)
  | list f ks m e hs h => rw [h]; exact ht.ls.1
section
variable {K : PySem.W.Frag} {F F0 F1 F2 F3 H H' : Hp} {Q : VK} {E : XK} {mg : Str → Option Value} {M : List (Addr × HO)} {x y sv u scv tv : V} {ns ms kn : List Int} {n : Int} {w : Wd} {t c : List (L2.Key × V)} {zz : List V} {ps : Pic} {co : Cos} {rs : List (List Int)} {b : Nat} {i : Nat} {th : Th} {l : Addr} {z : List Nat}
theorem rd_field_of0 (T : Tx K mg) {k : Kdd} (hx : At K F0 k.d x) (s : Same F0 H) (e : k.fs.find? (fun f => decide (f.name = z)) = none) (q : Q .non H) : sp_Kind_field_of K [x, .str ⟨z.toArray⟩] H Q E := by
  refine ⟨rfl, ?_⟩
  unfold t_Kind_field_of
  walk_at "go"
  refine gi_list ?_
  walk_at "go"
  refine fk_fields T hx s fun w hw => ?_
  refine a_forL (e := Fdd.d) hw (HH.ofS s) (fun r σ H' => H' = H ∧ r.find? (fun f => decide (f.name = z)) = none ∧ ∃ v2, σ = [some x, some (.str ⟨z.toArray⟩), v2]) (fun _ _ _ h => h.1 ▸ s) ⟨rfl, e, none, rfl⟩ ?_ ?_
  · rintro f' r u σ H' hu ⟨rfl, e, v2, rfl⟩
    unfold Fdd.d at hu
    walk_at "go"
    rw [List.find?_cons] at e
    by_cases c : f'.name = z
    · rw [decide_eq_true c] at e
      cases e
    · rw [decide_eq_false c] at e ⊢
      walk_at "go"
      exact ⟨rfl, e, _, rfl⟩
  · rintro σ H' ⟨rfl, e, v2, rfl⟩
    walk_at "go"
    exact q
theorem rd_sfield_of (T : Tx K mg) {rows : List Kdd} {k : Kdd} {zk : List Nat} (hx : At K F0 (o_Schema (.lst (rows.map Kdd.d))) x) (s : Same F0 H) (e : rows.find? (fun k => decide (k.name = zk)) = some k)
    (q : match k.fs.find? (fun f => decide (f.name = z)) with | none => Q .non H | some f => ∀ w, At K F0 f.d w → Q w H) : sp_Schema_field_of K [x, .str ⟨zk.toArray⟩, .str ⟨z.toArray⟩] H Q E := by
  refine ⟨rfl, ?_⟩
  unfold t_Schema_field_of
  walk_at "go"
  refine s_meth hx s ["kinds"] rfl (by decide +kernel) ?_
  walk_at "go"
  refine rd_kind_of T hx s e fun kv hkv => ?_
  walk_at "go"
  obtain ⟨a, dx, fs, ea, _, _⟩ := hkv.obj_
  rw [decide_eq_false (by rw [ea]; intro h; cases h)]
  walk_at "go"
  refine s_meth hkv s ["name", "fields", "key_rows"] rfl (by decide +kernel) ?_
  walk_at "go"
  cases ef : k.fs.find? (fun f => decide (f.name = z)) with
  | none =>
    rw [ef] at q
    exact rd_field_of0 T hkv s ef q
  | some f =>
    rw [ef] at q
    exact rd_field_of T hkv s ef q
theorem rd_linked (T : Tx K mg) {r0 r1 r2 : List Nat} {bb : Bool} (ht : th.ok) (hz : z ∈ l_nm) (hh : HH F H M) (hsc : At K F (dSch r0 r1 r2 bb) scv) (htv : At K F (dR th l) tv) (hl : RL F M l th.ls)
    (q : ∀ F' H' u, Same F F' → HH F' H' M → At K F' (dL (linked th z)) u → Q u H') : sp_linked_numbers K [scv, tv, .str ⟨z.toArray⟩] H Q E := by
  refine ⟨rfl, ?_⟩
  unfold t_linked_numbers
  walk_at "go"
  refine s_meth hsc hh.sub ["kinds"] rfl (by decide +kernel) ?_
  walk_at "go"
  refine fk_kind T htv hh.sub ?_
  walk_at "go"
  refine rd_sfield_of T hsc hh.sub (kOf_find (b := bb)) ?_
  cases lcase (r0 := r0) (r1 := r1) (r2 := r2) (b := bb) ht hz with
  | non e h m m2 =>
    rw [e]
    show _
    walk_at "go"
    rw [decide_eq_true rfl]
    walk_at "go"
    exact s_lst (K := K) (ds := []) hh AtA.nil (by decide) (by rw [h] at q; exact q)
  | flat v f m e h1 h2 h =>
    rw [e]
    intro fv hf
    obtain ⟨a, dx, fs, ea, _, _⟩ := hf.obj_
    unfold Fdd.d at hf
    walk_at "go"
    rw [decide_eq_false (by rw [ea]; intro h; cases h)]
    walk_at "go"
    refine fk_contents T htv hh.sub fun cw hcw => ?_
    walk_at "go"
    refine s_dgetT hcw hh.sub (ck_fl m) fun w2 hw2 => ?_
    walk_at "go"
    refine rd_is_list T (sh := f.sh) (by assumption) hh.sub ?_
    rw [h1]
    walk_at "go"
    refine rd_is_reference T (sh := f.sh) (by assumption) hh.sub ?_
    rw [h2]
    walk_at "go"
    exact s_lst (K := K) (ds := []) hh AtA.nil (by decide) (by rw [h] at q; exact q)
  | ref v f ks ρ m n e hs h =>
    rw [e]
    intro fv hf
    obtain ⟨a, dx, fs, ea, _, _⟩ := hf.obj_
    unfold Fdd.d at hf
    walk_at "go"
    rw [decide_eq_false (by rw [ea]; intro h; cases h)]
    walk_at "go"
    refine fk_contents T htv hh.sub fun cw hcw => ?_
    walk_at "go"
    refine s_dgetT hcw hh.sub (ck_fl m) fun w2 hw2 => ?_
    rw [At.v_.mp hw2]
    walk_at "go"
    refine rd_is_list T (sh := f.sh) (by assumption) hh.sub ?_
    rw [hs, show isL (.r ks ρ) = false from rfl]
    walk_at "go"
    refine rd_is_reference T (sh := f.sh) (by assumption) hh.sub ?_
    rw [hs, show isR (.r ks ρ) = true from rfl]
    walk_at "go"
    rcases n with rfl | ⟨n, rfl, _⟩
    · rw [decide_eq_true rfl]
      walk_at "go"
      exact s_lst (K := K) (ds := []) hh AtA.nil (by decide) (by rw [h] at q; exact q)
    · rw [decide_eq_false (by intro h; cases h)]
      walk_at "go"
      exact s_lst (K := K) (ds := [D.i n]) hh (AtA.cons At.of AtA.nil) (by show 1 ≤ 1000; decide) (by rw [h] at q; exact q)
  | list f ks m e hs h =>
    rw [e]
    intro fv hf
    obtain ⟨a, dx, fs, ea, _, _⟩ := hf.obj_
    unfold Fdd.d at hf
    walk_at "go"
    rw [decide_eq_false (by rw [ea]; intro h; cases h)]
    walk_at "go"
    refine fk_contents T htv hh.sub fun cw hcw => ?_
    walk_at "go"
    subst m
    refine s_dgetT hcw hh.sub ck_ln fun w2 hw2 => ?_
    rw [At.v_.mp hw2]
    walk_at "go"
    refine rd_is_list T (sh := f.sh) (by assumption) hh.sub ?_
    rw [hs, show isL (.l ks) = true from rfl]
    walk_at "go"
    rw [h] at q
    exact v_listR (hl.at_ (Same.refl _) hh fun _ h => h) fun p hp => q _ _ _ (hh.grow hp) (hh.newF hp) (At.mkL upd_same (AtA.ofFlat (g := V.int)))
theorem rd_law_held (T : Tx K mg) (ok : PicOk F [] ps) (hz : z ∈ l_nm) (hh : HH F H M) (hx : At K F (dPic ps) x) (q : ∀ F' H' u, Same F F' → HH F' H' M → At K F' (dL (held ps z n)) u → Q u H') : sp__law_held K [x, .int n, .str ⟨z.toArray⟩] H Q E := by
  refine ⟨rfl, ?_⟩
  unfold t__law_held
  unfold held at q
  walk_at "go"
  refine s_dinI hx hh.sub ?_
  rw [if_pos rfl, fnd_val]
  cases e : fnd ps n with
  | none =>
    rw [e] at q
    rw [show (!(Option.map (fun t : Th × Addr => dR t.1 t.2) none).isSome) = true from rfl]
    walk_at "go"
    exact s_lst (K := K) (ds := []) hh AtA.nil (by decide) q
  | some t =>
    rw [e] at q
    replace q : ∀ F' H' u, Same F F' → HH F' H' M → At K F' (dL (linked t.1 z)) u → Q u H' := q
    have ht : t.1.ok := ok.th _ (fnd_mem e)
    have hl : RL F [] t.2 t.1.ls := ok.ls _ (fnd_mem e)
    have ev : valD (pK ps) (kI n) = some (dR t.1 t.2) := by rw [fnd_val, e]; rfl
    rw [show (!(Option.map (fun t : Th × Addr => dR t.1 t.2) (some t)).isSome) = false from rfl]
    walk_at "go"
    refine s_lst (K := K) (ds := [q_r, q_l, q_p, q_q, q_m].map D.t) hh (AtA.ofFlat (g := svv) (xs := [q_r, q_l, q_p, q_q, q_m])) (by show 5 ≤ 1000; decide) fun F1 H1 u1 s1 hh h1 => ?_
    refine s_notInL h1 hh.sub ?_
    walk_at "go"
    cases lcase (r0 := []) (r1 := []) (r2 := []) (b := false) ht hz with
    | non e2 h m m2 =>
      rw [h] at q
      cases c : [q_r, q_l, q_p, q_q, q_m].contains z with
      | false =>
        rw [show (!false) = true from rfl]
        walk_at "go"
        exact s_lst (K := K) (ds := []) hh AtA.nil (by decide) fun F2 H2 u s2 => q F2 H2 u (s1.trans s2)
      | true =>
        rw [show (!true) = false from rfl]
        walk_at "go"
        refine s_dgetI (hx.mono s1) hh.sub ev fun tv htv => ?_
        refine fk_contents T htv hh.sub fun cw hcw => ?_
        obtain ⟨ca, cod, cvs, rfl, _, cr, cv⟩ := hcw.dkR hh.sub
        refine v_din (k := kT z) cr ?_
        rw [if_pos rfl, isS_AtK cv]
        have en : valD (t.1.ck t.2) (kT z) = none := by
          unfold Th.ck
          rw [valD_app]
          · rw [valD_neg (fun e => m2 (svv_inj (Sum.inr.inj e)).symm)]
            rfl
          · intro p hp
            obtain ⟨p', hp', rfl⟩ := List.mem_map.mp hp
            intro e
            exact m (List.mem_map.mpr ⟨p', hp', svv_inj (Sum.inr.inj e)⟩)
        rw [en, show (!(none : Option D).isSome) = true from rfl]
        walk_at "go"
        exact s_lst (K := K) (ds := []) hh AtA.nil (by decide) fun F2 H2 u s2 => q F2 H2 u (s1.trans s2)
    | flat v f m e2 h1' h2' h ea =>
      rw [h] at q
      subst ea
      rw [show (![q_r, q_l, q_p, q_q, q_m].contains q_a) = true by decide]
      walk_at "go"
      exact s_lst (K := K) (ds := []) hh AtA.nil (by decide) fun F2 H2 u s2 => q F2 H2 u (s1.trans s2)
    | ref v f ks ρ m n' e2 hs h =>
      rw [h] at q
      have c : [q_r, q_l, q_p, q_q, q_m].contains z = true := by
        generalize t.1 = th at m e2 hs
        cases th with
        | A a tt r l =>
          unfold l_nm at hz
          simp only [List.mem_cons, List.not_mem_nil, or_false] at hz
          rcases hz with rfl | rfl | rfl | rfl | rfl | rfl | rfl
          · decide
          · decide
          · decide
          · decide
          · decide
          · cases e2; cases hs
          · cases e2
        | B a tt l =>
          unfold l_nm at hz
          simp only [List.mem_cons, List.not_mem_nil, or_false] at hz
          rcases hz with rfl | rfl | rfl | rfl | rfl | rfl | rfl
          · decide
          · decide
          · decide
          · decide
          · decide
          · cases e2
          · cases e2
      rw [c, show (!true) = false from rfl]
      walk_at "go"
      refine s_dgetI (hx.mono s1) hh.sub ev fun tv htv => ?_
      refine fk_contents T htv hh.sub fun cw hcw => ?_
      obtain ⟨ca, cod, cvs, rfl, _, cr, cv⟩ := hcw.dkR hh.sub
      refine v_din (k := kT z) cr ?_
      rw [if_pos rfl, isS_AtK cv, ck_fl m, show (!(some (D.v v)).isSome) = false from rfl]
      walk_at "go"
      refine s_dgetI (hx.mono s1) hh.sub ev fun tv htv => ?_
      refine fk_contents T htv hh.sub fun cw hcw => ?_
      walk_at "go"
      refine s_dgetT hcw hh.sub (ck_fl m) fun w2 hw2 => ?_
      rw [At.v_.mp hw2]
      walk_at "go"
      refine v_isiLF (.inl n') ?_
      walk_at "go"
      rcases n' with rfl | ⟨n, rfl, _⟩
      · rw [decide_eq_true rfl]
        walk_at "go"
        exact s_lst (K := K) (ds := []) hh AtA.nil (by decide) fun F2 H2 u s2 => q F2 H2 u (s1.trans s2)
      · rw [decide_eq_false (by intro h; cases h)]
        walk_at "go"
        exact s_lst (K := K) (ds := [D.i n]) hh (AtA.cons At.of AtA.nil) (by show 1 ≤ 1000; decide) fun F2 H2 u s2 => q F2 H2 u (s1.trans s2)
    | list f ks m e2 hs h =>
      rw [h] at q
      subst m
      have c : [q_r, q_l, q_p, q_q, q_m].contains t.1.ln = true := by
        cases t.1 with
        | A => exact (by decide : [q_r, q_l, q_p, q_q, q_m].contains q_l = true)
        | B => exact (by decide : [q_r, q_l, q_p, q_q, q_m].contains q_m = true)
      rw [c, show (!true) = false from rfl]
      walk_at "go"
      refine s_dgetI (hx.mono s1) hh.sub ev fun tv htv => ?_
      refine fk_contents T htv hh.sub fun cw hcw => ?_
      obtain ⟨ca, cod, cvs, rfl, _, cr, cv⟩ := hcw.dkR hh.sub
      refine v_din (k := kT t.1.ln) cr ?_
      rw [if_pos rfl, isS_AtK cv, ck_ln, show (!(some (D.v (V.ref t.2))).isSome) = false from rfl]
      walk_at "go"
      refine s_dgetI (hx.mono s1) hh.sub ev fun tv htv => ?_
      refine fk_contents T htv hh.sub fun cw hcw => ?_
      walk_at "go"
      refine s_dgetT hcw hh.sub ck_ln fun w2 hw2 => ?_
      rw [At.v_.mp hw2]
      walk_at "go"
      have hf : F1 t.2 = some (.lst (t.1.ls.map V.int)) := by
        rcases hl with h | h
        · exact s1 _ _ h
        · cases h
      refine v_isiL (hh.sub _ _ hf) ?_
      walk_at "go"
      exact q F1 H1 _ s1 hh (At.mkL hf (AtA.ofFlat (g := V.int)))
end
end Lw

-- fld
namespace Lw
open PySem PySem.Spec PyProof.Rows L2 G
/-! ### reading ahead -/
def heldAll (ps : Pic) (ns : List Int) (z : List Nat) : List Int := ns.flatMap (held ps z)
abbrev WS := KR × Cos
def stepW (ps : Pic) (s : WS × List Int) (z : List Nat) : WS × List Int :=
  ((rqS s.1.1 (once (heldAll ps s.2 z)), addC s.1.2 (once (once (heldAll ps s.2 z))) (once (once (heldAll ps s.2 z)))), once (heldAll ps s.2 z))
def pathW (ps : Pic) (first : List Int) (s : WS) (path : List (List Nat)) : WS := (path.foldl (stepW ps) (s, first)).1
def raW (ps : Pic) (s : WS) (ns : List Int) (paths : List (List (List Nat))) : WS :=
  paths.foldl (pathW ps (once ns)) (rqS s.1 (once ns), addC s.2 (once (once ns)) (once (once ns)))
theorem held_len {ps : Pic} {F : Hp} {M : List (Addr × HO)} {z : List Nat} {n : Int} (ok : PicOk F M ps) (hz : z ∈ l_nm) : (held ps z n).length ≤ 8 := by
  unfold held
  cases e : fnd ps n with
  | none => exact Nat.zero_le _
  | some t => exact linked_len (ok.th _ (fnd_mem e)) hz
theorem heldAll_len {ps : Pic} {F : Hp} {M : List (Addr × HO)} {z : List Nat} (ok : PicOk F M ps) (hz : z ∈ l_nm) : ∀ {ns : List Int}, (heldAll ps ns z).length ≤ 8 * ns.length
  | [] => Nat.zero_le _
  | n :: ns => by
    unfold heldAll
    rw [List.flatMap_cons, List.length_append, List.length_cons]
    have h1 := held_len (n := n) ok hz
    have h2 := heldAll_len (ns := ns) ok hz
    unfold heldAll at h2
    omega
theorem rqS_kn {s : KR} {ns : List Int} {n : Int} (h : n ∈ ns) : (rqS s ns).1.contains n = true := by
  unfold rqS
  rw [List.contains_iff_mem, List.mem_append]
  by_cases c : n ∈ s.1
  · exact .inl c
  · refine .inr (srt_perm.mem_iff.mpr (List.mem_filter.mpr ⟨once_mem.mpr h, ?_⟩))
    rw [List.contains_eq_mem, decide_eq_false c]
    rfl
theorem rqS_mono {s : KR} {ns : List Int} {n : Int} (h : s.1.contains n = true) : (rqS s ns).1.contains n = true := by
  unfold rqS
  rw [List.contains_iff_mem] at h ⊢
  exact List.mem_append_left _ h
section
variable {K : PySem.W.Frag} {F F0 F1 F2 F3 H H' : Hp} {Q : VK} {E : XK} {mg : Str → Option Value} {M : List (Addr × HO)} {x y sv u scv tv : V} {ns ms kn : List Int} {n : Int} {w : Wd} {t c : List (L2.Key × V)} {zz : List V} {ps : Pic} {co : Cos} {rs : List (List Int)} {b : Nat} {i : Nat} {th : Th} {l : Addr} {z : List Nat}
theorem rd_walk_on (T : Tx K mg) {r0 r1 r2 : List Nat} {bb : Bool} (ok : PicOk F [] ps) (hz : z ∈ l_nm) (hb : b ≤ 400000) (hn : ns.length ≤ 10000) (hh : HH F H (pc K w t c zz M)) (hs : SP K F ps kn co rs t c zz b) (hsv : At K F (o_PictureSource (dPic ps)) w.sv)
    (hsc : At K F (dSch r0 r1 r2 bb) scv) (hx : At K F (dL ns) x) (hk : ∀ n ∈ ns, kn.contains n = true)
    (q : ∀ F' H' t' z' u, Same F F' → HH F' H' (pc K w t' c z' M) → SP K F' ps kn co rs t' c z' (b + 11) → At K F' (dL (once (heldAll ps ns z))) u → Q u H') : sp_walk_on K [.ref w.ra, scv, x, .str ⟨z.toArray⟩] H Q E := by
  refine ⟨rfl, ?_⟩
  unfold t_walk_on
  walk_at "go"
  refine s_lst (K := K) (ds := ([] : List Int).map D.i) hh AtA.nil (by decide) fun F1 H1 u1 s1 hh h1 => ?_
  walk_at "go"
  refine gi_list ?_
  walk_at "go"
  refine a_forL (e := D.i) (hx.mono s1) hh (fun r σ H' => ∃ F' done t' z' uf v5 v6, ns = done ++ r ∧ σ = [some (.ref w.ra), some scv, some x, some (.str ⟨z.toArray⟩), some uf, v5, v6] ∧ Same F1 F' ∧ HH F' H' (pc K w t' c z' M) ∧ SP K F' ps kn co rs t' c z' (b + 11) ∧ At K F' (dL (heldAll ps done z)) uf ∧ t'.length ≤ b ∧ z'.length ≤ b)
    (fun _ _ _ ⟨_, _, _, _, _, _, _, _, _, s, h, _⟩ => s.trans h.sub) ⟨F1, [], t, zz, u1, none, none, rfl, rfl, Same.refl _, hh, hs.mono s1 (by omega), h1, hs.tb, hs.zb⟩ ?_ ?_
  · clear hh
    rintro n r u σ H' hu ⟨F', done, t', z', uf, v5, v6, er, rfl, s, hh, hs', hf, htb, hzb⟩
    obtain rfl := At.v_.mp hu
    have hkn : kn.contains n = true := hk n (by rw [er]; exact List.mem_append_right _ (List.mem_cons_self ..))
    have hs2 : SP K F' ps kn co rs t' c z' b := ⟨hs'.t1, hs'.t0, hs'.cc, hs'.zz, htb, hs.cb, hzb, hs'.col⟩
    have sa := s1.trans s
    have el : heldAll ps (done ++ [n]) z = heldAll ps done z ++ held ps z n := by unfold heldAll; rw [List.flatMap_append]; simp
    walk_at "go"
    refine mr hh (i := 0) rfl (by decide +kernel) ?_
    walk_at "go"
    -- the thing is known already: nothing changes
    refine ⟨rfl, ?_⟩
    unfold t_Reader_thing
    obtain ⟨v, hv, ha⟩ := hs2.t1 n hkn
    refine g_cut (fun σ' H'' => σ' = [some (.ref w.ra), some (.int n), none, none] ∧ H'' = H') ?_ ?_
    · walk_at "go"
      refine fr_th T hh (i := 0) rfl ?_
      refine v_din (k := kI n) (.inl (hh.get (i := 1) rfl)) ?_
      rw [if_pos rfl, hv, show (!(some v).isSome) = false from rfl]
      walk_at "go"
      exact ⟨rfl, rfl⟩
    rintro σ' H'' ⟨rfl, rfl⟩
    walk_at "go"
    refine fr_th T hh (i := 0) rfl ?_
    walk_at "go"
    refine v_dget (k := kI n) (.inl (hh.get (i := 1) rfl)) hv ?_
    walk_at "go"
    unfold thD at ha
    cases e : fnd ps n with
    | none =>
      rw [e] at ha
      obtain rfl := At.v_.mp ha
      rw [decide_eq_true rfl]
      walk_at "go"
      refine ⟨F', done ++ [n], t', z', uf, _, _, by rw [er, List.append_assoc]; rfl, rfl, s, hh, hs', ?_, htb, hzb⟩
      rw [el, show held ps z n = [] by unfold held; rw [e], List.append_nil]
      exact hf
    | some tt =>
      rw [e] at ha
      have ha : At K F' (dR tt.1 tt.2) v := ha
      obtain ⟨a, dx, fs, ea, _, _⟩ := ha.obj_
      rw [decide_eq_false (by rw [ea]; intro h; cases h)]
      walk_at "go"
      refine rd_linked T (bb := bb) (ok.th _ (fnd_mem e)) hz hh (hsc.mono sa) ha (((ok.ls _ (fnd_mem e)).mono sa fun _ h => h).imp id fun h => nomatch h) fun F2 H2 u2 s2 hh h2 => ?_
      have hdl : done.length ≤ 10000 := by have := congrArg List.length er; rw [List.length_append] at this; omega
      have hfl := heldAll_len (ns := done) ok hz
      have hll := linked_len (z := z) (ok.th _ (fnd_mem e)) hz
      refine s_cat hf h2 hh s2 (Same.refl _) (by rw [List.length_map, List.length_map]; have hll : (linked tt.1 z).length ≤ 8 := hll; omega) fun F3 H3 u3 s3 hh h3 => ?_
      walk_at "go"
      refine ⟨F3, done ++ [n], t', z', u3, _, _, by rw [er, List.append_assoc]; rfl, rfl, s.trans (s2.trans s3), hh, hs'.mono (s2.trans s3) (Nat.le_refl _), ?_, htb, hzb⟩
      rw [el, show held ps z n = linked tt.1 z by unfold held; rw [e]]
      show At K F3 (.lst (List.map D.i (_ ++ _))) u3
      rw [List.map_append]
      exact h3
  · rintro σ H' ⟨F', done, t', z', uf, v5, v6, er, rfl, s, hh, hs', hf, htb, hzb⟩
    rw [List.append_nil] at er
    subst er
    have hfl := heldAll_len (ns := ns) ok hz
    walk_at "go"
    exact rd_once hh hf (by omega) fun F2 H2 u2 s2 hh h2 => q F2 H2 t' z' u2 (s1.trans (s.trans s2)) hh (hs'.mono s2 (Nat.le_refl _)) h2
abbrev dPath (p : List (List Nat)) : D := .lst (p.map D.t)
theorem pow8 {n k : Nat} (h : k ≤ 3) (hn : n * 8 ^ k ≤ 8000) : n ≤ 8000 := Nat.le_trans (Nat.le_mul_of_pos_right n (Nat.pow_pos (by decide))) hn
theorem rd_read_ahead (T : Tx K mg) {r0 r1 r2 : List Nat} {bb : Bool} {paths : List (List (List Nat))} {pv : V} (ok : PicOk F [] ps) (hp : paths.length ≤ 3) (hpp : ∀ p ∈ paths, p.length ≤ 3 ∧ ∀ z ∈ p, z ∈ l_nm) (hb : b ≤ 1000) (hn : ns.length ≤ 15) (hh : HH F H (pc K w t c zz M)) (hs : SP K F ps kn co rs t c zz b)
    (hsv : At K F (o_PictureSource (dPic ps)) w.sv) (hsc : At K F (dSch r0 r1 r2 bb) scv) (hx : At K F (dL ns) x) (hpv : At K F (.lst (paths.map dPath)) pv)
    (q : ∀ F' H' t' c' z', Same F F' → HH F' H' (pc K w t' c' z' M) → SP K F' ps (raW ps ((kn, rs), co) ns paths).1.1 (raW ps ((kn, rs), co) ns paths).2 (raW ps ((kn, rs), co) ns paths).1.2 t' c' z' 300000 → Q .non H') : sp_read_ahead K [.ref w.ra, scv, x, pv] H Q E := by
  refine ⟨rfl, ?_⟩
  unfold t_read_ahead
  walk_at "go"
  refine rd_once hh hx (by omega) fun F1 H1 uf s1 hh hf => ?_
  have hol := once_len (ns := ns)
  walk_at "go"
  refine mr hh (i := 0) rfl (by decide +kernel) ?_
  walk_at "go"
  refine rd_together T (by omega) (by omega) hh (hs.mono s1 (Nat.le_refl _)) hf fun F2 H2 c2 s2 hh hs2 => ?_
  walk_at "go"
  refine rd_request_all T (by omega) (by omega) hh hs2 (hsv.mono (s1.trans s2)) (hf.mono s2) fun F3 H3 t3 z3 s3 hh hs3 => ?_
  walk_at "go"
  refine gi_list ?_
  walk_at "go"
  have s13 := s1.trans (s2.trans s3)
  refine a_forL (e := dPath) (hpv.mono s13) hh (fun r σ H' => ∃ F' t' c' z' b' v5 v6 v7, ∃ s0 : WS, r.foldl (pathW ps (once ns)) s0 = raW ps ((kn, rs), co) ns paths ∧ (∀ n ∈ once ns, s0.1.1.contains n = true) ∧ (∀ p ∈ r, p ∈ paths) ∧ b' + 90000 * r.length ≤ 290000 ∧ σ = [some (.ref w.ra), some scv, some x, some pv, some uf, v5, v6, v7] ∧ Same F3 F' ∧ HH F' H' (pc K w t' c' z' M) ∧ SP K F' ps s0.1.1 s0.2 s0.1.2 t' c' z' b')
    (fun _ _ _ ⟨_, _, _, _, _, _, _, _, _, _, _, _, _, _, s, h, _⟩ => s.trans h.sub) ⟨F3, t3, c2, z3, 10000, none, none, none, (rqS (kn, rs) (once ns), addC co (once (once ns)) (once (once ns))), rfl, fun n hn => rqS_kn hn, fun p hp => hp, by omega, rfl, Same.refl _, hh, hs3.mono (Same.refl _) (by omega)⟩ ?_ ?_
  · clear hh hs hs2 hs3
    rintro path r u σ H' hu ⟨F', t', c', z', b', v5, v6, v7, s0, ef, hk0, hr, hb', rfl, s, hh, hs⟩
    rw [List.length_cons] at hb'
    obtain ⟨hpl, hpz⟩ := hpp path (hr path (List.mem_cons_self ..))
    walk_at "go"
    refine gi_list ?_
    walk_at "go"
    have sa := s13.trans s
    refine a_forL (e := D.t) (hu.mono s) hh (fun r' σ H' => ∃ F'' t' c' z' b'' ur v7, ∃ s1 : WS × List Int, r'.foldl (stepW ps) s1 = path.foldl (stepW ps) (s0, once ns) ∧ (∀ n ∈ s1.2, s1.1.1.1.contains n = true) ∧ (∀ n ∈ once ns, s1.1.1.1.contains n = true) ∧ (∀ z ∈ r', z ∈ l_nm) ∧ r'.length ≤ 3 ∧ s1.2.length * 8 ^ r'.length ≤ 8000 ∧ b'' + 26000 * r'.length ≤ b' + 80000 ∧
        σ = [some (.ref w.ra), some scv, some x, some pv, some uf, some u, some ur, v7] ∧ Same F' F'' ∧ HH F'' H' (pc K w t' c' z' M) ∧ SP K F'' ps s1.1.1.1 s1.1.2 s1.1.1.2 t' c' z' b'' ∧ At K F'' (dL s1.2) ur)
      (fun _ _ _ ⟨_, _, _, _, _, _, _, _, _, _, _, _, _, _, _, _, s', h, _⟩ => s'.trans h.sub) ⟨F', t', c', z', b', uf, _, (s0, once ns), rfl, hk0, hk0, hpz, hpl, by
        have : 8 ^ path.length ≤ 8 ^ 3 := Nat.pow_le_pow_right (by decide) hpl
        have e8 : (8 : Nat) ^ 3 = 512 := by decide
        have h15 : (once ns).length ≤ 15 := by omega
        exact Nat.le_trans (Nat.mul_le_mul h15 this) (by rw [e8]; decide), by omega, rfl, Same.refl _, hh, hs, hf.mono (s2.trans (s3.trans s))⟩ ?_ ?_
    · clear hh hs
      rintro z r' u' σ H' hu' ⟨F'', t', c', z', b'', ur, v7, s1', ef', hk1, hk2, hz, hrl, hpw, hb'', rfl, s', hh, hs, hur⟩
      obtain rfl := At.v_.mp hu'
      rw [List.length_cons] at hrl hpw hb''
      have hz1 := hz z (List.mem_cons_self ..)
      have sb := sa.trans s'
      have okF : PicOk F'' [] ps := ok.mono sb fun _ h => h
      have hsl : s1'.2.length ≤ 8000 := pow8 hrl hpw
      have hhl := heldAll_len (ns := s1'.2) (z := z) okF hz1
      have hoh := once_len (ns := heldAll ps s1'.2 z)
      have e8 : s1'.2.length * 8 ^ (r'.length + 1) = s1'.2.length * 8 * 8 ^ r'.length := by rw [Nat.pow_succ, Nat.mul_comm (8 ^ r'.length) 8, Nat.mul_assoc]
      have hle : (once (heldAll ps s1'.2 z)).length * 8 ^ r'.length ≤ 8000 := by
        refine Nat.le_trans (Nat.mul_le_mul_right _ (show (once (heldAll ps s1'.2 z)).length ≤ s1'.2.length * 8 by omega)) ?_
        rw [← e8]
        exact hpw
      have hrow : (once (heldAll ps s1'.2 z)).length ≤ 8000 := pow8 (by omega) hle
      walk_at "go"
      refine rd_walk_on T (bb := bb) okF hz1 (by omega) (by omega) hh hs (hsv.mono sb) (hsc.mono sb) hur hk1 fun F4 H4 t4 z4 u4 s4 hh hs4 h4 => ?_
      walk_at "go"
      refine mr hh (i := 0) rfl (by decide +kernel) ?_
      walk_at "go"
      refine rd_together T (by omega) (by omega) hh hs4 h4 fun F5 H5 c5 s5 hh hs5 => ?_
      walk_at "go"
      refine rd_request_all T (by omega) (by omega) hh hs5 (hsv.mono (sb.trans (s4.trans s5))) (h4.mono s5) fun F6 H6 t6 z6 s6 hh hs6 => ?_
      refine ⟨F6, t6, c5, z6, b'' + 11 + (once (heldAll ps s1'.2 z)).length + 2 * (once (heldAll ps s1'.2 z)).length + 10, u4, _, stepW ps s1' z, ef', fun n hn => rqS_kn hn, fun n hn => rqS_mono (hk2 n hn), fun z hz' => hz z (List.mem_cons_of_mem _ hz'), by omega, hle, by omega, rfl, s'.trans (s4.trans (s5.trans s6)), hh, hs6, h4.mono (s5.trans s6)⟩
    · rintro σ H' ⟨F'', t', c', z', b'', ur, v7, s1', ef', hk1, hk2, hz, hrl, hpw, hb'', rfl, s', hh, hs, hur⟩
      have ef' : s1' = path.foldl (stepW ps) (s0, once ns) := ef'
      refine ⟨F'', t', c', z', b'', _, _, _, s1'.1, ?_, hk2, fun p hp => hr p (List.mem_cons_of_mem _ hp), ?_, rfl, s.trans s', hh, hs⟩
      · rw [← ef, List.foldl_cons]
        unfold pathW
        rw [← ef']
      · have : b'' ≤ b' + 80000 := by simpa using hb''
        omega
  · rintro σ H' ⟨F', t', c', z', b', v5, v6, v7, s0, ef, hk0, hr, hb', rfl, s, hh, hs⟩
    have ef : s0 = raW ps ((kn, rs), co) ns paths := ef
    subst ef
    exact q F' H' t' c' z' (s13.trans s) hh (hs.mono (Same.refl _) (Nat.le_trans (by simpa using hb') (by decide : 290000 ≤ 300000)))
end
end Lw

-- fld
namespace Lw
open PySem PySem.Spec PyProof.Rows L2 G
/-! ### the law's own reckoning -/
structure Ld where
  lt : Addr
  tg : Addr
  sd : Addr
  lr : Addr
abbrev stK (v : Ld) : List (L2.Key × V) := [(kT q_things, .ref v.lt), (kT q_refs, .ref v.lr), (kT q_together, .ref v.tg)]
abbrev lc (v : Ld) (kn : List Int) (g : List (L2.Key × V)) (M : List (Addr × HO)) : List (Addr × HO) := (v.lt, .lst (kn.map V.int)) :: (v.tg, .dK g) :: (v.sd, .dK (stK v)) :: M
theorem st_things {v : Ld} : valV (stK v) (kT q_things) = some (.ref v.lt) := valV_pos (p := (kT q_things, V.ref v.lt)) rfl
theorem st_tog {v : Ld} : valV (stK v) (kT q_together) = some (.ref v.tg) := by
  rw [valV_neg (p := (kT q_things, V.ref v.lt)) (by show ¬ kT q_things = kT q_together; decide), valV_neg (p := (kT q_refs, V.ref v.lr)) (by show ¬ kT q_refs = kT q_together; decide)]
  exact valV_pos (p := (kT q_together, V.ref v.tg)) rfl
structure SL (K : PySem.W.Frag) (F : Hp) (co : Cos) (g : List (L2.Key × V)) (b : Nat) : Prop where
  cc : AtK K F (coK co) g
  gb : g.length ≤ b
  col : ∀ n, (comp co n).length ≤ 100000
theorem SL.mono {K : PySem.W.Frag} {F F' : Hp} {co : Cos} {g : List (L2.Key × V)} {b b' : Nat} (h : SL K F co g b) (s : Same F F') (hb : b ≤ b') : SL K F' co g b' := ⟨h.cc.mono s, Nat.le_trans h.gb hb, h.col⟩
abbrev dCh (r : List Int) : D := .tup [.t q_object, dL r]
section
variable {K : PySem.W.Frag} {F F0 F1 F2 F3 H H' : Hp} {Q : VK} {E : XK} {mg : Str → Option Value} {M : List (Addr × HO)} {x y sv u scv tv : V} {ns ms kn : List Int} {n : Int} {v : Ld} {g : List (L2.Key × V)} {ps : Pic} {co : Cos} {b : Nat} {i : Nat} {th : Th} {l : Addr} {z : List Nat}
theorem d_things (hh : HH F H M) (e : M[i]? = some (v.sd, .dK (stK v))) (q : Q (.ref v.lt) H) : DgK Q (.ref v.sd) (.str ⟨q_things.toArray⟩) H := v_dget (k := kT q_things) (.inl (hh.get e)) st_things q
theorem d_tog (hh : HH F H M) (e : M[i]? = some (v.sd, .dK (stK v))) (q : Q (.ref v.tg) H) : DgK Q (.ref v.sd) (.str ⟨q_together.toArray⟩) H := v_dget (k := kT q_together) (.inl (hh.get e)) st_tog q
theorem rd_lcompany (hh : HH F H M) (e2 : M[i]? = some (v.sd, .dK (stK v))) {j : Nat} (e1 : M[j]? = some (v.tg, .dK g)) (hs : SL K F co g b) (q : ∀ F' H' u, Same F F' → HH F' H' M → At K F' (dL (comp co n)) u → Q u H') : sp__law_company K [.ref v.sd, .int n] H Q E := by
  refine ⟨rfl, ?_⟩
  unfold t__law_company
  walk_at "go"
  refine d_tog hh e2 ?_
  refine v_din (k := kI n) (.inl (hh.get e1)) ?_
  unfold comp at q
  have hv := coK_val (co := co) (n := n)
  rw [if_neg (by decide)]
  cases e : co.find? (fun p => decide (p.1 = n)) with
  | none =>
    rw [e] at q hv
    rw [hs.cc.non hv, show (none : Option V).isSome = false from rfl]
    walk_at "go"
    exact s_lst (K := K) (ds := [D.i n]) hh (AtA.cons At.of AtA.nil) (by show 1 ≤ 1000; decide) q
  | some p =>
    rw [e] at q hv
    obtain ⟨u, hu, ha⟩ := hs.cc.val hv
    rw [hu, show (some u).isSome = true from rfl]
    walk_at "go"
    refine d_tog hh e2 ?_
    walk_at "go"
    exact v_dget (k := kI n) (.inl (hh.get e1)) hu (q F H u (Same.refl _) hh ha)
theorem rd_lcome (hb : b ≤ 500000) (hz : ns.length ≤ 100000) (hh : HH F H (lc v kn g M)) (hs : SL K F co g b) (hx : At K F (dL ns) x)
    (q : ∀ F' H' g', Same F F' → HH F' H' (lc v kn g' M) → SL K F' (addC co (once ns) (once ns)) g' (b + ns.length) → Q .non H') : sp__law_come K [.ref v.sd, x] H Q E := by
  refine ⟨rfl, ?_⟩
  unfold t__law_come
  walk_at "go"
  refine rd_law_once hh hx (by omega) fun F1 H1 u1 s1 hh h1 => ?_
  walk_at "go"
  refine d_tog hh (i := 2) rfl ?_
  walk_at "go"
  refine gi_list ?_
  walk_at "go"
  have hol := once_len (ns := ns)
  refine a_forL (e := D.i) h1 hh (fun r σ H' => ∃ co' g' v4, addC co' (once ns) r = addC co (once ns) (once ns) ∧ r.length ≤ (once ns).length ∧ g'.length + r.length ≤ b + (once ns).length ∧ σ = [some (.ref v.sd), some x, some u1, some (.ref v.tg), v4] ∧ HH F1 H' (lc v kn g' M) ∧ SL K F1 co' g' (b + (once ns).length))
    (fun _ _ _ ⟨_, _, _, _, _, _, _, h, _⟩ => h.sub) ⟨co, g, none, rfl, Nat.le_refl _, by have := hs.gb; omega, rfl, hh, hs.mono s1 (by omega)⟩ ?_ ?_
  · clear hh
    rintro n r u σ H' hu ⟨co', g', v4, ea, hr, hc, rfl, hh, hs'⟩
    obtain rfl := At.v_.mp hu
    rw [List.length_cons] at hr hc
    walk_at "go"
    refine o_dputI (k := kI n) hh (i := 1) rfl (by omega) fun H5 hh => ?_
    have hpl := length_putK g' (kI n) u1
    exact ⟨putC co' n (once ns), putK g' (kI n) u1, _, ea, by omega, by omega, rfl, hh, coK_put hs'.cc h1, by omega, fun m => comp_len hs'.col (by omega)⟩
  · rintro σ H' ⟨co', g', v4, ea, hr, hc, rfl, hh, hs'⟩
    have ea : co' = addC co (once ns) (once ns) := ea
    subst ea
    exact q F1 H' g' s1 hh (hs'.mono (Same.refl _) (by omega))
/-- a list of numbers is appended to what is known -/
theorem app_kn (hk : kn.length + ns.length ≤ 1000000) (hh : HH F H (lc v kn g M)) (hx : At K F (dL ns) x) {nx bk ct : L2.St → Hp → Prop} {rt : VK} {σ : L2.St} {k : Nat} {a : Nat} (hkl : k < σ.length) (hka : a ≠ k) (ea : σ[a]? = some (some (.ref v.lt)))
    (q : ∀ σ' H', (∀ j, j ≠ k → σ'[j]? = σ[j]?) → σ'.length = σ.length → HH F H' (lc v (kn ++ ns) g M) → nx σ' H') :
    OvL K (fun J H1 => LoopG J (gName k) (tDrop (tBM K "list" rAppend (tVar a) (tCons (tVar k) tNil))) ⟨nx, rt, bk, ct⟩ σ H1) x H := by
  refine a_forL (e := D.i) hx hh (fun r σ' H' => ∃ done, ns = done ++ r ∧ (∀ j, j ≠ k → σ'[j]? = σ[j]?) ∧ σ'.length = σ.length ∧ HH F H' (lc v (kn ++ done) g M)) (fun _ _ _ ⟨_, _, _, _, h⟩ => h.sub) ⟨[], rfl, fun _ _ => rfl, rfl, by rw [List.append_nil]; exact hh⟩ ?_ ?_
  · clear hh
    rintro n r u σ' H' hu ⟨done, er, e1, e2, hh⟩
    obtain rfl := At.v_.mp hu
    refine g_name ?_
    have g1 : (σ'.set k (some (.int n)))[a]? = some (some (.ref v.lt)) := by
      rw [List.getElem?_set_ne hka.symm, e1 a hka, ea]
    have g2 : (σ'.set k (some (.int n)))[k]? = some (some (.int n)) := List.getElem?_set_self (by rw [e2]; exact hkl)
    refine g_drop ?_
    refine g_bm ?_
    refine ⟨_, g1, ?_⟩
    refine o_tyL (i := 0) hh rfl ?_
    refine g_cons ?_
    refine ⟨_, g2, ?_⟩
    refine g_nil ?_
    have hdl : (kn ++ done).length ≤ 1000000 := by have := congrArg List.length er; rw [List.length_append] at this ⊢; omega
    refine o_appI hh (i := 0) rfl (by rw [List.length_map]; omega) fun H5 hh => ?_
    refine ⟨done ++ [n], by rw [er, List.append_assoc]; rfl, fun j hj => by rw [List.getElem?_set_ne hj.symm]; exact e1 j hj, by rw [List.length_set]; exact e2, ?_⟩
    rw [← List.append_assoc]
    show HH F H5 ((v.lt, .lst (((kn ++ done) ++ [n]).map V.int)) :: _)
    rw [List.map_append]
    exact hh
  · rintro σ' H' ⟨done, er, e1, e2, hh⟩
    rw [List.append_nil] at er
    subst er
    exact q σ' H' e1 e2 hh
end
end Lw

-- fld
namespace Lw
open PySem PySem.Spec PyProof.Rows L2 G
theorem chunks_len {u : List Int} : (chunks u).length ≤ u.length + 1 := by
  unfold chunks
  rw [List.length_map, List.length_range]
  omega
theorem rqS_len {s : KR} {ns : List Int} : (rqS s ns).1.length ≤ s.1.length + ns.length ∧ (rqS s ns).2.length ≤ s.2.length + ns.length + 1 := by
  unfold rqS
  have h1 := unk_len (kn := s.1) (ns := ns)
  have h2 := chunks_len (u := unk s.1 ns)
  exact ⟨by rw [List.length_append]; omega, by rw [List.length_append]; omega⟩
section
variable {K : PySem.W.Frag} {F F0 F1 F2 F3 H H' : Hp} {Q : VK} {E : XK} {mg : Str → Option Value} {M : List (Addr × HO)} {x y sv u scv tv : V} {ns ms kn : List Int} {n : Int} {v : Ld} {g : List (L2.Key × V)} {ps : Pic} {co : Cos} {rs : List (List Int)} {b : Nat} {i : Nat} {th : Th} {l : Addr} {z : List Nat}
theorem rd_lread (hk : kn.length ≤ 100000) (hh : HH F H (lc v kn g M)) (hs : SL K F co g b) (q : ∀ F' H' u, Same F F' → HH F' H' (lc v (rdS co (kn, rs) n).1 g M) → Q u H') : sp__law_read K [.ref v.sd, .int n] H Q E := by
  refine ⟨rfl, ?_⟩
  unfold t__law_read
  walk_at "go"
  refine d_things hh (i := 2) rfl ?_
  walk_at "go"
  refine v_inL (SqL.of (hh.get (i := 0) rfl)) rfl flatI ?_
  rw [inV_i]
  unfold rdS at q
  cases e : kn.contains n with
  | true =>
    rw [if_pos e] at q
    walk_at "go"
    exact s_lst (K := K) (ds := []) hh AtA.nil (by decide) fun F1 H1 u s1 hh _ => q F1 H1 u s1 hh
  | false =>
    rw [if_neg (by rw [e]; decide)] at q
    walk_at "go"
    refine gi_list ?_
    walk_at "go"
    refine rd_lcompany hh (i := 2) rfl (j := 1) rfl hs fun F1 H1 u1 s1 hh h1 => ?_
    have hcl := hs.col n
    refine i_lcF (p := fun m => !kn.contains m) h1 hh (by omega) (fun m H' c' P N hm h2 hP hN => ?_) fun F2 H2 u2 s2 hh h2 => ?_
    · walk_at "go"
      refine ⟨rfl, ?_⟩
      walk_at "go"
      refine v_notInL (SqL.of (h2.get (i := 1) rfl)) rfl flatI ?_
      rw [inV_i]
      cases e2 : kn.contains m with
      | true =>
        walk_at "go"
        exact hN (by rw [e2]; rfl)
      | false =>
        walk_at "go"
        exact hP (by rw [e2]; rfl)
    walk_at "go"
    have hfl := List.length_filter_le (fun m => !kn.contains m) (comp co n)
    refine rd_law_batch (n := n) hh h2 (by omega) fun F3 H3 u3 s3 hh h3 => ?_
    walk_at "go"
    refine gi_list ?_
    walk_at "go"
    have hbl := batch_len (n := n) (unk := (comp co n).filter fun m => !kn.contains m)
    refine app_kn (by omega) hh h3 (k := 4) (a := 2) (by show 4 < 6; decide) (by decide) rfl fun σ' H4 e1 e2 hh => ?_
    have e5 : σ'[5]? = some (some u3) := by rw [e1 5 (by decide)]; rfl
    walk_at "go"
    refine ⟨_, e5, ?_⟩
    walk_at "go"
    refine s_tup (ds := [.t q_object, dL (batch n ((comp co n).filter fun m => !kn.contains m))]) hh (AtA.cons At.of (AtA.cons h3 AtA.nil)) (by show 2 ≤ 1000; decide) fun F5 H5 u5 s5 hh h5 => ?_
    walk_at "go"
    exact s_lst (K := K) (ds := [_]) hh (AtA.cons h5 AtA.nil) (by show 1 ≤ 1000; decide) fun F6 H6 u6 s6 hh _ => q F6 H6 u6 (s1.trans (s2.trans (s3.trans (s5.trans s6)))) hh
theorem rd_lrequest (hk : kn.length ≤ 500000) (hz : ns.length ≤ 100000) (hh : HH F H (lc v kn g M)) (hx : At K F (dL ns) x)
    (q : ∀ F' H' u, Same F F' → HH F' H' (lc v (kn ++ unk kn ns) g M) → At K F' (.lst ((chunks (unk kn ns)).map dCh)) u → Q u H') : sp__law_request K [.ref v.sd, x] H Q E := by
  refine ⟨rfl, ?_⟩
  unfold t__law_request
  walk_at "go"
  refine d_things hh (i := 2) rfl ?_
  walk_at "go"
  refine gi_list ?_
  walk_at "go"
  refine rd_law_once hh hx (by omega) fun F1 H1 u1 s1 hh h1 => ?_
  have hol := once_len (ns := ns)
  refine i_lcF (p := fun m => !kn.contains m) h1 hh (by omega) (fun m H' c' P N hm h2 hP hN => ?_) fun F2 H2 u2 s2 hh h2 => ?_
  · walk_at "go"
    refine ⟨rfl, ?_⟩
    walk_at "go"
    refine v_notInL (SqL.of (h2.get (i := 1) rfl)) rfl flatI ?_
    rw [inV_i]
    cases e2 : kn.contains m with
    | true =>
      walk_at "go"
      exact hN (by rw [e2]; rfl)
    | false =>
      walk_at "go"
      exact hP (by rw [e2]; rfl)
  walk_at "go"
  refine s_sorted h2 hh (Same.refl _) fun F3 H3 u3 s3 hh h3 => ?_
  have hul := unk_len (kn := kn) (ns := ns)
  have h3 : At K F3 (dL (unk kn ns)) u3 := h3
  walk_at "go"
  refine o_lst hh (by decide) fun H4 p hh => ?_
  walk_at "go"
  refine g_rng3 ?_
  walk_at "go"
  refine s_lenL (e := D.i) h3 hh.sub ?_
  walk_at "go"
  refine ⟨0, _, 10, _, rfl, rg10 (by omega), l_rangeC (fun i σ H' => i ≤ ((unk kn ns).length + 9) / 10 ∧ ∃ F' us v6, σ = [some (.ref v.sd), some x, some (.ref v.lt), some u3, none, some (.ref p), v6] ∧ Same F3 F' ∧ HH F' H' ((p, .lst us) :: lc v kn g M) ∧ AtA K F' (((List.range i).map (chunk (unk kn ns))).map dCh) us ∧ us.length ≤ i)
    ⟨Nat.zero_le _, F3, [], none, rfl, Same.refl _, hh, AtA.nil, Nat.le_refl _⟩ ?_ ?_⟩
  · clear hh
    rintro i σ H' hi ⟨_, F', us, v6, rfl, s, hh, hus, hul'⟩
    have hil : 10 * i ≤ (unk kn ns).length := by omega
    walk_at "go"
    refine o_tyL (i := 0) hh rfl ?_
    walk_at "go"
    refine s_slG (h3.mono s) hh (Same.refl _) fun F4 H4 u4 s4 hh h4 => ?_
    rw [show (0 + (i : Int) * 10) = ((10 * i : Nat) : Int) by omega, show (((10 * i : Nat) : Int) + 10) = ((10 * i + 10 : Nat) : Int) by omega, cutD_map, cutD_ii hil] at h4
    have h4 : At K F4 (dL (chunk (unk kn ns) i)) u4 := h4
    walk_at "go"
    refine s_tup (ds := [.t q_object, dL (chunk (unk kn ns) i)]) hh (AtA.cons At.of (AtA.cons h4 AtA.nil)) (by show 2 ≤ 1000; decide) fun F5 H5 u5 s5 hh h5 => ?_
    walk_at "go"
    refine o_app0 hh (by omega) fun H6 hh => ?_
    refine ⟨by omega, F5, us ++ [u5], _, rfl, s.trans (s4.trans s5), hh, ?_, by rw [List.length_append]; show us.length + 1 ≤ _; omega⟩
    rw [List.range_succ, List.map_append]
    exact AtA.snocM (e := dCh) (hus.mono (s4.trans s5)) h5
  · rintro σ H' ⟨_, F', us, v6, rfl, s, hh, hus, _⟩
    walk_at "go"
    refine gi_list ?_
    walk_at "go"
    have hfz := frz_lst (hh.out (i := 0) rfl) hus
    refine app_kn (by omega) hh.frz (h3.mono (s.trans hh.frzS)) (k := 4) (a := 2) (by show 4 < 7; decide) (by decide) rfl fun σ' H4 e1 e2 hh2 => ?_
    have e5 : σ'[5]? = some (some (.ref p)) := by rw [e1 5 (by decide)]; rfl
    refine g_ret ?_
    refine ⟨_, e5, ?_⟩
    exact q _ H4 _ (s1.trans (s2.trans (s3.trans (s.trans hh.frzS)))) hh2 hfz
theorem rd_lwalked (T : Tx K mg) {paths : List (List (List Nat))} {pv : V} (ok : PicOk F [] ps) (hp : paths.length ≤ 3) (hpp : ∀ p ∈ paths, p.length ≤ 3 ∧ ∀ z ∈ p, z ∈ l_nm) (hb : b ≤ 1000) (hn : ns.length ≤ 15) (hk : kn.length ≤ 1000) (hh : HH F H (lc v kn g M)) (hs : SL K F co g b)
    (hpic : At K F (dPic ps) y) (hx : At K F (dL ns) x) (hpv : At K F (.lst (paths.map dPath)) pv)
    (q : ∀ F' H' g' u, Same F F' → HH F' H' (lc v (raW ps ((kn, []), co) ns paths).1.1 g' M) → SL K F' (raW ps ((kn, []), co) ns paths).2 g' 300000 → At K F' (.lst ((raW ps ((kn, []), co) ns paths).1.2.map dCh)) u → Q u H') : sp__law_walked K [.ref v.sd, y, x, pv] H Q E := by
  refine ⟨rfl, ?_⟩
  unfold t__law_walked
  walk_at "go"
  refine rd_law_once hh hx (by omega) fun F1 H1 uf s1 hh hf => ?_
  have hol := once_len (ns := ns)
  walk_at "go"
  refine rd_lcome (by omega) (by omega) hh (hs.mono s1 (Nat.le_refl _)) hf fun F2 H2 g2 s2 hh hs2 => ?_
  walk_at "go"
  refine rd_lrequest (by omega) (by omega) hh (hf.mono s2) fun F3 H3 ud s3 hh hd => ?_
  walk_at "go"
  refine gi_list ?_
  walk_at "go"
  have s13 := s1.trans (s2.trans s3)
  have hq0 : (rqS (kn, []) (once ns)).1.length ≤ kn.length + (once ns).length ∧ (rqS (kn, []) (once ns)).2.length ≤ 0 + (once ns).length + 1 := rqS_len (s := (kn, [])) (ns := once ns)
  refine a_forL (e := dPath) (hpv.mono s13) hh (fun r σ H' => ∃ F' g' b' ud v6 v7 v8 v9 v10, ∃ s0 : WS, r.foldl (pathW ps (once ns)) s0 = raW ps ((kn, []), co) ns paths ∧ (∀ p ∈ r, p ∈ paths) ∧ b' + 90000 * r.length ≤ 290000 ∧ s0.1.1.length ≤ b' ∧ s0.1.2.length ≤ b' ∧ σ = [some (.ref v.sd), some y, some x, some pv, some uf, some ud, v6, v7, v8, v9, v10] ∧ Same F3 F' ∧ HH F' H' (lc v s0.1.1 g' M) ∧ SL K F' s0.2 g' b' ∧ At K F' (.lst (s0.1.2.map dCh)) ud)
    (fun _ _ _ ⟨_, _, _, _, _, _, _, _, _, _, _, _, _, _, _, _, s, h, _⟩ => s.trans h.sub) ⟨F3, g2, 10000, ud, none, none, none, none, none, (rqS (kn, []) (once ns), addC co (once (once ns)) (once (once ns))), rfl, fun p hp => hp, by omega, by have := hq0.1; show (rqS _ _).1.length ≤ _; omega, by have := hq0.2; show (rqS _ _).2.length ≤ _; omega, rfl, Same.refl _, hh, hs2.mono s3 (by omega), by unfold rqS; rw [List.nil_append]; exact hd⟩ ?_ ?_
  · clear hh hs hs2
    rintro path r u σ H' hu ⟨F', g', b', ud, v6, v7, v8, v9, v10, s0, ef, hr, hb', hkl, hrl, rfl, s, hh, hs, hud⟩
    rw [List.length_cons] at hb'
    obtain ⟨hpl, hpz⟩ := hpp path (hr path (List.mem_cons_self ..))
    walk_at "go"
    refine gi_list ?_
    walk_at "go"
    have sa := s13.trans s
    refine a_forL (e := D.t) (hu.mono s) hh (fun r' σ H' => ∃ F'' g' b'' ud ur v8 v9 v10, ∃ s1 : WS × List Int, r'.foldl (stepW ps) s1 = path.foldl (stepW ps) (s0, once ns) ∧ (∀ z ∈ r', z ∈ l_nm) ∧ r'.length ≤ 3 ∧ s1.2.length * 8 ^ r'.length ≤ 8000 ∧ b'' + 26000 * r'.length ≤ b' + 80000 ∧ s1.1.1.1.length ≤ b'' ∧ s1.1.1.2.length ≤ b'' ∧
        σ = [some (.ref v.sd), some y, some x, some pv, some uf, some ud, some u, some ur, v8, v9, v10] ∧ Same F' F'' ∧ HH F'' H' (lc v s1.1.1.1 g' M) ∧ SL K F'' s1.1.2 g' b'' ∧ At K F'' (.lst (s1.1.1.2.map dCh)) ud ∧ At K F'' (dL s1.2) ur)
      (fun _ _ _ ⟨_, _, _, _, _, _, _, _, _, _, _, _, _, _, _, _, _, s', h, _⟩ => s'.trans h.sub) ⟨F', g', b', ud, uf, _, _, _, (s0, once ns), rfl, hpz, hpl, by
        have : 8 ^ path.length ≤ 8 ^ 3 := Nat.pow_le_pow_right (by decide) hpl
        have e8 : (8 : Nat) ^ 3 = 512 := by decide
        have h15 : (once ns).length ≤ 15 := by omega
        exact Nat.le_trans (Nat.mul_le_mul h15 this) (by rw [e8]; decide), by omega, hkl, hrl, rfl, Same.refl _, hh, hs, hud, hf.mono (s2.trans (s3.trans s))⟩ ?_ ?_
    · clear hh hs hud
      rintro z r' u' σ H' hu' ⟨F'', g', b'', ud, ur, v8, v9, v10, s1', ef', hz, hrl', hpw, hb'', hkl', hrl2, rfl, s', hh, hs, hud, hur⟩
      obtain rfl := At.v_.mp hu'
      rw [List.length_cons] at hrl' hpw hb''
      have hz1 := hz z (List.mem_cons_self ..)
      have sb := sa.trans s'
      have okF : PicOk F'' [] ps := ok.mono sb fun _ h => h
      have hsl : s1'.2.length ≤ 8000 := pow8 hrl' hpw
      have hhl := heldAll_len (ns := s1'.2) (z := z) okF hz1
      have hoh := once_len (ns := heldAll ps s1'.2 z)
      have e8 : s1'.2.length * 8 ^ (r'.length + 1) = s1'.2.length * 8 * 8 ^ r'.length := by rw [Nat.pow_succ, Nat.mul_comm (8 ^ r'.length) 8, Nat.mul_assoc]
      have hle : (once (heldAll ps s1'.2 z)).length * 8 ^ r'.length ≤ 8000 := by
        refine Nat.le_trans (Nat.mul_le_mul_right _ (show (once (heldAll ps s1'.2 z)).length ≤ s1'.2.length * 8 by omega)) ?_
        rw [← e8]
        exact hpw
      have hrow : (once (heldAll ps s1'.2 z)).length ≤ 8000 := pow8 (by omega) hle
      walk_at "go"
      refine s_lst (K := K) (ds := ([] : List Int).map D.i) hh AtA.nil (by decide) fun F4 H4 u4 s4 hh h4 => ?_
      walk_at "go"
      refine gi_list ?_
      walk_at "go"
      refine a_forL (e := D.i) (hur.mono s4) hh (fun r2 σ H' => ∃ F5 done ul v10, s1'.2 = done ++ r2 ∧ σ = [some (.ref v.sd), some y, some x, some pv, some uf, some ud, some u, some ur, some (.str ⟨z.toArray⟩), some ul, v10] ∧ Same F4 F5 ∧ HH F5 H' (lc v s1'.1.1.1 g' M) ∧ At K F5 (dL (heldAll ps done z)) ul)
        (fun _ _ _ ⟨_, _, _, _, _, _, s5, h, _⟩ => s5.trans h.sub) ⟨F4, [], u4, _, rfl, rfl, Same.refl _, hh, h4⟩ ?_ ?_
      · clear hh
        rintro n r2 u2 σ H' hu2 ⟨F5, done, ul, v10, er, rfl, s5, hh, hul⟩
        obtain rfl := At.v_.mp hu2
        have el : heldAll ps (done ++ [n]) z = heldAll ps done z ++ held ps z n := by unfold heldAll; rw [List.flatMap_append]; simp
        have sc := sb.trans (s4.trans s5)
        have okG : PicOk F5 [] ps := ok.mono sc fun _ h => h
        walk_at "go"
        refine rd_law_held T okG hz1 hh (hpic.mono sc) fun F6 H6 u6 s6 hh h6 => ?_
        have hdl : done.length ≤ 8000 := by have := congrArg List.length er; rw [List.length_append] at this; omega
        have hfl := heldAll_len (ns := done) okG hz1
        have hll := held_len (n := n) okG hz1
        refine s_cat hul h6 hh s6 (Same.refl _) (by rw [List.length_map, List.length_map]; omega) fun F7 H7 u7 s7 hh h7 => ?_
        walk_at "go"
        refine ⟨F7, done ++ [n], u7, _, by rw [er, List.append_assoc]; rfl, rfl, s5.trans (s6.trans s7), hh, ?_⟩
        rw [el]
        show At K F7 (.lst (List.map D.i (_ ++ _))) u7
        rw [List.map_append]
        exact h7
      · clear hh
        rintro σ H' ⟨F5, done, ul, v10, er, rfl, s5, hh, hul⟩
        rw [List.append_nil] at er
        subst er
        walk_at "go"
        refine rd_law_once hh hul (by omega) fun F6 H6 u6 s6 hh h6 => ?_
        walk_at "go"
        refine rd_lcome (by omega) (by omega) hh (hs.mono (s4.trans (s5.trans s6)) (Nat.le_refl _)) h6 fun F7 H7 g7 s7 hh hs7 => ?_
        walk_at "go"
        refine rd_lrequest (by omega) (by omega) hh (h6.mono s7) fun F8 H8 u8 s8 hh h8 => ?_
        have hul2 := unk_len (kn := s1'.1.1.1) (ns := once (heldAll ps s1'.2 z))
        have hcl2 := chunks_len (u := unk s1'.1.1.1 (once (heldAll ps s1'.2 z)))
        have hq1 := rqS_len (s := s1'.1.1) (ns := once (heldAll ps s1'.2 z))
        refine s_cat (hud.mono (s4.trans (s5.trans (s6.trans (s7.trans s8))))) h8 hh (Same.refl _) (Same.refl _) (by rw [List.length_map, List.length_map]; omega) fun F9 H9 u9 s9 hh h9 => ?_
        walk_at "go"
        refine ⟨F9, g7, b'' + 8000 + 10000, u9, u6, _, _, _, stepW ps s1' z, ef', fun z hz' => hz z (List.mem_cons_of_mem _ hz'), by omega, hle, by omega, by have := hq1.1; show (rqS _ _).1.length ≤ _; omega, by have := hq1.2; show (rqS _ _).2.length ≤ _; omega, rfl, s'.trans (s4.trans (s5.trans (s6.trans (s7.trans (s8.trans s9))))), hh, hs7.mono (s8.trans s9) (by omega), ?_, h6.mono (s7.trans (s8.trans s9))⟩
        show At K F9 (.lst ((s1'.1.1.2 ++ chunks _).map dCh)) u9
        rw [List.map_append]
        exact h9
    · rintro σ H' ⟨F'', g', b'', ud, ur, v8, v9, v10, s1', ef', hz, hrl', hpw, hb'', hkl', hrl2, rfl, s', hh, hs, hud, hur⟩
      have ef' : s1' = path.foldl (stepW ps) (s0, once ns) := ef'
      have hb2 : b'' ≤ b' + 80000 := by simpa using hb''
      refine ⟨F'', g', b'', ud, _, _, _, _, _, s1'.1, ?_, fun p hp => hr p (List.mem_cons_of_mem _ hp), by omega, hkl', hrl2, rfl, s.trans s', hh, hs, hud⟩
      rw [← ef, List.foldl_cons]
      unfold pathW
      rw [← ef']
  · rintro σ H' ⟨F', g', b', ud, v6, v7, v8, v9, v10, s0, ef, hr, hb', hkl, hrl, rfl, s, hh, hs, hud⟩
    have ef : s0 = raW ps ((kn, []), co) ns paths := ef
    subst ef
    walk_at "go"
    exact q F' _ g' ud (s13.trans s) hh (hs.mono (Same.refl _) (Nat.le_trans (by simpa using hb') (by decide : 290000 ≤ 300000))) hud
end
end Lw

-- fld
namespace Lw
open PySem PySem.Spec PyProof.Rows L2 G
/-! ### things told as data -/
def vP : V → PyData
  | .non => .none
  | .bl b => .bool b
  | .int i => .int i
  | .str z => .str z
  | _ => .none
def lP (ns : List Int) : PyData := .list (ns.map .int)
def ctP (t : Th) (ns : List Int) : PyData := .dict ((t.fl.map fun p => (PyData.str ⟨p.1.toArray⟩, vP p.2)) ++ [(.str ⟨t.ln.toArray⟩, lP ns)])
structure Sm (u : PyData) : Prop where
  s : u.showable = true
  l : u.leavesShort 13 = true
  b : u.bulk ≤ 2
  dz : u.depth = 0
  c : u.canLay0 = true
  o : PyData.strOk u.shown = true
def smB (d : PyData) : Bool := d.showable && (d.leavesShort 13 && (decide (d.bulk ≤ 2) && (decide (d.depth = 0) && (d.canLay0 && PyData.strOk d.shown))))
theorem smB_ok {d : PyData} (h : smB d = true) : Sm d := by
  unfold smB at h
  simp only [Bool.and_eq_true, decide_eq_true_eq] at h
  exact ⟨h.1, h.2.1, h.2.2.1, h.2.2.2.1, h.2.2.2.2.1, h.2.2.2.2.2⟩
theorem sm_int {n : Int} (h0 : 0 ≤ n) (h1 : n ≤ 9) : Sm (.int n) := by
  obtain ⟨m, rfl⟩ := Int.eq_ofNat_of_zero_le h0
  have h : ∀ k < 10, smB (.int (k : Nat)) = true := by decide +kernel
  exact smB_ok (h m (by omega))
theorem Fl.sm {v : V} (h : Fl v) : Sm (vP v) := by
  rcases h with (rfl | ⟨i, rfl, h0, h1⟩) | (rfl | ⟨z, hz, rfl⟩)
  · exact smB_ok (by decide +kernel)
  · exact sm_int h0 h1
  · exact smB_ok (by decide +kernel)
  · have h : ∀ z ∈ [q_empty, q_b, q_ab], smB (.str ⟨z.toArray⟩) = true := by decide +kernel
    exact smB_ok (h z hz)
theorem Fl.dp {K : PySem.W.Frag} {H : Hp} {v : V} (h : Fl v) : Dp K H v (vP v) := by
  rcases h with (rfl | ⟨i, rfl, h0, h1⟩) | (rfl | ⟨z, hz, rfl⟩)
  · exact .non
  · exact .int i
  · exact .non
  · exact .str _
theorem dp_ints {K : PySem.W.Frag} {H : Hp} : ∀ {ns : List Int}, DpAll K H (ns.map V.int) (ns.map PyData.int)
  | [] => .nil
  | n :: ns => .cons (.int n) dp_ints
theorem dp_list {K : PySem.W.Frag} {H : Hp} {l : Addr} {ns : List Int} (h : H l = some (.lst (ns.map V.int))) : Dp K H (.ref l) (lP ns) := .lst (SqL.of h) dp_ints
theorem ints_show : ∀ {ns : List Int}, (∀ n ∈ ns, 0 ≤ n ∧ n ≤ 9) → PyData.showableAll (ns.map PyData.int) = true ∧ PyData.leavesShortAll 13 (ns.map PyData.int) = true ∧ PyData.bulkAll (ns.map PyData.int) = ns.length ∧ (∀ t ∈ PyData.shownAll (ns.map PyData.int), PyData.strOk t = true)
  | [], _ => by simp [PyData.showableAll, PyData.leavesShortAll, PyData.bulkAll, PyData.shownAll]
  | n :: ns, h => by
    obtain ⟨h1, h2, h3, h4⟩ := ints_show fun m hm => h m (List.mem_cons_of_mem _ hm)
    have s := sm_int (h n (List.mem_cons_self ..)).1 (h n (List.mem_cons_self ..)).2
    rw [List.map_cons, PyData.showableAll, PyData.leavesShortAll, PyData.bulkAll, PyData.shownAll, h1, h2, h3, s.s, s.l, PyData.bulk, List.length_cons]
    refine ⟨rfl, rfl, by omega, fun t ht => ?_⟩
    rcases List.mem_cons.mp ht with rfl | ht
    · exact s.o
    · exact h4 t ht
theorem ints_lay : ∀ {ns : List Int}, PyData.canLayAll0 (ns.map PyData.int) = true ∧ PyData.depthAll (ns.map PyData.int) = 0
  | [] => by simp [PyData.canLayAll0, PyData.depthAll]
  | n :: ns => by
    obtain ⟨h1, h2⟩ := ints_lay (ns := ns)
    rw [List.map_cons, PyData.canLayAll0, PyData.depthAll, h1, h2, PyData.canLay0, PyData.depth]
    exact ⟨rfl, rfl⟩
/-! texts made of proper signs -/
theorem okS_app {a b : Str} (ha : PyData.strOk a = true) (hb : PyData.strOk b = true) : PyData.strOk (a ++ b) = true := by
  show (a.cps ++ b.cps).all _ = true
  rw [Array.all_append, Bool.and_eq_true]
  exact ⟨ha, hb⟩
theorem okS_join {sep : Str} (hs : PyData.strOk sep = true) : ∀ {ps : List Str}, (∀ p ∈ ps, PyData.strOk p = true) → PyData.strOk (Str.join sep ps) = true
  | [], _ => (by decide +kernel : PyData.strOk Str.empty = true)
  | [x], h => h x (List.mem_cons_self ..)
  | x :: y :: r, h => okS_app (okS_app (h x (List.mem_cons_self ..)) hs) (okS_join hs fun p hp => h p (List.mem_cons_of_mem _ hp))
theorem okS_from : ∀ {ts : List Str} {k : Nat} {acc : Str}, PyData.strOk acc = true → (∀ t ∈ ts, PyData.strOk t = true) → PyData.strOk (textFrom k acc ts) = true
  | [], _, _, h, _ => h
  | t :: ts, k, acc, h, ht => by
    rw [textFrom]
    refine okS_from (okS_app (okS_app h ?_) (ht t (List.mem_cons_self ..))) fun u hu => ht u (List.mem_cons_of_mem _ hu)
    split <;> decide +kernel
theorem okS_list {ts : List Str} (h : ∀ t ∈ ts, PyData.strOk t = true) : PyData.strOk (listText ts) = true := okS_app (okS_from (by decide +kernel) h) (by decide +kernel)
theorem lP_sm {ns : List Int} (h : LsOk ns) : (lP ns).showable = true ∧ (lP ns).leavesShort 13 = true ∧ (lP ns).bulk ≤ 8 ∧ (lP ns).depth = 1 ∧ PyData.strOk (lP ns).shown = true := by
  obtain ⟨h1, h2, h3, h4⟩ := ints_show h.2
  unfold lP
  rw [PyData.showable, PyData.leavesShort, PyData.bulk, PyData.depth, PyData.shown, ints_lay.2, h1, h2, h3]
  exact ⟨rfl, rfl, h.1, rfl, okS_list h4⟩
theorem lP_lay {ns : List Int} : (lP ns).canLay0 = true ∧ (lP ns).depth = 1 := by
  unfold lP
  rw [PyData.canLay0, PyData.depth, ints_lay.1, ints_lay.2]
  exact ⟨rfl, rfl⟩
theorem eqv_ints : ∀ {ns ms : List Int}, PyData.eqvAll (ns.map PyData.int) (ms.map PyData.int) = decide (ns = ms)
  | [], [] => by simp [PyData.eqvAll]
  | [], _ :: _ => by simp [PyData.eqvAll]
  | _ :: _, [] => by simp [PyData.eqvAll]
  | n :: ns, m :: ms => by
    rw [List.map_cons, List.map_cons, PyData.eqvAll, eqv_ints, PyData.eqv]
    by_cases h1 : n = m
    · subst h1
      rw [beq_self_eq_true, Bool.true_and]
      exact decide_eq_decide.mpr ⟨fun h => by rw [h], fun h => (List.cons.inj h).2⟩
    · rw [show (n == m) = false from beq_eq_false_iff_ne.mpr h1, Bool.false_and, decide_eq_false (fun h => h1 (List.cons.inj h).1)]
theorem eqv_l {ns ms : List Int} : PyData.eqv (lP ns) (lP ms) = decide (ns = ms) := by unfold lP; rw [PyData.eqv, eqv_ints]
theorem kv_sm {kvs : List (PyData × PyData)} {b : Nat} (h : ∀ p ∈ kvs, p.1.showable = true ∧ p.2.showable = true ∧ p.1.leavesShort 13 = true ∧ p.2.leavesShort 13 = true ∧ p.1.bulk + p.2.bulk ≤ b ∧ p.1.depth ≤ 1 ∧ p.2.depth ≤ 1 ∧ PyData.strOk p.1.shown = true ∧ PyData.strOk p.2.shown = true) :
    PyData.showableKv kvs = true ∧ PyData.leavesShortKv 13 kvs = true ∧ PyData.bulkKv kvs ≤ (b + 2) * kvs.length ∧ PyData.depthKv kvs ≤ 1 ∧ ∀ t ∈ PyData.shownKv kvs, PyData.strOk t = true := by
  induction kvs with
  | nil => simp [PyData.showableKv, PyData.leavesShortKv, PyData.bulkKv, PyData.depthKv, PyData.shownKv]
  | cons p kvs ih =>
    obtain ⟨i1, i2, i3, i4, i5⟩ := ih fun q hq => h q (List.mem_cons_of_mem _ hq)
    obtain ⟨h1, h2, h3, h4, h5, h6, h7, h8, h9⟩ := h p (List.mem_cons_self ..)
    obtain ⟨u, v⟩ := p
    rw [PyData.showableKv, PyData.leavesShortKv, PyData.bulkKv, PyData.depthKv, PyData.shownKv, i1, i2, h1, h2, h3, h4, List.length_cons, Nat.mul_succ]
    refine ⟨rfl, rfl, by dsimp only at h5; omega, by dsimp only at h6 h7; omega, fun t ht => ?_⟩
    rcases List.mem_cons.mp ht with rfl | ht
    · exact okS_app (okS_app h8 (by decide +kernel)) h9
    · exact i5 t ht
theorem key_sm : ∀ z ∈ [q_a, q_t, q_r, q_l, q_p, q_q, q_m], smB (.str ⟨z.toArray⟩) = true := by decide +kernel
theorem fl_mem {t : Th} : (∀ p ∈ t.fl, p.1 ∈ [q_a, q_t, q_r, q_l, q_p, q_q, q_m]) ∧ t.ln ∈ [q_a, q_t, q_r, q_l, q_p, q_q, q_m] ∧ t.fl.length ≤ 3 := by
  cases t with
  | A a t r l =>
    refine ⟨fun p hp => ?_, by show q_l ∈ _; decide, by show 3 ≤ 3; decide⟩
    have h : ∀ z ∈ [q_a, q_t, q_r], z ∈ [q_a, q_t, q_r, q_l, q_p, q_q, q_m] := by decide
    exact h p.1 (List.mem_map.mpr ⟨p, (show p ∈ [(q_a, a), (q_t, t), (q_r, r)] from hp), rfl⟩)
  | B a t l =>
    refine ⟨fun p hp => ?_, by show q_m ∈ _; decide, by show 2 ≤ 3; decide⟩
    have h : ∀ z ∈ [q_p, q_q], z ∈ [q_a, q_t, q_r, q_l, q_p, q_q, q_m] := by decide
    exact h p.1 (List.mem_map.mpr ⟨p, (show p ∈ [(q_p, a), (q_q, t)] from hp), rfl⟩)
theorem ctP_sm {t : Th} {ns : List Int} (ht : ∀ p ∈ t.fl, Fl p.2) (h : LsOk ns) : (ctP t ns).showable = true ∧ (ctP t ns).leavesShort 13 = true ∧ (ctP t ns).bulk ≤ 2 ^ 20 ∧ (ctP t ns).depth ≤ 60 ∧ PyData.strOk (ctP t ns).shown = true := by
  obtain ⟨l1, l2, l3, l4, l5⟩ := lP_sm h
  obtain ⟨m1, m2, m3⟩ := fl_mem (t := t)
  have k := kv_sm (b := 10) (kvs := (t.fl.map fun p => (PyData.str ⟨p.1.toArray⟩, vP p.2)) ++ [(.str ⟨t.ln.toArray⟩, lP ns)]) fun p hp => by
    rcases List.mem_append.mp hp with hp | hp
    · obtain ⟨q, hq, rfl⟩ := List.mem_map.mp hp
      have s1 := smB_ok (key_sm _ (m1 q hq))
      have s2 := (ht q hq).sm
      exact ⟨s1.s, s2.s, s1.l, s2.l, by have := s1.b; have := s2.b; show (PyData.str ⟨q.1.toArray⟩).bulk + (vP q.2).bulk ≤ 10; omega, by rw [s1.dz]; decide, by rw [s2.dz]; decide, s1.o, s2.o⟩
    · rw [List.mem_singleton.mp hp]
      have s1 := smB_ok (key_sm _ m2)
      exact ⟨s1.s, l1, s1.l, l2, by have := s1.b; show (PyData.str ⟨t.ln.toArray⟩).bulk + (lP ns).bulk ≤ 10; omega, by rw [s1.dz]; decide, by rw [l4]; decide, s1.o, l5⟩
  obtain ⟨k1, k2, k3, k4, k5⟩ := k
  unfold ctP
  rw [PyData.showable, PyData.leavesShort, PyData.bulk, PyData.depth, PyData.shown]
  rw [List.length_append, List.length_map] at k3
  refine ⟨k1, k2, ?_, by omega, okS_app (okS_app (by decide +kernel) (okS_join (by decide +kernel) k5)) (by decide +kernel)⟩
  have : (10 + 2) * (t.fl.length + 1) ≤ 48 := Nat.mul_le_mul_left 12 (by omega : t.fl.length + 1 ≤ 4)
  have e20 : (2 : Nat) ^ 20 = 1048576 := by decide
  rw [e20]
  simp only [List.length_singleton] at k3
  omega
section
variable {K : PySem.W.Frag} {F F0 F1 F2 H H' : Hp} {Q : VK} {E : XK} {mg : Str → Option Value} {M : List (Addr × HO)} {x y : V} {o : HO} {d l l' : Addr} {t t' : Th} {ns ms : List Int}
theorem ct_dp (ht : ∀ p ∈ t.fl, Fl p.2) (hl : H l = some (.lst (ns.map V.int))) : DpAll K H (((t.fl.map fun p => (kT p.1, p.2)) ++ [(kT t.ln, V.ref l)]).map (·.2)) ((t.fl.map fun p => vP p.2) ++ [lP ns]) := by
  revert ht
  generalize t.fl = fs
  generalize t.ln = ln
  intro ht
  induction fs with
  | nil => exact .cons (dp_list hl) .nil
  | cons p fs ih => exact .cons (ht p (List.mem_cons_self ..)).dp (ih fun q hq => ht q (List.mem_cons_of_mem _ hq))
theorem s_repr (ht : ∀ p ∈ t.fl, Fl p.2) (h : At K F0 (cR t l) x) (s : Same F0 H) (hl : H l = some (.lst (ns.map V.int))) (hn : LsOk ns) (q : Q (.str (ctP t ns).shown) H) : rRepr K [x] H Q := by
  obtain ⟨a, od, vs, rfl, _, hr, hv⟩ := h.dkR s
  obtain rfl := ck_vals hv
  obtain ⟨k1, k2, k3, k4, _⟩ := ctP_sm ht hn
  have e : PyData.dict (((((t.fl.map fun p => (kT p.1, p.2)) ++ [(kT t.ln, V.ref l)]).map fun kv => keyP kv.1)).zip ((t.fl.map fun p => vP p.2) ++ [lP ns])) = ctP t ns := by
    unfold ctP
    generalize t.fl = fs
    congr 1
    induction fs with
    | nil => rfl
    | cons p fs ih =>
      show (keyP (kT p.1), vP p.2) :: _ = _ :: _
      rw [List.cons.injEq]
      exact ⟨rfl, ih⟩
  have dq := Dq.d (K := K) hr (ct_dp ht hl)
  rw [e] at dq
  exact ⟨_, _, rfl, dq, k1, k2, k3, k4, q⟩
theorem s_reprV (f : Fl x) (q : Q (.str (vP x).shown) H) : rRepr K [x] H Q :=
  ⟨_, _, rfl, .p f.dp, f.sm.s, f.sm.l, Nat.le_trans f.sm.b (by decide), by rw [f.sm.dz]; decide, q⟩
theorem s_reprL (hl : H l = some (.lst (ns.map V.int))) (hn : LsOk ns) (q : Q (.str (lP ns).shown) H) : rRepr K [.ref l] H Q := by
  obtain ⟨k1, k2, k3, k4, _⟩ := lP_sm hn
  exact ⟨_, _, rfl, .p (dp_list hl), k1, k2, Nat.le_trans k3 (by decide), by rw [k4]; decide, q⟩
theorem fl_lay : ∀ {fs : List (List Nat × V)}, (∀ p ∈ fs, Fl p.2) → PyData.canLayAll0 ((fs.map fun p => vP p.2) ++ [lP ns]) = true ∧ PyData.depthAll ((fs.map fun p => vP p.2) ++ [lP ns]) ≤ 1
  | [], _ => by
    show PyData.canLayAll0 [lP ns] = true ∧ PyData.depthAll [lP ns] ≤ 1
    rw [PyData.canLayAll0, PyData.canLayAll0, PyData.depthAll, PyData.depthAll, lP_lay.1, lP_lay.2]
    decide
  | p :: fs, h => by
    obtain ⟨h1, h2⟩ := fl_lay fun q hq => h q (List.mem_cons_of_mem _ hq)
    have s := (h p (List.mem_cons_self ..)).sm
    rw [List.map_cons, List.cons_append, PyData.canLayAll0, PyData.depthAll, s.c, s.dz, h1]
    exact ⟨rfl, by omega⟩
theorem fl_eqv : ∀ {fs : List (List Nat × V)}, (∀ p ∈ fs, Fl p.2) → PyData.eqvAll ((fs.map fun p => vP p.2) ++ [lP ns]) ((fs.map fun p => vP p.2) ++ [lP ms]) = decide (ns = ms)
  | [], _ => by
    show PyData.eqvAll [lP ns] [lP ms] = _
    rw [PyData.eqvAll, PyData.eqvAll, eqv_l, Bool.and_true]
  | p :: fs, h => by
    rw [List.map_cons, List.cons_append, List.cons_append, PyData.eqvAll, fl_eqv fun q hq => h q (List.mem_cons_of_mem _ hq), SeqAt.eqv_refl _ (h p (List.mem_cons_self ..)).sm.c, Bool.true_and]
end
end Lw

-- fld
namespace Lw
open PySem PySem.Spec PyProof.Rows L2 G
/-! ### what is told, as data -/
structure Rp (u : PyData) (b k : Nat) : Prop where
  s : u.showable = true
  l : u.leavesShort 13 = true
  b : u.bulk ≤ b
  dz : u.depth ≤ k
theorem rpAll {b k : Nat} : ∀ {us : List PyData}, (∀ u ∈ us, Rp u b k) → PyData.showableAll us = true ∧ PyData.leavesShortAll 13 us = true ∧ PyData.bulkAll us ≤ (b + 1) * us.length ∧ PyData.depthAll us ≤ k
  | [], _ => by simp [PyData.showableAll, PyData.leavesShortAll, PyData.bulkAll, PyData.depthAll]
  | u :: us, h => by
    obtain ⟨h1, h2, h3, h4⟩ := rpAll fun v hv => h v (List.mem_cons_of_mem _ hv)
    obtain ⟨i1, i2, i3, i4⟩ := h u (List.mem_cons_self ..)
    rw [PyData.showableAll, PyData.leavesShortAll, PyData.bulkAll, PyData.depthAll, h1, h2, i1, i2, List.length_cons, Nat.mul_succ]
    exact ⟨rfl, rfl, by omega, by omega⟩
theorem Rp.list {us : List PyData} {b k : Nat} (h : ∀ u ∈ us, Rp u b k) : Rp (.list us) ((b + 1) * us.length) (k + 1) := by
  obtain ⟨h1, h2, h3, h4⟩ := rpAll h
  refine ⟨?_, ?_, ?_, ?_⟩
  · rw [PyData.showable]; exact h1
  · rw [PyData.leavesShort]; exact h2
  · rw [PyData.bulk]; exact h3
  · rw [PyData.depth]; omega
theorem Rp.tuple {us : List PyData} {b k : Nat} (h : ∀ u ∈ us, Rp u b k) : Rp (.tuple us) ((b + 1) * us.length) (k + 1) := by
  obtain ⟨h1, h2, h3, h4⟩ := rpAll h
  refine ⟨?_, ?_, ?_, ?_⟩
  · rw [PyData.showable]; exact h1
  · rw [PyData.leavesShort]; exact h2
  · rw [PyData.bulk]; exact h3
  · rw [PyData.depth]; omega
theorem Rp.up {u : PyData} {b k b' k' : Nat} (h : Rp u b k) (hb : b ≤ b') (hk : k ≤ k') : Rp u b' k' := ⟨h.s, h.l, Nat.le_trans h.b hb, Nat.le_trans h.dz hk⟩
theorem Sm.rp {u : PyData} (h : Sm u) : Rp u 2 0 := ⟨h.s, h.l, h.b, Nat.le_of_eq h.dz⟩
theorem rp_int {n : Int} (h0 : 1 ≤ n) (h1 : n ≤ 16) : Rp (.int n) 2 0 := by
  obtain ⟨m, rfl⟩ := Int.eq_ofNat_of_zero_le (show 0 ≤ n by omega)
  have h : ∀ k < 17, smB (.int (k : Nat)) = true := by decide +kernel
  exact (smB_ok (h m (by omega))).rp
abbrev txP (z : List Nat) : PyData := .str ⟨z.toArray⟩
theorem rp_nm : ∀ z ∈ l_nm, Rp (txP z) 2 0 := by
  have h : ∀ z ∈ l_nm, smB (txP z) = true := by decide +kernel
  exact fun z hz => (smB_ok (h z hz)).rp
abbrev ptP (p : List (List Nat)) : PyData := .list (p.map txP)
abbrev npP (ns : List Int) (paths : List (List (List Nat))) : PyData := .tuple [lP ns, .list (paths.map ptP)]
theorem rp_np {ns : List Int} {paths : List (List (List Nat))} (hn : ns.length ≤ 13) (hr : ∀ n ∈ ns, 1 ≤ n ∧ n ≤ 16) (hp : paths.length ≤ 3) (hpp : ∀ p ∈ paths, p.length ≤ 3 ∧ ∀ z ∈ p, z ∈ l_nm) : Rp (npP ns paths) 1000 4 := by
  have h1 : Rp (lP ns) 100 3 := by
    refine (Rp.list (us := ns.map PyData.int) (b := 2) (k := 0) fun u hu => ?_).up ?_ (by decide)
    · obtain ⟨n, hn, rfl⟩ := List.mem_map.mp hu
      exact rp_int (hr n hn).1 (hr n hn).2
    · rw [List.length_map]; omega
  have h2 : Rp (.list (paths.map ptP)) 100 3 := by
    refine (Rp.list (us := paths.map ptP) (b := 9) (k := 1) fun u hu => ?_).up ?_ (by decide)
    · obtain ⟨p, hp, rfl⟩ := List.mem_map.mp hu
      refine (Rp.list (us := p.map txP) (b := 2) (k := 0) fun u hu => ?_).up ?_ (by decide)
      · obtain ⟨z, hz, rfl⟩ := List.mem_map.mp hu
        exact rp_nm z ((hpp p hp).2 z hz)
      · rw [List.length_map]; have := (hpp p hp).1; omega
    · rw [List.length_map]; omega
  refine (Rp.tuple (us := [lP ns, .list (paths.map ptP)]) (b := 100) (k := 3) fun u hu => ?_).up (by show (100 + 1) * 2 ≤ 1000; decide) (by decide)
  rcases List.mem_cons.mp hu with rfl | hu
  · exact h1
  · rw [List.mem_singleton.mp hu]; exact h2
abbrev chP (r : List Int) : PyData := .tuple [.str ⟨q_object.toArray⟩, lP r]
theorem chs_lay : ∀ {rs : List (List Int)}, PyData.canLayAll0 (rs.map chP) = true ∧ PyData.depthAll (rs.map chP) ≤ 2
  | [] => by simp [PyData.canLayAll0, PyData.depthAll]
  | r :: rs => by
    obtain ⟨h1, h2⟩ := chs_lay (rs := rs)
    rw [List.map_cons, PyData.canLayAll0, PyData.depthAll, h1]
    have h3 : (chP r).canLay0 = true := by
      rw [PyData.canLay0, PyData.canLayAll0, PyData.canLayAll0, PyData.canLayAll0, lP_lay.1, PyData.canLay0]
      decide +kernel
    have h4 : (chP r).depth ≤ 2 := by
      rw [PyData.depth, PyData.depthAll, PyData.depthAll, PyData.depthAll, lP_lay.2, PyData.depth]
      decide
    rw [h3]
    exact ⟨rfl, by omega⟩
theorem chs_shaped {rs : List (List Int)} : SeqAt.shaped (.list (rs.map chP)) = true := by
  unfold SeqAt.shaped
  rw [PyData.canLay0, PyData.depth, chs_lay.1, Bool.true_and]
  have := (chs_lay (rs := rs)).2
  exact decide_eq_true (by omega)
theorem chs_eqv {rs : List (List Int)} : PyData.eqv (.list (rs.map chP)) (.list (rs.map chP)) = true := SeqAt.eqv_refl _ (by rw [PyData.canLay0]; exact chs_lay.1)
section
variable {K : PySem.W.Frag} {F F0 F1 F2 F3 H H' : Hp} {Q : VK} {E : XK} {mg : Str → Option Value} {M : List (Addr × HO)} {x y sv u scv tv : V} {ns ms kn : List Int} {n : Int} {w : Wd} {v : Ld} {t c g : List (L2.Key × V)} {zz : List V} {ps : Pic} {co : Cos} {rs : List (List Int)} {b : Nat} {i : Nat}
theorem dp_map {α : Type} {e : α → D} {p : α → PyData} (h : ∀ y x, At K H (e y) x → Dp K H x (p y)) : ∀ {xs : List α} {us : List V}, AtA K H (xs.map e) us → DpAll K H us (xs.map p)
  | [], us, ha => by rw [AtA.ni ha]; exact .nil
  | y :: xs, us, ha => by
    obtain ⟨u, us', rfl, h1, h2⟩ := AtA.ci ha
    exact .cons (h y u h1) (dp_map h h2)
theorem dp_dL (h : At K H (dL ns) x) : Dp K H x (lP ns) := by
  obtain ⟨a, vs, rfl, hq, t⟩ := h.lst_
  exact .lst hq (dp_map (e := D.i) (p := PyData.int) (fun y x hx => by rw [At.v_.mp hx]; exact .int y) t)
theorem dp_ch {r : List Int} (h : At K H (dCh r) x) : Dp K H x (chP r) := by
  obtain ⟨a, vs, rfl, hq, t⟩ := h.tup_
  obtain ⟨u0, us, rfl, h0, t⟩ := AtA.ci t
  obtain ⟨u1, us, rfl, h1, t⟩ := AtA.ci t
  obtain rfl := AtA.ni t
  rw [At.v_.mp h0] at hq
  exact .tup hq (.cons (.str _) (.cons (dp_dL h1) .nil))
theorem dp_chs (h : At K H (.lst (rs.map dCh)) x) : Dp K H x (.list (rs.map chP)) := by
  obtain ⟨a, vs, rfl, hq, t⟩ := h.lst_
  exact .lst hq (dp_map (e := dCh) (p := chP) (fun y x hx => dp_ch hx) t)
theorem dp_path {p : List (List Nat)} (h : At K H (dPath p) x) : Dp K H x (ptP p) := by
  obtain ⟨a, vs, rfl, hq, t⟩ := h.lst_
  exact .lst hq (dp_map (e := D.t) (p := txP) (fun y x hx => by rw [At.v_.mp hx]; exact .str _) t)
theorem dp_np {paths : List (List (List Nat))} (h : At K H (.tup [dL ns, .lst (paths.map dPath)]) x) : Dp K H x (npP ns paths) := by
  obtain ⟨a, vs, rfl, hq, t⟩ := h.tup_
  obtain ⟨u0, us, rfl, h0, t⟩ := AtA.ci t
  obtain ⟨u1, us, rfl, h1, t⟩ := AtA.ci t
  obtain rfl := AtA.ni t
  obtain ⟨a1, vs1, rfl, hq1, t1⟩ := h1.lst_
  exact .tup hq (.cons (dp_dL h0) (.cons (.lst hq1 (dp_map (e := dPath) (p := ptP) (fun y x hx => dp_path hx) t1)) .nil))
theorem s_reprNP {paths : List (List (List Nat))} (hn : ns.length ≤ 13) (hr : ∀ n ∈ ns, 1 ≤ n ∧ n ≤ 16) (hp : paths.length ≤ 3) (hpp : ∀ p ∈ paths, p.length ≤ 3 ∧ ∀ z ∈ p, z ∈ l_nm) (h : At K F (.tup [dL ns, .lst (paths.map dPath)]) x) (s : Same F H) (q : Q (.str (npP ns paths).shown) H) : rRepr K [x] H Q := by
  have r := rp_np hn hr hp hpp
  exact ⟨_, _, rfl, .p (dp_np (h.mono s)), r.s, r.l, Nat.le_trans r.b (by decide), Nat.le_trans r.dz (by decide), q⟩
theorem v_neL (h1 : At K F0 (dL ns) x) (s0 : Same F0 H) (h2 : At K F1 (dL ns) y) (s1 : Same F1 H) (q : Q (.bl false) H) : rNeX K x y H Q := by
  refine v_neD (dp_dL (h1.mono s0)) (dp_dL (h2.mono s1)) (by unfold SeqAt.shaped; rw [lP_lay.1, lP_lay.2]; rfl) (by unfold SeqAt.shaped; rw [lP_lay.1, lP_lay.2]; rfl) ?_
  rw [eqv_l, decide_eq_true rfl]
  exact q
theorem v_neCh (h1 : At K F0 (.lst (rs.map dCh)) x) (s0 : Same F0 H) (h2 : At K F1 (.lst (rs.map dCh)) y) (s1 : Same F1 H) (q : Q (.bl false) H) : rNeX K x y H Q := by
  refine v_neD (dp_chs (h1.mono s0)) (dp_chs (h2.mono s1)) chs_shaped chs_shaped ?_
  rw [chs_eqv]
  exact q
theorem v_neSS {a : Str} (q : Q (.bl false) H) : rNeX K (.str a) (.str a) H Q := v_neS (by rw [decide_eq_true rfl]; exact q)
/-! ### the reader and the law's reckoning, made -/
theorem mk_Reader (T : Tx K mg) (hh : HH F H M) (q : ∀ F' H' w, Same F F' → w.sv = sv → HH F' H' (pc K w [] [] [] M) → Q (.ref w.ra) H') : MakeK (He.ga K "Reader") (sp_Reader_init K) [sv] Q H E := by
  refine mk_start hh fun F1 H1 a dx s1 hh => ?_
  refine ⟨rfl, ?_⟩
  unfold t_Reader_init
  walk_at "go"
  refine s_sfld hh T.cl_Reader T.no_Reader_base [] rfl (by decide +kernel) (Nat.le_of_ble_eq_true rfl) fun H2 hh => ?_
  walk_at "go"
  refine o_dnew1 hh fun H3 th hh => ?_
  walk_at "go"
  refine s_sfld hh T.cl_Reader T.no_Reader__things ["base"] rfl (by decide +kernel) (Nat.le_of_ble_eq_true rfl) fun H4 hh => ?_
  walk_at "go"
  refine o_dnew1 hh fun H5 rf hh => ?_
  walk_at "go"
  refine s_sfld hh T.cl_Reader T.no_Reader__referrers ["base", "_things"] rfl (by decide +kernel) (Nat.le_of_ble_eq_true rfl) fun H6 hh => ?_
  walk_at "go"
  refine o_dnew1 hh fun H7 cm hh => ?_
  walk_at "go"
  refine s_sfld hh T.cl_Reader T.no_Reader__companies ["base", "_things", "_referrers"] rfl (by decide +kernel) (Nat.le_of_ble_eq_true rfl) fun H8 hh => ?_
  walk_at "go"
  refine o_lst1 hh (by decide) fun H9 rq hh => ?_
  walk_at "go"
  refine s_sfld hh T.cl_Reader T.no_Reader__requests ["base", "_things", "_referrers", "_companies"] rfl (by decide +kernel) (Nat.le_of_ble_eq_true rfl) fun H10 hh => ?_
  refine ⟨rfl, q F1 H10 ⟨a, dx, th, rf, cm, rq, sv⟩ s1 rfl ?_⟩
  have p1 := (hh.perm (List.perm_middle (l₁ := [_, _, _]))).drop
  exact p1.perm ((List.Perm.cons _ (List.perm_middle (l₁ := [_, _]))).trans (.cons _ (.cons _ (.swap _ _ _))))
theorem rd_take (T : Tx K mg) (hh : HH F H (pc K w t c zz M)) (q : ∀ H' p, HH F H' (pc K { w with rq := p } t c [] ((w.rq, .lst zz) :: M)) → Q (.ref w.rq) H') : sp_Reader_take_requests K [.ref w.ra] H Q E := by
  refine ⟨rfl, ?_⟩
  unfold t_Reader_take_requests
  walk_at "go"
  refine fr_rq T hh (i := 0) rfl ?_
  walk_at "go"
  refine o_lst hh (by decide) fun H1 p hh => ?_
  walk_at "go"
  refine o_sfldI hh (i := 1) rfl T.cl_Reader T.no_Reader__requests (by show 5 < 1000; decide) fun H2 hh => ?_
  walk_at "go"
  refine q H2 p ?_
  have e : putF "_requests" (.ref p) w.fs = Wd.fs { w with rq := p } := by
    show putF "_requests" (.ref p) [("base", w.sv), ("_things", V.ref w.th), ("_referrers", V.ref w.rf), ("_companies", V.ref w.co), ("_requests", V.ref w.rq)] = _
    rw [putF_ne (by decide +kernel), putF_ne (by decide +kernel), putF_ne (by decide +kernel), putF_ne (by decide +kernel), putF_eq]
  rw [e] at hh
  exact hh.perm ((List.perm_append_comm_assoc [(p, HO.lst [])] [_, _, _] _))
theorem flipC {L : List (Addr × HO)} (h : HH F H (pc K w t c zz (lc v kn g L))) : HH F H (lc v kn g (pc K w t c zz L)) := h.perm (List.perm_append_comm_assoc [_, _, _, _] [_, _, _] _)
theorem flipL {L : List (Addr × HO)} (h : HH F H (lc v kn g (pc K w t c zz L))) : HH F H (pc K w t c zz (lc v kn g L)) := h.perm (List.perm_append_comm_assoc [_, _, _] [_, _, _, _] _)
theorem dOut {d : Addr × HO} {L : List (Addr × HO)} (h : HH F H (d :: pc K w t c zz (lc v kn g L))) : HH F H (pc K w t c zz (lc v kn g (d :: L))) := h.perm (List.perm_append_comm_assoc [_] [_, _, _, _, _, _, _] _)
theorem dIn {d : Addr × HO} {L : List (Addr × HO)} (h : HH F H (pc K w t c zz (lc v kn g (d :: L)))) : HH F H (d :: pc K w t c zz (lc v kn g L)) := h.perm (List.perm_append_comm_assoc [_, _, _, _, _, _, _] [_] _)
theorem g_disp {trs : List (TE × TE)} {σ : L2.St} (h : ∀ p, H p = none → tPairs trs σ (upd H p (.dK [])) fun ps H2 => H2 p = some (.dK []) ∧ ∃ kvs : List (L2.Key × V), ps = kvs.map (fun kv => (kV kv.1, kv.2)) ∧ kvs.length ≤ 15 ∧ Q (.ref p) (upd H2 p (.dK (mergeK [] kvs)))) : tDisp trs σ H Q := h
theorem g_pairs {tk tv : TE} {r : List (TE × TE)} {σ : L2.St} {S : List (V × V) → Hp → Prop} (h : tk σ H fun x H1 => tv σ H1 fun y H2 => tPairs r σ H2 fun ps H3 => S ((x, y) :: ps) H3) : tPairs ((tk, tv) :: r) σ H S := h
theorem g_pairs0 {σ : L2.St} {S : List (V × V) → Hp → Prop} (h : S [] H) : tPairs [] σ H S := h
/-- the requests told -/
theorem rd_told_requests (T : Tx K mg) (hz : rs.length < 16777216) (hh : HH F H (pc K w t c zz M)) (hs : SP K F ps kn co rs t c zz b) (q : ∀ F' H' p u, Same F F' → HH F' H' (pc K { w with rq := p } t c [] M) → At K F' (.lst (rs.map dCh)) u → Q u H') : sp__law_told_requests K [.ref w.ra] H Q E := by
  refine ⟨rfl, ?_⟩
  unfold t__law_told_requests
  walk_at "go"
  refine gi_list ?_
  walk_at "go"
  refine mr hh (i := 0) rfl (by decide +kernel) ?_
  walk_at "go"
  refine rd_take T hh fun H1 p hh => ?_
  replace hh := hh.perm (List.perm_append_comm_assoc [_, _, _, _] [_] _)
  have hz1 := frz_lst (hh.out (i := 0) rfl) hs.zz
  have s1 := hh.frzS
  replace hh := hh.frz
  refine a_lcL (e := dRq) (f := dCh) hz1 hh (by rw [sl16]; exact hz) (r := fun r => some r) (fun r x F' H' c' P N hm hx s hh h1 _ => ?_) fun F2 H2 u s2 hh h2 => ?_
  · walk_at "go"
    refine ⟨rfl, ?_⟩
    walk_at "go"
    rename_i w2 hw2
    exact s_tup (ds := [.t q_object, dL r]) hh (AtA.cons At.of (AtA.cons hw2 AtA.nil)) (by show 2 ≤ 1000; decide) fun F4 H4 v s4 hh hv => h1 F4 H4 v r s4 hh rfl hv
  · rw [List.filterMap_some] at h2
    exact q F2 H2 p u (s1.trans s2) hh h2
theorem rd_numbers_row {d : Addr} {o : HO} (hh : HH F H ((d, o) :: M)) (ho : DrO o) (q : ∀ F' H' o' u ns, ns.length ≤ 13 → (∀ n ∈ ns, 1 ≤ n ∧ n ≤ 16) → Same F F' → DrO o' → HH F' H' ((d, o') :: M) → At K F' (dL ns) u → Q u H') : sp__law_numbers_row K [.ref d] H Q E := by
  refine ⟨rfl, ?_⟩
  unfold t__law_numbers_row
  walk_at "go"
  refine rd_draw hh ho ⟨by decide, by decide⟩ fun a H1 o1 h0 h1 ho hh => ?_
  walk_at "go"
  refine g_rngI (by omega) (by omega) fun Dl hD => ?_
  have hv : a.toNat ≤ 13 := by omega
  refine c_range (fun i H' => i ≤ a.toNat ∧ ∃ o ns, DrO o ∧ ns.length = i ∧ (∀ n ∈ ns, 1 ≤ n ∧ n ≤ 16) ∧ HH F H' ((Dl, .lst (ns.map V.int)) :: (d, o) :: M)) ⟨Nat.zero_le _, o1, [], ho, rfl, (fun _ h => nomatch h), hh.new hD⟩ ?_ ?_
  · clear hh ho
    rintro i H' hi ⟨_, o, ns, ho, hl, hr, hh⟩
    walk_at "go"
    refine ⟨rfl, ?_⟩
    walk_at "go"
    refine rd_draw hh.swap ho ⟨by decide, by decide⟩ fun a H1 o1 h0 h1 ho hh => ?_
    walk_at "go"
    refine v_put (hh.get (i := 1) rfl) (by rw [List.length_map, sl16]; omega) ⟨by omega, o1, ns ++ [1 + a], ho, by rw [List.length_append, hl]; rfl, fun n h => ?_, ?_⟩
    · rcases List.mem_append.mp h with h | h
      · exact hr n h
      · rw [List.mem_singleton.mp h]; omega
    · rw [List.map_append]
      exact hh.swap.set0
  · rintro H' ⟨_, o, ns, ho, hl, hr, hh⟩
    exact q _ _ o _ ns (by omega) hr hh.frzS ho hh.frz (At.mkL upd_same (AtA.ofFlat (g := V.int)))
end
end Lw

-- fld
namespace Lw
open PySem PySem.Spec PyProof.Rows L2 G
theorem rdS_len {co : Cos} {s : KR} {n : Int} : (rdS co s n).1.length ≤ s.1.length + 10 ∧ (rdS co s n).2.length ≤ s.2.length + 1 := by
  unfold rdS
  split
  · exact ⟨by omega, by omega⟩
  · have := batch_len (n := n) (unk := (comp co n).filter fun m => !s.1.contains m)
    rw [List.length_append, List.length_append]
    exact ⟨by omega, Nat.le_refl _⟩
theorem merge_st {v : Ld} : mergeK [] (stK v) = stK v := by
  show putK (putK (putK [] (kT q_things) (V.ref v.lt)) (kT q_refs) (.ref v.lr)) (kT q_together) (.ref v.tg) = _
  rw [show putK [] (kT q_things) (V.ref v.lt) = [(kT q_things, V.ref v.lt)] from rfl]
  rw [show putK [(kT q_things, V.ref v.lt)] (kT q_refs) (.ref v.lr) = [(kT q_things, V.ref v.lt), (kT q_refs, .ref v.lr)] from putK_new _ (val_none (nin (ks := [kT q_things]) (by decide)))]
  exact putK_new _ (val_none (nin (ks := [kT q_things, kT q_refs]) (by decide)))
section
variable {K : PySem.W.Frag} {mg : Str → Option Value}
theorem law78 (T : Tx K mg) (H : Hp) (a : Addr) (ns0 : List Int) (hl : ns0.length ≤ 63) (hO : Only H) (hS : SqL K H a (ns0.map V.int)) : sp_law K [.ref a] H (fun v _ => v = .bl true) fun _ _ _ => False := by
  refine ⟨rfl, ?_⟩
  unfold t_law
  walk_at "go"
  refine rd_cells (n := 45) HH.start hS (by decide) (by decide) fun H1 d o ho hh => ?_
  walk_at "go"
  refine rd_picture T hh ho fun F1 H2 pv o ps ok hps hp7 s1 ho hh hpv => ?_
  walk_at "go"
  refine s_lst (K := K) (ds := [q_clears, q_refuses, q_takes].map D.t) hh (AtA.ofFlat (g := svv) (xs := [q_clears, q_refuses, q_takes])) (by show 3 ≤ 1000; decide) fun F2 H3 rv s2 hh hrv => ?_
  walk_at "go"
  refine rd_schema T hh hrv fun F3 H4 scv s3 hh hsc => ?_
  walk_at "go"
  refine mk_PictureSource T hh (hpv.mono (s2.trans s3)) fun F4 H5 sv s4 hh hsv => ?_
  walk_at "go"
  refine mk_Reader T hh fun F5 H6 w s5 ew hh => ?_
  walk_at "go"
  refine g_disp fun p hp => ?_
  replace hh := hh.new (o := .dK []) hp
  refine g_pairs ?_
  walk_at "go"
  refine o_lst hh (by decide) fun H7 lt hh => ?_
  refine g_pairs ?_
  walk_at "go"
  refine o_lst hh (by decide) fun H8 lr hh => ?_
  refine g_pairs ?_
  walk_at "go"
  refine o_dnew hh fun H9 tg hh => ?_
  refine g_pairs0 ?_
  refine ⟨hh.get (i := 3) rfl, stK ⟨lt, tg, p, lr⟩, rfl, by show 3 ≤ 15; decide, ?_⟩
  replace hh := hh.setI (i := 3) (o' := .dK (mergeK [] (stK ⟨lt, tg, p, lr⟩))) rfl
  rw [merge_st] at hh ⊢
  generalize hv : (⟨lt, tg, p, lr⟩ : Ld) = v at hh ⊢
  have hh : HH F5 (upd H9 p (.dK (stK v))) ((tg, .dK []) :: (lr, .lst []) :: (lt, .lst []) :: (p, .dK (stK v)) :: pc K w [] [] [] [(d, o)]) := hh
  rw [show tg = v.tg by rw [← hv], show lt = v.lt by rw [← hv], show p = v.sd by rw [← hv]] at hh
  have hh : HH F5 (upd H9 v.sd (.dK (stK v))) (lc v [] [] (pc K w [] [] [] [(d, o)])) := (hh.swap.drop).swap
  replace hh := dIn (flipL hh)
  rw [show p = v.sd by rw [← hv]]
  clear hv hp
  generalize upd H9 v.sd (.dK (stK v)) = H10 at hh ⊢
  have sF5 := s2.trans (s3.trans (s4.trans s5))
  have hsv5 : At K F5 (o_PictureSource (dPic ps)) w.sv := by rw [ew]; exact hsv.mono s5
  have hsc5 := hsc.mono (s4.trans s5)
  have hpv5 := hpv.mono sF5
  have ok5 : PicOk F5 [] ps := ok.mono sF5 fun _ h => h
  walk_at "go"
  refine rd_draw hh ho ⟨by decide, by decide⟩ fun na H11 o h0 h1 ho hh => ?_
  walk_at "go"
  refine g_rngI (by omega) (by omega) ?_
  have hna : na.toNat ≤ 3 := by omega
  refine l_range (fun i σ H' => i ≤ na.toNat ∧ ∃ F' o kn rs t z v6 v7, DrO o ∧ kn.length ≤ 10 * i ∧ σ = [some (.ref a), some (.ref d), some pv, some scv, some (.ref w.ra), some (.ref v.sd), v6, v7, none, none, none, none, none, none] ∧ Same F5 F' ∧ HH F' H' ((d, o) :: pc K w t [] z (lc v kn [] [])) ∧ SP K F' ps kn [] rs t [] z (11 * i))
    ⟨Nat.zero_le _, F5, o, [], [], [], [], none, none, ho, Nat.le_refl _, rfl, Same.refl _, hh, ⟨fun n h => (by cases h), fun n _ => rfl, AtK.nil, AtA.nil, Nat.le_refl _, Nat.le_refl _, Nat.le_refl _, fun n => (by show 1 ≤ 100000; decide)⟩⟩ ?_ ?_
  · clear hh ho
    rintro i σ H' hi ⟨_, F', o, kn, rs, t, z, v6, v7, ho, hkn, rfl, s, hh, hs⟩
    walk_at "go"
    refine rd_draw hh ho ⟨by decide, by decide⟩ fun n0 H12 o h2 h3 ho hh => ?_
    walk_at "go"
    refine mr (dOut hh) (i := 0) rfl (by decide +kernel) ?_
    walk_at "go"
    refine rd_thingR T (by omega) (dOut hh) hs (hsv5.mono s) fun F6 H13 t' z' u s6 hh hs6 _ => ?_
    walk_at "go"
    refine fz_no ?_
    walk_at "go"
    refine rd_lread (rs := rs) (co := []) (b := 0) (by omega) (flipC hh) ⟨AtK.nil, Nat.le_refl _, fun n => (by show 1 ≤ 100000; decide)⟩ fun F7 H14 u s7 hh => ?_
    have hrl := rdS_len (co := []) (s := (kn, rs)) (n := 1 + n0)
    have hrl1 : (rdS [] (kn, rs) (1 + n0)).1.length ≤ kn.length + 10 := hrl.1
    exact ⟨by omega, F7, o, _, _, t', z', _, _, ho, by omega, rfl, s.trans (s6.trans s7), dIn (flipL hh), hs6.mono s7 (by omega)⟩
  · clear hh ho
    rintro σ H' ⟨_, F6, o, kn, rs, t, z, v6, v7, ho, hkn, rfl, s6, hh, hs⟩
    walk_at "go"
    refine mr (dOut hh) (i := 0) rfl (by decide +kernel) ?_
    walk_at "go"
    refine rd_take T (dOut hh) fun H12 rq hh => ?_
    replace hh := (hh.perm (List.perm_append_comm_assoc [_, _, _, _] [_] _)).drop
    have hs : SP K F6 ps kn [] [] t [] [] (11 * na.toNat) := ⟨hs.t1, hs.t0, hs.cc, AtA.nil, hs.tb, hs.cb, Nat.zero_le _, hs.col⟩
    have hsv6 : At K F6 (o_PictureSource (dPic ps)) w.sv := hsv5.mono s6
    generalize hw : ({ w with rq := rq } : Wd) = w' at hh
    rw [show w.ra = w'.ra by rw [← hw]]
    rw [show w.sv = w'.sv by rw [← hw]] at hsv6
    clear hw
    replace hh := dIn hh
    walk_at "go"
    refine rd_numbers_row hh ho fun F7 H13 o nv ns hn13 hnr s7 ho hh hns => ?_
    walk_at "go"
    refine s_lst (K := K) (ds := l_nm.map D.t) hh (AtA.ofFlat (g := svv) (xs := l_nm)) (by show 7 ≤ 1000; decide) fun F8 H14 nmv s8 hh hnm => ?_
    walk_at "go"
    refine o_lst1 hh (by decide) fun H15 pa hh => ?_
    walk_at "go"
    refine rd_draw hh ho ⟨by decide, by decide⟩ fun nb H16 o h2 h3 ho hh => ?_
    walk_at "go"
    refine g_rngI (by omega) (by omega) ?_
    have hnb : nb.toNat ≤ 3 := by omega
    refine l_range (fun i σ H' => i ≤ nb.toNat ∧ ∃ F' o paths us v6 v11, DrO o ∧ paths.length ≤ i ∧ us.length ≤ i ∧ (∀ p ∈ paths, p.length ≤ 3 ∧ ∀ z ∈ p, z ∈ l_nm) ∧ σ = [some (.ref a), some (.ref d), some pv, some scv, some (.ref w'.ra), some (.ref v.sd), v6, v7, some nv, some nmv, some (.ref pa), v11, none, none] ∧ Same F8 F' ∧
      HH F' H' ((d, o) :: (pa, .lst us) :: pc K w' t [] [] (lc v kn [] [])) ∧ AtA K F' (paths.map dPath) us)
      ⟨Nat.zero_le _, F8, o, [], [], _, none, ho, Nat.le_refl _, Nat.le_refl _, (fun _ h => nomatch h), rfl, Same.refl _, hh, AtA.nil⟩ ?_ ?_
    · clear hh ho
      rintro i σ H' hi ⟨_, F', o, paths, us, v6, v11, ho, hpl, hul, hpp, rfl, s, hh, hus⟩
      walk_at "go"
      refine o_tyL (i := 1) hh rfl ?_
      walk_at "go"
      refine rd_draw hh ho ⟨by decide, by decide⟩ fun nc H17 o h4 h5 ho hh => ?_
      walk_at "go"
      refine g_rngI (by omega) (by omega) fun Dl hD => ?_
      have hnc : (1 + nc).toNat ≤ 3 := by omega
      refine c_range (fun j H' => j ≤ (1 + nc).toNat ∧ ∃ o path, DrO o ∧ path.length = j ∧ (∀ z ∈ path, z ∈ l_nm) ∧ HH F' H' ((Dl, .lst (path.map svv)) :: (d, o) :: (pa, .lst us) :: pc K w' t [] [] (lc v kn [] []))) ⟨Nat.zero_le _, o, [], ho, rfl, (fun _ h => nomatch h), hh.new hD⟩ ?_ ?_
      · clear hh ho
        rintro j H' hj ⟨_, o, path, ho, hjl, hz, hh⟩
        walk_at "go"
        refine ⟨rfl, ?_⟩
        walk_at "go"
        refine rd_pick hh.swap ho (hnm.mono s) (Same.refl _) (by decide) (by decide) fun k e vv H18 o he hv ho hh => ?_
        rw [List.getElem?_map] at he
        obtain ⟨z, hz1, rfl⟩ := Option.map_eq_some_iff.mp he
        obtain rfl := At.v_.mp hv
        refine v_put (hh.get (i := 1) rfl) (by rw [List.length_map, sl16]; omega) ⟨by omega, o, path ++ [z], ho, by rw [List.length_append, hjl]; rfl, fun r h => ?_, ?_⟩
        · rcases List.mem_append.mp h with h | h
          · exact hz r h
          · rw [List.mem_singleton.mp h]; exact List.mem_of_getElem? hz1
        · rw [List.map_append]
          exact hh.swap.set0
      · clear hh ho
        rintro H' ⟨_, o, path, ho, hjl, hz, hh⟩
        have hpt : At K (upd F' Dl (.lst (path.map svv))) (dPath path) (.ref Dl) := At.mkL upd_same (AtA.ofFlat (g := svv))
        have s9 := hh.frzS
        replace hh := hh.frz
        walk_at "go"
        refine o_app1 hh (by omega) fun H19 hh => ?_
        refine ⟨by omega, _, o, paths ++ [path], us ++ [.ref Dl], _, _, ho, by rw [List.length_append]; show paths.length + 1 ≤ _; omega, by rw [List.length_append]; show us.length + 1 ≤ _; omega, fun p h => ?_, rfl, s.trans s9, hh, ?_⟩
        · rcases List.mem_append.mp h with h | h
          · exact hpp p h
          · rw [List.mem_singleton.mp h]; exact ⟨by omega, hz⟩
        · exact AtA.snocM (e := dPath) (hus.mono s9) hpt
    · clear hh ho
      rintro σ H' ⟨_, F9, o, paths, us, v6, v11, ho, hpl, hul, hpp, rfl, s9, hh, hus⟩
      have hp3 : paths.length ≤ 3 := by omega
      replace hh := hh.swap
      have hpa := frz_lst (hh.out (i := 0) rfl) hus
      have s10 := hh.frzS
      replace hh := hh.frz
      generalize upd F9 pa (.lst us) = F10 at hpa s10 hh
      have s78 := s8.trans (s9.trans s10)
      have sA := s6.trans (s7.trans s78)
      walk_at "go"
      refine s_tup (ds := [dL ns, .lst (paths.map dPath)]) hh (AtA.cons (hns.mono s78) (AtA.cons hpa AtA.nil)) (by show 2 ≤ 1000; decide) fun F11 H17 uu s11 hh huu => ?_
      walk_at "go"
      refine s_reprNP hn13 hnr hp3 hpp huu hh.sub ?_
      walk_at "go"
      refine fz_no ?_
      walk_at "go"
      have sB := sA.trans s11
      refine rd_lwalked T (b := 0) (co := []) (ok5.mono sB fun _ h => h) hp3 hpp (by omega) (by omega) (by omega) (flipC (dOut hh)) ⟨AtK.nil, Nat.le_refl _, fun n => (by show 1 ≤ 100000; decide)⟩ (hpv5.mono sB) (hns.mono (s78.trans s11)) (hpa.mono s11) fun F12 H18 g2 ud s12 hh hsl hud => ?_
      walk_at "go"
      have sC := sB.trans s12
      refine rd_read_ahead T (b := 11 * na.toNat) (ok5.mono sC fun _ h => h) hp3 hpp (by omega) (by omega) (flipL hh) (hs.mono (s7.trans (s78.trans (s11.trans s12))) (Nat.le_refl _)) (hsv6.mono (s7.trans (s78.trans (s11.trans s12)))) (hsc5.mono sC) (hns.mono (s78.trans (s11.trans s12))) (hpa.mono (s11.trans s12)) fun F13 H19 t2 c2 z2 s13 hh hsp => ?_
      walk_at "go"
      have hzl : ((raW ps ((kn, []), []) ns paths).1.2).length ≤ 300000 := by
        have := hsp.zz.len
        rw [List.length_map] at this
        rw [← this]
        exact hsp.zb
      refine rd_told_requests T (by omega) hh hsp fun F14 H20 rq2 u14 s14 hh h14 => ?_
      walk_at "go"
      refine v_neCh h14 hh.sub (hud.mono (s13.trans s14)) hh.sub ?_
      walk_at "go"
      have sD := s12.trans (s13.trans s14)
      refine s_tup (ds := [dL ns, .lst (paths.map dPath)]) hh (AtA.cons (hns.mono (s78.trans (s11.trans sD))) (AtA.cons (hpa.mono (s11.trans sD)) AtA.nil)) (by show 2 ≤ 1000; decide) fun F15 H21 uu s15 hh huu => ?_
      walk_at "go"
      refine s_reprNP hn13 hnr hp3 hpp huu hh.sub ?_
      walk_at "go"
      rw [decide_eq_true rfl]
      walk_at "go"
      have hsp : SP K F15 ps (raW ps ((kn, []), []) ns paths).1.1 (raW ps ((kn, []), []) ns paths).2 [] t2 c2 [] 300000 := by
        have h := hsp.mono (s14.trans s15) (Nat.le_refl _)
        exact ⟨h.t1, h.t0, h.cc, AtA.nil, h.tb, h.cb, Nat.zero_le _, h.col⟩
      have hsl := hsl.mono (s13.trans (s14.trans s15)) (Nat.le_refl _)
      generalize hw : ({ w' with rq := rq2 } : Wd) = w2 at hh
      rw [show w'.ra = w2.ra by rw [← hw]]
      clear hw
      generalize (raW ps ((kn, []), []) ns paths).1.1 = kn2 at hh hsp
      generalize (raW ps ((kn, []), []) ns paths).2 = co2 at hsp hsl
      refine g_rngT (by decide) ?_
      refine l_range (fun i σ H' => ∃ F' v7, σ = [some (.ref a), some (.ref d), some pv, some scv, some (.ref w2.ra), some (.ref v.sd), v6, v7, some nv, some nmv, some (.ref pa), v11, some (.str (npP ns paths).shown), some ud] ∧ Same F15 F' ∧ HH F' H' (pc K w2 t2 c2 [] (lc v kn2 g2 [(d, o)])))
        ⟨F15, _, rfl, Same.refl _, hh⟩ ?_ ?_
      · clear hh
        rintro i σ H' hi ⟨F', v7, rfl, s, hh⟩
        walk_at "go"
        refine mr hh (i := 0) rfl (by decide +kernel) ?_
        walk_at "go"
        refine rd_company T hh (hsp.mono s (Nat.le_refl _)) fun F16 H22 u1 s16 hh hu1 => ?_
        walk_at "go"
        refine fz_no ?_
        walk_at "go"
        refine rd_lcompany hh (i := 6) rfl (j := 5) rfl (hsl.mono (s.trans s16) (Nat.le_refl _)) fun F17 H23 u2 s17 hh hu2 => ?_
        refine v_neL hu1 (s17.trans hh.sub) hu2 hh.sub ?_
        walk_at "go"
        refine mr hh (i := 0) rfl (by decide +kernel) ?_
        walk_at "go"
        have hsq := hsp.mono (s.trans (s16.trans s17)) (Nat.le_refl _)
        refine rd_knows T hh (i := 0) rfl rfl hsq.t1 hsq.t0 ?_
        walk_at "go"
        refine d_things hh (i := 6) rfl ?_
        refine v_inL (SqL.of (hh.get (i := 4) rfl)) rfl flatI ?_
        rw [inV_i]
        walk_at "go"
        rw [decide_eq_true rfl]
        walk_at "go"
        exact ⟨F17, _, rfl, s.trans (s16.trans s17), hh⟩
      · rintro σ H' ⟨F', v7, rfl, s, hh⟩
        walk_at "go"
        rfl
end
end Lw

open PySem PySem.W PySem.Calls PyProof.Rows
set_option maxHeartbeats 0 in
theorem PySem.Challenge.cw_oneheap_k78_reading_ahead_holds : PySem.Challenge.rw_oneheap_k78_reading_ahead.Holds := by
  w_on; o_law
  refine HandSHeadRun.head_any (r := OpenLaw.row PySem.Challenge.rw_oneheap_k78_reading_ahead) (q := view (OpenLaw.row PySem.Challenge.rw_oneheap_k78_reading_ahead).prog [47]) (H := Lw.hk) (ob := Lw.ob) (M := 6000) (loose := Lw.nm) (d := HandSHeadRun.topDef (OpenLaw.row PySem.Challenge.rw_oneheap_k78_reading_ahead).prog 47) (kwd := []) Lw.ob_eq
    (by kernel_rfl) (fun s => by kernel_rfl) Lw.run (by kernel_rfl) (by kernel_rfl) (by kernel_rfl) (by rfl) (by first | assumption | decide +kernel) (by decide +kernel) ⟨rfl, rfl, rfl, rfl, rfl, by decide +kernel⟩ ?hw ?hc
  case hw => w_witness2
  case hc =>
    refine G.walk_ofG (l := PySem.Challenge.rw_oneheap_k78_reading_ahead) (n := 63) (k := 8) (x := "_law_script") rfl (by decide) (by kernel_rfl) ⟨rfl, by decide, by decide⟩ ?F
    intro w mg fa h Y G hmg0
    obtain ⟨K, KX, c⟩ := Y
    have hmg : mg ("law" : PySem.Str) = some (.ref fa) := by
      have e : (HandSHeadRun.topDef (OpenLaw.row PySem.Challenge.rw_oneheap_k78_reading_ahead).prog 47).name = ("law" : PySem.Str) := by kernel_rfl
      rw [← e]
      exact hmg0
    have T := Lw.tx KX G c.d c.more c.p
    have e : fa = He.ga K "law" := by
      have z := hmg.symm.trans T.g_law
      cases z
      rfl
    subst e
    obtain ⟨fd, hb, hF⟩ := T.law (P := (PySem.Challenge.rw_oneheap_k78_reading_ahead).prog) (w := w)
    exact ⟨K, fd, Lw.sp_law K, KX, hb, fun H a ns hl hO hS => Lw.law78 T H a ns hl hO hS, hF⟩
