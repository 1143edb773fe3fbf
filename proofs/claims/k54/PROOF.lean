import PyProof.Rows.All
import Wide.All
import OpenK.AllK
import Wide.FinOn
import KE.KStateDown
import Lean
import HandS.ForMost
import HandS.ForExc
import HandS.More
import HandS.Defaults
import HandS.CallSlots
import HandS.StrMore
import HandS.Text
import HandS.Steps
import HandS.Codes
import HandS.Iter
import HandS.IsInst
import HandS.FStr
import HandS.Wide
import HandS.Head0
import HandS.Head1
import HandS.Head2
import HandS.HeadEnd
import HandS.HeadHook1
import HandS.HeadHook2
import HandS.HeadHook3
import HandS.HeadHook4
import HandS.Conv
import HandS.Style
import KE.KExcSuper
import KE.KExcInit
import KE.KSuper
import HandS.Exc
import HandS.ExcInit
import HandS.ExcField
import HandS.Ends
import KE.KExcIs
import HandS.Property
import KE.KIntText
import HandS.ReplaceLit
import PyProof.StrReplace2
import HandS.OwnEq
import HandS.DictComp
import HandS.SortInts
import KE.KEqNest
import PyProof.ReprRoads
import PyProof.ReprBulk
import PyProof.P3Eq
import KE.KDictLaw
import HandS.DictEq
import HandS.Lambda
import HandS.EndTab
import KE.KNestM
import KE.SortKeyed
import KE.SortData
import HandS.ClsMeth
import KE.KDictKeyed
import HandS.Deep
import HandS.TupSets
import HandS.SetBool
import PySem.Challenge.RW_oneheap_k54_rows_in_order
set_option Elab.async false
set_option linter.all false
set_option maxRecDepth 100000
set_option maxHeartbeats 4000000
namespace G
open PySem PySem.Spec PyProof.Rows L2

/-! ### what a callee keeps, by its name -/
structure Cl (P : Program) (w : World) (K : PySem.W.Frag) (mg : Str → Option Value) (base : Heap) (k : Nat) (x : Str) (sp : Sp) (dvs : List V) : Prop where
  ex : ∃ (f : Addr) (fd : FuncData) (ps : List Str) (ds : List Value), FnOk P w K mg base (L2.CX P w) k f fd ps sp ∧ mg x = some (.ref f) ∧ PySem.W.keepIn K (.ref f) = true ∧ Binds K fd ps ds ∧ Vals dvs ds
structure Mt (P : Program) (w : World) (K : PySem.W.Frag) (mg : Str → Option Value) (base : Heap) (k : Nat) (C : Addr) (m : Str) (sp : Sp) (dvs : List V) : Prop where
  ex : ∃ (f : Addr) (fd : FuncData) (ps : List Str) (ds : List Value), Cls K C ∧ Meth K C m f ∧ FnOk P w K mg base (L2.CX P w) k f fd ps sp ∧ Binds K fd ps ds ∧ Vals dvs ds
structure Mq (P : Program) (w : World) (K : PySem.W.Frag) (mg : Str → Option Value) (base : Heap) (k : Nat) (x : Str) (C : Addr) (sp : Sp) (dvs : List V) : Prop where
  ex : ∃ (f : Addr) (fd : FuncData) (ps : List Str) (ds : List Value), Mk K C f ∧ FnOk P w K mg base (L2.CX P w) k f fd ps sp ∧ mg x = some (.ref C) ∧ Binds K fd ps ds ∧ Vals dvs ds
/-- a law's end, where its defs may raise -/
theorem walk_ofW {l : PySem.W.OpenLaw} {n k : Nat} {q : Program} {loose : List Str} {XP : (Str → Option Value) → Heap → Prop} {YP : World → Heap → Prop} {d : DefRec} {x : Str}
    (hn : l.most = some n) (hn2 : n ≤ sizeLine) (hdf : d.params.defaults = []) (hr : Room k callerA)
    (F : ∀ (w : World) (mg : Str → Option Value) (fa : Addr) (h : Heap), YP w h → h.Ns mainGlobals mg → mg d.name = some (.ref fa) →
      ∃ (K : PySem.W.Frag) (fd : FuncData) (sp : Sp), K.In h ∧ (∀ (s : Shared) (u : Value), BindsTo s fd ⟨[u], []⟩ [(x, u)]) ∧
        (∀ (H : Hp) (a : Addr) (ns : List Int), ns.length ≤ n → Only H → SqL K H a (ns.map V.int) → sp [.ref a] H (fun v _ => v = .bl true) fun _ _ _ => False) ∧
        ∀ base : Heap, FnOk l.prog w K mg base (L2.CX l.prog w) k fa fd [x] sp) :
    PySem.W.WalkO q loose XP YP l.row.toRowW d [] (fun f vs => PySem.call f vs) := by
  refine Att.attach_call hn hdf fun w s₀ s₁ mg mb fa o pm cd doc a vs ns G Y ho hd hcd hmg hobj hints hlen hg => ?_
  obtain ⟨K, fd, sp, KX, hb, hsp, hF⟩ := F w mg fa _ Y G.T.g hmg
  refine law_call (CX := L2.CX l.prog w) KX G.T.g G.T.b G.T.builtins G.T.nolimit hg hobj hints (Nat.le_trans hlen hn2) hr (fun base _ _ => hF base) hb (fun H hO hS => hsp H a ns hlen hO hS) fun H e s' c => ?_
  obtain ⟨_, _, _, _, _, _, _, _, _, _, _, _, z⟩ := c
  exact z.elim
/-- nothing is let out -/
def Ez : L2.St → XK := fun _ _ _ _ => False
section
variable {X : Cx} {k j : Nat} {C : Addr} {x m : Str} {sp : Sp} {dvs : List V} {p pos apos : Pos} {e o : Expr} {es : List Expr} {ta : TE} {t : TA} {E : L2.St → XK}
theorem pz {σ : L2.St} : PassesAt (L2.CX X.prog X.w) X σ (Ez σ) := fun _ _ _ _ _ _ h => by
  obtain ⟨_, _, _, _, _, _, _, _, _, _, _, _, z⟩ := h
  exact z.elim
theorem pe_cl (c : Cl X.prog X.w X.K X.mg X.base k x sp dvs) (hr : Room j X.A) (hk : k ≤ j) (hx : ∀ σ, PassesAt (L2.CX X.prog X.w) X σ (E σ)) (hg : Gl X x) (ha : PA X (e :: es) t)
    (hdb : (x == ("__debug__" : Str)) = false := by decide) (he : starEach (e :: es) X.env = (false, eval e X.env) :: starEach es X.env := by rfl) (hpl : (backTo pos (starEach es X.env)).any (·.1) = false := by rfl) :
    PE X (.Call (.Name x p) (e :: es) [] pos) (tCallSD sp dvs E t) := by
  obtain ⟨f, fd, ps, ds, F, hm, kp, b, d⟩ := c.ex
  exact pe_callSD F (hr.mono hk) hg hm kp b d hx ha hdb he hpl
theorem pe_mq (c : Mq X.prog X.w X.K X.mg X.base k x C sp dvs) (hr : Room j X.A) (hk : k + 1 ≤ j) (hg : Gl X x) (ha : PA X (e :: es) t)
    (hdb : (x == ("__debug__" : Str)) = false := by decide) (he : starEach (e :: es) X.env = (false, eval e X.env) :: starEach es X.env := by rfl) (hpl : (backTo pos (starEach es X.env)).any (·.1) = false := by rfl) :
    PE X (.Call (.Name x p) (e :: es) [] pos) (tMake C sp dvs E0 t) := by
  obtain ⟨f, fd, ps, ds, M, F, hm, b, d⟩ := c.ex
  exact pe_make M F (hr.mono hk) hg hm b d passL ha hdb he hpl
/-- a constant of the module -/
theorem pe_gc {v : V} (hg : Gl X x) (h : ∃ u, X.mg x = some u ∧ RelV v u) (hd : (x == ("__debug__" : Str)) = false := by decide) : PE X (.Name x pos) (tC v) := by
  obtain ⟨u, hm, r⟩ := h
  exact pe_glob hg hm r hd
end

section
variable {X : Cx} {k j : Nat} {C : Addr} {x m : Str} {sp : Sp} {dvs : List V} {p pos apos : Pos} {e o : Expr} {es : List Expr} {ta : TE} {t : TA} {E : L2.St → XK}
/-- an expression has two readings: either will do -/
def tEor (t u : TE) : TE := fun σ H Q => t σ H Q ∨ u σ H Q
theorem pe_or2 {t u : TE} (h : PE X e t) (h' : PE X e u) : PE X e (tEor t u) := ⟨fun pins s σ H Q I q => q.elim (h.run pins s σ H Q I) (h'.run pins s σ H Q I)⟩
/-- o.m(..), what is raised is wished for at the caller's slots -/
def tMethD (C : Addr) (m : Str) (sp : Sp) (dvs : List V) (E : L2.St → XK) (ta : TE) (t : TA) : TE := fun σ H Q => ta σ H fun x H1 => ∃ a dx fs, x = .ref a ∧ H1 a = some (.ins C dx fs) ∧ fs.lookup m = none ∧
  t σ H1 fun vs H2 => sp (x :: (vs ++ dvs)) H2 Q (E σ)
theorem pe_mt1 {pl : Sem Bool} (c : Mt X.prog X.w X.K X.mg X.base k C m sp dvs) (hr : Room j X.A) (hk : k ≤ j) (hx : ∀ σ, PassesAt (L2.CX X.prog X.w) X σ (E σ)) (he : PE X o ta) (ha : PA X (e :: es) t)
    (hst : starEach (e :: es) X.env = (false, eval e X.env) :: starEach es X.env := by rfl) (hpl : (backTo pos (starEach es X.env)).any (·.1) = false := by rfl)
    (ht : eval (.Call (.Attribute o m apos) (e :: es) [] pos) X.env = (do
      let ov ← eval o X.env
      standAt apos.atName
      let (f, first) ← holding [ov] (getMethod ov m pl)
      callWith pos f first (backTo pos (starEach (e :: es) X.env)) (backToKw pos (keywordEach [] X.env))) := by rfl) :
    PE X (.Call (.Attribute o m apos) (e :: es) [] pos) (tMethD C m sp dvs E ta t) := by
  obtain ⟨f, fd, ps, ds, cl, hm, F, b, d⟩ := c.ex
  refine ⟨fun pins s σ H Q I h => ?_⟩
  refine PySem.W.methodCall_KW (pl := pl) (thn (he.run pins s σ H _ I h) fun u s1 ⟨x, H1, I1, rx, a, dx, fs, ex, ea, l, q⟩ => ?_) ht
  subst ex
  obtain rfl : u = Value.ref a := rx
  refine getmeth_ok I1 ea cl hm l (PySem.W.callWith_K (first := [.ref a]) (h₀ := X.base) I.ok.mod.kin hm.kp (thn (ha.run pos pins s1 σ H1 _ I1 q) fun us s2 ⟨vs, H2, I2, r, q2⟩ => ⟨I2.kIn, ?_⟩) hst hpl)
  exact run_fnSD (us := .ref a :: us) (vs := .ref a :: vs) F (hr.mono hk) b d (hx σ) I2 (.cons rfl r) q2
theorem pe_mt0 {pl : Sem Bool} (c : Mt X.prog X.w X.K X.mg X.base k C m sp dvs) (hr : Room j X.A) (hk : k ≤ j) (hx : ∀ σ, PassesAt (L2.CX X.prog X.w) X σ (E σ)) (he : PE X o ta)
    (ht : eval (.Call (.Attribute o m apos) [] [] pos) X.env = (do
      let ov ← eval o X.env
      standAt apos.atName
      let (f, first) ← holding [ov] (getMethod ov m pl)
      callWith pos f first (backTo pos (starEach [] X.env)) (backToKw pos (keywordEach [] X.env))) := by rfl) :
    PE X (.Call (.Attribute o m apos) [] [] pos) (tMethD C m sp dvs E ta tNil) := by
  obtain ⟨f, fd, ps, ds, cl, hm, F, b, d⟩ := c.ex
  refine ⟨fun pins s σ H Q I h => ?_⟩
  refine PySem.W.methodCall_KW (pl := pl) (thn (he.run pins s σ H _ I h) fun u s1 ⟨x, H1, I1, rx, a, dx, fs, ex, ea, l, q⟩ => ?_) ht
  subst ex
  obtain rfl : u = Value.ref a := rx
  exact getmeth_ok I1 ea cl hm l (PySem.W.callWith_K0 (first := [.ref a]) I1.kIn hm.kp (run_fnSD (us := [.ref a]) (vs := [.ref a]) F (hr.mono hk) b d (hx σ) I1 (.cons rfl .nil) q))
def rAbs : List V → Hp → VK → Prop := fun xs H Q => ∃ i, xs = [.int i] ∧ Q (.int (if i < 0 then -i else i)) H
def rMax2 : List V → Hp → VK → Prop := fun xs H Q => ∃ i j, xs = [.int i, .int j] ∧ Q (.int (if j > i then j else i)) H
def rMin2 : List V → Hp → VK → Prop := fun xs H Q => ∃ i j, xs = [.int i, .int j] ∧ Q (.int (if j < i then j else i)) H
def rFind : V → List V → Hp → VK → Prop := fun x xs H Q => ∃ a b, x = .str a ∧ xs = [.str b] ∧ Q (.int (Txt.find a b)) H
def rListX (K : PySem.W.Frag) : List V → Hp → VK → Prop := fun xs H Q => (∃ p ys, xs = [.ref p] ∧ (SqL K H p ys ∨ SqT K H p ys) ∧ ∀ l, H l = none → Q (.ref l) (upd H l (.lst ys))) ∨ rListD xs H Q
/-- a fact of the head that is told as a Bool -/
def fIs (C D : Str) (b : Bool) (K : PySem.W.Frag) : Bool := decide (PySem.W.kitOne K (.ref (He.ga K C)) (.ref (He.ga K D)) = some b)
def fIsT (C : Str) (D : String) (b : Bool) (K : PySem.W.Frag) : Bool := decide (PySem.W.kitOne K (.ref (He.ga K C)) (.type D) = some b)
def fTIs (D : String) (C : Str) (b : Bool) (K : PySem.W.Frag) : Bool := decide (PySem.W.kitOne K (.type D) (.ref (He.ga K C)) = some b)
def fIn (C : Str) (K : PySem.W.Frag) : Bool := He.eqO (PySem.W.findIn K (.ref (He.ga K C)) "__class__") (some (some (.builtin "object.__class__"))) &&
  (He.eqO (PySem.W.specialIn K (.builtin "object.__class__") "__get__") (some (some (.builtin "getset_descriptor.__get__"))) && (decide (PySem.W.takesIn K (.builtin "object.__class__") = some true) && decide (PySem.W.mroIn K (He.ga K C) (.type "object") = some true)))
theorem fIs_ok {C D : Str} {b : Bool} {K : PySem.W.Frag} (h : fIs C D b K = true) : PySem.W.kitOne K (.ref (He.ga K C)) (.ref (He.ga K D)) = some b := of_decide_eq_true h
theorem fIsT_ok {C : Str} {D : String} {b : Bool} {K : PySem.W.Frag} (h : fIsT C D b K = true) : PySem.W.kitOne K (.ref (He.ga K C)) (.type D) = some b := of_decide_eq_true h
theorem fTIs_ok {C : Str} {D : String} {b : Bool} {K : PySem.W.Frag} (h : fTIs D C b K = true) : PySem.W.kitOne K (.type D) (.ref (He.ga K C)) = some b := of_decide_eq_true h
/-- what isinstance asks of an instance of the class -/
structure InsF (K : PySem.W.Frag) (C : Addr) : Prop where
  ha : PySem.W.findIn K (.ref C) "__class__" = some (some (.builtin "object.__class__"))
  hn : PySem.W.specialIn K (.builtin "object.__class__") "__get__" = some (some (.builtin "getset_descriptor.__get__"))
  htk : PySem.W.takesIn K (.builtin "object.__class__") = some true
  hm : PySem.W.mroIn K C (.type "object") = some true
theorem fIn_ok {C : Str} {K : PySem.W.Frag} (h : fIn C K = true) : InsF K (He.ga K C) := by
  obtain ⟨h1, h2⟩ := He.ba h
  obtain ⟨h2, h3⟩ := He.ba h2
  obtain ⟨h3, h4⟩ := He.ba h3
  exact ⟨He.eqO_ok h1, He.eqO_ok h2, of_decide_eq_true h3, of_decide_eq_true h4⟩
def allB (fs : List (PySem.W.Frag → Bool)) (K : PySem.W.Frag) : Bool := fs.all fun f => f K
theorem allB_at {fs : List (PySem.W.Frag → Bool)} {K : PySem.W.Frag} (h : allB fs K = true) (i : Nat) {f : PySem.W.Frag → Bool} (hf : fs[i]? = some f := by rfl) : f K = true := List.all_eq_true.mp h f (List.mem_of_getElem? hf)
end

/-! ### operators by the values' kinds -/
section
variable {X : Cx}
def MulS (z : Str) (n : Int) : Prop := z.length ≤ 1024 ∧ n ≤ 1024 ∧ -1024 ≤ n
def rMulS : R2 := fun x y H Q => ∃ z n, x = .str z ∧ y = .int n ∧ MulS z n ∧ Q (.str (Txt.mul z n)) H
theorem op_mulS : OpR X (binaryOp .Mult) rMulS := by
  intro pins s σ H x y v u Q I rx ry h
  obtain ⟨z, n, rfl, rfl, ⟨h1, h2, h3⟩, q⟩ := h
  obtain ⟨t, rfl⟩ := rx
  obtain ⟨t', rfl⟩ := ry
  exact SB.mul (mulOk_of 1024 1024 h1 h2 (by omega) (by decide) (by decide)) fun t' k => ⟨.str _, H, I.tok _, ⟨_, rfl⟩, q⟩
def rAddS : R2 := fun x y H Q => ∃ i j, x = .str i ∧ y = .str j ∧ i.length + j.length ≤ sizeLine ∧ Q (.str (i ++ j)) H
/-- a + b: ints, texts, lists, tuples -/
def rAddX (K : PySem.W.Frag) : R2 := fun x y H Q => rI0 (fun i j => .int (i + j)) x y H Q ∨ rAddS x y H Q ∨ rCat x y H Q ∨ rCatT K x y H Q
theorem op_addX : OpR X (binaryOp .Add) (rAddX X.K) := OpR.or op_add (OpR.or op_add_str (OpR.or op_cat op_catT))
def rSubX : R2 := rI0 fun i j => .int (i - j)
theorem op_subX : OpR X (binaryOp .Sub) rSubX := op_sub
def rMulX : R2 := fun x y H Q => rI CMul (fun i j => .int (i * j)) x y H Q ∨ rMulS x y H Q ∨ rRep x y H Q
theorem op_mulX : OpR X (binaryOp .Mult) rMulX := OpR.or op_mul (OpR.or op_mulS op_rep)
def rModX : R2 := fun x y H Q => rI (fun _ j => 0 < j) (fun i j => .int (i % j)) x y H Q ∨ rI (fun _ j => j ≠ 0) (fun i j => .int (i.fmod j)) x y H Q
theorem op_modX : OpR X (binaryOp .Mod) rModX := OpR.or op_mod op_modN
def rDivX : R2 := fun x y H Q => rI CDiv (fun i j => .int (i / j)) x y H Q ∨ rI CDivN (fun i j => .int (i.fdiv j)) x y H Q
theorem op_divX : OpR X (binaryOp .FloorDiv) rDivX := OpR.or op_fdiv op_fdivN
def rInStr : R2 := fun x y H Q => ∃ (c : Nat) (z : Str), x = .str ⟨#[c]⟩ ∧ y = .str z ∧ Q (.bl (decide (c ∈ z.cps.toList))) H
def rNotInStr : R2 := fun x y H Q => ∃ (c : Nat) (z : Str), x = .str ⟨#[c]⟩ ∧ y = .str z ∧ Q (.bl (!decide (c ∈ z.cps.toList))) H
def rInX (K : PySem.W.Frag) : R2 := fun x y H Q => rIn K false x y H Q ∨ rInStr x y H Q
theorem op_inX : OpR X (compareOp .In) (rInX X.K) := OpR.or op_in_seq op_in_sign
def rNotInX (K : PySem.W.Frag) : R2 := fun x y H Q => rIn K true x y H Q ∨ rNotInStr x y H Q
theorem op_notInX : OpR X (compareOp .NotIn) (rNotInX X.K) := OpR.or op_notIn_seq op_notIn_sign
def rLtS : R2 := fun x y H Q => ∃ i j, x = .str i ∧ y = .str j ∧ Q (.bl (decide (i.cps.toList < j.cps.toList))) H
def rLtX (K : PySem.W.Frag) : R2 := fun x y H Q => rI0 (fun i j => .bl (decide (i < j))) x y H Q ∨ rLtS x y H Q ∨ rLtT K x y H Q
def rLeS : R2 := fun x y H Q => ∃ i j, x = .str i ∧ y = .str j ∧ Q (.bl (!decide (j.cps.toList < i.cps.toList))) H
def rLeX : R2 := fun x y H Q => rI0 (fun i j => .bl (decide (i ≤ j))) x y H Q ∨ rLeS x y H Q
def rGtX : R2 := rI0 fun i j => .bl (decide (j < i))
def rGeX : R2 := rI0 fun i j => .bl (decide (j ≤ i))
theorem op_ltX (hu : X.A.units + 64 < cLine) : OpR X (compareOp .Lt) (rLtX X.K) := OpR.or op_lt (OpR.or op_lt_str (op_ltT (by omega)))
theorem op_leX : OpR X (compareOp .LtE) rLeX := OpR.or op_le op_le_str
theorem op_gtX : OpR X (compareOp .Gt) rGtX := op_gt
theorem op_geX : OpR X (compareOp .GtE) rGeX := op_ge
/-- x is None, True, False, an object -/
def isW : V → Bool
  | .non => true
  | .bl _ => true
  | _ => false
def rIsW : R2 := fun x y H Q => isW y = true ∧ Q (.bl (decide (x = y))) H
def rIsNotW : R2 := fun x y H Q => isW y = true ∧ Q (.bl (!decide (x = y))) H
theorem is_b_gen {prog : Program} {w : World} {A : Around} {E : Value → Shared → Prop} {s : Shared} {x : V} {v : Value} {b : Bool} {Q : Value → Shared → Prop} (r : RelV x v) (h : Q (.bool (decide (x = .bl b))) s) : wpAny (model prog w) A (compareOp .Is v (.bool b)) Q E s := by
  cases x with
  | bl c =>
    cases r
    have e : (Value.bool c == Value.bool b) = decide (V.bl c = V.bl b) := by
      cases c <;> cases b <;> decide
    exact wpAny_pure (by rw [← e] at h; exact h)
  | non => cases r; exact wpAny_pure h
  | int i => obtain ⟨t, rfl⟩ := r; exact wpAny_pure h
  | str i => obtain ⟨t, rfl⟩ := r; exact wpAny_pure h
  | byt i => obtain ⟨t, rfl⟩ := r; exact wpAny_pure h
  | flt i => obtain ⟨t, rfl⟩ := r; exact wpAny_pure h
  | ref i => cases r; exact wpAny_pure h
  | ty i => cases r; exact wpAny_pure h
theorem isnot_b_gen {prog : Program} {w : World} {A : Around} {E : Value → Shared → Prop} {s : Shared} {x : V} {v : Value} {b : Bool} {Q : Value → Shared → Prop} (r : RelV x v) (h : Q (.bool (!decide (x = .bl b))) s) : wpAny (model prog w) A (compareOp .IsNot v (.bool b)) Q E s := by
  cases x with
  | bl c =>
    cases r
    have e : (Value.bool c == Value.bool b) = decide (V.bl c = V.bl b) := by
      cases c <;> cases b <;> decide
    exact wpAny_pure (by rw [← e] at h; exact h)
  | non => cases r; exact wpAny_pure h
  | int i => obtain ⟨t, rfl⟩ := r; exact wpAny_pure h
  | str i => obtain ⟨t, rfl⟩ := r; exact wpAny_pure h
  | byt i => obtain ⟨t, rfl⟩ := r; exact wpAny_pure h
  | flt i => obtain ⟨t, rfl⟩ := r; exact wpAny_pure h
  | ref i => cases r; exact wpAny_pure h
  | ty i => cases r; exact wpAny_pure h
theorem op_isW : OpR X (compareOp .Is) rIsW := by
  intro pins s σ H x y v u Q I rx ry h
  obtain ⟨hy, q⟩ := h
  cases y with
  | non => exact op_isN pins s σ H x .non v u Q I rx ry ⟨rfl, q⟩
  | bl b => cases ry; exact is_b_gen rx ⟨.bl _, H, I, rfl, q⟩
  | _ => exact absurd (show false = true from hy) Bool.false_ne_true
theorem op_isNotW : OpR X (compareOp .IsNot) rIsNotW := by
  intro pins s σ H x y v u Q I rx ry h
  obtain ⟨hy, q⟩ := h
  cases y with
  | non => exact op_notN pins s σ H x .non v u Q I rx ry ⟨rfl, q⟩
  | bl b => cases ry; exact isnot_b_gen rx ⟨.bl _, H, I, rfl, q⟩
  | _ => exact absurd (show false = true from hy) Bool.false_ne_true
def rIsO : R2 := fun x y H Q => ∃ a b oa ob, x = .ref a ∧ y = .ref b ∧ H a = some oa ∧ isObj oa = true ∧ H b = some ob ∧ isObj ob = true ∧ Q (.bl (decide (a = b))) H
def rIsNotO : R2 := fun x y H Q => ∃ a b oa ob, x = .ref a ∧ y = .ref b ∧ H a = some oa ∧ isObj oa = true ∧ H b = some ob ∧ isObj ob = true ∧ Q (.bl (!decide (a = b))) H
def rIsX : R2 := fun x y H Q => rIsW x y H Q ∨ rIsO x y H Q
def rIsNotX : R2 := fun x y H Q => rIsNotW x y H Q ∨ rIsNotO x y H Q
theorem op_isX : OpR X (compareOp .Is) rIsX := OpR.or op_isW op_is_ref
theorem op_isNotX : OpR X (compareOp .IsNot) rIsNotX := OpR.or op_isNotW op_isnot_ref
/-- ==: of single values, of data at any depth -/
def rEqX (K : PySem.W.Frag) : R2 := fun x y H Q => rEq x y H Q ∨ rEqD K x y H Q
def rNeX (K : PySem.W.Frag) : R2 := fun x y H Q => rNe x y H Q ∨ rNeD K x y H Q
theorem op_eqX (hu : X.A.units + 64 < cLine) : OpR X (compareOp .Eq) (rEqX X.K) := OpR.or op_eq (op_eqD hu)
theorem op_neX (hu : X.A.units + 64 < cLine) : OpR X (compareOp .NotEq) (rNeX X.K) := OpR.or op_ne (op_neD hu)
/-- a[i:j] of texts and lists -/
def rSlX (K : PySem.W.Frag) : V → Option Int → Option Int → Hp → VK → Prop := fun x lo hi H Q => rSlS x lo hi H Q ∨ rSlL K x lo hi H Q
theorem sl_X : SlR X (rSlX X.K) := SlR.or sl_str sl_list
def rIntX : List V → Hp → VK → Prop := fun xs H Q => ((∃ i, xs = [.int i] ∧ Q (.int i) H) ∨ ∃ k, xs = [.bl k] ∧ Q (.int (b2i k)) H) ∨ ∃ a n, xs = [.str a] ∧ PySem.intText? a = some n ∧ a.length ≤ 640 ∧ Q (.int n) H
end

section
variable {X : Cx}
def rJoin (K : PySem.W.Frag) : V → List V → Hp → VK → Prop := fun x xs H Q => ∃ a p, ∃ ys : List Str, x = .str a ∧ xs = [.ref p] ∧ (SqL K H p (ys.map V.str) ∨ SqT K H p (ys.map V.str)) ∧
  (ys.map (·.length)).sum + ys.length * a.length ≤ 16777216 ∧ Q (.str (Txt.join a ys)) H
def rStarts3 : V → List V → Hp → VK → Prop := fun x xs H Q => ∃ (a b : Str) (i : Int), x = .str a ∧ xs = [.str b, .int i] ∧ Q (.bl (Txt.startswith3 a b i)) H
/-- what a for walks: a list, a tuple, a text -/
def iAny (K : PySem.W.Frag) (te : TE) : TI := fun σ H R => iList K te σ H R ∨ iTup K te σ H R ∨ iStr te σ H R
theorem pi_any {tg e : Expr} {te : TE} (he : PE X e te) : PI X tg e (iAny X.K te) := ⟨fun pins s σ H R I h => by
  rcases h with h | h | h
  · exact (pi_list he).run pins s σ H R I h
  · exact (pi_tup he).run pins s σ H R I h
  · exact (pi_str he).run pins s σ H R I h⟩
end

/-! ### the reading, step by step: each ⟨nx, rt, bk, ct⟩ stands open -/
section
variable {nx bk ct : L2.St → Hp → Prop} {rt : VK} {σ : L2.St} {H : Hp} {Q : VK} {te ta tb tc : TE} {t u : TS} {tt tt' : TT} {K : PySem.W.Frag} {v x y : V} {i : Nat} {r : R2} {TA1 : TA}
theorem g_seq (h : t ⟨u ⟨nx, rt, bk, ct⟩, rt, bk, ct⟩ σ H) : tSeq t u ⟨nx, rt, bk, ct⟩ σ H := h
theorem g_next (h : nx σ H) : tNext ⟨nx, rt, bk, ct⟩ σ H := h
theorem g_brk (h : bk σ H) : tBreak ⟨nx, rt, bk, ct⟩ σ H := h
theorem g_cont (h : ct σ H) : tCont ⟨nx, rt, bk, ct⟩ σ H := h
theorem g_asg (h : te σ H fun x H1 => nx (σ.set i (some x)) H1) : tAsg te (gName i) ⟨nx, rt, bk, ct⟩ σ H := h
theorem g_drop (h : te σ H fun _ H1 => nx σ H1) : tDrop te ⟨nx, rt, bk, ct⟩ σ H := h
theorem g_ret (h : te σ H rt) : tRet te ⟨nx, rt, bk, ct⟩ σ H := h
theorem g_retN (h : rt .non H) : tRetN ⟨nx, rt, bk, ct⟩ σ H := h
theorem g_if (h : tt σ H fun b H1 => if b = true then t ⟨nx, rt, bk, ct⟩ σ H1 else u ⟨nx, rt, bk, ct⟩ σ H1) : tIfS tt t u ⟨nx, rt, bk, ct⟩ σ H := h
theorem g_var (h : σ[i]? = some (some v)) (q : Q v H) : tVar i σ H Q := ⟨v, h, q⟩
theorem g_c (q : Q v H) : tC v σ H Q := q
theorem g_op (h : ta σ H fun x H1 => tb σ H1 fun y H2 => r x y H2 Q) : tOp r ta tb σ H Q := h
theorem g_un {r : V → Hp → VK → Prop} (h : ta σ H fun x H1 => r x H1 Q) : tUn r ta σ H Q := h
theorem g_nil {Q : List V → Hp → Prop} (h : Q [] H) : tNil σ H Q := h
theorem g_cons {Q : List V → Hp → Prop} (h : ta σ H fun x H1 => TA1 σ H1 fun xs H2 => Q (x :: xs) H2) : tCons ta TA1 σ H Q := h
def TestK (x : V) (H : Hp) (Q : Bool → Hp → Prop) : Prop := ∃ k, x = .bl k ∧ Q k H
theorem g_test {Q : Bool → Hp → Prop} (h : te σ H fun x H' => TestK x H' Q) : tTest te σ H Q := h
theorem g_b {Q : Bool → Hp → Prop} (h : te σ H fun x H' => TestK x H' Q) : tB te σ H Q := h
theorem g_k {Q : Bool → Hp → Prop} {b : Bool} (q : Q b H) : TestK (.bl b) H Q := ⟨b, rfl, q⟩
def TruK (K : PySem.W.Frag) (x : V) (H : Hp) (Q : Bool → Hp → Prop) : Prop := ∃ k, TruV K x H k ∧ Q k H
theorem g_tru {Q : Bool → Hp → Prop} (h : te σ H fun x H' => TruK K x H' Q) : tTru K te σ H Q := h
theorem v_truB {Q : Bool → Hp → Prop} {b : Bool} (q : Q b H) : TruK K (.bl b) H Q := ⟨b, rfl, q⟩
theorem v_truN {Q : Bool → Hp → Prop} (q : Q false H) : TruK K .non H Q := ⟨_, rfl, q⟩
theorem v_truI {Q : Bool → Hp → Prop} {i : Int} (q : Q (i != 0) H) : TruK K (.int i) H Q := ⟨_, rfl, q⟩
theorem g_and {Q : Bool → Hp → Prop} (h : tt σ H fun c H1 => if c = true then tt' σ H1 Q else Q false H1) : tAnd tt tt' σ H Q := h
theorem g_or {Q : Bool → Hp → Prop} (h : tt σ H fun c H1 => if c = true then Q true H1 else tt' σ H1 Q) : tOr tt tt' σ H Q := h
theorem g_not {Q : Bool → Hp → Prop} (h : tt σ H fun c H1 => Q (!c) H1) : tNot tt σ H Q := h
theorem g_andV (h : ta σ H fun x H1 => TestK x H1 fun c H1 => if c = true then tb σ H1 Q else Q (.bl false) H1) : tAndV ta tb σ H Q := h
theorem g_orV (h : ta σ H fun x H1 => TestK x H1 fun c H1 => if c = true then Q (.bl true) H1 else tb σ H1 Q) : tOrV ta tb σ H Q := h
theorem g_notV (h : ta σ H fun x H1 => TestK x H1 fun c H1 => Q (.bl (!c)) H1) : tNotV ta σ H Q := h
theorem g_ifE (h : tt σ H fun c H1 => if c = true then ta σ H1 Q else tb σ H1 Q) : tIf tt ta tb σ H Q := h
theorem g_callB {r : List V → Hp → VK → Prop} (h : TA1 σ H fun vs H1 => r vs H1 Q) : tCB r TA1 σ H Q := h
theorem g_call {sp : Sp} {E : L2.St → XK} (h : TA1 σ H fun vs H1 => sp vs H1 Q (E σ)) : tCallSD sp [] E TA1 σ H Q := by
  show TA1 σ H fun vs H1 => sp (vs ++ []) H1 Q (E σ)
  simp only [List.append_nil]
  exact h
theorem g_tup (h : TA1 σ H fun xs H1 => xs.length ≤ sizeLine ∧ ∀ p, H1 p = none → Q (.ref p) (upd H1 p (.tup xs))) : tTup TA1 σ H Q := h
theorem g_lst (h : TA1 σ H fun xs H1 => xs.length ≤ sizeLine ∧ ∀ p, H1 p = none → Q (.ref p) (upd H1 p (.lst xs))) : tLst TA1 σ H Q := h
theorem g_small {xs : List V} {A : Prop} (h : xs.length ≤ 1000) (q : A) : xs.length ≤ sizeLine ∧ A := ⟨Nat.le_of_lt (small1000 h), q⟩
/-! by values -/
theorem v_addI {i j : Int} (q : Q (.int (i + j)) H) : rAddX K (.int i) (.int j) H Q := .inl ⟨_, _, rfl, rfl, q⟩
theorem v_addS {a b : Str} (h : a.length + b.length ≤ sizeLine) (q : Q (.str (a ++ b)) H) : rAddX K (.str a) (.str b) H Q := .inr (.inl ⟨_, _, rfl, rfl, h, q⟩)
theorem v_sub {i j : Int} (q : Q (.int (i - j)) H) : rSubX (.int i) (.int j) H Q := ⟨_, _, rfl, rfl, q⟩
theorem v_mulI {i j : Int} (h : CMul i j) (q : Q (.int (i * j)) H) : rMulX (.int i) (.int j) H Q := .inl ⟨_, _, rfl, rfl, h, q⟩
theorem v_mulS {z : Str} {n : Int} (h : MulS z n) (q : Q (.str (Txt.mul z n)) H) : rMulX (.str z) (.int n) H Q := .inr (.inl ⟨_, _, rfl, rfl, h, q⟩)
theorem v_mod {i j : Int} (h : 0 < j) (q : Q (.int (i % j)) H) : rModX (.int i) (.int j) H Q := .inl ⟨_, _, rfl, rfl, h, q⟩
theorem v_div {i j : Int} (h : CDiv i j) (q : Q (.int (i / j)) H) : rDivX (.int i) (.int j) H Q := .inl ⟨_, _, rfl, rfl, h, q⟩
theorem v_lt {i j : Int} (q : Q (.bl (decide (i < j))) H) : rLtX K (.int i) (.int j) H Q := .inl ⟨_, _, rfl, rfl, q⟩
theorem v_le {i j : Int} (q : Q (.bl (decide (i ≤ j))) H) : rLeX (.int i) (.int j) H Q := .inl ⟨_, _, rfl, rfl, q⟩
theorem v_leS {a b : Str} (q : Q (.bl (!decide (b.cps.toList < a.cps.toList))) H) : rLeX (.str a) (.str b) H Q := .inr ⟨_, _, rfl, rfl, q⟩
theorem v_gt {i j : Int} (q : Q (.bl (decide (j < i))) H) : rGtX (.int i) (.int j) H Q := ⟨_, _, rfl, rfl, q⟩
theorem v_ge {i j : Int} (q : Q (.bl (decide (j ≤ i))) H) : rGeX (.int i) (.int j) H Q := ⟨_, _, rfl, rfl, q⟩
theorem dS {a b : Str} : decide (V.str a = V.str b) = decide (a = b) := by
  by_cases h : a = b
  · rw [h]; simp
  · rw [decide_eq_false h, decide_eq_false]; intro z; exact h (V.str.inj z)
theorem dI {a b : Int} : decide (V.int a = V.int b) = decide (a = b) := by
  by_cases h : a = b
  · rw [h]; simp
  · rw [decide_eq_false h, decide_eq_false]; intro z; exact h (V.int.inj z)
theorem dB {a b : Bool} : decide (V.bl a = V.bl b) = decide (a = b) := by
  by_cases h : a = b
  · rw [h]; simp
  · rw [decide_eq_false h, decide_eq_false]; intro z; exact h (V.bl.inj z)
theorem v_eqI {i j : Int} (q : Q (.bl (decide (i = j))) H) : rEqX K (.int i) (.int j) H Q := .inl ⟨rfl, by rw [dI]; exact q⟩
theorem v_eqS {i j : Str} (q : Q (.bl (decide (i = j))) H) : rEqX K (.str i) (.str j) H Q := .inl ⟨rfl, by rw [dS]; exact q⟩
theorem v_eqB {i j : Bool} (q : Q (.bl (decide (i = j))) H) : rEqX K (.bl i) (.bl j) H Q := .inl ⟨rfl, by rw [dB]; exact q⟩
theorem v_neI {i j : Int} (q : Q (.bl (!decide (i = j))) H) : rNeX K (.int i) (.int j) H Q := .inl ⟨rfl, by rw [dI]; exact q⟩
theorem v_neS {i j : Str} (q : Q (.bl (!decide (i = j))) H) : rNeX K (.str i) (.str j) H Q := .inl ⟨rfl, by rw [dS]; exact q⟩
theorem v_neB {i j : Bool} (q : Q (.bl (!decide (i = j))) H) : rNeX K (.bl i) (.bl j) H Q := .inl ⟨rfl, by rw [dB]; exact q⟩
theorem v_isN (q : Q (.bl (decide (x = .non))) H) : rIsX x .non H Q := .inl ⟨rfl, q⟩
theorem v_isNotN (q : Q (.bl (!decide (x = .non))) H) : rIsNotX x .non H Q := .inl ⟨rfl, q⟩
theorem v_isB {b : Bool} (q : Q (.bl (decide (x = .bl b))) H) : rIsX x (.bl b) H Q := .inl ⟨rfl, q⟩
theorem v_isNotB {b : Bool} (q : Q (.bl (!decide (x = .bl b))) H) : rIsNotX x (.bl b) H Q := .inl ⟨rfl, q⟩
theorem v_eqV (h : scal x y = true) (q : Q (.bl (decide (x = y))) H) : rEqX K x y H Q := .inl ⟨h, q⟩
theorem v_neV (h : scal x y = true) (q : Q (.bl (!decide (x = y))) H) : rNeX K x y H Q := .inl ⟨h, q⟩
theorem v_eqD {d e : PyData} (h1 : Dp K H x d) (h2 : Dp K H y e) (s1 : SeqAt.shaped d = true) (s2 : SeqAt.shaped e = true) (q : Q (.bl (PyData.eqv d e)) H) : rEqX K x y H Q := .inr ⟨_, _, h1, h2, s1, s2, q⟩
theorem v_neD {d e : PyData} (h1 : Dp K H x d) (h2 : Dp K H y e) (s1 : SeqAt.shaped d = true) (s2 : SeqAt.shaped e = true) (q : Q (.bl (!PyData.eqv d e)) H) : rNeX K x y H Q := .inr ⟨_, _, h1, h2, s1, s2, q⟩
theorem v_inL {p : Addr} {xs : List V} (h : SqL K H p xs) (f1 : flatV x = true) (f2 : xs.all flatV = true) (q : Q (.bl (inV x xs)) H) : rInX K x (.ref p) H Q := .inl ⟨p, xs, rfl, .inl h, f1, f2, q⟩
theorem v_notInL {p : Addr} {xs : List V} (h : SqL K H p xs) (f1 : flatV x = true) (f2 : xs.all flatV = true) (q : Q (.bl (!inV x xs)) H) : rNotInX K x (.ref p) H Q := .inl ⟨p, xs, rfl, .inl h, f1, f2, q⟩
theorem v_cat {l b : Addr} {xs zs : List V} (h : H l = some (.lst xs)) (h2 : H b = some (.lst zs)) (hz : xs.length + zs.length ≤ sizeLine) (q : ∀ p, H p = none → Q (.ref p) (upd H p (.lst (xs ++ zs)))) : rAddX K (.ref l) (.ref b) H Q := .inr (.inr (.inl ⟨_, _, _, _, rfl, rfl, h, h2, hz, q⟩))
theorem v_inS {c : Nat} {z : Str} (q : Q (.bl (decide (c ∈ z.cps.toList))) H) : rInX K (.str ⟨#[c]⟩) (.str z) H Q := .inr ⟨_, _, rfl, rfl, q⟩
theorem v_notInS {c : Nat} {z : Str} (q : Q (.bl (!decide (c ∈ z.cps.toList))) H) : rNotInX K (.str ⟨#[c]⟩) (.str z) H Q := .inr ⟨_, _, rfl, rfl, q⟩
theorem v_inT {p : Addr} {xs : List V} (h : H p = some (.tup xs)) (f1 : flatV x = true) (f2 : xs.all flatV = true) (q : Q (.bl (inV x xs)) H) : rInX K x (.ref p) H Q := .inl ⟨p, xs, rfl, .inr (SqT.of h), f1, f2, q⟩
theorem v_notInT {p : Addr} {xs : List V} (h : H p = some (.tup xs)) (f1 : flatV x = true) (f2 : xs.all flatV = true) (q : Q (.bl (!inV x xs)) H) : rNotInX K x (.ref p) H Q := .inl ⟨p, xs, rfl, .inr (SqT.of h), f1, f2, q⟩
theorem v_lenS {z : Str} (h : z.length ≤ sizeLine) (q : Q (.int (z.length : Int)) H) : rLen K [.str z] H Q := ⟨_, _, rfl, ⟨h, rfl⟩, q⟩
theorem v_lenL {p : Addr} {xs : List V} (h : H p = some (.lst xs)) (q : Q (.int (xs.length : Int)) H) : rLen K [.ref p] H Q := ⟨_, _, rfl, .inl ⟨_, SqL.of h, rfl⟩, q⟩
theorem v_lenT {p : Addr} {xs : List V} (h : H p = some (.tup xs)) (q : Q (.int (xs.length : Int)) H) : rLen K [.ref p] H Q := ⟨_, _, rfl, .inr ⟨_, SqT.of h, rfl⟩, q⟩
theorem v_ixL {p : Addr} {xs : List V} {n : Int} (h : H p = some (.lst xs)) (e : atI xs n = some v) (q : Q v H) : rIx K (.ref p) (.int n) H Q := .inl ⟨_, _, _, _, rfl, rfl, SqL.of h, e, q⟩
theorem v_ixT {p : Addr} {xs : List V} {n : Int} (h : H p = some (.tup xs)) (e : atI xs n = some v) (q : Q v H) : rIx K (.ref p) (.int n) H Q := .inr (.inl ⟨_, _, _, _, rfl, rfl, SqT.of h, e, q⟩)
theorem v_ixS {z : Str} {n : Int} {c : Nat} (h : z.length ≤ sizeLine) (e : atI z.cps.toList n = some c) (q : Q (.str ⟨#[c]⟩) H) : rIx K (.str z) (.int n) H Q := .inr (.inr ⟨_, _, _, rfl, rfl, h, e, q⟩)
theorem v_intI {n : Int} (q : Q (.int n) H) : rIntX [.int n] H Q := .inl (.inl ⟨_, rfl, q⟩)
theorem v_intS {a : Str} {n : Int} (h : PySem.intText? a = some n) (hl : a.length ≤ 640) (q : Q (.int n) H) : rIntX [.str a] H Q := .inr ⟨_, _, rfl, h, hl, q⟩
/-! loops -/
def LoopG (J : It) (g : TG) (tb : TS) : TS := fun D σ H => ∃ W : Nat → Nat → L2.St → Hp → Prop, (∃ m, W 0 m σ H) ∧ ∀ i m σ H, W i m σ H →
  (J.stop i H ∧ D.nx σ H) ∨ (J.go i H ∧ ∃ N : L2.St → Hp → Prop, (∀ σ' H', N σ' H' → ∃ m', m' < m ∧ W (i + 1) m' σ' H') ∧ ∀ x H', J.yld i H x H' → g x σ H' fun σ2 H2 => tb { D with nx := N, ct := N, bk := D.nx } σ2 H2)
variable {wi : TI} {g : TG} {tb : TS}
theorem g_for (h : wi σ H fun J H1 => LoopG J g tb ⟨nx, rt, bk, ct⟩ σ H1) : tFor wi g tb ⟨nx, rt, bk, ct⟩ σ H := h
theorem g_name {S : L2.St → Hp → Prop} (h : S (σ.set i (some v)) H) : gName i v σ H S := h
def Rng1 (R : It → Hp → Prop) (vs : List V) (H : Hp) : Prop := ∃ j : Int, vs = [.int j] ∧ -(2 ^ 62) ≤ j ∧ j < 2 ^ 62 ∧ R (Itr 0 j.toNat) H
def Rng2 (R : It → Hp → Prop) (vs : List V) (H : Hp) : Prop := ∃ i j : Int, vs = [.int i, .int j] ∧ (-(2 ^ 62) ≤ i ∧ i < 2 ^ 62 ∧ -(2 ^ 62) ≤ j ∧ j < 2 ^ 62) ∧ R (Itr i (j - i).toNat) H
theorem g_rng1 {R : It → Hp → Prop} (h : TA1 σ H (Rng1 R)) : iRng1 TA1 σ H R := h
theorem g_rng2 {R : It → Hp → Prop} (h : TA1 σ H (Rng2 R)) : iRng2 TA1 σ H R := h
theorem g_rngN {R : It → Hp → Prop} {n : Nat} (hn : n < 2 ^ 62) (h : R (Itr 0 n) H) : Rng1 R [V.int (n : Int)] H := ⟨_, rfl, by omega, by omega, by rw [Int.toNat_natCast]; exact h⟩
theorem g_rngI {R : It → Hp → Prop} {n : Int} (h1 : -(2 ^ 62) ≤ n) (h2 : n < 2 ^ 62) (h : R (Itr 0 n.toNat) H) : Rng1 R [V.int n] H := ⟨_, rfl, h1, h2, h⟩
theorem g_rngT {R : It → Hp → Prop} {m n : Int} (h1 : -(2 ^ 62) ≤ m ∧ m < 2 ^ 62 ∧ -(2 ^ 62) ≤ n ∧ n < 2 ^ 62) (h : R (Itr m (n - m).toNat) H) : Rng2 R [V.int m, V.int n] H := ⟨_, _, rfl, h1, h⟩
def OvL (K : PySem.W.Frag) (R : It → Hp → Prop) (x : V) (H : Hp) : Prop := ∃ a, x = .ref a ∧ (∃ xs, SqL K H a xs) ∧ R (Itl K a) H
def OvT (K : PySem.W.Frag) (R : It → Hp → Prop) (x : V) (H : Hp) : Prop := ∃ a, x = .ref a ∧ (∃ xs, SqT K H a xs) ∧ R (Itt K a) H
def OvS (R : It → Hp → Prop) (x : V) (H : Hp) : Prop := ∃ z, x = .str z ∧ R (Its z) H
theorem gi_list {R : It → Hp → Prop} (h : te σ H (OvL K R)) : iAny K te σ H R := .inl h
theorem gi_tup {R : It → Hp → Prop} (h : te σ H (OvT K R)) : iAny K te σ H R := .inr (.inl h)
theorem gi_str {R : It → Hp → Prop} (h : te σ H (OvS R)) : iAny K te σ H R := .inr (.inr h)
theorem v_ovL {R : It → Hp → Prop} {p : Addr} {xs : List V} (h : SqL K H p xs) (q : R (Itl K p) H) : OvL K R (.ref p) H := ⟨p, rfl, ⟨xs, h⟩, q⟩
theorem v_ovT {R : It → Hp → Prop} {p : Addr} {xs : List V} (h : SqT K H p xs) (q : R (Itt K p) H) : OvT K R (.ref p) H := ⟨p, rfl, ⟨xs, h⟩, q⟩
theorem v_ovS {R : It → Hp → Prop} {z : Str} (q : R (Its z) H) : OvS R (.str z) H := ⟨z, rfl, q⟩
theorem l_range {lo : Int} {n : Nat} (Pv : Nat → L2.St → Hp → Prop) (h0 : Pv 0 σ H) (hs : ∀ i σ H, i < n → Pv i σ H → g (.int (lo + i)) σ H fun σ2 H2 => tb ⟨Pv (i + 1), rt, nx, Pv (i + 1)⟩ σ2 H2)
    (hd : ∀ σ H, Pv n σ H → nx σ H) : LoopG (Itr lo n) g tb ⟨nx, rt, bk, ct⟩ σ H := for_range (D := ⟨nx, rt, bk, ct⟩) Pv h0 hs hd
theorem l_list {a : Addr} {xs : List V} (Pv : Nat → L2.St → Hp → Prop) (h0 : Pv 0 σ H) (hl : ∀ i σ H, i ≤ xs.length → Pv i σ H → SqL K H a xs)
    (hs : ∀ i x σ H, xs[i]? = some x → Pv i σ H → g x σ H fun σ2 H2 => tb ⟨Pv (i + 1), rt, nx, Pv (i + 1)⟩ σ2 H2) (hd : ∀ σ H, Pv xs.length σ H → nx σ H) : LoopG (Itl K a) g tb ⟨nx, rt, bk, ct⟩ σ H := for_list (D := ⟨nx, rt, bk, ct⟩) Pv h0 hl hs hd
theorem l_tup {a : Addr} {xs : List V} (Pv : Nat → L2.St → Hp → Prop) (h0 : Pv 0 σ H) (hl : ∀ i σ H, i ≤ xs.length → Pv i σ H → SqT K H a xs)
    (hs : ∀ i x σ H, xs[i]? = some x → Pv i σ H → g x σ H fun σ2 H2 => tb ⟨Pv (i + 1), rt, nx, Pv (i + 1)⟩ σ2 H2) (hd : ∀ σ H, Pv xs.length σ H → nx σ H) : LoopG (Itt K a) g tb ⟨nx, rt, bk, ct⟩ σ H := for_tup (D := ⟨nx, rt, bk, ct⟩) Pv h0 hl hs hd
theorem l_str {zs : List Nat} (Pv : Nat → L2.St → Hp → Prop) (h0 : Pv 0 σ H) (hs : ∀ i c σ H, zs[i]? = some c → Pv i σ H → g (.str ⟨#[c]⟩) σ H fun σ2 H2 => tb ⟨Pv (i + 1), rt, nx, Pv (i + 1)⟩ σ2 H2)
    (hd : ∀ σ H, Pv zs.length σ H → nx σ H) : LoopG (Its ⟨zs.toArray⟩) g tb ⟨nx, rt, bk, ct⟩ σ H := by
  refine ⟨fun i m σ H => m = zs.length - i ∧ i ≤ zs.length ∧ Pv i σ H, ⟨zs.length, by simp, Nat.zero_le _, h0⟩, ?_⟩
  rintro i m σ H ⟨rfl, hi, p⟩
  by_cases hlt : i < zs.length
  · refine .inr ⟨(by show i < zs.toArray.size; simpa using hlt), Pv (i + 1), fun σ' H' p' => ⟨zs.length - (i + 1), by omega, rfl, hlt, p'⟩, fun x H' y => ?_⟩
    obtain ⟨e, c, hc, ex⟩ := y
    subst e ex
    exact hs i c σ _ (by simpa using hc) p
  · have e : i = zs.length := by omega
    subst e
    exact .inl ⟨(by show zs.toArray.size ≤ zs.length; simp), hd σ H p⟩
theorem g_while (h : ∃ W : Nat → L2.St → Hp → Prop, (∃ m, W m σ H) ∧ ∀ m σ H, W m σ H →
    tt σ H fun b H1 => if b = true then ∃ N : L2.St → Hp → Prop, (∀ σ' H', N σ' H' → ∃ m', m' < m ∧ W m' σ' H') ∧ tb ⟨N, rt, nx, N⟩ σ H1 else nx σ H1) : tWhile tt tb ⟨nx, rt, bk, ct⟩ σ H := h
theorem g_turn {W : Nat → L2.St → Hp → Prop} {m : Nat} (h : tb ⟨fun σ' H' => ∃ m', m' < m ∧ W m' σ' H', rt, nx, fun σ' H' => ∃ m', m' < m ∧ W m' σ' H'⟩ σ H) :
    ∃ N : L2.St → Hp → Prop, (∀ σ' H', N σ' H' → ∃ m', m' < m ∧ W m' σ' H') ∧ tb ⟨N, rt, nx, N⟩ σ H := ⟨_, fun _ _ z => z, h⟩
/-! methods of lists, texts, stores -/
theorem g_bm {T : String} {r : V → List V → Hp → VK → Prop} (h : ta σ H fun x H1 => tyV K T x H1 ∧ TA1 σ H1 fun xs H2 => r x xs H2 Q) : tBM K T r ta TA1 σ H Q := h
theorem g_bm0 {T : String} {r : V → List V → Hp → VK → Prop} (h : ta σ H fun x H1 => tyV K T x H1 ∧ r x [] H1 Q) : tBM0 K T r ta σ H Q := h
theorem g_tyL {p : Addr} {xs : List V} {A : Prop} (h : H p = some (.lst xs)) (q : A) : tyV K "list" (.ref p) H ∧ A := ⟨.inl ⟨rfl, _, SqL.of h⟩, q⟩
theorem g_tyS {z : Str} {A : Prop} (q : A) : tyV K "str" (.str z) H ∧ A := ⟨rfl, q⟩
theorem v_append {l : Addr} {xs : List V} (h : H l = some (.lst xs)) (hl : xs.length < sizeLine) (q : Q .non (upd H l (.lst (xs ++ [y])))) : rAppend (.ref l) [y] H Q := ⟨_, _, _, rfl, rfl, h, hl, q⟩
theorem g_m1 {r : V → List V → Hp → VK → Prop} (h : ta σ H fun x H1 => (∃ a, x = .str a) ∧ tc σ H1 fun y H2 => r x [y] H2 Q) : tM1 r ta tc σ H Q := h
theorem g_isS {z : Str} {A : Prop} (q : A) : (∃ a, V.str z = .str a) ∧ A := ⟨⟨_, rfl⟩, q⟩
theorem v_join {p : Addr} {a : Str} {ys : List Str} (h : H p = some (.lst (ys.map V.str))) (hz : (ys.map (·.length)).sum + ys.length * a.length ≤ 16777216) (q : Q (.str (Txt.join a ys)) H) : rJoin K (.str a) [.ref p] H Q := ⟨_, _, _, rfl, rfl, .inl (SqL.of h), hz, q⟩
theorem v_starts3 {a b : Str} {n : Int} (q : Q (.bl (Txt.startswith3 a b n)) H) : rStarts3 (.str a) [.str b, .int n] H Q := ⟨_, _, _, rfl, rfl, q⟩
theorem g_sl {r : V → Option Int → Option Int → Hp → VK → Prop} {tl th : TO} (h : te σ H fun x H1 => tl σ H1 fun l H2 => th σ H2 fun u H3 => r x l u H3 Q) : tSl r te tl th σ H Q := h
theorem g_no {Q : Option Int → Hp → Prop} (h : Q none H) : tNoPart σ H Q := h
def PartK (x : V) (H : Hp) (Q : Option Int → Hp → Prop) : Prop := ∃ i, x = .int i ∧ Q (some i) H
theorem g_part {Q : Option Int → Hp → Prop} (h : te σ H fun x H1 => PartK x H1 Q) : tPart te σ H Q := h
theorem g_isI {n : Int} {Q : Option Int → Hp → Prop} (h : Q (some n) H) : PartK (.int n) H Q := ⟨_, rfl, h⟩
theorem v_slS {z : Str} {lo hi : Option Int} (h : z.length ≤ sizeLine) (q : Q (.str (cutS z lo hi)) H) : rSlX K (.str z) lo hi H Q := .inl ⟨_, rfl, h, q⟩
theorem v_slL {p : Addr} {xs : List V} {lo hi : Option Int} (h : H p = some (.lst xs)) (q : ∀ p, H p = none → Q (.ref p) (upd H p (.lst (cutV xs lo hi)))) : rSlX K (.ref p) lo hi H Q := .inr ⟨_, _, rfl, SqL.of h, q⟩
theorem g_make {C : Addr} {sp : Sp} {E : XK} (h : TA1 σ H fun vs H1 => ∀ x dx, H1 x = none → H1 dx = none → dx ≠ x → sp (.ref x :: vs) (upd (upd H1 dx (.own x)) x (.ins C dx [])) (fun v H2 => v = .non ∧ Q (.ref x) H2) E) : tMake C sp [] E TA1 σ H Q := by
  show TA1 σ H fun vs H1 => ∀ x dx, H1 x = none → H1 dx = none → dx ≠ x → sp (.ref x :: (vs ++ [])) (upd (upd H1 dx (.own x)) x (.ins C dx [])) (fun v H2 => v = .non ∧ Q (.ref x) H2) E
  simp only [List.append_nil]
  exact h
def FldK (K : PySem.W.Frag) (f : Str) (x : V) (H : Hp) (Q : VK) : Prop := ∃ a C dx fs v, x = .ref a ∧ H a = some (.ins C dx fs) ∧ Cls K C ∧ NoAttr K C f ∧ fs.lookup f = some v ∧ Q v H
theorem g_fld {f : Str} (h : ta σ H fun x H1 => FldK K f x H1 Q) : tFld K ta f σ H Q := h
theorem v_fld {a C dx : Addr} {fs : List (Str × V)} {f : Str} (h : H a = some (.ins C dx fs)) (c : Cls K C) (n : NoAttr K C f) (l : fs.lookup f = some v) (q : Q v H) : FldK K f (.ref a) H Q := ⟨_, _, _, _, _, rfl, h, c, n, l, q⟩
def SfldK (K : PySem.W.Frag) (f : Str) (x y : V) (H : Hp) (S : Hp → Prop) : Prop := ∃ a C dx fs, x = .ref a ∧ H a = some (.ins C dx fs) ∧ Cls K C ∧ NoAttr K C f ∧ fs.length < 1000 ∧ S (upd H a (.ins C dx (putF f y fs)))
theorem g_sfld {tv : TE} {f : Str} (h : tv σ H fun y H1 => ta σ H1 fun x H2 => SfldK K f x y H2 (nx σ)) : sFld K ta tv f ⟨nx, rt, bk, ct⟩ σ H := h
theorem v_sfld {a C dx : Addr} {fs : List (Str × V)} {f : Str} {S : Hp → Prop} (h : H a = some (.ins C dx fs)) (c : Cls K C) (n : NoAttr K C f) (l : fs.length < 1000) (q : S (upd H a (.ins C dx (putF f y fs)))) :
    SfldK K f (.ref a) y H S := ⟨_, _, _, _, rfl, h, c, n, l, q⟩
theorem g_asgG (h : te σ H fun x H1 => g x σ H1 nx) : tAsg te g ⟨nx, rt, bk, ct⟩ σ H := h
theorem g_sub {S : L2.St → Hp → Prop} {to ti : TE} {ts : TSet} (h : to σ H fun o H1 => ti σ H1 fun i H2 => ts o i v H2 fun H3 => S σ H3) : gSub to ti ts v σ H S := h
theorem v_setL {p : Addr} {xs : List V} {n : Int} {j : Nat} {S : Hp → Prop} (h : H p = some (.lst xs)) (e : ixN xs.length n = some j) (q : S (upd H p (.lst (xs.set j v)))) : rSetL (.ref p) (.int n) v H S := ⟨_, _, _, _, rfl, rfl, h, e, q⟩
theorem g_gtup {S : L2.St → Hp → Prop} {n : Nat} {t : TGs} {a : Addr} {xs : List V} (h : H a = some (.tup xs)) (l : xs.length = n) (q : t xs σ H S) : gTup K n t (.ref a) σ H S := ⟨a, xs, rfl, SqT.of h, l, q⟩
theorem g_gcons {S : L2.St → Hp → Prop} {t : TG} {u : TGs} {r : List V} (h : t v σ H fun σ' H' => u r σ' H' S) : gCons t u (v :: r) σ H S := ⟨v, r, rfl, h⟩
theorem g_gnil {S : L2.St → Hp → Prop} (h : S σ H) : gNil [] σ H S := ⟨rfl, h⟩
theorem g_cut (Mid : L2.St → Hp → Prop) (h1 : t ⟨Mid, rt, bk, ct⟩ σ H) (h2 : ∀ σ' H', Mid σ' H' → u ⟨nx, rt, bk, ct⟩ σ' H') : C8.tCut t u ⟨nx, rt, bk, ct⟩ σ H := ⟨Mid, h1, h2⟩
theorem g_thr (h : t ⟨u ⟨nx, rt, bk, ct⟩, rt, bk, ct⟩ σ H) : C8.tCut t u ⟨nx, rt, bk, ct⟩ σ H := ⟨_, h, fun _ _ z => z⟩
theorem v_lenSq {p : Addr} {xs : List V} (h : SqL K H p xs) (q : Q (.int (xs.length : Int)) H) : rLen K [.ref p] H Q := ⟨_, _, rfl, .inl ⟨_, h, rfl⟩, q⟩
theorem v_ixSq {p : Addr} {xs : List V} {n : Int} (h : SqL K H p xs) (e : atI xs n = some v) (q : Q v H) : rIx K (.ref p) (.int n) H Q := .inl ⟨_, _, _, _, rfl, rfl, h, e, q⟩
theorem up_new {p a : Addr} {o u : HO} (h : H a = some u) (n : H p = none) : upd H p o a = some u := by rw [upd_ne (ne_of_none h n)]; exact h
theorem same_new {p : Addr} {o : HO} (n : H p = none) : Same H (upd H p o) := fun _ _ h => up_new h n
/-- all stays but what stands at d -/
def Sb (d : Addr) (H H' : Hp) : Prop := ∀ b o, b ≠ d → H b = some o → H' b = some o
theorem Sb.refl {d : Addr} : Sb d H H := fun _ _ _ h => h
theorem Sb.trans {d : Addr} {H1 H2 : Hp} (a : Sb d H H1) (b : Sb d H1 H2) : Sb d H H2 := fun c o n h => b c o n (a c o n h)
theorem Sb.upd {d : Addr} {o : HO} : Sb d H (L2.upd H d o) := fun b _ n h => by rw [upd_ne n]; exact h
theorem Same.sb {d : Addr} {H1 : Hp} (a : Same H H1) : Sb d H H1 := fun c o _ h => a c o h
theorem atN {α : Type} {xs : List α} {i : Nat} {x : α} {n : Int} (e : n = (i : Int)) (h : xs[i]? = some x) : atI xs n = some x := by rw [e]; exact atI_nat h
theorem iteNT {A B : Prop} (h : B) : if (!true) = true then A else B := by
  rw [if_neg (by decide)]
  exact h
theorem iteNF {A B : Prop} (h : A) : if (!false) = true then A else B := by
  rw [if_pos (by decide)]
  exact h
theorem g_meth {C : Addr} {m : Str} {sp : Sp} {E : L2.St → XK} (h : ta σ H fun x H1 => ∃ a dx fs, x = .ref a ∧ H1 a = some (.ins C dx fs) ∧ fs.lookup m = none ∧ TA1 σ H1 fun vs H2 => sp (x :: vs) H2 Q (E σ)) : tMethD C m sp [] E ta TA1 σ H Q := by
  show ta σ H fun x H1 => ∃ a dx fs, x = .ref a ∧ H1 a = some (.ins C dx fs) ∧ fs.lookup m = none ∧ TA1 σ H1 fun vs H2 => sp (x :: (vs ++ [])) H2 Q (E σ)
  simp only [List.append_nil]
  exact h
theorem v_find {a b : Str} (q : Q (.int (Txt.find a b)) H) : rFind (.str a) [.str b] H Q := ⟨_, _, rfl, rfl, q⟩
theorem v_listL {p : Addr} {ys : List V} (h : SqL K H p ys) (q : ∀ l, H l = none → Q (.ref l) (upd H l (.lst ys))) : rListX K [.ref p] H Q := .inl ⟨_, _, rfl, .inl h, q⟩
theorem v_listT {p : Addr} {ys : List V} (h : SqT K H p ys) (q : ∀ l, H l = none → Q (.ref l) (upd H l (.lst ys))) : rListX K [.ref p] H Q := .inl ⟨_, _, rfl, .inr h, q⟩
/-! comprehensions -/
def LcG (J : It) (g : TG) (tt : TT) (te : TE) (σ0 : L2.St) (vs : List Nat) (D : Addr) (H1 : Hp) (Qd : Hp → Prop) : Prop := ∃ W : Nat → Nat → Hp → Prop, (∃ m, W 0 m (upd H1 D (.lst []))) ∧ ∀ i m H, W i m H →
      (J.stop i H ∧ Qd H) ∨ (J.go i H ∧ ∃ Nx : Hp → Prop, (∀ H', Nx H' → ∃ m', m' < m ∧ W (i + 1) m' H') ∧ ∀ x H', J.yld i H x H' → g x (wipe σ0 vs) H' fun σ2 H2 => wipe σ2 vs = wipe σ0 vs ∧ tt σ2 H2 fun b H3 =>
        if b = true then te σ2 H3 fun y H4 => ∃ acc, H4 D = some (.lst acc) ∧ acc.length < sizeLine ∧ Nx (upd H4 D (.lst (acc ++ [y]))) else Nx H3)
theorem g_lc {vs : List Nat} {g : TG} (h : wi σ H fun J H1 => ∀ D, H1 D = none → LcG J g tt te σ vs D H1 (Q (.ref D))) : tLc wi g tt te vs σ H Q := h
/-- a comprehension's new item -/
def PutC (D : Addr) (y : V) (H4 : Hp) (S : Hp → Prop) : Prop := ∃ acc, H4 D = some (.lst acc) ∧ acc.length < sizeLine ∧ S (upd H4 D (.lst (acc ++ [y])))
theorem v_put {D : Addr} {acc : List V} {S : Hp → Prop} (h : H D = some (.lst acc)) (hl : acc.length < sizeLine) (q : S (upd H D (.lst (acc ++ [y])))) : PutC D y H S := ⟨acc, h, hl, q⟩
theorem c_range {lo : Int} {n : Nat} {g : TG} {vs : List Nat} {D : Addr} {Qd : Hp → Prop} (Pv : Nat → Hp → Prop) (h0 : Pv 0 (upd H D (.lst [])))
    (hs : ∀ i H, i < n → Pv i H → g (.int (lo + i)) (wipe σ vs) H fun σ2 H2 => wipe σ2 vs = wipe σ vs ∧ tt σ2 H2 fun b H3 => if b = true then te σ2 H3 fun y H4 => PutC D y H4 (Pv (i + 1)) else Pv (i + 1) H3) (hd : ∀ H, Pv n H → Qd H) : LcG (Itr lo n) g tt te σ vs D H Qd := lc_range Pv h0 hs hd
theorem c_list {a : Addr} {xs : List V} {g : TG} {vs : List Nat} {D : Addr} {Qd : Hp → Prop} (Pv : Nat → Hp → Prop) (h0 : Pv 0 (upd H D (.lst []))) (hl : ∀ i H, i ≤ xs.length → Pv i H → SqL K H a xs)
    (hs : ∀ i x H, xs[i]? = some x → Pv i H → g x (wipe σ vs) H fun σ2 H2 => wipe σ2 vs = wipe σ vs ∧ tt σ2 H2 fun b H3 => if b = true then te σ2 H3 fun y H4 => PutC D y H4 (Pv (i + 1)) else Pv (i + 1) H3) (hd : ∀ H, Pv xs.length H → Qd H) : LcG (Itl K a) g tt te σ vs D H Qd := lc_list Pv h0 hl hs hd
theorem c_tup {a : Addr} {xs : List V} {g : TG} {vs : List Nat} {D : Addr} {Qd : Hp → Prop} (Pv : Nat → Hp → Prop) (h0 : Pv 0 (upd H D (.lst []))) (hl : ∀ i H, i ≤ xs.length → Pv i H → SqT K H a xs)
    (hs : ∀ i x H, xs[i]? = some x → Pv i H → g x (wipe σ vs) H fun σ2 H2 => wipe σ2 vs = wipe σ vs ∧ tt σ2 H2 fun b H3 => if b = true then te σ2 H3 fun y H4 => PutC D y H4 (Pv (i + 1)) else Pv (i + 1) H3) (hd : ∀ H, Pv xs.length H → Qd H) : LcG (Itt K a) g tt te σ vs D H Qd := lc_tup Pv h0 hl hs hd
theorem g_yes {Q : Bool → Hp → Prop} (h : Q true H) : tYes σ H Q := h
theorem g_chain {tb' : TE} {r' : R2} (h : ta σ H fun x H1 => tb' σ H1 fun y H2 => r x y H2 fun z H3 => TestK z H3 fun k H3 => if k = true then tc σ H3 fun w' H4 => r' y w' H4 Q else Q (.bl false) H3) : tChain r r' ta tb' tc σ H Q := h
/-! isinstance of single values -/
def isI : V → Bool
  | .int _ => true
  | .bl _ => true
  | _ => false
def isS : V → Bool
  | .str _ => true
  | _ => false
def isB : V → Bool
  | .bl _ => true
  | _ => false
theorem isi_flat {c : String} {b : Bool} (h : match x with | .non => kitB "NoneType" c = some b | .bl _ => kitB "bool" c = some b | .int _ => kitB "int" c = some b | .str _ => kitB "str" c = some b | _ => False) (q : Q (.bl b) H) : rIsi K [x, .ty c] H Q := by
  cases x with
  | non => exact ⟨_, _, _, _, b, rfl, .ty c, .base .non, kit_ty h, q⟩
  | bl z => exact ⟨_, _, _, _, b, rfl, .ty c, .base (.bl z), kit_ty h, q⟩
  | int z => exact ⟨_, _, _, _, b, rfl, .ty c, .base (.int z), kit_ty h, q⟩
  | str z => exact ⟨_, _, _, _, b, rfl, .ty c, .base (.str z), kit_ty h, q⟩
  | _ => exact h.elim
theorem v_isiI (f : flatV x = true) (q : Q (.bl (isI x)) H) : rIsi K [x, .ty "int"] H Q := by
  refine isi_flat ?_ q
  cases x with
  | non => exact (by decide +kernel : kitB "NoneType" "int" = some false)
  | bl z => exact (by decide +kernel : kitB "bool" "int" = some true)
  | int z => exact (by decide +kernel : kitB "int" "int" = some true)
  | str z => exact (by decide +kernel : kitB "str" "int" = some false)
  | _ => exact absurd (show false = true from f) Bool.false_ne_true
theorem v_isiS (f : flatV x = true) (q : Q (.bl (isS x)) H) : rIsi K [x, .ty "str"] H Q := by
  refine isi_flat ?_ q
  cases x with
  | non => exact (by decide +kernel : kitB "NoneType" "str" = some false)
  | bl z => exact (by decide +kernel : kitB "bool" "str" = some false)
  | int z => exact (by decide +kernel : kitB "int" "str" = some false)
  | str z => exact (by decide +kernel : kitB "str" "str" = some true)
  | _ => exact absurd (show false = true from f) Bool.false_ne_true
theorem v_isiB (f : flatV x = true) (q : Q (.bl (isB x)) H) : rIsi K [x, .ty "bool"] H Q := by
  refine isi_flat ?_ q
  cases x with
  | non => exact (by decide +kernel : kitB "NoneType" "bool" = some false)
  | bl z => exact (by decide +kernel : kitB "bool" "bool" = some true)
  | int z => exact (by decide +kernel : kitB "int" "bool" = some false)
  | str z => exact (by decide +kernel : kitB "str" "bool" = some false)
  | _ => exact absurd (show false = true from f) Bool.false_ne_true
theorem v_isiL {p : Addr} {xs : List V} (h : H p = some (.lst xs)) (q : Q (.bl true) H) : rIsi K [.ref p, .ty "list"] H Q := ⟨_, _, _, _, true, rfl, .ty _, .base (.lst h), kit_ty (by decide +kernel), q⟩
theorem v_isiO {p C C' dx : Addr} {fs : List (Str × V)} {b : Bool} (h : H p = some (.ins C dx fs)) (cl : Cls K C) (f : InsF K C) (k : PySem.W.kitOne K (.ref C) (.ref C') = some b) (q : Q (.bl b) H) : rIsi K [.ref p, .ref C'] H Q :=
  ⟨_, _, _, _, b, rfl, .own C', .base (.ins h cl f.ha f.hn f.htk f.hm), k, q⟩
theorem v_isiOT {p C dx : Addr} {fs : List (Str × V)} {b : Bool} {c : String} (h : H p = some (.ins C dx fs)) (cl : Cls K C) (f : InsF K C) (k : PySem.W.kitOne K (.ref C) (.type c) = some b) (q : Q (.bl b) H) : rIsi K [.ref p, .ty c] H Q :=
  ⟨_, _, _, _, b, rfl, .ty c, .base (.ins h cl f.ha f.hn f.htk f.hm), k, q⟩
def MethK (C : Addr) (m : Str) (x : V) (H1 : Hp) (S : Hp → Prop) : Prop := ∃ a dx fs, x = .ref a ∧ H1 a = some (.ins C dx fs) ∧ fs.lookup m = none ∧ S H1
theorem g_meth1 {C : Addr} {m : Str} {sp : Sp} {E : L2.St → XK} (h : ta σ H fun x H1 => MethK C m x H1 fun H1 => TA1 σ H1 fun vs H2 => sp (x :: vs) H2 Q (E σ)) : tMethD C m sp [] E ta TA1 σ H Q := g_meth h
theorem v_meth {C a dx : Addr} {m : Str} {fs : List (Str × V)} {S : Hp → Prop} (h : H a = some (.ins C dx fs)) (l : fs.lookup m = none) (q : S H) : MethK C m (.ref a) H S := ⟨_, _, _, rfl, h, l, q⟩
theorem g_orL {te' : TE} (h : te σ H Q) : tEor te te' σ H Q := .inl h
theorem g_orR {te' : TE} (h : te' σ H Q) : tEor te te' σ H Q := .inr h
theorem g_lstRg {a b : TE} (h : a σ H fun x H1 => b σ H1 fun y H2 => ∃ i j, x = .int i ∧ y = .int j ∧ RgOk i j ∧ ∀ q, H2 q = none → Q (.ref q) (upd H2 q (.lst (rgV i j)))) : tLstRg (tRg2 a b) σ H Q := h
theorem ite_same {c A : Prop} [Decidable c] (h : A) : if c then A else A := by
  split <;> exact h
end
end G

/-! an own exception over own classes over ValueError, whose __init__ says super().__init__(f'{..}: {..}') and keeps its two values -/
namespace PySem
namespace FaX
open PySem.W PySem.Calls PyProof.Rows PySem.HandSPX
def fA : Arguments := { posonlyargs := [], args := [{ arg := "self", annotation := none, pos := ⟨6, 17, 6, 21⟩ }, { arg := "place", annotation := none, pos := ⟨6, 23, 6, 28⟩ }, { arg := "reason", annotation := none, pos := ⟨6, 30, 6, 36⟩ }], vararg := none, kwonlyargs := [], kw_defaults := [], kwarg := none, defaults := [] }
def fB : List Stmt := [
  .Expr (.Call (.Attribute (.Call (.Name "super" ⟨7, 8, 7, 13⟩) [] [] ⟨7, 8, 7, 15⟩) "__init__" ⟨7, 8, 7, 24⟩) [.JoinedStr [.FormattedValue (.Name "place" ⟨7, 28, 7, 33⟩) (-1) none ⟨7, 27, 7, 34⟩, .Constant (.str ": ") 0 ⟨7, 34, 7, 36⟩, .FormattedValue (.Name "reason" ⟨7, 37, 7, 43⟩) (-1) none ⟨7, 36, 7, 44⟩] ⟨7, 25, 7, 45⟩] [] ⟨7, 8, 7, 46⟩) ⟨7, 8, 7, 46⟩,
  .Assign [.Attribute (.Name "self" ⟨8, 8, 8, 12⟩) "place" ⟨8, 8, 8, 18⟩] (.Name "place" ⟨8, 21, 8, 26⟩) ⟨8, 8, 8, 26⟩,
  .Assign [.Attribute (.Name "self" ⟨9, 8, 9, 12⟩) "reason" ⟨9, 8, 9, 19⟩] (.Name "reason" ⟨9, 22, 9, 28⟩) ⟨9, 8, 9, 28⟩]
def fS : Scope := { kind := .function, names := [(PySem.Str.ofString "self", .local), (PySem.Str.ofString "place", .local), (PySem.Str.ofString "reason", .local), (PySem.Str.ofString "__class__", .free), (PySem.Str.ofString "super", .globalImplicit)], isGenerator := false, isCoroutine := false, more := [] }
/-- what the written part says of Fault, at C, and of its __init__, at fI -/
structure FaTxt (P : Program) (K : Frag) (mg : Str → Option Value) (C fI : Addr) : Prop where
  gC : mg "Fault" = some (.ref C)
  gS : mg "super" = none
  ini : excInitIn K C He.veBase "ValueError.__new__" = true
  cd : ∃ cd, clsIn K C = some cd ∧ refsVE cd.mro = true ∧ cd.hasDict = true
  sa : findIn K (.ref C) "__setattr__" = some (some (.builtin "object.__setattr__"))
  ga : findIn K (.ref C) "__getattribute__" = some (some (.builtin "BaseException.__getattribute__"))
  gg : findIn K (.ref C) "__getattr__" = some none
  noP : findIn K (.ref C) "place" = some none
  noR : findIn K (.ref C) "reason" = some none
  iC : findIn K (.ref C) "__init__" = some (some (.ref fI))
  tC : typeIn K (.ref fI) = some (.type "function")
  kC : keepIn K (.ref C) = true
  exC : subIn K (.ref C) (.type "BaseException") = some true
  vB : subIn K (.ref C) (.type "ValueError") = some true
  tyC : typeIn K (.ref C) = some (.type "type")
  hdC : hasDictIn K C = true
  te : exmOne K (.ref C) (.ref C) = some true
  sup : ks_superIn K C C "__init__" = some (some (.builtin "ValueError.__init__"))
  self : mroIn K C (.ref C) = some true
  opq : nsIn K cStatics "thirdparty.any" = some none
  top : (P.main.scope.names.lookup ("super" : Str)).isSome = false
  fn : ∃ (oc : Value) (od : Option Addr) (doc pm : Value) (an : Option Addr) (cda : Addr) (ct : Value) (osl : Array (Option Value)) (cc : Addr) (cdo : Obj) (vs : Array Value) (tf : Tok) (co : Obj),
    K.lookup fI = some ⟨oc, od, .func (ksFn "__init__" "Fault.__init__" fA fB fS .none .none doc pm an (.ref cda) ct cc), osl⟩ ∧ codeIn K (.ref cda) "Fault.__init__" = true ∧
    K.lookup cda = some cdo ∧ cdo.data = .fields vs ∧ vs[2]? = some (.str P.main.file tf) ∧ K.lookup cc = some co ∧ co.data = .cell (some (.ref C))
/-- what __init__ leaves of a fresh exception at x -/
structure InitEnd (h h' : Heap) (x C dx t1 : Addr) (v u : Value) : Prop where
  keep : ∀ b o, b ≠ x → h.get? b = some o → h'.get? b = some o
  obj : h'.get? x = some { cls := .ref C, dict := some dx, data := .fields #[.ref t1, .none, .none, .none, .bool false, .none] }
  dbig : h.objs.size ≤ dx
  dne : dx ≠ x
  ns : h'.Ns1 dx (fun y => if y = "reason" then some u else if y = "place" then some v else none)
section
variable {prog : Program} {w : World} {A : Around} {E : Value → Shared → Prop} {R : Result → Shared → Prop} {s : Shared} {K : Frag} {mg mb : Str → Option Value} {C fI : Addr}
theorem ldK {M : Model} {s : Shared} {name : Str} {scope : Scope} {L a cc : Addr} {cd : Value} {m : Str → Option Value} {x : Str} {pos : Pos} {v : Value} {Q : Value → Shared → Prop} {A : Around} {E : Value → Shared → Prop} (hn : s.heap.Ns L m) (hv : m x = some v) (h : Q v s)
    (hk : scope.kind = .function := by rfl) (hl : (ksEnv name scope L a cd cc).kindOf x = some .local := by rfl) (hd : (x == ("__debug__" : Str)) = false := by decide) :
    wpAny M A (eval (.Name x pos) (ksEnv name scope L a cd cc)) Q E s := wpAny_Name (wpAny_loadName_local hk hl hn hv h) hd
theorem fault_init (T : FaTxt prog K mg C fI) {x t0 : Addr} {i : Int} {r : Str} {ti tr : Tok} (X : K.In s.heap) (hlim : s.heap.NoLimit) (hG : s.heap.Ns mainGlobals mg) (hB : s.heap.Ns builtinsNs mb) (hmb : mb "super" = some (.type "super"))
    (hx : s.heap.get? x = some (excO C t0)) (hnx : K.lookup x = none) (hroom : A.depth < recursionLimit) (hi : i.natAbs.log2 < 1920) (hr : r.length ≤ 1000) (hj : (Str.empty ++ toString i ++ ": " ++ r : Str).length ≤ sizeLine)
    (hq : ∀ h' tk dx t1, InitEnd s.heap h' x C dx t1 (.int i ti) (.str r tr) → R (.ok (.ret .none)) { s with heap := h', toks := tk }) :
    codeAny (model prog w) A (.call (.ref fI) ⟨[.ref x, .int i ti, .str r tr], []⟩) R s := by
  obtain ⟨oc, od, doc, pm, an, cda, ct, osl, cc, cdo, vs, tf, co, ho, hcd, hcda, hcdd, hvs, hcc, hccd⟩ := T.fn
  obtain ⟨cd, hcl, hbm, hhd⟩ := T.cd
  have hxL : s.heap.objs.size ≠ x := Nat.ne_of_gt (Heap.lt_size hx)
  refine ks_codeAny_call_defAt (fd := ksFn "__init__" "Fault.__init__" fA fB fS .none .none doc pm an (.ref cda) ct cc) (body := fB) (binds := [("self", .ref x), ("place", .int i ti), ("reason", .str r tr)]) hroom (X _ _ ho) rfl hlim (codeRec_of X hcd) rfl
    (BindsTo.of_eq (by first | rfl | with_unfolding_all rfl)) (by show ∀ x ∈ fS.names, x.2 ≠ .cell; decide) (by show ∀ y ∈ ([("self", .ref x), ("place", .int i ti), ("reason", .str r tr)] : List (Str × Value)), fS.names.lookup y.1 = some .local; intro y hy; simp only [List.mem_cons, List.not_mem_nil, or_false] at hy; rcases hy with rfl | rfl | rfl <;> rfl) (fun h₁ hn k1 => ?_)
  have X1 : K.In h₁ := X.keeps k1
  show wpAt (model prog w) (A.deeper (ksEnv "Fault.__init__" fS s.heap.objs.size fI (.ref cda) cc)) (.func fB (ksEnv "Fault.__init__" fS s.heap.objs.size fI (.ref cda) cc)) (execs fB (ksEnv "Fault.__init__" fS s.heap.objs.size fI (.ref cda) cc)) _ _ _
  unfold fB
  refine ks_wpAt_execs_cons (ks_wpAt_Expr_any (ks_wpAt_MethodCall ?_))
  refine ks_wpAt_super_base (ar := { arg := "self", annotation := none, pos := ⟨6, 17, 6, 21⟩ }) rfl rfl (by decide) rfl (X1 _ _ ho) rfl rfl rfl (X1 _ _ hcda) hcdd hvs (by simp) T.top ?_
  obtain ⟨oD, hD1, hD2⟩ : ∃ oD, h₁.get? C = some oD ∧ oD.data = .cls cd := by
    have hD := hcl
    unfold clsIn at hD
    split at hD
    · rename_i c d cd' sl ho
      cases hD
      exact ⟨_, X1 _ _ ho, rfl⟩
    · cases hD
  refine ks_loadName_global rfl rfl (loadGlobal_builtin (hG.keeps k1) T.gS (hB.keeps k1) hmb ⟨rfl, ?_⟩)
  refine wpAny_loadName_free (c := cc) rfl rfl rfl ⟨_, X1 _ _ hcc, hccd⟩ ?_
  refine wpAny_loadName_local rfl rfl hn (v := .ref x) (by first | rfl | with_unfolding_all rfl | kernel_rfl) ?_
  refine ks_wpAny_isType_cls hD1 hD2 ⟨rfl, ?_⟩
  have hx1 : h₁.get? x = some (excO C t0) := k1 _ _ hx
  refine ks_wpAny_call_super hD1 hD2 hx1 rfl (fun c e => by cases e) (looks_mroIn X1 T.self) (fun h2 e2 k2 => ?_)
  have X2 : K.In h2 := X1.keeps k2
  have hx2 : h2.get? x = some (excO C t0) := k2 _ _ hx1
  have hC2 : Looks (model prog w) h2 (mroOf (.ref C)) cd.mro := fun A Q E s k q => wpAny_bind ((looks_clsIn X2 hcl) A _ E s k (wpAny_pure q))
  have hxC : x ≠ C := fun e => by
    rw [e, hD1] at hx1
    cases hx1
    cases hD2
  have I2 : InstAt h2 x (excO C t0) C none := ⟨hx2, rfl, rfl, trivial⟩
  have hsup : alongIn K "__init__" ((cd.mro.dropWhile (· != .ref C)).drop 1) = some (some (.builtin "ValueError.__init__")) := by
    have h := T.sup
    unfold ks_superIn at h
    rw [hcl] at h
    exact h
  refine kxs_getMethod kxs_ValueError e2 (looks_opaque X2 T.opq) hC2 rfl X2 hsup (I2.type.andThen (looks_subIn X2 T.vB)) hxC (by decide) ?_
  obtain ⟨u, hu⟩ : ∃ u, u = h2.objs.size := ⟨_, rfl⟩
  obtain ⟨h3, eh3⟩ : ∃ h3, h3 = h2.push (kxs_mw "ValueError.__init__" x) := ⟨_, rfl⟩
  have k3 : ∀ b o, h2.get? b = some o → h3.get? b = some o := fun b o e => by rw [eh3]; exact Heap.get?_push_of_some _ e
  have hu3 : h3.get? u = some (kxs_mw "ValueError.__init__" x) := by rw [eh3, hu]; exact Heap.get?_push_at rfl rfl
  rw [← hu, ← eh3]
  show wpAny _ _ (callWith _ (.ref u) [] (backTo _ (starEach [_] _)) []) _ _ _
  refine kxs_callWith (i := "ValueError.__init__") (x := x) rfl (evalArgs_plain ?_)
  have k03 : ∀ b o, s.heap.get? b = some o → h3.get? b = some o := fun b o e => k3 _ _ (k2 _ _ (k1 _ _ e))
  have m1 : (fun y => List.lookup y (List.reverse [(("self" : Str), Value.ref x), ("place", .int i ti), ("reason", .str r tr)])) "self" = some (.ref x) := by first | rfl | with_unfolding_all rfl | kernel_rfl
  have m2 : (fun y => List.lookup y (List.reverse [(("self" : Str), Value.ref x), ("place", .int i ti), ("reason", .str r tr)])) "place" = some (.int i ti) := by first | rfl | with_unfolding_all rfl | kernel_rfl
  have m3 : (fun y => List.lookup y (List.reverse [(("self" : Str), Value.ref x), ("place", .int i ti), ("reason", .str r tr)])) "reason" = some (.str r tr) := by first | rfl | with_unfolding_all rfl | kernel_rfl
  generalize (fun y => List.lookup y (List.reverse [(("self" : Str), Value.ref x), ("place", .int i ti), ("reason", .str r tr)])) = m at hn m1 m2 m3
  have n3 : h3.Ns s.heap.objs.size m := hn.keeps fun b o e => k3 _ _ (k2 _ _ e)
  have la : ∀ x y : Str, (x ++ y).length = x.length + y.length := fun x y => by
    show (x.cps ++ y.cps).size = _
    rw [Array.size_append]
    rfl
  have hj' := hj
  rw [la, la, la] at hj'
  have hx3 : h3.get? x = some (excO C t0) := k3 _ _ hx2
  have L3 : s.heap.objs.size < h3.objs.size := by
    obtain ⟨o, es, ep, e, _⟩ := n3
    exact Heap.lt_size e
  refine spliced_cons (wpAny_JoinedStr (pos := ⟨7, 25, 7, 45⟩) ?_)
  -- the call of the wrapper, whatever the text
  have rest : ∀ (z : Value) (t4 : Nat), wpAny (model prog w) (A.deeper (ksEnv "Fault.__init__" fS s.heap.objs.size fI (.ref cda) cc)) (call (.ref u) [z]) (fun _ s' => wpAt (model prog w) (A.deeper (ksEnv "Fault.__init__" fS s.heap.objs.size fI (.ref cda) cc)) (.func fB (ksEnv "Fault.__init__" fS s.heap.objs.size fI (.ref cda) cc))
      (execs [.Assign [.Attribute (.Name "self" ⟨8, 8, 8, 12⟩) "place" ⟨8, 8, 8, 18⟩] (.Name "place" ⟨8, 21, 8, 26⟩) ⟨8, 8, 8, 26⟩, .Assign [.Attribute (.Name "self" ⟨9, 8, 9, 12⟩) "reason" ⟨9, 8, 9, 19⟩] (.Name "reason" ⟨9, 22, 9, 28⟩) ⟨9, 8, 9, 28⟩] (ksEnv "Fault.__init__" fS s.heap.objs.size fI (.ref cda) cc))
      (fun f s' => R (.ok (.ret (match f with | .ret v => v | _ => .none))) s')
      (fun e s' => wpAny (model prog w) (A.deeper (ksEnv "Fault.__init__" fS s.heap.objs.size fI (.ref cda) cc)) (leaving (ksEnv "Fault.__init__" fS s.heap.objs.size fI (.ref cda) cc) e) (fun _ s'' => R (.error e) s'') (fun e' s'' => R (.error e') s'') s') s')
      (fun e s' => wpAny (model prog w) (A.deeper (ksEnv "Fault.__init__" fS s.heap.objs.size fI (.ref cda) cc)) (leaving (ksEnv "Fault.__init__" fS s.heap.objs.size fI (.ref cda) cc) e) (fun _ s'' => R (.error e) s'') (fun e' s'' => R (.error e') s'') s') { s with heap := h3, toks := t4 } := by
    intro z t4
    obtain ⟨nm, N', qn, bs, bm, hdct, sn, sub, ab, col, dd, c0, c1, c2, c3, c5, hC, hT⟩ := excInit_of (X2.keeps k3) T.ini
    obtain ⟨hp0, g, dr, tk0, os⟩ := s
    refine wpAny_call (codeAny_of_tree ?_)
    show wpAny _ _ (callAny (.ref u) ⟨[z], []⟩) _ _ _
    simp only [callAny]
    refine wpAny_bind (wpAny_load hu3 ?_)
    simp only [kxs_mw, show (Value.type "method-wrapper" == Value.type "method" || Value.type "method-wrapper" == Value.type "builtin_function_or_method" || Value.type "method-wrapper" == Value.type "method-wrapper") = true by decide, if_true]
    refine KFB.if_so (by decide) ?_
    refine wpAny_bind (check_bound_init F.excBase_ValueError.toExcCallFacts hC hx3 rfl ?_)
    refine wpAny_bind (wpAny_pure (wpAny_pure ?_))
    refine ⟨plainId_quiet F.excBase_ValueError.init.plain _, codeAny_builtin F.excBase_ValueError.initEntry ?_⟩
    refine exc_init_tree (cls := .ref C) (t0 := t0) (dv := none) (c2 := .none) (c3 := .none) (b4 := .bool false) hx3 (by rw [sizeLine_eq]; show 1 ≤ 16777216; decide) fun h4 k4 hx4 ht4 => ?_
    have n4 : h4.Ns hp0.objs.size m := by
      obtain ⟨oL, es, ep, hL, r⟩ := n3
      exact ⟨oL, es, ep, k4 _ _ hxL hL, r⟩
    have L4 : hp0.objs.size < h4.objs.size := by
      obtain ⟨o, es, ep, e, _⟩ := n4
      exact Heap.lt_size e
    have kb : ∀ {h h' : Heap}, K.In h → (∀ b o, b ≠ x → h.get? b = some o → h'.get? b = some o) → K.In h' := fun X k a o e => k a o (fun z => by rw [z, hnx] at e; cases e) (X a o e)
    have X4 : K.In h4 := kb (X2.keeps k3) k4
    refine wpAt_of_wpAny (wpAny_execs_cons (plainObj_wpAny_Assign_Attribute ?_))
    refine ldK n4 m2 (ldK n4 m1 ?_)
    refine set_plain X4 (ox := { cls := .ref C, dict := none, data := .fields #[.ref h3.objs.size, .none, .none, .none, .bool false, .none] }) (od := none) ⟨hx4, rfl, rfl, trivial⟩ T.sa ?_
    refine exc_osa X4 hx4 hcl hbm hhd T.noP (fun h5 tk5 dx k5 dn dne hx5 hn5 => ?_)
    have X5 : K.In h5 := kb X4 k5
    have dn' : h4.objs.size ≤ dx := dn
    have n5 : h5.Ns hp0.objs.size m := by
      obtain ⟨oL, es, ep, hL, r⟩ := n4
      exact ⟨oL, es, ep, k5 _ _ hxL hL, r⟩
    refine wpAny_execs_cons (plainObj_wpAny_Assign_Attribute ?_)
    refine ldK n5 m3 (ldK n5 m1 ?_)
    have hw5 : Within (fun y : Str => if y = "place" then some (Value.int i ti) else none) ["place"] := fun y hy => by
      by_cases e : y = "place"
      · rw [e]; exact List.mem_cons_self
      · exact absurd (if_neg e) hy
    obtain ⟨oD5, es5, ep5, hoD5, hdD5, _⟩ := hn5.count hw5
    refine set_plain X5 (ox := { cls := .ref C, dict := some dx, data := .fields #[.ref h3.objs.size, .none, .none, .none, .bool false, .none] }) (od := some oD5) ⟨hx5, rfl, rfl, hoD5⟩ T.sa ?_
    refine OEX.osa_old X5 hx5 hn5 hw5 (by decide) hcl hbm hhd T.noR (fun h6 tk6 k6 hn6 => ?_)
    refine wpAny_execs_nil ?_
    refine hq h6 tk6 dx h3.objs.size ⟨fun b o hb e => ?_, k6 _ _ (Ne.symm dne) hx5, by show hp0.objs.size ≤ dx; omega, dne, hn6⟩
    have lt : b < hp0.objs.size := Heap.lt_size e
    exact k6 _ _ (Nat.ne_of_lt (Nat.lt_of_lt_of_le (Nat.lt_trans lt L4) dn')) (k5 _ _ hb (k4 _ _ hb (k03 _ _ e)))
  refine wpAny_FormattedValue_plain (ldK n3 m2 (wpAny_formatField_int hi ?_))
  refine ⟨toString i, _, rfl, by rw [la]; omega, ?_⟩
  refine Constant_str ?_
  refine ⟨": ", _, rfl, by rw [la, la]; omega, ?_⟩
  refine wpAny_FormattedValue_plain (ldK n3 m3 (wpAny_formatField_str ?_ ?_ (by rw [sizeLine_eq]; omega)))
  · refine ⟨r, _, rfl, hj, ?_⟩
    refine ⟨hj, ?_⟩
    refine spliced_nil ⟨hu3, ?_⟩
    exact rest _ _
  · refine ⟨r, _, rfl, hj, ?_⟩
    refine ⟨hj, ?_⟩
    refine spliced_nil ⟨hu3, ?_⟩
    exact rest _ _
end
end FaX
end PySem

namespace PySem
namespace FaX
open PySem.W PySem.Calls PyProof.Rows PySem.HandSPX
/-- a made Fault -/
structure Made (h h' : Heap) (e C d : Addr) (v u : Value) : Prop where
  keep : ∀ b o, h.get? b = some o → h'.get? b = some o
  new : h.objs.size ≤ e
  obj : ∃ oe vs, h'.get? e = some oe ∧ oe.cls = .ref C ∧ oe.dict = some d ∧ oe.data = .fields vs ∧ vs[1]? = some .none
  dbig : h.objs.size ≤ d
  dne : d ≠ e
  ns : h'.Ns1 d (fun y => if y = "reason" then some u else if y = "place" then some v else none)
section
variable {prog : Program} {w : World} {A : Around} {E : Value → Shared → Prop} {R : Result → Shared → Prop} {s : Shared} {K : Frag} {mg mb : Str → Option Value} {C fI : Addr}
theorem fault_made (T : FaTxt prog K mg C fI) {i : Int} {r : Str} {ti tr : Tok} (X : K.In s.heap) (hlim : s.heap.NoLimit) (hG : s.heap.Ns mainGlobals mg) (hB : s.heap.Ns builtinsNs mb) (hmb : mb "super" = some (.type "super"))
    (hroom : A.depth + 1 < recursionLimit) (hi : i.natAbs.log2 < 1920) (hr : r.length ≤ 1000) (hj : (Str.empty ++ toString i ++ ": " ++ r : Str).length ≤ sizeLine)
    (hq : ∀ h' tk e d, Made s.heap h' e C d (.int i ti) (.str r tr) → R (.ok (.ret (.ref e))) { s with heap := h', toks := tk }) :
    codeAny (model prog w) A (.call (.ref C) ⟨[.int i ti, .str r tr], []⟩) R s := by
  obtain ⟨nm, N', qn, bs, bm, hdct, sn, sub, ab, col, dd, c0, c1, c2, c3, c5, hC, hT⟩ := excInit_of X T.ini
  obtain ⟨hp, g, dr, tk, os⟩ := s
  have k : ∀ b o, hp.get? b = some o → ((hp.push (kdv_tup [.int i ti, .str r tr])).push (excO C hp.objs.size)).get? b = some o := fun b o e => Heap.get?_push_of_some _ (Heap.get?_push_of_some _ e)
  have hget : ((hp.push (kdv_tup [.int i ti, .str r tr])).push (excO C hp.objs.size)).get? (hp.objs.size + 1) = some (excO C hp.objs.size) := by heap_get
  have hnx : K.lookup (hp.objs.size + 1) = none := by
    cases e : K.lookup (hp.objs.size + 1) with
    | none => rfl
    | some o =>
      have z : hp.get? (hp.objs.size + 1) = some o := X _ _ e
      exact absurd (Nat.lt_of_succ_lt (Heap.lt_size z)) (Nat.lt_irrefl _)
  refine call_own F.excBase_ValueError hT hC (looks_findIn X T.iC) (fun self => bind_fn X self T.tC) (by rw [sizeLine_eq]; show 2 ≤ 16777216; decide) ?_
  refine fault_init (s := ⟨(hp.push (kdv_tup [.int i ti, .str r tr])).push (excO C hp.objs.size), g, dr, tk, os⟩) T (X.keeps k) (hlim.keeps k) (hG.keeps k) (hB.keeps k) hmb hget hnx ?_ hi hr hj fun h' tk' dx t1 ⟨k', hx, dn, dne, hns⟩ => ?_
  · show A.depth + 1 < recursionLimit
    exact hroom
  · have old : ∀ b o, hp.get? b = some o → h'.get? b = some o := fun b o e => k' b o (Nat.ne_of_lt (Nat.lt_succ_of_lt (Heap.lt_size e))) (k b o e)
    have z : hp.objs.size + 1 + 1 ≤ dx := by
      first
        | (simpa only [Heap.size_push] using dn)
        | exact dn
        | (have q := dn; rw [Heap.size_push, Heap.size_push] at q; exact q)
    exact ⟨rfl, hq h' tk' (hp.objs.size + 1) dx ⟨old, Nat.le_succ _, ⟨_, _, hx, rfl, rfl, rfl, rfl⟩, Nat.le_trans (Nat.le_trans (Nat.le_succ _) (Nat.le_succ _)) z, dne, hns⟩⟩
end
end FaX
end PySem
namespace L2
open PySem PySem.Spec PyProof.Rows
def faD (i : Int) (r : Str) : List (Str × V) := [("reason", .str r), ("place", .int i)]
theorem relO_fault {v u : V} {v' u' : Value} (r : RelV v v') (r2 : RelV u u') (f : Str) : RelO (List.lookup f [(("reason" : Str), u), ("place", v)]) (if f = "reason" then some u' else if f = "place" then some v' else none) := by
  rw [lookup_put, lookup_put]
  by_cases h : f = "reason"
  · rw [if_pos h, if_pos h]
    exact r2
  · rw [if_neg h, if_neg h]
    by_cases h2 : f = "place"
    · rw [if_pos h2, if_pos h2]
      exact r
    · rw [if_neg h2, if_neg h2]
      exact True.intro
section
variable {X : Cx} {C fI : Addr}
/-- Fault(a, b) -/
def tMkF (C : Addr) (ta : TA) : St → Hp → XK → Prop := fun σ H Q => ta σ H fun vs H1 => ∃ (i : Int) (r : Str), vs = [.int i, .str r] ∧ i.natAbs < 1000000000 ∧ r.length ≤ 1000 ∧ ∀ d, H1 d = none → Q (.ref C) (some d) (upd H1 d (.xd (faD i r)))
theorem pmk_fault {a b : Expr} {ta : TA} {p pos : Pos} {k : Nat} (T : PySem.FaX.FaTxt X.prog X.K X.mg C fI) (hr : Room k X.A) (hk : 1 ≤ k) (ha : PA X [a, b] ta) (hg : Gl X "Fault" := by rfl)
    (he : starEach (a :: [b]) X.env = (false, eval a X.env) :: starEach [b] X.env := by rfl) (hpl : (backTo pos (starEach [b] X.env)).any (·.1) = false := by rfl) :
    PMk X (.Call (.Name "Fault" p) [a, b] [] pos) (tMkF C ta) := by
  intro pins s σ H Q I h
  refine wpAny_Call_Name_kw (ld_glob I hg T.gC ?_)
  refine PySem.W.callWith_K (h₀ := X.base) I.ok.mod.kin T.kC (thn (ha.run pos pins s σ H _ I h) fun us s1 hh => ?_) he hpl
  obtain ⟨vs, H1, I1, r1, i, r, ev, hi, hrl, q1⟩ := hh
  subst ev
  refine ⟨I1.kIn, ?_⟩
  cases r1 with
  | cons rv rn =>
    rename_i v' us'
    cases rn with
    | cons ru rn =>
      rename_i u' us'
      cases rn
      obtain ⟨ti, rfl⟩ := id rv
      obtain ⟨tr, rfl⟩ := id ru
      show wpAny _ _ (call (.ref C) [.int i ti, .str r tr]) _ _ _
      have hlim := I1.nolimit
      have hlog : i.natAbs.log2 < 1920 := by
        have e : i.natAbs.log2 < 30 := by
          by_cases z : i.natAbs = 0
          · rw [z]; decide
          · exact (Nat.log2_lt z).mpr (Nat.lt_trans hi (by decide))
        omega
      have la : ∀ x y : Str, (x ++ y).length = x.length + y.length := fun x y => by
        show (x.cps ++ y.cps).size = _
        rw [Array.size_append]
        rfl
      have hj : (Str.empty ++ toString i ++ ": " ++ r : Str).length ≤ sizeLine := by
        have e := int_text_length_le (k := 1920) (by decide) hlog
        rw [la, la, la, PySem.ofString_length (toString i), sizeLine_eq]
        show 0 + _ + 2 + _ ≤ 16777216
        omega
      obtain ⟨mb, hmb1, hmb2⟩ := I1.ok.mod.blt
      obtain ⟨hp, g, dr, tk, os⟩ := s1
      refine wpAny_call (PySem.FaX.fault_made T I1.kIn hlim (I1.ok.mod.glob.keeps I1.bk) (hmb1.keeps I1.bk) ((hmb2 "super" (by decide)).trans (by first | rfl | decide +kernel | kernel_rfl)) (by have := hr.dp; omega) hlog hrl hj fun h' tk' e d M => ?_)
      show MkP X pins σ Q (.ref e) ⟨h', g, dr, tk', os⟩
      obtain ⟨oe, fv, hoe, hc, hd, hdat, h1⟩ := M.obj
      have hns := M.ns
      obtain ⟨G', g1, g2⟩ := restrict h' fun b => decide (b ≠ e)
      have gk : ∀ b, b ≠ e → G'.get? b = h'.get? b := fun b hb => g1 b (decide_eq_true hb)
      have ge : G'.get? e = none := g2 e (by simp)
      have old : ∀ b o, hp.get? b = some o → G'.get? b = some o := fun b o q => (gk b (Nat.ne_of_lt (Nat.lt_of_lt_of_le (Heap.lt_size q) M.new))).trans (M.keep b o q)
      have ob : ObjOk X.prog X.w (upd H1 d (.xd (faD i r))) G' d (.xd (faD i r)) :=
        ⟨_, hns.at (fun o q => (gk d M.dne).trans q), fun f => relO_fault (v := .int i) (u := .str r) rv ru f⟩
      have J : Inv X pins σ (upd H1 d (.xd (faD i r))) ⟨G', g, dr, tk', os⟩ := I1.laid (t' := tk') old M.dbig ob
      refine ⟨e, oe, fv, ⟨G', g, dr, tk', os⟩, _, .ref C, some d, rfl, J, fun b o q => ?_, ge, hoe, ⟨hc, hd⟩, hdat, h1, ?_, rfl, I1.bare, raises_own T.exC T.tyC, q1 d (I1.hok.fresh M.dbig)⟩
      · by_cases hb : b = e
        · have q' : G'.get? b = some o := q
          rw [hb, ge] at q'; cases q'
        · exact (gk b hb).symm.trans q
      · rw [upd_ne (Ne.symm M.dne)]
        exact I1.hok.fresh M.new
end
end L2
namespace G
open PySem PySem.W PyProof.Rows
/-! ### the head's facts of a class Fault -/
abbrev FnC := Option (Str × Str × Arguments × FuncBody × Scope × Addr × List Str × Addr)
def fnC (K : Frag) (p : Str × Option Str) : FnC := match K.lookup (He.fAd K p) with
  | some ⟨_, _, .func fd, _⟩ => some (fd.name, fd.qualname, fd.params, fd.body, fd.scope, fd.globals, fd.closure.map (·.1), fd.builtins)
  | _ => none
def fnF : FnC := some ("__init__", "Fault.__init__", FaX.fA, .stmts FaX.fB, FaX.fS, mainGlobals, ["__class__"], builtinsNs)
def isNo : Value → Bool
  | .none => true
  | _ => false
theorem isNo_ok {v : Value} (h : isNo v = true) : v = .none := by cases v <;> first | rfl | cases h
def cellB (K : Frag) (cc C : Addr) : Bool := match K.lookup cc with
  | some co => (match co.data with
    | .cell (some (.ref a)) => decide (a = C)
    | _ => false)
  | none => false
theorem cellB_ok {K : Frag} {cc C : Addr} (h : cellB K cc C = true) : ∃ co, K.lookup cc = some co ∧ co.data = .cell (some (.ref C)) := by
  unfold cellB at h
  split at h
  · rename_i co e
    split at h
    · rename_i a e2
      exact ⟨co, e, by rw [e2, of_decide_eq_true h]⟩
    · cases h
  · cases h
def fileB (K : Frag) (cda : Addr) (file : Str) : Bool := match K.lookup cda with
  | some co => (match co.data with
    | .fields vs => (match (vs[2]? : Option Value) with
      | some (Value.str f _) => decide (f = file)
      | _ => false)
    | _ => false)
  | none => false
theorem fileB_ok {K : Frag} {cda : Addr} {file : Str} (h : fileB K cda file = true) : ∃ co vs tf, K.lookup cda = some co ∧ co.data = .fields vs ∧ vs[2]? = some (.str file tf) := by
  unfold fileB at h
  split at h
  · rename_i co e
    split at h
    · rename_i vs e2
      split at h
      · rename_i f tf e3
        exact ⟨co, vs, tf, e, e2, by rw [e3, of_decide_eq_true h]⟩
      · cases h
    · cases h
  · cases h
def codB (K : Frag) (v : Value) (file : Str) : Bool := match v with
  | .ref cda => codeIn K (.ref cda) "Fault.__init__" && fileB K cda file
  | _ => false
def cloB (K : Frag) (l : List (Str × Addr)) (C : Addr) : Bool := match l with
  | [(_, cc)] => cellB K cc C
  | _ => false
def clB (K : Frag) (C : Addr) : Bool := match clsIn K C with
  | some cd => HandSPX.refsVE cd.mro && cd.hasDict
  | none => false
def fuB (K : Frag) (file : Str) : Bool := match K.lookup (He.fAd K ("Fault", some "__init__")) with
  | some ⟨_, _, .func fd, _⟩ => isNo fd.defaults && (isNo fd.kwdefaults && (codB K fd.code file && cloB K fd.closure (He.ga K "Fault")))
  | _ => false
def faBs (file : Str) (K : Frag) : List Bool := [
  He.eqO (nsIn K mainGlobals "Fault") (some (some (.ref (He.ga K "Fault")))),
  He.eqO (nsIn K mainGlobals "super") (some none),
  excInitIn K (He.ga K "Fault") He.veBase "ValueError.__new__",
  clB K (He.ga K "Fault"),
  He.eqO (findIn K (.ref (He.ga K "Fault")) "__setattr__") (some (some (.builtin "object.__setattr__"))),
  He.eqO (findIn K (.ref (He.ga K "Fault")) "__getattribute__") (some (some (.builtin "BaseException.__getattribute__"))),
  He.eqO (findIn K (.ref (He.ga K "Fault")) "__getattr__") (some none),
  He.eqO (findIn K (.ref (He.ga K "Fault")) "place") (some none),
  He.eqO (findIn K (.ref (He.ga K "Fault")) "reason") (some none),
  He.eqO (findIn K (.ref (He.ga K "Fault")) "__init__") (some (some (.ref (He.fAd K ("Fault", some "__init__"))))),
  decide (typeIn K (.ref (He.fAd K ("Fault", some "__init__"))) = some (.type "function")),
  keepIn K (.ref (He.ga K "Fault")),
  decide (subIn K (.ref (He.ga K "Fault")) (.type "BaseException") = some true),
  decide (subIn K (.ref (He.ga K "Fault")) (.type "ValueError") = some true),
  decide (typeIn K (.ref (He.ga K "Fault")) = some (.type "type")),
  hasDictIn K (He.ga K "Fault"),
  decide (exmOne K (.ref (He.ga K "Fault")) (.ref (He.ga K "Fault")) = some true),
  He.eqO (ks_superIn K (He.ga K "Fault") (He.ga K "Fault") "__init__") (some (some (.builtin "ValueError.__init__"))),
  decide (mroIn K (He.ga K "Fault") (.ref (He.ga K "Fault")) = some true),
  He.eqO (nsIn K cStatics "thirdparty.any") (some none),
  fuB K file]
theorem faTxt_of {P : Program} {K : Frag} {h : Heap} {mg : Str → Option Value} (X : K.In h) (Gm : h.Ns mainGlobals mg) (e : fnC K ("Fault", some "__init__") = fnF) (c : (faBs P.main.file K).all id = true) (ht : (P.main.scope.names.lookup ("super" : Str)).isSome = false) :
    FaX.FaTxt P K mg (He.ga K "Fault") (He.fAd K ("Fault", some "__init__")) := by
  have at_ : ∀ (i : Nat) (b : Bool), (faBs P.main.file K)[i]? = some b → b = true := fun i b hb => List.all_eq_true.mp c b (List.mem_of_getElem? hb)
  have hcl : clB K (He.ga K "Fault") = true := at_ 3 _ rfl
  have hfu : fuB K P.main.file = true := at_ 20 _ rfl
  refine {
    gC := mg_of X Gm (He.eqO_ok (at_ 0 _ rfl))
    gS := mg_none_of X Gm (He.eqO_ok (at_ 1 _ rfl))
    ini := at_ 2 _ rfl
    cd := ?_
    sa := He.eqO_ok (at_ 4 _ rfl)
    ga := He.eqO_ok (at_ 5 _ rfl)
    gg := He.eqO_ok (at_ 6 _ rfl)
    noP := He.eqO_ok (at_ 7 _ rfl)
    noR := He.eqO_ok (at_ 8 _ rfl)
    iC := He.eqO_ok (at_ 9 _ rfl)
    tC := of_decide_eq_true (at_ 10 _ rfl)
    kC := at_ 11 _ rfl
    exC := of_decide_eq_true (at_ 12 _ rfl)
    vB := of_decide_eq_true (at_ 13 _ rfl)
    tyC := of_decide_eq_true (at_ 14 _ rfl)
    hdC := at_ 15 _ rfl
    te := of_decide_eq_true (at_ 16 _ rfl)
    sup := He.eqO_ok (at_ 17 _ rfl)
    self := of_decide_eq_true (at_ 18 _ rfl)
    opq := He.eqO_ok (at_ 19 _ rfl)
    top := ht
    fn := ?_ }
  · unfold clB at hcl
    split at hcl
    · rename_i cd e
      obtain ⟨h1, h2⟩ := He.ba hcl
      exact ⟨cd, e, h1, h2⟩
    · cases hcl
  · unfold fuB at hfu
    unfold fnC at e
    split at hfu
    · rename_i oc od fd osl lk
      rw [lk] at e
      obtain ⟨n1, n2, n3, n4, n5, n6, n7, n8, n9, n10, n11, n12, n13, n14, n15⟩ := fd
      obtain ⟨b1, b2⟩ := He.ba hfu
      obtain ⟨b3, b4⟩ := He.ba b2
      obtain ⟨b5, b6⟩ := He.ba b4
      clear hfu b2 b4
      have c1 : n8 = .none := isNo_ok b1
      have c3 : n9 = .none := isNo_ok b3
      have c5 : codB K n13 P.main.file = true := b5
      have c6 : cloB K n7 (He.ga K "Fault") = true := b6
      clear b1 b3 b5 b6
      have e2 : (some (n1, n2, n3, n4, n5, n6, n7.map (·.1), n15) : FnC) = fnF := e
      unfold fnF at e2
      simp only [Option.some.injEq, Prod.mk.injEq] at e2
      obtain ⟨rfl, rfl, rfl, rfl, rfl, rfl, e7, rfl⟩ := e2
      subst c1 c3
      unfold codB at c5
      split at c5
      · rename_i cda
        obtain ⟨k1, k2⟩ := He.ba c5
        obtain ⟨cdo, vs, tf, f1, f2, f3⟩ := fileB_ok k2
        unfold cloB at c6
        split at c6
        · rename_i nm cc
          have e7' : nm = "__class__" := by
            have := e7
            simp at this
            exact this
          subst e7'
          obtain ⟨co, g1, g2⟩ := cellB_ok c6
          exact ⟨oc, od, _, _, _, cda, _, osl, cc, cdo, vs, tf, co, lk, k1, f1, f2, f3, g1, g2⟩
        · cases c6
      · cases c5
    · cases hfu
/-! ### the hook -/
def asY (g : Addr → Option Obj) (n : Nat) : List Addr := cStatics :: He.asD g n
abbrev AlY : Type := He.AlD × FnC × Bool
def obsY (n : Nat) (fa : List He.Fa) (fn : List He.DefD) (ex : Frag → Bool) (file : Str) (g : Addr → Option Obj) : AlY :=
  (He.obsD fa fn (He.frT g (asY g n)), fnC (He.frT g (asY g n)) ("Fault", some "__init__"), ex (He.frT g (asY g n)) && (faBs file (He.frT g (asY g n))).all id)
def valY (fn : List He.DefD) : AlY := (He.valD fn, fnF, true)
structure SaysY (fa : List He.Fa) (fn : List He.DefD) (ex : Frag → Bool) (file : Str) (K : Frag) : Prop where
  d : He.SaysD fa fn K
  f : fnC K ("Fault", some "__init__") = fnF
  more : ex K = true
  b : (faBs file K).all id = true
def hookY (n : Nat) (fa : List He.Fa) (fn : List He.DefD) (ex : Frag → Bool) (file : Str) : Hook where
  α := AlY
  obs := fun s => obsY n fa fn ex file s.heap.get?
  val := fun _ => valY fn
  says := fun _ h => ∃ K : Frag, K.In h ∧ SaysY fa fn ex file K
  of := fun _ _ e => ⟨_, He.frT_in, congrArg (fun z : AlY => z.1) e, congrArg (fun z : AlY => z.2.1) e, (He.ba (congrArg (fun z : AlY => z.2.2) e)).1, (He.ba (congrArg (fun z : AlY => z.2.2) e)).2⟩
  keeps := fun _ _ _ ⟨K, hK, c⟩ k => ⟨K, Frag.In.keeps hK k, c⟩
theorem obsY_eq {n : Nat} {fa : List He.Fa} {fn : List He.DefD} {ex : Frag → Bool} {file : Str} {g : Addr → Option Obj} {s : Shared} (h : ∀ a, g a = s.heap.get? a) : obsY n fa fn ex file g = (hookY n fa fn ex file).obs s := by
  have e : g = s.heap.get? := funext h
  rw [e] <;> rfl
end G
namespace G
open PySem PySem.Spec PyProof.Rows L2
/-- the program's file and its top names -/
class PI (P : Program) : Prop where
  file : P.main.file = "/claim/cut.py"
  top : (P.main.scope.names.lookup ("super" : Str)).isSome = false
/-- Fault's facts, for each such program -/
def FaT (K : PySem.W.Frag) (mg : Str → Option Value) : Prop := ∀ P : Program, PI P → FaX.FaTxt P K mg (He.ga K "Fault") (He.fAd K ("Fault", some "__init__"))
theorem FaT.txt {K : PySem.W.Frag} {mg : Str → Option Value} (T : FaT K mg) (P : Program) [h : PI P] : FaX.FaTxt P K mg (He.ga K "Fault") (He.fAd K ("Fault", some "__init__")) := T P h
theorem SaysY.fau {fa : List He.Fa} {fn : List He.DefD} {ex : PySem.W.Frag → Bool} {K : PySem.W.Frag} {h : Heap} {mg : Str → Option Value} (c : SaysY fa fn ex "/claim/cut.py" K) (X : K.In h) (Gm : h.Ns mainGlobals mg) : FaT K mg := fun P i => by
  refine faTxt_of X Gm c.f ?_ i.top
  rw [i.file]
  exact c.b
/-- raise Fault(a, b) -/
def tRaiseF (C : Addr) (W : WX) (ta : TA) : TS := fun _ σ H => tMkF C ta σ H fun cls d H' => W cls d σ H'
def tTryAs (K : PySem.W.Frag) (c : Value) (i : Nat) (tb : WX → TS) (ts : Addr → Value → Option Addr → TS) (Wout : WX) : TS := fun D σ H => tb (wAs K c i ts Wout D) D σ H
def rIsF (K : PySem.W.Frag) (D a : Addr) (cls : Value) (d : Option Addr) : List V → Hp → VK → Prop := fun xs H Q => ∃ (c : V) (cv : Value) (b : Bool) (dd : Addr) (fs : List (Str × V)), xs = [.ref a, c] ∧ ClsV c cv ∧ cls = .ref D ∧ d = some dd ∧ H dd = some (.xd fs) ∧ PySem.W.kitOne K (.ref D) cv = some b ∧ Q (.bl b) H
section
variable {X : Cx} {C fI : Addr}
theorem ps_raiseF {a b : Expr} {ta : TA} {p pos pos2 : Pos} {k : Nat} {W : WX} (hc : X.calm = true) (tk : Takes X W) (T : FaX.FaTxt X.prog X.K X.mg C fI) (hr : Room k X.A) (hk : 1 ≤ k) (ha : PA X [a, b] ta) (hg : Gl X "Fault" := by rfl)
    (he : starEach (a :: [b]) X.env = (false, eval a X.env) :: starEach [b] X.env := by rfl) (hpl : (backTo pos (starEach [b] X.env)).any (·.1) = false := by rfl) :
    PS X (.Raise (some (.Call (.Name "Fault" p) [a, b] [] pos)) none pos2) (tRaiseF C W ta) := ps_raise hc tk (pmk_fault T hr hk ha hg he hpl)
theorem xfc_of {P : Program} {K : PySem.W.Frag} {mg : Str → Option Value} (T : FaX.FaTxt P K mg C fI) : XfC K C := ⟨T.ga, T.gg, T.exC, T.hdC⟩
theorem call_isF {P : Program} {a : Addr} {oe : Obj} {cls : Value} {d : Option Addr} {pn : List (Addr × Obj)} (T : FaX.FaTxt P X.K X.mg C fI) (F : InsF X.K C) (hz : Zc cls d oe) (hf : ∃ vs, oe.data = .fields vs) : CallR (X.suite a ((a, oe) :: pn)) (.builtin "isinstance") (rIsF X.K C a cls d) := by
  intro pins s σ H xs us Q I r h
  obtain ⟨c, cv, b, dd, fs, rfl, hcv, rfl, rfl, hdd, e, q⟩ := h
  cases r with
  | cons rx rr =>
    cases rr with
    | cons rt rr =>
      cases rr
      cases rx
      have ec := hcv.eq rt
      subst ec
      obtain ⟨hget, _⟩ := I.pin (a, oe) (List.mem_append.mpr (.inl List.mem_cons_self))
      obtain ⟨vs, hv⟩ := hf
      have hx : ObjOk X.prog X.w H s.heap dd (.xd fs) := I.hok dd _ hdd
      obtain ⟨mA, hns, _⟩ := hx
      obtain ⟨od, ho, _⟩ := lookIn_ns hns
      have J : PySem.W.InstAt s.heap a oe C (some od) := ⟨hget, hz.1, by unfold PySem.W.notCls; rw [hv] <;> rfl, by rw [hz.2]; exact ho⟩
      obtain ⟨cd, hcd, _⟩ := T.cd
      exact PySem.W.kia_one (PySem.W.kitx_exc (by rw [hcd]; rfl) T.ga T.gg T.exC F.ha F.hn F.htk F.hm) I.kIn J e (fun z => nomatch z) fun tk => ⟨.bl b, H, I.kept (t' := tk) fun _ _ z => z, rfl, q⟩
end
end G
namespace G
open PySem PySem.Spec PyProof.Rows L2
section
variable {nx bk ct : L2.St → Hp → Prop} {rt : VK} {σ : L2.St} {H : Hp} {Q : VK}
/-- what a raise wants of its values -/
def FauK (C : Addr) (S : Value → Option Addr → Hp → Prop) (vs : List V) (H1 : Hp) : Prop := ∃ (i : Int) (r : Str), vs = [.int i, .str r] ∧ i.natAbs < 1000000000 ∧ r.length ≤ 1000 ∧ ∀ d, H1 d = none → S (.ref C) (some d) (upd H1 d (.xd (faD i r)))
theorem g_raise {C : Addr} {W : WX} {ta : TA} (h : ta σ H (FauK C fun cls d H' => W cls d σ H')) : tRaiseF C W ta ⟨nx, rt, bk, ct⟩ σ H := h
theorem v_fau {C : Addr} {S : Value → Option Addr → Hp → Prop} {i : Int} {r : Str} (h1 : i.natAbs < 1000000000) (h2 : r.length ≤ 1000) (q : ∀ d, H d = none → S (.ref C) (some d) (upd H d (.xd (faD i r)))) : FauK C S [.int i, .str r] H := ⟨i, r, rfl, h1, h2, q⟩
end
end G

/-! ### data that stands still (At), cells that change (HH) -/
namespace G
open PySem PySem.Spec PyProof.Rows L2
inductive D where
  | v (x : V)
  | lst (xs : List D)
  | tup (xs : List D)
  | obj (c : Str) (fs : List (Str × D))
  | dk (kvs : List (Key × D))
abbrev D.i (n : Int) : D := .v (.int n)
abbrev D.t (zs : List Nat) : D := .v (.str ⟨zs.toArray⟩)
abbrev D.b (b : Bool) : D := .v (.bl b)
abbrev D.n : D := .v .non
mutual
def At (K : PySem.W.Frag) (F : Hp) : D → V → Prop
  | .v x, u => u = x
  | .lst xs, u => ∃ a vs, u = .ref a ∧ F a = some (.lst vs) ∧ AtA K F xs vs
  | .tup xs, u => ∃ a vs, u = .ref a ∧ SqT K F a vs ∧ AtA K F xs vs
  | .obj c fs, u => ∃ a dx vs, u = .ref a ∧ F a = some (.ins (He.ga K c) dx vs) ∧ AtF K F fs vs
  | .dk kvs, u => ∃ a od vs, u = .ref a ∧ F a = some (.frz od (.dK vs)) ∧ AtK K F kvs vs
def AtA (K : PySem.W.Frag) (F : Hp) : List D → List V → Prop
  | [], vs => vs = []
  | d :: ds, vs => ∃ u us, vs = u :: us ∧ At K F d u ∧ AtA K F ds us
def AtF (K : PySem.W.Frag) (F : Hp) : List (Str × D) → List (Str × V) → Prop
  | [], vs => vs = []
  | (f, d) :: ds, vs => ∃ u us, vs = (f, u) :: us ∧ At K F d u ∧ AtF K F ds us
def AtK (K : PySem.W.Frag) (F : Hp) : List (Key × D) → List (Key × V) → Prop
  | [], vs => vs = []
  | (f, d) :: ds, vs => ∃ u us, vs = (f, u) :: us ∧ At K F d u ∧ AtK K F ds us
end
theorem Same.sqt {K : PySem.W.Frag} {H H' : Hp} {a : Addr} {xs : List V} (e : Same H H') (h : SqT K H a xs) : SqT K H' a xs := by
  rcases h with (h | ⟨o, h⟩) | h
  · exact .inl (.inl (e _ _ h))
  · exact .inl (.inr ⟨o, e _ _ h⟩)
  · exact .inr h
mutual
theorem At.mono {K : PySem.W.Frag} {F F' : Hp} (s : Same F F') : ∀ {d : D} {u : V}, At K F d u → At K F' d u
  | .v x, u, h => by unfold At at h ⊢; exact h
  | .lst xs, u, h => by
    unfold At at h ⊢
    obtain ⟨a, vs, e, hq, h⟩ := h
    exact ⟨a, vs, e, s _ _ hq, AtA.mono s h⟩
  | .tup xs, u, h => by
    unfold At at h ⊢
    obtain ⟨a, vs, e, hq, h⟩ := h
    exact ⟨a, vs, e, Same.sqt s hq, AtA.mono s h⟩
  | .obj c fs, u, h => by
    unfold At at h ⊢
    obtain ⟨a, dx, vs, e, hq, h⟩ := h
    exact ⟨a, dx, vs, e, s _ _ hq, AtF.mono s h⟩
  | .dk kvs, u, h => by
    unfold At at h ⊢
    obtain ⟨a, od, vs, e, hq, h⟩ := h
    exact ⟨a, od, vs, e, s _ _ hq, AtK.mono s h⟩
theorem AtA.mono {K : PySem.W.Frag} {F F' : Hp} (s : Same F F') : ∀ {ds : List D} {us : List V}, AtA K F ds us → AtA K F' ds us
  | [], us, h => by unfold AtA at h ⊢; exact h
  | d :: ds, us, h => by
    unfold AtA at h ⊢
    obtain ⟨u, us, e, h1, h2⟩ := h
    exact ⟨u, us, e, At.mono s h1, AtA.mono s h2⟩
theorem AtF.mono {K : PySem.W.Frag} {F F' : Hp} (s : Same F F') : ∀ {ds : List (Str × D)} {us : List (Str × V)}, AtF K F ds us → AtF K F' ds us
  | [], us, h => by unfold AtF at h ⊢; exact h
  | (f, d) :: ds, us, h => by
    unfold AtF at h ⊢
    obtain ⟨u, us, e, h1, h2⟩ := h
    exact ⟨u, us, e, At.mono s h1, AtF.mono s h2⟩
theorem AtK.mono {K : PySem.W.Frag} {F F' : Hp} (s : Same F F') : ∀ {ds : List (Key × D)} {us : List (Key × V)}, AtK K F ds us → AtK K F' ds us
  | [], us, h => by unfold AtK at h ⊢; exact h
  | (f, d) :: ds, us, h => by
    unfold AtK at h ⊢
    obtain ⟨u, us, e, h1, h2⟩ := h
    exact ⟨u, us, e, At.mono s h1, AtK.mono s h2⟩
end
section
variable {K : PySem.W.Frag} {F F' H H' : Hp} {u x w : V} {d : D} {ds es : List D} {us vs : List V} {M : List (Addr × HO)}
theorem At.v_ {x : V} : At K F (.v x) u ↔ u = x := by unfold At; exact Iff.rfl
theorem At.of {x : V} : At K F (.v x) x := At.v_.mpr rfl
theorem AtA.nil : AtA K F [] [] := by unfold AtA; rfl
theorem AtA.cons (h : At K F d u) (t : AtA K F ds us) : AtA K F (d :: ds) (u :: us) := by unfold AtA; exact ⟨_, _, rfl, h, t⟩
theorem AtF.nil : AtF K F [] [] := by unfold AtF; rfl
theorem AtF.cons {f : Str} {fs : List (Str × D)} {gs : List (Str × V)} (h : At K F d u) (t : AtF K F fs gs) : AtF K F ((f, d) :: fs) ((f, u) :: gs) := by unfold AtF; exact ⟨_, _, rfl, h, t⟩
theorem AtA.len : ∀ {ds : List D} {us : List V}, AtA K F ds us → us.length = ds.length
  | [], us, h => by unfold AtA at h; rw [h]; rfl
  | d :: ds, us, h => by
    unfold AtA at h
    obtain ⟨u, us, rfl, _, h⟩ := h
    rw [List.length_cons, List.length_cons, AtA.len h]
theorem AtA.get : ∀ {ds : List D} {us : List V} {i : Nat}, AtA K F ds us → ds[i]? = some d → ∃ u, us[i]? = some u ∧ At K F d u
  | [], us, i, h, e => by cases e
  | d' :: ds, us, 0, h, e => by
    unfold AtA at h
    obtain ⟨u, us, rfl, h1, h⟩ := h
    cases e
    exact ⟨u, rfl, h1⟩
  | d' :: ds, us, i + 1, h, e => by
    unfold AtA at h
    obtain ⟨u, us, rfl, h1, h⟩ := h
    exact AtA.get (i := i) h e
theorem AtA.at_ {i : Nat} (h : AtA K F ds us) (e : us[i]? = some u) : ∃ d, ds[i]? = some d ∧ At K F d u := by
  have hi : i < us.length := by
    rcases Nat.lt_or_ge i us.length with z | z
    · exact z
    · rw [List.getElem?_eq_none z] at e; cases e
  have hd : ds[i]? = some (ds[i]'(by rw [← h.len]; exact hi)) := List.getElem?_eq_getElem _
  obtain ⟨u', e', a⟩ := h.get hd
  rw [e] at e'
  cases e'
  exact ⟨_, hd, a⟩
theorem AtA.app : ∀ {ds : List D} {us : List V}, AtA K F ds us → AtA K F es vs → AtA K F (ds ++ es) (us ++ vs)
  | [], us, h, t => by unfold AtA at h; rw [h]; exact t
  | d :: ds, us, h, t => by
    unfold AtA at h
    obtain ⟨u, us, rfl, h1, h⟩ := h
    exact AtA.cons h1 (AtA.app h t)
theorem AtA.snoc (h : AtA K F ds us) (t : At K F d u) : AtA K F (ds ++ [d]) (us ++ [u]) := h.app (AtA.cons t AtA.nil)
theorem AtA.snocM {α : Type} {e : α → D} {xs : List α} {x : α} (h : AtA K F (xs.map e) us) (t : At K F (e x) u) : AtA K F ((xs ++ [x]).map e) (us ++ [u]) := by
  rw [List.map_append]
  exact h.snoc t
theorem AtA.flat {α : Type} {g : α → V} : ∀ {xs : List α} {us : List V}, AtA K F (xs.map fun x => D.v (g x)) us → us = xs.map g
  | [], us, h => by unfold AtA at h; exact h
  | x :: xs, us, h => by
    unfold AtA at h
    obtain ⟨u, us, rfl, h1, h⟩ := h
    rw [At.v_.mp h1, AtA.flat h]
    rfl
theorem AtA.ofFlat {α : Type} {g : α → V} : ∀ {xs : List α}, AtA K F (xs.map fun x => D.v (g x)) (xs.map g)
  | [] => AtA.nil
  | x :: xs => AtA.cons At.of (AtA.ofFlat (xs := xs))
theorem AtF.get {f : Str} : ∀ {fs : List (Str × D)} {gs : List (Str × V)}, AtF K F fs gs → fs.lookup f = some d → ∃ u, gs.lookup f = some u ∧ At K F d u
  | [], gs, h, e => by cases e
  | (g, d') :: fs, gs, h, e => by
    unfold AtF at h
    obtain ⟨u, us, rfl, h1, h⟩ := h
    rw [List.lookup_cons] at e ⊢
    cases c : f == g with
    | true => rw [c] at e; cases e; exact ⟨u, rfl, h1⟩
    | false => rw [c] at e; exact AtF.get h e
theorem At.obj_ {c : Str} {fs : List (Str × D)} (h : At K F (.obj c fs) u) : ∃ a dx vs, u = .ref a ∧ F a = some (.ins (He.ga K c) dx vs) ∧ AtF K F fs vs := by unfold At at h; exact h
theorem At.lstR (h : At K F (.lst ds) u) : ∃ a vs, u = .ref a ∧ F a = some (.lst vs) ∧ AtA K F ds vs := by unfold At at h; exact h
theorem At.lst_ (h : At K F (.lst ds) u) : ∃ a vs, u = .ref a ∧ SqL K F a vs ∧ AtA K F ds vs := by
  obtain ⟨a, vs, e, hq, t⟩ := h.lstR
  exact ⟨a, vs, e, SqL.of hq, t⟩
theorem At.tup_ (h : At K F (.tup ds) u) : ∃ a vs, u = .ref a ∧ SqT K F a vs ∧ AtA K F ds vs := by unfold At at h; exact h
theorem At.mkL {a : Addr} (h : F a = some (.lst vs)) (t : AtA K F ds vs) : At K F (.lst ds) (.ref a) := by unfold At; exact ⟨a, vs, rfl, h, t⟩
theorem At.mkT {a : Addr} (h : SqT K F a vs) (t : AtA K F ds vs) : At K F (.tup ds) (.ref a) := by unfold At; exact ⟨a, vs, rfl, h, t⟩
theorem At.mkO {c : Str} {a dx : Addr} {fs : List (Str × D)} {gs : List (Str × V)} (h : F a = some (.ins (He.ga K c) dx gs)) (t : AtF K F fs gs) : At K F (.obj c fs) (.ref a) := by unfold At; exact ⟨a, dx, gs, rfl, h, t⟩
/-! cells that may change -/
structure HH (F H : Hp) (M : List (Addr × HO)) : Prop where
  sub : Same F H
  nd : (M.map (·.1)).Nodup
  cell : ∀ p ∈ M, H p.1 = some p.2 ∧ F p.1 = none
theorem HH.start : HH H H [] := ⟨Same.refl H, .nil, fun p h => nomatch h⟩
theorem HH.get {i : Nat} {a : Addr} {o : HO} (h : HH F H M) (e : M[i]? = some (a, o)) : H a = some o := (h.cell _ (List.mem_of_getElem? e)).1
theorem HH.out {i : Nat} {a : Addr} {o : HO} (h : HH F H M) (e : M[i]? = some (a, o)) : F a = none := (h.cell _ (List.mem_of_getElem? e)).2
theorem HH.non {p : Addr} (h : HH F H M) (hp : H p = none) : F p = none := by
  cases e : F p with
  | none => rfl
  | some o => rw [h.sub _ _ e] at hp; cases hp
theorem HH.fresh {p : Addr} (h : HH F H M) (hp : H p = none) : p ∉ M.map (·.1) := by
  intro z
  obtain ⟨q, hq, e⟩ := List.mem_map.mp z
  have := (h.cell q hq).1
  rw [e, hp] at this
  cases this
theorem HH.new {p : Addr} {o : HO} (h : HH F H M) (hp : H p = none) : HH F (upd H p o) ((p, o) :: M) := by
  refine ⟨fun b u e => up_new (h.sub _ _ e) hp, List.nodup_cons.mpr ⟨h.fresh hp, h.nd⟩, fun q hq => ?_⟩
  rcases List.mem_cons.mp hq with rfl | hq
  · exact ⟨upd_same, h.non hp⟩
  · obtain ⟨h1, h2⟩ := h.cell q hq
    exact ⟨up_new h1 hp, h2⟩
theorem HH.newF {p : Addr} {o : HO} (h : HH F H M) (hp : H p = none) : HH (upd F p o) (upd H p o) M := by
  refine ⟨fun b u e => ?_, h.nd, fun q hq => ?_⟩
  · unfold upd at e ⊢
    split
    · rename_i z; rw [if_pos z] at e; exact e
    · rename_i z; rw [if_neg z] at e; exact h.sub _ _ e
  · obtain ⟨h1, h2⟩ := h.cell q hq
    have ne : q.1 ≠ p := ne_of_none h1 hp
    exact ⟨by rw [upd_ne ne]; exact h1, by rw [upd_ne ne]; exact h2⟩
theorem HH.grow {p : Addr} {o : HO} (h : HH F H M) (hp : H p = none) : Same F (upd F p o) := same_new (h.non hp)
theorem HH.perm {M' : List (Addr × HO)} (h : HH F H M) (p : List.Perm M M') : HH F H M' :=
  ⟨h.sub, (p.map _).nodup_iff.mp h.nd, fun q hq => h.cell q (p.mem_iff.mpr hq)⟩
theorem HH.swap {a b : Addr × HO} (h : HH F H (a :: b :: M)) : HH F H (b :: a :: M) := h.perm (.swap b a M)
theorem HH.rot {a b c : Addr × HO} (h : HH F H (a :: b :: c :: M)) : HH F H (c :: a :: b :: M) := h.perm ((List.Perm.cons a (.swap c b M)).trans (.swap c a (b :: M)))
theorem HH.new1 {p : Addr} {o : HO} {a : Addr × HO} (h : HH F H (a :: M)) (hp : H p = none) : HH F (upd H p o) (a :: (p, o) :: M) := (h.new hp).swap
theorem HH.drop {a : Addr × HO} (h : HH F H (a :: M)) : HH F H M := ⟨h.sub, (List.nodup_cons.mp h.nd).2, fun q hq => h.cell q (List.mem_cons_of_mem _ hq)⟩
theorem HH.drop1 {a b : Addr × HO} (h : HH F H (a :: b :: M)) : HH F H (a :: M) := h.swap.drop
theorem HH.set0 {a : Addr} {o o' : HO} (h : HH F H ((a, o) :: M)) : HH F (upd H a o') ((a, o') :: M) := by
  have hn := List.nodup_cons.mp h.nd
  have hF : F a = Option.none := h.out (i := 0) rfl
  refine ⟨fun b u e => ?_, List.nodup_cons.mpr hn, fun q hq => ?_⟩
  · rw [upd_ne (ne_of_none e hF)]; exact h.sub _ _ e
  · rcases List.mem_cons.mp hq with rfl | hq
    · exact ⟨upd_same, hF⟩
    · obtain ⟨h1, h2⟩ := h.cell q (List.mem_cons_of_mem _ hq)
      have ne : q.1 ≠ a := fun e => hn.1 (List.mem_map.mpr ⟨q, hq, e⟩)
      exact ⟨by rw [upd_ne ne]; exact h1, h2⟩
theorem HH.set1 {a : Addr} {o o' : HO} {b : Addr × HO} (h : HH F H (b :: (a, o) :: M)) : HH F (upd H a o') (b :: (a, o') :: M) := h.swap.set0.swap
theorem HH.set2 {a : Addr} {o o' : HO} {b c : Addr × HO} (h : HH F H (b :: c :: (a, o) :: M)) : HH F (upd H a o') (b :: c :: (a, o') :: M) := h.rot.set0.perm ((List.Perm.swap b _ _).trans (.cons b (.swap c _ M)))
theorem HH.frz {a : Addr} {o : HO} (h : HH F H ((a, o) :: M)) : HH (upd F a o) H M := by
  have hn := List.nodup_cons.mp h.nd
  refine ⟨fun b u e => ?_, hn.2, fun q hq => ?_⟩
  · by_cases c : b = a
    · rw [c, upd_same] at e; cases e; rw [c]; exact h.get (i := 0) rfl
    · rw [upd_ne c] at e; exact h.sub _ _ e
  · obtain ⟨h1, h2⟩ := h.cell q (List.mem_cons_of_mem _ hq)
    have ne : q.1 ≠ a := fun e => hn.1 (List.mem_map.mpr ⟨q, hq, e⟩)
    exact ⟨h1, by rw [upd_ne ne]; exact h2⟩
theorem HH.frzS {a : Addr} {o : HO} (h : HH F H ((a, o) :: M)) : Same F (upd F a o) := same_new (h.out (i := 0) rfl)
theorem HH.frz1 {a : Addr} {o : HO} {b : Addr × HO} (h : HH F H (b :: (a, o) :: M)) : HH (upd F a o) H (b :: M) := h.swap.frz
theorem HH.frz1S {a : Addr} {o : HO} {b : Addr × HO} (h : HH F H (b :: (a, o) :: M)) : Same F (upd F a o) := h.swap.frzS
/-- something is there, said for data: a list that was frozen -/
theorem frz_lst {a : Addr} {vs : List V} (hF : F a = Option.none) (h : AtA K F ds vs) : At K (upd F a (.lst vs)) (.lst ds) (.ref a) := At.mkL upd_same (h.mono (same_new hF))
/-! rules over At -/
variable {Q : VK} {S : Hp → Prop} {σ : L2.St} {nx bk ct : L2.St → Hp → Prop} {rt : VK}
theorem a_fld {c f : Str} {fs : List (Str × D)} (h : At K F (.obj c fs) x) (hh : HH F H M) (cl : Cls K (He.ga K c)) (n : NoAttr K (He.ga K c) f) (l : fs.lookup f = some d) (q : ∀ w, At K F d w → Q w H) : FldK K f x H Q := by
  obtain ⟨a, dx, vs, rfl, hF, hv⟩ := h.obj_
  obtain ⟨u, hu, ha⟩ := hv.get l
  exact v_fld (hh.sub _ _ hF) cl n hu (q u ha)
theorem a_fldV {c f : Str} {fs : List (Str × D)} (h : At K F (.obj c fs) x) (hh : HH F H M) (cl : Cls K (He.ga K c)) (n : NoAttr K (He.ga K c) f) (l : fs.lookup f = some (.v w)) (q : Q w H) : FldK K f x H Q :=
  a_fld h hh cl n l fun w' e => by rw [At.v_.mp e]; exact q
theorem m_fld {i : Nat} {a C dx : Addr} {fs : List (Str × V)} {f : Str} (hh : HH F H M) (e : M[i]? = some (a, .ins C dx fs)) (cl : Cls K C) (n : NoAttr K C f) (l : fs.lookup f = some w) (q : Q w H) : FldK K f (.ref a) H Q := v_fld (hh.get e) cl n l q
theorem a_tup {ds : List D} (hh : HH F H M) (h : AtA K F ds vs) (q : ∀ F' H' u, Same F F' → HH F' H' M → At K F' (.tup ds) u → Q u H') : ∀ p, H p = none → Q (.ref p) (upd H p (.tup vs)) := fun p hp =>
  q _ _ _ (hh.grow hp) (hh.newF hp) (At.mkT (SqT.of upd_same) (h.mono (hh.grow hp)))
theorem a_lst {ds : List D} (hh : HH F H M) (h : AtA K F ds vs) (q : ∀ F' H' u, Same F F' → HH F' H' M → At K F' (.lst ds) u → Q u H') : ∀ p, H p = none → Q (.ref p) (upd H p (.lst vs)) := fun p hp =>
  q _ _ _ (hh.grow hp) (hh.newF hp) (At.mkL upd_same (h.mono (hh.grow hp)))
theorem a_lenL (hx : At K F (.lst ds) x) (hh : HH F H M) (q : Q (.int (ds.length : Int)) H) : rLen K [x] H Q := by
  obtain ⟨a, vs, rfl, h, t⟩ := hx.lst_
  exact v_lenSq (hh.sub.seq h) (by rw [t.len]; exact q)
theorem a_ixL {n : Int} {i : Nat} (hx : At K F (.lst ds) x) (hh : HH F H M) (en : n = (i : Int)) (e : ds[i]? = some d) (q : ∀ w, At K F d w → Q w H) : rIx K x (.int n) H Q := by
  obtain ⟨a, vs, rfl, h, t⟩ := hx.lst_
  obtain ⟨u, hu, ha⟩ := t.get e
  exact v_ixSq (hh.sub.seq h) (atN en hu) (q u ha)
theorem a_ixT {n : Int} {i : Nat} (hx : At K F (.tup ds) x) (hh : HH F H M) (en : n = (i : Int)) (e : ds[i]? = some d) (q : ∀ w, At K F d w → Q w H) : rIx K x (.int n) H Q := by
  obtain ⟨a, vs, rfl, h, t⟩ := hx.tup_
  obtain ⟨u, hu, ha⟩ := t.get e
  exact .inr (.inl ⟨_, _, _, _, rfl, rfl, Same.sqt hh.sub h, atN en hu, q u ha⟩)
theorem a_forL {α : Type} {e : α → D} {xs : List α} {g : TG} {tb : TS} (hx : At K F (.lst (xs.map e)) x) (hh : HH F H M) (I : List α → L2.St → Hp → Prop) (hF : ∀ r σ H, I r σ H → Same F H) (h0 : I xs σ H)
    (hs : ∀ y r w σ H, At K F (e y) w → I (y :: r) σ H → g w σ H fun σ2 H2 => tb ⟨I r, rt, nx, I r⟩ σ2 H2) (hd : ∀ σ H, I [] σ H → nx σ H) : OvL K (fun J H1 => LoopG J g tb ⟨nx, rt, bk, ct⟩ σ H1) x H := by
  obtain ⟨a, vs, rfl, h, t⟩ := hx.lst_
  have hl : vs.length = xs.length := by rw [t.len, List.length_map]
  refine v_ovL (hh.sub.seq h) (l_list (fun i σ H => I (xs.drop i) σ H) h0 (fun i σ H _ q => (hF _ _ _ q).seq h) (fun i v σ H hv q => ?_) (fun σ H q => hd σ H ?_))
  · obtain ⟨d, hd', ha⟩ := t.at_ hv
    rw [List.getElem?_map] at hd'
    cases ex : xs[i]? with
    | none => rw [ex] at hd'; cases hd'
    | some y =>
      rw [ex] at hd'
      cases hd'
      have hi : i < xs.length := by
        rcases Nat.lt_or_ge i xs.length with z | z
        · exact z
        · rw [List.getElem?_eq_none z] at ex; cases ex
      have q' : I (y :: xs.drop (i + 1)) σ H := by
        have e1 : xs[i] = y := by rw [List.getElem?_eq_getElem hi] at ex; exact Option.some.inj ex
        rw [← e1, List.getElem_cons_drop]
        exact q
      exact hs y _ v σ H ha q'
  · rw [hl, List.drop_length] at q
    exact q
theorem a_forT {α : Type} {e : α → D} {xs : List α} {g : TG} {tb : TS} (hx : At K F (.tup (xs.map e)) x) (hh : HH F H M) (I : List α → L2.St → Hp → Prop) (hF : ∀ r σ H, I r σ H → Same F H) (h0 : I xs σ H)
    (hs : ∀ y r w σ H, At K F (e y) w → I (y :: r) σ H → g w σ H fun σ2 H2 => tb ⟨I r, rt, nx, I r⟩ σ2 H2) (hd : ∀ σ H, I [] σ H → nx σ H) : OvT K (fun J H1 => LoopG J g tb ⟨nx, rt, bk, ct⟩ σ H1) x H := by
  obtain ⟨a, vs, rfl, h, t⟩ := hx.tup_
  have hl : vs.length = xs.length := by rw [t.len, List.length_map]
  refine v_ovT (Same.sqt hh.sub h) (l_tup (fun i σ H => I (xs.drop i) σ H) h0 (fun i σ H _ q => Same.sqt (hF _ _ _ q) h) (fun i v σ H hv q => ?_) (fun σ H q => hd σ H ?_))
  · obtain ⟨d, hd', ha⟩ := t.at_ hv
    rw [List.getElem?_map] at hd'
    cases ex : xs[i]? with
    | none => rw [ex] at hd'; cases hd'
    | some y =>
      rw [ex] at hd'
      cases hd'
      have hi : i < xs.length := by
        rcases Nat.lt_or_ge i xs.length with z | z
        · exact z
        · rw [List.getElem?_eq_none z] at ex; cases ex
      have q' : I (y :: xs.drop (i + 1)) σ H := by
        have e1 : xs[i] = y := by rw [List.getElem?_eq_getElem hi] at ex; exact Option.some.inj ex
        rw [← e1, List.getElem_cons_drop]
        exact q
      exact hs y _ v σ H ha q'
  · rw [hl, List.drop_length] at q
    exact q
def LcK (J : It) (g : TG) (tt : TT) (te : TE) (σ : L2.St) (ws : List Nat) (H1 : Hp) (Q : VK) : Prop := ∀ D, H1 D = Option.none → LcG J g tt te σ ws D H1 (Q (.ref D))
theorem g_lcK {wi : TI} {g : TG} {tt : TT} {te : TE} {ws : List Nat} (h : wi σ H fun J H1 => LcK J g tt te σ ws H1 Q) : tLc wi g tt te ws σ H Q := h
/-- a comprehension over such a list: what is put for each item is told by an optional value -/
theorem a_lcL {α β : Type} {e : α → D} {f : β → D} {xs : List α} {g : TG} {tt : TT} {te : TE} {vs : List Nat} (hx : At K F (.lst (xs.map e)) x) (hh : HH F H M) (hz : xs.length < sizeLine) (r : α → Option β)
    (hs : ∀ y (w : V) F' H' c (P : V → Hp → Prop) (N : Hp → Prop), y ∈ xs → At K F' (e y) w → Same F F' → HH F' H' (c :: M) → (∀ F4 H4 v z, Same F' F4 → HH F4 H4 (c :: M) → r y = some z → At K F4 (f z) v → P v H4) →
      (∀ F4 H4, Same F' F4 → HH F4 H4 (c :: M) → r y = none → N H4) → g w (wipe σ vs) H' fun σ2 H2 => wipe σ2 vs = wipe σ vs ∧ tt σ2 H2 fun b H3 => if b = true then te σ2 H3 (fun v H4 => P v H4) else N H3)
    (q : ∀ F' H' u, Same F F' → HH F' H' M → At K F' (.lst ((xs.filterMap r).map f)) u → Q u H') : OvL K (fun J H1 => LcK J g tt te σ vs H1 Q) x H := by
  obtain ⟨a, us, rfl, h, t⟩ := hx.lst_
  have hl : us.length = xs.length := by rw [t.len, List.length_map]
  refine v_ovL (hh.sub.seq h) fun D hD => ?_
  refine c_list (fun i H' => ∃ F' ws, Same F F' ∧ HH F' H' ((D, .lst ws) :: M) ∧ ws.length ≤ i ∧ AtA K F' (((xs.take i).filterMap r).map f) ws) ⟨F, [], Same.refl F, hh.new hD, Nat.zero_le _, AtA.nil⟩
    (fun i H' _ ⟨F', ws, s, h', _⟩ => h'.sub.seq (s.seq h)) (fun i v H' hv ⟨F', ws, s, h', hw, ha⟩ => ?_) (fun H' ⟨F', ws, s, h', hw, ha⟩ => ?_)
  · obtain ⟨d, hd', hat⟩ := t.at_ hv
    rw [List.getElem?_map] at hd'
    cases ex : xs[i]? with
    | none => rw [ex] at hd'; cases hd'
    | some y =>
      rw [ex] at hd'
      cases hd'
      have hi : i < xs.length := by
        rcases Nat.lt_or_ge i xs.length with z | z
        · exact z
        · rw [List.getElem?_eq_none z] at ex; cases ex
      have e1 : xs[i] = y := by rw [List.getElem?_eq_getElem hi] at ex; exact Option.some.inj ex
      have et : xs.take (i + 1) = xs.take i ++ [y] := by rw [← e1]; exact (List.take_append_getElem hi).symm
      refine hs y v F' H' _ _ _ (e1 ▸ List.getElem_mem hi) (hat.mono s) s h' (fun F4 H4 v z s4 h4 er hz => ?_) (fun F4 H4 s4 h4 er => ?_)
      · refine v_put (h4.get (i := 0) rfl) (by omega) ⟨F4, ws ++ [v], s.trans s4, h4.set0, by rw [List.length_append]; show _ + 1 ≤ _; omega, ?_⟩
        rw [et, List.filterMap_append, List.filterMap_cons, er]
        exact AtA.snocM (ha.mono s4) hz
      · refine ⟨F4, ws, s.trans s4, h4, by omega, ?_⟩
        rw [et, List.filterMap_append, List.filterMap_cons, er]
        show AtA K F4 ((_ ++ []).map f) ws
        rw [List.append_nil]
        exact ha.mono s4
  · rw [hl, List.take_length] at ha
    exact q _ _ _ (s.trans h'.frzS) h'.frz (frz_lst (h'.out (i := 0) rfl) ha)
/-- a while that carries what is left to be computed -/
def WTurn (I : Nat → L2.St → Hp → Prop) (m : Nat) (tb : TS) (rt : VK) (nx : L2.St → Hp → Prop) (σ : L2.St) (H : Hp) : Prop := ∃ N : L2.St → Hp → Prop, (∀ σ' H', N σ' H' → ∃ m', m' < m + 1 ∧ I m' σ' H') ∧ tb ⟨N, rt, nx, N⟩ σ H
theorem g_wt {I : Nat → L2.St → Hp → Prop} {m : Nat} {tb : TS} (h : tb ⟨I m, rt, nx, I m⟩ σ H) : WTurn I m tb rt nx σ H := ⟨I m, fun _ _ z => ⟨m, Nat.lt_succ_self m, z⟩, h⟩
theorem a_while {m : Nat} {tt : TT} {tb : TS} (I : Nat → L2.St → Hp → Prop) (h0 : I m σ H) (hz : ∀ σ H, I 0 σ H → False) (hs : ∀ m σ H, I (m + 1) σ H → tt σ H fun b H1 => if b = true then WTurn I m tb rt nx σ H1 else nx σ H1) :
    tWhile tt tb ⟨nx, rt, bk, ct⟩ σ H := by
  refine g_while ⟨fun m σ H => I m σ H, ⟨m, h0⟩, fun m σ H q => ?_⟩
  cases m with
  | zero => exact (hz _ _ q).elim
  | succ m => exact hs m σ H q
/-! texts as lists of codes -/
end
end G
namespace G
open PySem PySem.Spec PyProof.Rows L2
/-! ### pygen2: constants, properties, tables, the hook -/
abbrev svv (zs : List Nat) : V := .str ⟨zs.toArray⟩
theorem pe_strE {X : Cx} {x z : Str} {j pos} (h : x = z) : PE X (.Constant (.str x) j pos) (tC (.str z)) := by
  subst h
  exact pe_str
theorem tupE {K : PySem.W.Frag} {x : Str} {vs : List He.Dv} {us : List V} (e : vs.map (He.Dv.v K) = us) (h : He.tupB K x vs = true) : ∀ H, SqT K H (He.ga K x) us := fun H => by
  subst e
  exact He.tupB_ok h H
def rSplit : V → List V → Hp → VK → Prop := fun x xs H Q => ∃ a b, x = .str a ∧ xs = [.str b] ∧ (b.length == 0) = false ∧ a.length + 2 ≤ sizeLine ∧ rNewStrs (Txt.split a b) H Q
/-- the getter of a property -/
def pAd (K : PySem.W.Frag) (C m : Str) : Addr := match PySem.W.recIn K (He.ma K (He.ga K C) m) "property" with
  | some (.ref g :: _) => g
  | _ => 0
def recP (K : PySem.W.Frag) (a : Addr) : Bool := match PySem.W.recIn K a "property" with
  | some (.ref _ :: _) => true
  | _ => false
def propF (C m : Str) (K : PySem.W.Frag) : Bool := He.eqO (PySem.W.findIn K (.ref (He.ga K C)) m) (some (some (.ref (He.ma K (He.ga K C) m)))) &&
  (He.eqO (PySem.W.specialIn K (.ref (He.ma K (He.ga K C) m)) "__get__") (some (some (.builtin "property.__get__"))) && (decide (PySem.W.takesIn K (.ref (He.ma K (He.ga K C) m)) = some true) && recP K (He.ma K (He.ga K C) m)))
theorem propF_ok {C m : Str} {K : PySem.W.Frag} (h : propF C m K = true) : PropOf K (He.ga K C) m (He.ma K (He.ga K C) m) (pAd K C m) := by
  obtain ⟨h1, h2⟩ := He.ba h
  obtain ⟨h2, h3⟩ := He.ba h2
  obtain ⟨h3, h4⟩ := He.ba h3
  refine ⟨He.eqO_ok h1, He.eqO_ok h2, of_decide_eq_true h3, ?_⟩
  unfold recP at h4
  unfold pAd
  split at h4
  · rename_i g rest e
    exact ⟨rest, by rw [e]⟩
  · cases h4
structure DefP where
  cls : Str
  name : Str
  qual : Str
  params : Arguments
  body : List Stmt
  scope : Scope
def DefP.val (d : DefP) : He.FnW := some (d.name, d.qual, d.params, .stmts d.body, d.scope, mainGlobals, [], builtinsNs)
def fnA (K : PySem.W.Frag) (a : Addr) : He.FnW := match K.lookup a with
  | some ⟨_, _, .func fd, _⟩ => some (fd.name, fd.qualname, fd.params, fd.body, fd.scope, fd.globals, fd.closure, fd.builtins)
  | _ => none
def DefP.ok (K : PySem.W.Frag) (d : DefP) : Bool := PySem.W.keepIn K (.ref (pAd K d.cls d.name)) && (match K.lookup (pAd K d.cls d.name) with
  | some ⟨_, _, .func fd, _⟩ => PySem.W.codeIn K fd.code d.qual && (He.dflB K fd.defaults [] && He.kwdB K fd.kwdefaults [])
  | _ => false)
theorem DefP.funD {K : PySem.W.Frag} {d : DefP} (e : fnA K (pAd K d.cls d.name) = d.val) (c : d.ok K = true) : ∃ fd, FunD K d.name d.qual d.params d.body d.scope [] [] (pAd K d.cls d.name) fd := by
  obtain ⟨kp, c2⟩ := He.ba c
  unfold fnA at e
  cases q : K.lookup (pAd K d.cls d.name) with
  | none =>
    rw [q] at c2
    cases c2
  | some o =>
    obtain ⟨oc, od, dt, osl⟩ := o
    rw [q] at c2 e
    cases dt with
    | func fd =>
      obtain ⟨n1, n2, n3, n4, n5, n6, n7, n8, n9, n10, n11, n12, n13, n14, n15⟩ := fd
      have e2 : (some (n1, n2, n3, n4, n5, n6, n7, n15) : He.FnW) = some (d.name, d.qual, d.params, .stmts d.body, d.scope, mainGlobals, [], builtinsNs) := e
      simp only [Option.some.injEq, Prod.mk.injEq] at e2
      obtain ⟨h1, h2, h3, h4, h5, h6, h7, h8⟩ := e2
      subst h1 h2 h3 h4 h5 h6 h7 h8
      have c3 : (PySem.W.codeIn K n13 d.qual && (He.dflB K n8 [] && He.kwdB K n9 [])) = true := c2
      obtain ⟨k1, k2⟩ := He.ba c3
      obtain ⟨k3, k4⟩ := He.ba k2
      exact ⟨_, ⟨oc, od, n8, n9, n10, n11, n12, n13, n14, osl, rfl, q, k1, He.dflB_ok k3, He.kwdB_ok k4⟩, kp⟩
    | _ => cases c2
def SaysP (gs : List DefP) (K : PySem.W.Frag) : Prop := (gs.all fun d => d.ok K) = true ∧ (gs.map fun d => fnA K (pAd K d.cls d.name)) = gs.map DefP.val
theorem SaysP.def_ {gs : List DefP} {K : PySem.W.Frag} (c : SaysP gs K) (i : Nat) {d : DefP} (h : gs[i]? = some d := by rfl) : ∃ fd, FunD K d.name d.qual d.params d.body d.scope [] [] (pAd K d.cls d.name) fd := by
  have e2 : (gs.map fun d => fnA K (pAd K d.cls d.name))[i]? = (gs.map DefP.val)[i]? := by rw [c.2]
  rw [List.getElem?_map, List.getElem?_map, h] at e2
  exact DefP.funD (Option.some.inj e2) (List.all_eq_true.mp c.1 d (List.mem_of_getElem? h))
abbrev AlZ : Type := He.AlD × List He.FnW × FnC × Bool
def obsZ (n : Nat) (fa : List He.Fa) (fn : List He.DefD) (gs : List DefP) (ex : PySem.W.Frag → Bool) (fc : PySem.W.Frag → FnC) (fb : PySem.W.Frag → Bool) (g : Addr → Option Obj) : AlZ :=
  (He.obsD fa fn (He.frT g (asY g n)), (gs.map fun d => fnA (He.frT g (asY g n)) (pAd (He.frT g (asY g n)) d.cls d.name)), fc (He.frT g (asY g n)), ex (He.frT g (asY g n)) && (fb (He.frT g (asY g n)) && gs.all fun d => d.ok (He.frT g (asY g n))))
def valZ (fn : List He.DefD) (gs : List DefP) (fcv : FnC) : AlZ := (He.valD fn, gs.map DefP.val, fcv, true)
structure SaysZ (fa : List He.Fa) (fn : List He.DefD) (gs : List DefP) (ex : PySem.W.Frag → Bool) (fc : PySem.W.Frag → FnC) (fcv : FnC) (fb : PySem.W.Frag → Bool) (K : PySem.W.Frag) : Prop where
  d : He.SaysD fa fn K
  p : SaysP gs K
  f : fc K = fcv
  more : ex K = true
  b : fb K = true
def hookZ (n : Nat) (fa : List He.Fa) (fn : List He.DefD) (gs : List DefP) (ex : PySem.W.Frag → Bool) (fc : PySem.W.Frag → FnC) (fcv : FnC) (fb : PySem.W.Frag → Bool) : PySem.W.Hook where
  α := AlZ
  obs := fun s => obsZ n fa fn gs ex fc fb s.heap.get?
  val := fun _ => valZ fn gs fcv
  says := fun _ h => ∃ K : PySem.W.Frag, K.In h ∧ SaysZ fa fn gs ex fc fcv fb K
  of := fun _ _ e => by
    refine ⟨_, He.frT_in, congrArg (fun z : AlZ => z.1) e, ⟨?_, congrArg (fun z : AlZ => z.2.1) e⟩, congrArg (fun z : AlZ => z.2.2.1) e, ?_, ?_⟩
    · exact (He.ba (He.ba (congrArg (fun z : AlZ => z.2.2.2) e)).2).2
    · exact (He.ba (congrArg (fun z : AlZ => z.2.2.2) e)).1
    · exact (He.ba (He.ba (congrArg (fun z : AlZ => z.2.2.2) e)).2).1
  keeps := fun _ _ _ ⟨K, hK, c⟩ k => ⟨K, PySem.W.Frag.In.keeps hK k, c⟩
theorem obsZ_eq {n : Nat} {fa : List He.Fa} {fn : List He.DefD} {gs : List DefP} {ex : PySem.W.Frag → Bool} {fc : PySem.W.Frag → FnC} {fcv : FnC} {fb : PySem.W.Frag → Bool} {g : Addr → Option Obj} {s : Shared} (h : ∀ a, g a = s.heap.get? a) : obsZ n fa fn gs ex fc fb g = (hookZ n fa fn gs ex fc fcv fb).obs s := by
  have e : g = s.heap.get? := funext h
  rw [e] <;> rfl
theorem SaysZ.fau {fa : List He.Fa} {fn : List He.DefD} {gs : List DefP} {ex : PySem.W.Frag → Bool} {K : PySem.W.Frag} {h : Heap} {mg : Str → Option Value}
    (c : SaysZ fa fn gs ex (fun K => fnC K ("Fault", some "__init__")) fnF (fun K => (faBs "/claim/cut.py" K).all id) K) (X : K.In h) (Gm : h.Ns mainGlobals mg) : FaT K mg := fun P i => by
  refine faTxt_of X Gm c.f ?_ i.top
  rw [i.file]
  exact c.b
structure Pt (P : Program) (w : World) (K : PySem.W.Frag) (mg : Str → Option Value) (base : Heap) (k : Nat) (C : Addr) (m : Str) (sp : Sp) : Prop where
  ex : ∃ (p f : Addr) (fd : FuncData) (ps : List Str), Cls K C ∧ PropOf K C m p f ∧ FnOk P w K mg base (L2.CX P w) k f fd ps sp ∧ Binds K fd ps []
theorem pe_pr {X : Cx} {k j : Nat} {C : Addr} {f : Str} {sp : Sp} {e : Expr} {pos : Pos} {ta : TE} (c : Pt X.prog X.w X.K X.mg X.base k C f sp) (hr : Room j X.A) (hk : k + 1 ≤ j) (he : PE X e ta) (hab : attributeBase e f X.env (eval e X.env) = eval e X.env := by rfl) :
    PE X (.Attribute e f pos) (tProp C sp [] E0 ta) := by
  obtain ⟨p, f', fd, ps, cl, hp, F, b⟩ := c.ex
  exact pe_prop he cl hp F (hr.mono hk) b .nil (fun _ _ _ _ _ _ _ h => by
    obtain ⟨_, _, _, _, _, _, _, _, _, _, _, _, z⟩ := h
    exact z.elim) hab
section
variable {X : Cx} {k j : Nat} {C : Addr} {x m : Str} {sp : Sp} {dvs : List V} {p pos : Pos} {E : L2.St → XK}
theorem pe_cl0 (c : Cl X.prog X.w X.K X.mg X.base k x sp dvs) (hr : Room j X.A) (hk : k ≤ j) (hx : ∀ σ, PassesAt (L2.CX X.prog X.w) X σ (E σ)) (hg : Gl X x) (hdb : (x == ("__debug__" : Str)) = false := by decide) :
    PE X (.Call (.Name x p) [] [] pos) (tCallSD sp dvs E tNil) := by
  obtain ⟨f, fd, ps, ds, F, hm, kp, b, d⟩ := c.ex
  refine ⟨fun pins s σ H Q I h => ?_⟩
  refine wpAny_Call_Name_kw (ld_glob I hg hm ?_ hdb)
  exact PySem.W.callWith_K0 I.kIn kp (run_fnSD (us := []) F (hr.mono hk) b d (hx σ) I .nil h)
theorem pe_mq0 (c : Mq X.prog X.w X.K X.mg X.base k x C sp dvs) (hr : Room j X.A) (hk : k + 1 ≤ j) (hg : Gl X x) (hdb : (x == ("__debug__" : Str)) = false := by decide) :
    PE X (.Call (.Name x p) [] [] pos) (tMake C sp dvs E0 tNil) := by
  obtain ⟨f, fd, ps, ds, M, F, hm, b, d⟩ := c.ex
  exact pe_make0 M F (hr.mono hk) hg hm b d passL hdb
end
end G

namespace G
open PySem PySem.Spec PyProof.Rows L2
/-! ### texts by their codes -/
theorem len_svv (zs : List Nat) : (⟨zs.toArray⟩ : Str).length = zs.length := by show zs.toArray.size = _; simp
theorem app_svv (a b : List Nat) : (⟨a.toArray⟩ : Str) ++ ⟨b.toArray⟩ = ⟨(a ++ b).toArray⟩ := by
  show (⟨a.toArray ++ b.toArray⟩ : Str) = _
  simp
theorem svv_inj {a b : List Nat} (h : (⟨a.toArray⟩ : Str) = ⟨b.toArray⟩) : a = b := by
  have z := congrArg (fun s : Str => s.cps.toList) h
  simpa using z
theorem dT {a b : List Nat} : decide ((⟨a.toArray⟩ : Str) = ⟨b.toArray⟩) = decide (a = b) := decide_eq_decide.mpr ⟨svv_inj, fun h => by rw [h]⟩
theorem sl16 : sizeLine = 16777216 := sizeLine_eq
theorem drop_c {α : Type} {zs : List α} {i : Nat} {c : α} (h : zs[i]? = some c) : zs.drop i = c :: zs.drop (i + 1) := by
  obtain ⟨hi, e⟩ := List.getElem?_eq_some_iff.mp h
  rw [List.drop_eq_getElem_cons hi, e]
theorem of_drop {α : Type} {zs : List α} {i : Nat} {c : α} {r : List α} (h : zs.drop i = c :: r) : zs[i]? = some c ∧ zs.drop (i + 1) = r ∧ i < zs.length := by
  have h1 : i < zs.length := by
    rcases Nat.lt_or_ge i zs.length with z | z
    · exact z
    · rw [List.drop_eq_nil_of_le z] at h; cases h
  rw [List.drop_eq_getElem_cons h1] at h
  injection h with h2 h3
  exact ⟨by rw [List.getElem?_eq_getElem h1, h2], h3, h1⟩
theorem inV_t {t : List Nat} : ∀ {xs : List (List Nat)}, inV (svv t) (xs.map svv) = xs.contains t
  | [] => rfl
  | x :: xs => by
    have ih := inV_t (t := t) (xs := xs)
    unfold inV at ih ⊢
    rw [List.map_cons, List.any_cons, ih, List.contains_cons]
    congr 1
    show ((⟨x.toArray⟩ : Str) == ⟨t.toArray⟩) = _
    by_cases h : t = x
    · subst h; simp
    · have : ¬ (⟨x.toArray⟩ : Str) = ⟨t.toArray⟩ := fun z => h (svv_inj z).symm
      rw [beq_eq_false_iff_ne.mpr this, beq_eq_false_iff_ne.mpr h]
theorem flat_t : ∀ {xs : List (List Nat)}, (xs.map svv).all flatV = true
  | [] => rfl
  | x :: xs => by rw [List.map_cons, List.all_cons, flat_t (xs := xs)]; rfl
section
variable {K : PySem.W.Frag} {F F0 F' H H' : Hp} {x y w : V} {d : D} {ds es : List D} {us vs : List V} {M : List (Addr × HO)} {Q : VK} {S : Hp → Prop} {σ : L2.St} {a b zs : List Nat}
theorem v_eqT (q : Q (.bl (decide (a = b))) H) : rEqX K (.str ⟨a.toArray⟩) (.str ⟨b.toArray⟩) H Q := v_eqS (by rw [dT]; exact q)
theorem v_neT (q : Q (.bl (!decide (a = b))) H) : rNeX K (.str ⟨a.toArray⟩) (.str ⟨b.toArray⟩) H Q := v_neS (by rw [dT]; exact q)
theorem v_lenT' (h : zs.length ≤ 16777216) (q : Q (.int (zs.length : Int)) H) : rLen K [.str ⟨zs.toArray⟩] H Q := v_lenS (by rw [len_svv, sl16]; exact h) (by rw [len_svv]; exact q)
theorem v_ixT' {n : Int} {i c : Nat} (h : zs.length ≤ 16777216) (e : n = (i : Int)) (hc : zs[i]? = some c) (q : Q (.str ⟨[c].toArray⟩) H) : rIx K (.str ⟨zs.toArray⟩) (.int n) H Q :=
  v_ixS (c := c) (by rw [len_svv, sl16]; exact h) (atN (i := i) e (by simpa using hc)) q
theorem v_inC {c : Nat} (q : Q (.bl (decide (c ∈ zs))) H) : rInX K (.str ⟨[c].toArray⟩) (.str ⟨zs.toArray⟩) H Q := v_inS (c := c) (by simpa using q)
theorem v_notInC {c : Nat} (q : Q (.bl (!decide (c ∈ zs))) H) : rNotInX K (.str ⟨[c].toArray⟩) (.str ⟨zs.toArray⟩) H Q := v_notInS (c := c) (by simpa using q)
theorem v_addT (h : a.length + b.length ≤ 16777216) (q : Q (.str ⟨(a ++ b).toArray⟩) H) : rAddX K (.str ⟨a.toArray⟩) (.str ⟨b.toArray⟩) H Q :=
  v_addS (by rw [len_svv, len_svv, sl16]; exact h) (by rw [app_svv]; exact q)
theorem cut_svv {p n : Nat} (hp : p ≤ zs.length) : cutS ⟨zs.toArray⟩ (some (p : Int)) (some ((p + n : Nat) : Int)) = ⟨((zs.drop p).take n).toArray⟩ := by
  unfold cutS
  have h1 : HT.sIx (⟨zs.toArray⟩ : Str).length 0 (some (p : Int)) = p := by
    rw [len_svv]
    unfold HT.sIx
    simp only []
    rw [if_neg (by omega)]
    omega
  have h2 : HT.sIx (⟨zs.toArray⟩ : Str).length (⟨zs.toArray⟩ : Str).length (some ((p + n : Nat) : Int)) = min (p + n) zs.length := by
    rw [len_svv]
    unfold HT.sIx
    simp only []
    rw [if_neg (by omega)]
    omega
  rw [h1, h2]
  have e : ((zs.drop p).take (min (p + n) zs.length - p)) = (zs.drop p).take n := by
    rcases Nat.lt_or_ge (p + n) zs.length with z | z
    · rw [show min (p + n) zs.length - p = n by omega]
    · rw [List.take_of_length_le (i := n) (by rw [List.length_drop]; omega), List.take_of_length_le (by rw [List.length_drop]; omega)]
  show (⟨((zs.toArray.toList.drop p).take _).toArray⟩ : Str) = _
  rw [show zs.toArray.toList = zs by simp, e]
theorem v_slT {p n : Nat} {m1 m2 : Int} (h : zs.length ≤ 16777216) (hp : p ≤ zs.length) (e1 : m1 = (p : Int)) (e2 : m2 = ((p + n : Nat) : Int)) (q : Q (.str ⟨((zs.drop p).take n).toArray⟩) H) : rSlX K (.str ⟨zs.toArray⟩) (some m1) (some m2) H Q := by
  subst e1 e2
  exact v_slS (by rw [len_svv, sl16]; exact h) (by rw [cut_svv hp]; exact q)
theorem starts_svv {s : List Nat} {p : Nat} (hp : p ≤ zs.length) : Txt.startswith3 ⟨zs.toArray⟩ ⟨s.toArray⟩ (p : Int) = decide ((zs.drop p).take s.length = s) := by
  have e : (zs.toArray.extract p (p + s.length)).toList = (zs.drop p).take s.length := by
    rw [Array.toList_extract]
    simp [List.extract_eq_take_drop]
  unfold Txt.startswith3
  have f : ∀ n : Nat, fromIndex n (p : Int) = p := fun n => by unfold fromIndex; rw [if_neg (by omega)]; omega
  rw [f, len_svv, len_svv]
  have g : Builtin.Str.subAt ⟨zs.toArray⟩ ⟨s.toArray⟩ p = decide ((zs.drop p).take s.length = s) := by
    unfold Builtin.Str.subAt
    rw [len_svv, ← e, Bool.eq_iff_iff, decide_eq_true_iff, beq_iff_eq]
    constructor
    · intro h; rw [h]
    · intro h
      apply Array.toList_inj.mp
      exact h
  rw [g, Bool.eq_iff_iff, Bool.and_eq_true, decide_eq_true_iff, decide_eq_true_iff]
  refine ⟨fun h => h.2, fun h => ⟨?_, h⟩⟩
  have := congrArg List.length h
  rw [List.length_take, List.length_drop] at this
  omega
end
/-! ### what is computed: a value, a fault at a place, or nothing (never met) -/
inductive Rs (α : Type) where
  | ok (x : α)
  | bad (i : Nat) (z : List Nat)
  | stuck
def Rs.bind {α β : Type} (r : Rs α) (k : α → Rs β) : Rs β := match r with
  | .ok x => k x
  | .bad i z => .bad i z
  | .stuck => .stuck
def Rs.on {α : Type} (r : Rs α) (ok : α → Prop) (bad : Nat → List Nat → Prop) : Prop := match r with
  | .ok x => ok x
  | .bad i z => bad i z
  | .stuck => False
theorem Rs.on_bind {α β : Type} {r : Rs α} {k : α → Rs β} {ok : β → Prop} {bad : Nat → List Nat → Prop} : (r.bind k).on ok bad ↔ r.on (fun x => (k x).on ok bad) bad := by
  cases r <;> exact Iff.rfl
theorem Rs.on.imp {α : Type} {r : Rs α} {ok ok' : α → Prop} {bad bad' : Nat → List Nat → Prop} (h : r.on ok bad) (f : ∀ x, ok x → ok' x) (g : ∀ i z, bad i z → bad' i z) : r.on ok' bad' := by
  cases r with
  | ok x => exact f x h
  | bad i z => exact g i z h
  | stuck => exact h
/-- the next step of what is computed -/
theorem Rs.on.step {α β : Type} {r : Rs α} {k : α → Rs β} {ok : β → Prop} {bad bad' : Nat → List Nat → Prop} {ok' : α → Prop} (h : (r.bind k).on ok bad) (g : ∀ i z, bad i z → bad' i z) (f : ∀ x, (k x).on ok bad → ok' x) : r.on ok' bad' :=
  (Rs.on_bind.mp h).imp f g
/-- a Fault is let out -/
def Er (K : PySem.W.Frag) (E : XK) (F : Hp) (M : List (Addr × HO)) (i : Nat) (z : List Nat) : Prop :=
  ∀ F' H' d, Same F F' → HH F' H' ((d, .xd (faD (i : Int) ⟨z.toArray⟩)) :: M) → E (.ref (He.ga K "Fault")) (some d) H'
theorem Er.mono {K : PySem.W.Frag} {E : XK} {F F1 : Hp} {M : List (Addr × HO)} {i : Nat} {z : List Nat} (h : Er K E F M i z) (s : Same F F1) : Er K E F1 M i z := fun F' H' d s' hh => h F' H' d (s.trans s') hh
theorem Er.up {K : PySem.W.Frag} {E : XK} {F : Hp} {M : List (Addr × HO)} {i : Nat} {z : List Nat} {c : Addr × HO} (h : Er K E F M i z) : Er K E F (c :: M) i z := fun F' H' d s' hh => h F' H' d s' hh.drop1
theorem Er.raise {K : PySem.W.Frag} {E : XK} {F H : Hp} {M : List (Addr × HO)} {i : Nat} {n : Int} {z : List Nat} (h : Er K E F M i z) (hh : HH F H M) (e : n = (i : Int)) (hi : i < 1000000000) (hz : z.length ≤ 1000) :
    FauK (He.ga K "Fault") (fun cls d H => E cls d H) [.int n, .str ⟨z.toArray⟩] H := by
  subst e
  exact v_fau (by omega) (by rw [len_svv]; exact hz) fun d hd => h F _ d (Same.refl F) (hh.new hd)
section
variable {K : PySem.W.Frag} {F F0 F' H H' : Hp} {x y w : V} {d : D} {ds es : List D} {us vs : List V} {M : List (Addr × HO)} {Q : VK} {S : Hp → Prop} {σ : L2.St} {a b zs : List Nat} {nx bk ct : L2.St → Hp → Prop} {rt : VK}
/-! rules at data that stands in a part of the heap -/
theorem s_fld {c f : Str} {fs : List (Str × D)} (h : At K F0 (.obj c fs) x) (s : Same F0 H) (cl : Cls K (He.ga K c)) (n : NoAttr K (He.ga K c) f) (l : fs.lookup f = some d) (q : ∀ w, At K F0 d w → Q w H) : FldK K f x H Q := by
  obtain ⟨a, dx, vs, rfl, hF, hv⟩ := h.obj_
  obtain ⟨u, hu, ha⟩ := hv.get l
  exact v_fld (s _ _ hF) cl n hu (q u ha)
theorem s_isi {c c' : Str} {fs : List (Str × D)} {k : Bool} (h : At K F0 (.obj c fs) x) (s : Same F0 H) (cl : Cls K (He.ga K c)) (f : InsF K (He.ga K c)) (e : PySem.W.kitOne K (.ref (He.ga K c)) (.ref (He.ga K c')) = some k) (q : Q (.bl k) H) : rIsi K [x, .ref (He.ga K c')] H Q := by
  obtain ⟨a, dx, vs, rfl, hF, hv⟩ := h.obj_
  exact v_isiO (s _ _ hF) cl f e q
theorem s_lenL {α : Type} {e : α → D} {xs : List α} (hx : At K F0 (.lst (xs.map e)) x) (s : Same F0 H) (q : Q (.int (xs.length : Int)) H) : rLen K [x] H Q := by
  obtain ⟨a, vs, rfl, h, t⟩ := hx.lst_
  exact v_lenSq (s.seq h) (by rw [t.len, List.length_map]; exact q)
theorem s_ixL {α : Type} {e : α → D} {xs : List α} {y : α} {n : Int} {i : Nat} (hx : At K F0 (.lst (xs.map e)) x) (s : Same F0 H) (en : n = (i : Int)) (ey : xs[i]? = some y) (q : ∀ w, At K F0 (e y) w → Q w H) : rIx K x (.int n) H Q := by
  obtain ⟨a, vs, rfl, h, t⟩ := hx.lst_
  obtain ⟨u, hu, ha⟩ := t.get (i := i) (d := e y) (by rw [List.getElem?_map, ey]; rfl)
  exact v_ixSq (s.seq h) (atN en hu) (q u ha)
theorem s_ixT {n : Int} {i : Nat} (hx : At K F0 (.tup ds) x) (s : Same F0 H) (en : n = (i : Int)) (e : ds[i]? = some d) (q : ∀ w, At K F0 d w → Q w H) : rIx K x (.int n) H Q := by
  obtain ⟨a, vs, rfl, h, t⟩ := hx.tup_
  obtain ⟨u, hu, ha⟩ := t.get e
  exact .inr (.inl ⟨_, _, _, _, rfl, rfl, Same.sqt s h, atN en hu, q u ha⟩)
theorem s_inL {xs : List (List Nat)} (hx : At K F0 (.lst (xs.map D.t)) x) (s : Same F0 H) (q : Q (.bl (xs.contains a)) H) : rInX K (.str ⟨a.toArray⟩) x H Q := by
  obtain ⟨p, vs, rfl, h, t⟩ := hx.lst_
  have e := t.flat (g := svv)
  subst e
  exact v_inL (s.seq h) rfl flat_t (by rw [inV_t]; exact q)
theorem s_notInL {xs : List (List Nat)} (hx : At K F0 (.lst (xs.map D.t)) x) (s : Same F0 H) (q : Q (.bl (!xs.contains a)) H) : rNotInX K (.str ⟨a.toArray⟩) x H Q := by
  obtain ⟨p, vs, rfl, h, t⟩ := hx.lst_
  have e := t.flat (g := svv)
  subst e
  exact v_notInL (s.seq h) rfl flat_t (by rw [inV_t]; exact q)
theorem s_inT {xs : List (List Nat)} (hx : At K F0 (.tup (xs.map D.t)) x) (s : Same F0 H) (q : Q (.bl (xs.contains a)) H) : rInX K (.str ⟨a.toArray⟩) x H Q := by
  obtain ⟨p, vs, rfl, h, t⟩ := hx.tup_
  have e := t.flat (g := svv)
  subst e
  exact .inl ⟨p, _, rfl, .inr (Same.sqt s h), rfl, flat_t, by rw [inV_t]; exact q⟩
theorem s_notInT {xs : List (List Nat)} (hx : At K F0 (.tup (xs.map D.t)) x) (s : Same F0 H) (q : Q (.bl (!xs.contains a)) H) : rNotInX K (.str ⟨a.toArray⟩) x H Q := by
  obtain ⟨p, vs, rfl, h, t⟩ := hx.tup_
  have e := t.flat (g := svv)
  subst e
  exact .inl ⟨p, _, rfl, .inr (Same.sqt s h), rfl, flat_t, by rw [inV_t]; exact q⟩
theorem s_gtup {S : L2.St → Hp → Prop} {n : Nat} {t : TGs} (h : At K F0 (.tup ds) x) (s : Same F0 H) (l : ds.length = n) (q : ∀ us, AtA K F0 ds us → t us σ H S) : gTup K n t x σ H S := by
  obtain ⟨p, vs, rfl, hq, ht⟩ := h.tup_
  exact ⟨p, vs, rfl, Same.sqt s hq, by rw [ht.len, l], q vs ht⟩
/-- a list that is being filled -/
theorem o_append {i : Nat} {l : Addr} {o : HO} (hh : HH F H M) (e : M[i]? = some (l, .lst vs)) (hl : vs.length < 16777216) (q : Q .non (upd H l (.lst (vs ++ [x])))) : tyV K "list" (.ref l) H ∧ rAppend (.ref l) [x] H Q :=
  g_tyL (hh.get e) (v_append (hh.get e) (by rw [sl16]; exact hl) q)
/-! what a making, a tuple, a list wants -/
def MakeK (C : Addr) (sp : Sp) (vs : List V) (Q : VK) (H : Hp) (E : XK) : Prop := ∀ x dx, H x = none → H dx = none → dx ≠ x → sp (.ref x :: vs) (upd (upd H dx (.own x)) x (.ins C dx [])) (fun v H2 => v = .non ∧ Q (.ref x) H2) E
theorem g_makeK {C : Addr} {sp : Sp} {E : XK} {TA1 : TA} (h : TA1 σ H fun vs H1 => MakeK C sp vs Q H1 E) : tMake C sp [] E TA1 σ H Q := g_make h
theorem g_makeD {C : Addr} {sp : Sp} {E : XK} {TA1 : TA} {dvs : List V} (h : TA1 σ H fun vs H1 => MakeK C sp (vs ++ dvs) Q H1 E) : tMake C sp dvs E TA1 σ H Q := h
def TupK (xs : List V) (Q : VK) (H : Hp) : Prop := xs.length ≤ sizeLine ∧ ∀ p, H p = none → Q (.ref p) (upd H p (.tup xs))
def LstK (xs : List V) (Q : VK) (H : Hp) : Prop := xs.length ≤ sizeLine ∧ ∀ p, H p = none → Q (.ref p) (upd H p (.lst xs))
theorem g_tupK {TA1 : TA} (h : TA1 σ H fun xs H1 => TupK xs Q H1) : tTup TA1 σ H Q := h
theorem g_lstK {TA1 : TA} (h : TA1 σ H fun xs H1 => LstK xs Q H1) : tLst TA1 σ H Q := h
theorem s_tup {xs : List V} (hh : HH F H M) (h : AtA K F ds xs) (hl : xs.length ≤ 1000) (q : ∀ F' H' u, Same F F' → HH F' H' M → At K F' (.tup ds) u → Q u H') : TupK xs Q H := ⟨by rw [sl16]; omega, a_tup hh h q⟩
theorem s_lst {xs : List V} (hh : HH F H M) (h : AtA K F ds xs) (hl : xs.length ≤ 1000) (q : ∀ F' H' u, Same F F' → HH F' H' M → At K F' (.lst ds) u → Q u H') : LstK xs Q H := ⟨by rw [sl16]; omega, a_lst hh h q⟩
/-- a list that will be filled -/
theorem o_lst {xs : List V} (hh : HH F H M) (hl : xs.length ≤ 1000) (q : ∀ H' p, HH F H' ((p, .lst xs) :: M) → Q (.ref p) H') : LstK xs Q H := ⟨by rw [sl16]; omega, fun p hp => q _ p (hh.new hp)⟩
theorem o_tup {xs : List V} (hl : xs.length ≤ 1000) (q : ∀ p, H p = none → Q (.ref p) (upd H p (.tup xs))) : TupK xs Q H := ⟨by rw [sl16]; omega, q⟩
/-- a property is read -/
def PropK (C : Addr) (sp : Sp) (dvs : List V) (E : XK) (x : V) (H : Hp) (Q : VK) : Prop := ∃ a dx fs, x = .ref a ∧ H a = some (.ins C dx fs) ∧ sp (.ref a :: dvs) H Q E
theorem g_prop {C : Addr} {sp : Sp} {dvs : List V} {E : XK} {ta : TE} (h : ta σ H fun x H1 => PropK C sp dvs E x H1 Q) : tProp C sp dvs E ta σ H Q := h
theorem v_neg {f : Int → V} {j : Int} (q : Q (f j) H) : rU f (.int j) H Q := ⟨_, rfl, q⟩
/-! an instance is made field by field -/
theorem putF_new {f : Str} {v : V} : ∀ {fs : List (Str × V)}, (fs.map (·.1)).contains f = false → putF f v fs = fs ++ [(f, v)]
  | [], _ => rfl
  | (g, z) :: r, h => by
    rw [List.map_cons, List.contains_cons, Bool.or_eq_false_iff] at h
    have n : ¬ g = f := fun e => by rw [e, beq_self_eq_true] at h; cases h.1
    unfold putF
    rw [if_neg n, putF_new h.2]
    rfl
theorem mk_start {C : Addr} {sp : Sp} {E : XK} (hh : HH F H M) (h : ∀ F' H' v dx, Same F F' → HH F' H' ((v, .ins C dx []) :: M) → sp (.ref v :: vs) H' (fun w H2 => w = .non ∧ Q (.ref v) H2) E) : MakeK C sp vs Q H E := fun v dx hv hdx ne => by
  have hv1 : upd H dx (.own v) v = none := by rw [upd_ne (Ne.symm ne)]; exact hv
  exact h _ _ v dx (hh.grow (p := dx) (o := .own v) hdx) ((hh.newF (p := dx) (o := .own v) hdx).new (o := .ins C dx []) hv1)
theorem s_sfld {C a dx : Addr} {f : Str} {fs : List (Str × V)} (hh : HH F H ((a, .ins C dx fs) :: M)) (cl : Cls K C) (n : NoAttr K C f) (ks : List Str) (e : fs.map (·.1) = ks) (nf : ks.contains f = false) (l : fs.length < 999)
    (q : ∀ H', HH F H' ((a, .ins C dx (fs ++ [(f, y)])) :: M) → S H') : SfldK K f (.ref a) y H S := by
  refine v_sfld (hh.get (i := 0) rfl) cl n (by omega) (q _ ?_)
  rw [putF_new (by rw [e]; exact nf)]
  exact hh.set0
theorem mk_end {c : Str} {v dx : Addr} {fs : List (Str × D)} {gs : List (Str × V)} (hh : HH F H ((v, .ins (He.ga K c) dx gs) :: M)) (ha : AtF K F fs gs) (q : ∀ F' H' u, Same F F' → HH F' H' M → At K F' (.obj c fs) u → Q u H') : Q (.ref v) H :=
  q _ _ _ hh.frzS hh.frz (At.mkO upd_same (ha.mono hh.frzS))
theorem s_listL (hx : At K F0 (.lst ds) x) (hh : HH F H M) (s : Same F0 F) (q : ∀ F' H' u, Same F F' → HH F' H' M → At K F' (.lst ds) u → Q u H') : rListX K [x] H Q := by
  obtain ⟨a, vs, rfl, h, t⟩ := hx.lst_
  refine v_listL (hh.sub.seq (s.seq h)) fun l hl => q _ _ _ (hh.grow hl) (hh.newF hl) (At.mkL upd_same (t.mono (s.trans (hh.grow hl))))
theorem s_listT (hx : At K F0 (.tup ds) x) (hh : HH F H M) (s : Same F0 F) (q : ∀ F' H' u, Same F F' → HH F' H' M → At K F' (.lst ds) u → Q u H') : rListX K [x] H Q := by
  obtain ⟨a, vs, rfl, h, t⟩ := hx.tup_
  refine v_listT (Same.sqt hh.sub (Same.sqt s h)) fun l hl => q _ _ _ (hh.grow hl) (hh.newF hl) (At.mkL upd_same (t.mono (s.trans (hh.grow hl))))
/-- a field of a cell that may change is set anew -/
theorem o_sfld0 {C a dx : Addr} {f : Str} {fs : List (Str × V)} (hh : HH F H ((a, .ins C dx fs) :: M)) (cl : Cls K C) (n : NoAttr K C f) (l : fs.length < 1000) (q : ∀ H', HH F H' ((a, .ins C dx (putF f y fs)) :: M) → S H') : SfldK K f (.ref a) y H S :=
  v_sfld (hh.get (i := 0) rfl) cl n l (q _ hh.set0)
end
section
variable {K : PySem.W.Frag} {F F0 F' H H' : Hp} {x y w : V} {d : D} {ds es : List D} {us vs : List V} {M : List (Addr × HO)} {Q : VK} {S : Hp → Prop} {σ : L2.St} {a b zs : List Nat} {nx bk ct : L2.St → Hp → Prop} {rt : VK}
/-! a cell's list: walked, asked -/
theorem o_lcL {α β : Type} {e : α → D} {f : β → D} {xs : List α} {g : TG} {tt : TT} {te : TE} {ws : List Nat} {l : Addr} {i : Nat} (hh : HH F H M) (hm : M[i]? = some (l, .lst us)) (t : AtA K F (xs.map e) us) (hz : xs.length < 16777216) (r : α → Option β)
    (hs : ∀ y (w : V) F' H' c (P : V → Hp → Prop) (N : Hp → Prop), y ∈ xs → At K F' (e y) w → Same F F' → HH F' H' (c :: M) → (∀ F4 H4 v z, Same F' F4 → HH F4 H4 (c :: M) → r y = some z → At K F4 (f z) v → P v H4) →
      (∀ F4 H4, Same F' F4 → HH F4 H4 (c :: M) → r y = none → N H4) → g w (wipe σ ws) H' fun σ2 H2 => wipe σ2 ws = wipe σ ws ∧ tt σ2 H2 fun b H3 => if b = true then te σ2 H3 (fun v H4 => P v H4) else N H3)
    (q : ∀ F' H' u, Same F F' → HH F' H' M → At K F' (.lst ((xs.filterMap r).map f)) u → Q u H') : OvL K (fun J H1 => LcK J g tt te σ ws H1 Q) (.ref l) H := by
  have hl : us.length = xs.length := by rw [t.len, List.length_map]
  refine v_ovL (SqL.of (hh.get hm)) fun D hD => ?_
  refine c_list (xs := us) (fun i H' => ∃ F' ws, Same F F' ∧ HH F' H' ((D, .lst ws) :: M) ∧ ws.length ≤ i ∧ AtA K F' (((xs.take i).filterMap r).map f) ws) ⟨F, [], Same.refl F, hh.new hD, Nat.zero_le _, AtA.nil⟩
    (fun j H' _ ⟨F', ws, s, h', _⟩ => SqL.of (h'.get (i := i + 1) hm)) (fun i v H' hv ⟨F', ws, s, h', hw, ha⟩ => ?_) (fun H' ⟨F', ws, s, h', hw, ha⟩ => ?_)
  · obtain ⟨d, hd', hat⟩ := t.at_ hv
    rw [List.getElem?_map] at hd'
    cases ex : xs[i]? with
    | none => rw [ex] at hd'; cases hd'
    | some y =>
      rw [ex] at hd'
      cases hd'
      have hi : i < xs.length := by
        rcases Nat.lt_or_ge i xs.length with z | z
        · exact z
        · rw [List.getElem?_eq_none z] at ex; cases ex
      have e1 : xs[i] = y := by rw [List.getElem?_eq_getElem hi] at ex; exact Option.some.inj ex
      have et : xs.take (i + 1) = xs.take i ++ [y] := by rw [← e1]; exact (List.take_append_getElem hi).symm
      refine hs y v F' H' _ _ _ (e1 ▸ List.getElem_mem hi) (hat.mono s) s h' (fun F4 H4 v z s4 h4 er hz => ?_) (fun F4 H4 s4 h4 er => ?_)
      · refine v_put (h4.get (i := 0) rfl) (by rw [sl16]; omega) ⟨F4, ws ++ [v], s.trans s4, h4.set0, by rw [List.length_append]; show _ + 1 ≤ _; omega, ?_⟩
        rw [et, List.filterMap_append, List.filterMap_cons, er]
        exact AtA.snocM (ha.mono s4) hz
      · refine ⟨F4, ws, s.trans s4, h4, by omega, ?_⟩
        rw [et, List.filterMap_append, List.filterMap_cons, er]
        show AtA K F4 ((_ ++ []).map f) ws
        rw [List.append_nil]
        exact ha.mono s4
  · rw [hl, List.take_length] at ha
    exact q _ _ _ (s.trans h'.frzS) h'.frz (frz_lst (h'.out (i := 0) rfl) ha)
theorem o_forL {α : Type} {e : α → D} {xs : List α} {g : TG} {tb : TS} {l : Addr} {i : Nat} (hh : HH F H M) (hm : M[i]? = some (l, .lst us)) (t : AtA K F (xs.map e) us) (I : List α → L2.St → Hp → Prop) (hF : ∀ r σ H, I r σ H → SqL K H l us) (h0 : I xs σ H)
    (hs : ∀ y r w σ H, At K F (e y) w → I (y :: r) σ H → g w σ H fun σ2 H2 => tb ⟨I r, rt, nx, I r⟩ σ2 H2) (hd : ∀ σ H, I [] σ H → nx σ H) : OvL K (fun J H1 => LoopG J g tb ⟨nx, rt, bk, ct⟩ σ H1) (.ref l) H := by
  have hl : us.length = xs.length := by rw [t.len, List.length_map]
  refine v_ovL (SqL.of (hh.get hm)) (l_list (xs := us) (fun i σ H => I (xs.drop i) σ H) h0 (fun i σ H _ q => hF _ _ _ q) (fun i v σ H hv q => ?_) (fun σ H q => hd σ H ?_))
  · obtain ⟨d, hd', ha⟩ := t.at_ hv
    rw [List.getElem?_map] at hd'
    cases ex : xs[i]? with
    | none => rw [ex] at hd'; cases hd'
    | some y =>
      rw [ex] at hd'
      cases hd'
      exact hs y _ v σ H ha (by rw [drop_c ex] at q; exact q)
  · rw [hl, List.drop_length] at q
    exact q
theorem o_lenL {l : Addr} {i : Nat} (hh : HH F H M) (hm : M[i]? = some (l, .lst us)) (q : Q (.int (us.length : Int)) H) : rLen K [.ref l] H Q := v_lenL (hh.get hm) q
theorem o_inL {xs : List (List Nat)} {l : Addr} {i : Nat} (hh : HH F H M) (hm : M[i]? = some (l, .lst us)) (t : AtA K F (xs.map D.t) us) (q : Q (.bl (xs.contains a)) H) : rInX K (.str ⟨a.toArray⟩) (.ref l) H Q := by
  have e := t.flat (g := svv)
  subst e
  exact v_inL (SqL.of (hh.get hm)) rfl flat_t (by rw [inV_t]; exact q)
theorem o_notInL {xs : List (List Nat)} {l : Addr} {i : Nat} (hh : HH F H M) (hm : M[i]? = some (l, .lst us)) (t : AtA K F (xs.map D.t) us) (q : Q (.bl (!xs.contains a)) H) : rNotInX K (.str ⟨a.toArray⟩) (.ref l) H Q := by
  have e := t.flat (g := svv)
  subst e
  exact v_notInL (SqL.of (hh.get hm)) rfl flat_t (by rw [inV_t]; exact q)
/-- a list that will be filled, behind the first cell -/
theorem o_lst1 {xs : List V} {c : Addr × HO} (hh : HH F H (c :: M)) (hl : xs.length ≤ 1000) (q : ∀ H' p, HH F H' (c :: (p, .lst xs) :: M) → Q (.ref p) H') : LstK xs Q H := ⟨by rw [sl16]; omega, fun p hp => q _ p (hh.new1 hp)⟩
theorem o_app0 {l : Addr} (hh : HH F H ((l, .lst vs) :: M)) (hl : vs.length < 16777216) (q : ∀ H', HH F H' ((l, .lst (vs ++ [x])) :: M) → Q .non H') : rAppend (.ref l) [x] H Q := v_append (hh.get (i := 0) rfl) (by rw [sl16]; exact hl) (q _ hh.set0)
theorem o_app1 {l : Addr} {c : Addr × HO} (hh : HH F H (c :: (l, .lst vs) :: M)) (hl : vs.length < 16777216) (q : ∀ H', HH F H' (c :: (l, .lst (vs ++ [x])) :: M) → Q .non H') : rAppend (.ref l) [x] H Q := v_append (hh.get (i := 1) rfl) (by rw [sl16]; exact hl) (q _ hh.set1)
theorem o_app2 {l : Addr} {c c2 : Addr × HO} (hh : HH F H (c :: c2 :: (l, .lst vs) :: M)) (hl : vs.length < 16777216) (q : ∀ H', HH F H' (c :: c2 :: (l, .lst (vs ++ [x])) :: M) → Q .non H') : rAppend (.ref l) [x] H Q := v_append (hh.get (i := 2) rfl) (by rw [sl16]; exact hl) (q _ hh.set2)
theorem o_tyL {l : Addr} {i : Nat} {A : Prop} (hh : HH F H M) (hm : M[i]? = some (l, .lst us)) (q : A) : tyV K "list" (.ref l) H ∧ A := g_tyL (hh.get hm) q
end
section
variable {K : PySem.W.Frag} {F F0 F1 F' H H' : Hp} {x y w : V} {d : D} {ds es : List D} {us vs : List V} {M : List (Addr × HO)} {Q : VK} {S : Hp → Prop} {σ : L2.St} {a b zs : List Nat} {nx bk ct : L2.St → Hp → Prop} {rt : VK}
theorem s_cat (hx : At K F0 (.lst ds) x) (hy : At K F1 (.lst es) y) (hh : HH F H M) (s0 : Same F0 F) (s1 : Same F1 F) (hl : ds.length + es.length ≤ 16777216) (q : ∀ F' H' u, Same F F' → HH F' H' M → At K F' (.lst (ds ++ es)) u → Q u H') : rAddX K x y H Q := by
  obtain ⟨a, vs, rfl, h, t⟩ := hx.lstR
  obtain ⟨b, us, rfl, h2, t2⟩ := hy.lstR
  refine v_cat (hh.sub _ _ (s0 _ _ h)) (hh.sub _ _ (s1 _ _ h2)) (by rw [t.len, t2.len, sl16]; exact hl) fun p hp => q _ _ _ (hh.grow hp) (hh.newF hp) (At.mkL upd_same ((t.mono (s0.trans (hh.grow hp))).app (t2.mono (s1.trans (hh.grow hp)))))
/-- a fault at a token: its place must be small -/
def Rs.badT {α : Type} (p : Nat) (z : List Nat) : Rs α := if p < 1000000000 then .bad p z else .stuck
theorem Er.raiseT {α : Type} {E : XK} {ok : α → Prop} {p : Nat} (q : (Rs.badT p zs : Rs α).on ok (Er K E F0 M)) (s : Same F0 F) (hh : HH F H M) (hz : zs.length ≤ 1000) : FauK (He.ga K "Fault") (fun cls d H => E cls d H) [.int (p : Int), .str ⟨zs.toArray⟩] H := by
  unfold Rs.badT at q
  by_cases h : p < 1000000000
  · rw [if_pos h] at q
    exact Er.raise (Er.mono q s) hh rfl h hz
  · rw [if_neg h] at q
    exact q.elim
end
theorem putF_ne {f g : Str} {v y : V} {fs : List (Str × V)} (n : (g == f) = false) : putF f v ((g, y) :: fs) = (g, y) :: putF f v fs := by
  conv => lhs; unfold putF
  rw [if_neg (fun e => by rw [e, beq_self_eq_true] at n; cases n)]
theorem putF_eq {f : Str} {v y : V} {fs : List (Str × V)} : putF f v ((f, y) :: fs) = (f, v) :: fs := by
  unfold putF
  rw [if_pos rfl]
theorem lk1 {f g : Str} {α : Type} {a : α} {l : List (Str × α)} (h : f = g) : ((g, a) :: l).lookup f = some a := by subst h; rw [List.lookup_cons, beq_self_eq_true]
theorem lk2 {f g : Str} {α : Type} {a : α} {l : List (Str × α)} {r : Option α} (n : (f == g) = false) (h : l.lookup f = r) : ((g, a) :: l).lookup f = r := by rw [List.lookup_cons, n]; exact h
end G

namespace G
open PySem PySem.Spec PyProof.Rows L2
/-! ### f-strings, str of an int, replace -/
def decI (i : Int) : List Nat := ((toString i : String) : Str).cps.toList
theorem decI_str {i : Int} : (((toString i : String) : Str)) = ⟨(decI i).toArray⟩ := by
  unfold decI
  simp
def replL (y z x : List Nat) : List Nat := (Txt.replace ⟨x.toArray⟩ ⟨y.toArray⟩ ⟨z.toArray⟩).cps.toList
theorem replL_str {x y z : List Nat} : Txt.replace ⟨x.toArray⟩ ⟨y.toArray⟩ ⟨z.toArray⟩ = ⟨(replL y z x).toArray⟩ := by
  unfold replL
  simp
def tJoin (ts : List TE) : TE := fun σ H Q => tJs ts Str.empty σ H fun out H1 => Q (.str out) H1
theorem pe_joinE {X : Cx} {v1 v2 : Expr} {rest : List Expr} {ts : List TE} {pos : Pos} (h : PJ X (v1 :: v2 :: rest) ts) : PE X (.JoinedStr (v1 :: v2 :: rest) pos) (tJoin ts) := pe_joined h
def rStrI : List V → Hp → VK → Prop := fun xs H Q => ∃ i, xs = [.int i] ∧ i.natAbs.log2 < 1920 ∧ Q (.str (toString i)) H
def JsT (ts : List TE) (acc : List Nat) (σ : L2.St) (H : Hp) (Q : Str → Hp → Prop) : Prop := tJs ts ⟨acc.toArray⟩ σ H Q
def JsK (ts : List TE) (acc : List Nat) (x : V) (σ : L2.St) (H : Hp) (Q : Str → Hp → Prop) : Prop := ∃ y : List Nat, x = svv y ∧ acc.length + y.length ≤ 16777216 ∧ JsT ts (acc ++ y) σ H Q
def FmtK (x : V) (H : Hp) (Q : VK) : Prop := (∃ y : List Nat, x = svv y ∧ y.length ≤ 16777216 ∧ Q (svv y) H) ∨ ∃ i : Int, x = .int i ∧ i.natAbs.log2 < 1920 ∧ Q (svv (decI i)) H
theorem log2_60 {i : Int} (h : i.natAbs ≤ 1000000000000000000) : i.natAbs.log2 < 60 := by
  by_cases z : i.natAbs = 0
  · rw [z]; decide
  · exact (Nat.log2_lt z).mpr (Nat.lt_of_le_of_lt h (by decide))
theorem log2_small {i : Int} (h : i.natAbs ≤ 1000000000000000000) : i.natAbs.log2 < 1920 := Nat.lt_trans (log2_60 h) (by decide)
section
variable {σ : L2.St} {H : Hp} {Q : VK} {te : TE} {t : TE} {ts : List TE} {acc y : List Nat} {S : Str → Hp → Prop}
theorem g_joinE (h : JsT ts [] σ H fun out H1 => Q (.str out) H1) : tJoin ts σ H Q := h
theorem g_jsN (q : S ⟨acc.toArray⟩ H) : JsT [] acc σ H S := q
theorem g_jsC (h : t σ H fun x H1 => JsK ts acc x σ H1 S) : JsT (t :: ts) acc σ H S := by
  have e : (fun x H1 => JsK ts acc x σ H1 S) = fun x H1 => ∃ y : Str, x = .str y ∧ ((⟨acc.toArray⟩ : Str) ++ y).length ≤ sizeLine ∧ tJs ts ((⟨acc.toArray⟩ : Str) ++ y) σ H1 S := by
    funext x H1
    apply propext
    constructor
    · rintro ⟨y, rfl, hl, q⟩
      refine ⟨_, rfl, ?_, ?_⟩
      · rw [app_svv, len_svv, List.length_append, sl16]; exact hl
      · rw [app_svv]; exact q
    · rintro ⟨⟨ys⟩, rfl, hl, q⟩
      have ey : (⟨ys⟩ : Str) = ⟨ys.toList.toArray⟩ := by simp
      rw [ey, app_svv] at q hl
      rw [len_svv, List.length_append, sl16] at hl
      exact ⟨ys.toList, by rw [← ey], hl, q⟩
  rw [e] at h
  exact h
theorem v_js (hl : acc.length + y.length ≤ 16777216) (q : JsT ts (acc ++ y) σ H S) : JsK ts acc (.str ⟨y.toArray⟩) σ H S := ⟨y, rfl, hl, q⟩
theorem g_fmt (h : te σ H fun x H1 => FmtK x H1 Q) : tFmt te σ H Q := by
  have e : (fun x H1 => FmtK x H1 Q) = fun x H1 => (∃ y : Str, x = .str y ∧ y.length ≤ sizeLine ∧ Q (.str y) H1) ∨ ∃ i : Int, x = .int i ∧ i.natAbs.log2 < 1920 ∧ Q (.str (toString i)) H1 := by
    funext x H1
    apply propext
    constructor
    · rintro (⟨y, rfl, hl, q⟩ | ⟨i, rfl, hl, q⟩)
      · exact .inl ⟨_, rfl, by rw [len_svv, sl16]; exact hl, q⟩
      · exact .inr ⟨i, rfl, hl, by rw [decI_str]; exact q⟩
    · rintro (⟨⟨ys⟩, rfl, hl, q⟩ | ⟨i, rfl, hl, q⟩)
      · have ey : (⟨ys⟩ : Str) = ⟨ys.toList.toArray⟩ := by simp
        rw [ey] at q hl
        rw [len_svv, sl16] at hl
        exact .inl ⟨ys.toList, by rw [← ey], hl, q⟩
      · exact .inr ⟨i, rfl, hl, by rw [decI_str] at q; exact q⟩
  rw [e] at h
  exact h
theorem v_fmtT (hl : y.length ≤ 16777216) (q : Q (svv y) H) : FmtK (.str ⟨y.toArray⟩) H Q := .inl ⟨y, rfl, hl, q⟩
theorem v_fmtI {i : Int} (hl : i.natAbs ≤ 1000000000000000000) (q : Q (svv (decI i)) H) : FmtK (.int i) H Q := .inr ⟨i, rfl, log2_small hl, q⟩
theorem v_strI {i : Int} (hl : i.natAbs ≤ 1000000000000000000) (q : Q (svv (decI i)) H) : rStrI [.int i] H Q := ⟨i, rfl, log2_small hl, by rw [decI_str]; exact q⟩
end
theorem decI_len {i : Int} (hl : i.natAbs ≤ 1000000000000000000) : (decI i).length ≤ 1000 := by
  have e := int_text_length_le (k := 60) (by decide) (log2_60 hl)
  have e2 : (decI i).length = (((toString i : String) : Str)).length := by rw [decI_str, len_svv]
  rw [e2, PySem.ofString_length (toString i)]
  omega
/-! a token is out -/
def NbK (K : PySem.W.Frag) : Prop := PySem.W.nsOkIn K cStatics = true ∧ PySem.W.nsIn K cStatics sharingNotToldKey = some none
def nbF (K : PySem.W.Frag) : Bool := PySem.W.nsOkIn K cStatics && He.eqO (PySem.W.nsIn K cStatics sharingNotToldKey) (some none)
theorem nbF_ok {K : PySem.W.Frag} (h : nbF K = true) : NbK K := by
  obtain ⟨h1, h2⟩ := He.ba h
  exact ⟨h1, He.eqO_ok h2⟩
theorem NbK.none {K : PySem.W.Frag} {h : Heap} (n : NbK K) (X : K.In h) : NoneBooked h :=
  ⟨_, .of_isNs (PySem.W.isNs_of_in X n.1), PySem.W.ns_none_of X (.of_isNs (PySem.W.isNs_of_in X n.1)) n.2⟩
def PE1 (X : Cx) (e : Expr) (t : TE) : Prop :=
  ∀ (pins : List (Addr × Obj)) (s : Shared) (σ : L2.St) (H : Hp) (Q : VK), Inv X pins σ H s → t σ H Q → wpAny (model X.prog X.w) X.A (eval e X.env) (fun v s1 => 1 ≤ s1.toks ∧ EP X pins σ Q v s1) X.xe s
section
variable {X : Cx} {e f : Expr} {te tf : TE} {pos : Pos} {op : Operator}
theorem PE1.pe (h : PE1 X e te) : PE X e te := ⟨fun pins s σ H Q I q => wpAny_mono (h pins s σ H Q I q) (fun _ _ z => z.2) fun _ _ z => z⟩
theorem pe1_strE {x z : Str} {j : Nat} (h : x = z) : PE1 X (.Constant (.str x) j pos) (tC (.str z)) := by
  subst h
  exact fun pins s σ H Q I q => Calls.Constant_str ⟨by show 1 ≤ s.toks + 1; omega, .str x, H, I.tok _, ⟨_, rfl⟩, q⟩
theorem pe1_op {r : R2} (ho : OpR X (binaryOp op) r) (ha : PE1 X e te) (hb : PET X f tf) : PE1 X (.BinOp e op f pos) (tOp r te tf) := by
  intro pins s σ H Q I h
  refine wpAny_BinOp (wpAny_mono (ha pins s σ H _ I h) (fun v s1 q => ?_) fun _ _ z => z)
  obtain ⟨h1, x, H1, I1, r1, q1⟩ := q
  refine wpAny_mono (PySem.wpAny_toks (hb pins s1 σ H1 _ h1 I1 q1)) (fun u s2 q => ?_) fun _ _ z => z.2
  obtain ⟨h2, y, H2, I2, r2, q2⟩ := q
  refine wpAny_mono (PySem.wpAny_toks (ho pins s2 σ H2 x y v u Q I2 r1 r2 q2)) (fun w s3 q => ?_) fun _ _ z => z.2
  exact ⟨Nat.le_trans h1 (Nat.le_trans h2 q.1), q.2⟩
def tReplL (to : TE) (y z : List Nat) : TE := fun σ H Q => to σ H fun v H1 => ∃ x : List Nat, v = svv x ∧ x.length + (x.length + 1) * z.length ≤ 16777216 ∧ Q (svv (replL y z x)) H1
def tReplS (to : TE) (z : List Nat) : TE := fun σ H Q => to σ H fun v H1 => ∃ x : List Nat, v = svv x ∧ x.length + (x.length + 1) * z.length ≤ 16777216 ∧ Q (svv x) H1
theorem pet_replE {o : Expr} {to : TE} {y z : Str} {ys zs : List Nat} {j k : Nat} {c0 c1 apos : Pos} (ho : PET X o to) (ey : y = ⟨ys.toArray⟩) (ez : z = ⟨zs.toArray⟩) (hyz : (y == z) = false := by decide)
    (hst : starEach [.Constant (.str y) j c0, .Constant (.str z) k c1] X.env = [(false, eval (.Constant (.str y) j c0) X.env), (false, eval (.Constant (.str z) k c1) X.env)] := by rfl)
    (hbase : attributeBase o "replace" X.env (eval o X.env) = eval o X.env := by rfl) (hline : (apos.endLine == pos.line) = true := by rfl) :
    PET X (.Call (.Attribute o "replace" apos) [.Constant (.str y) j c0, .Constant (.str z) k c1] [] pos) (tReplL to ys zs) := by
  intro pins s σ H Q h0 I h
  refine CwR.pet_replT ho hyz hst hbase hline pins s σ H Q h0 I ?_
  show to σ H _
  have e : (fun v H1 => ∃ x : List Nat, v = svv x ∧ x.length + (x.length + 1) * zs.length ≤ 16777216 ∧ Q (svv (replL ys zs x)) H1) = fun v H1 => ∃ x, v = .str x ∧ x.length + (x.length + 1) * z.length ≤ 16777216 ∧ Q (.str (Txt.replace x y z)) H1 := by
    funext v H1
    apply propext
    subst ey ez
    rw [len_svv]
    constructor
    · rintro ⟨x, rfl, hl, q⟩
      exact ⟨_, rfl, by rw [len_svv]; exact hl, by rw [replL_str]; exact q⟩
    · rintro ⟨⟨xs⟩, rfl, hl, q⟩
      have ex : (⟨xs⟩ : Str) = ⟨xs.toList.toArray⟩ := by simp
      rw [ex] at q hl
      rw [len_svv] at hl
      rw [replL_str] at q
      exact ⟨xs.toList, by rw [← ex], hl, q⟩
  have h' : to σ H (fun v H1 => ∃ x : List Nat, v = svv x ∧ x.length + (x.length + 1) * zs.length ≤ 16777216 ∧ Q (svv (replL ys zs x)) H1) := h
  rw [e] at h'
  exact h'
theorem pet_replS {o : Expr} {to : TE} {y : Str} {ys : List Nat} {j k : Nat} {c0 c1 apos : Pos} (nb : NbK X.K) (ho : PET X o to) (ey : y = ⟨ys.toArray⟩)
    (hst : starEach [.Constant (.str y) j c0, .Constant (.str y) k c1] X.env = [(false, eval (.Constant (.str y) j c0) X.env), (false, eval (.Constant (.str y) k c1) X.env)] := by rfl)
    (hbase : attributeBase o "replace" X.env (eval o X.env) = eval o X.env := by rfl) (hline : (apos.endLine == pos.line) = true := by rfl) :
    PET X (.Call (.Attribute o "replace" apos) [.Constant (.str y) j c0, .Constant (.str y) k c1] [] pos) (tReplS to ys) := by
  intro pins s σ H Q h0 I h
  have h' : to σ H (fun v H1 => ∃ x : List Nat, v = svv x ∧ x.length + (x.length + 1) * ys.length ≤ 16777216 ∧ Q (svv x) H1) := h
  refine PySem.Call_method2 hbase hst hline (wpAny_mono (PySem.wpAny_toks (ho pins s σ H _ h0 I h')) (fun v s1 q => ?_) fun _ _ z => z.2)
  obtain ⟨hk, v', H1, I1, r1, x, e1, hb, q⟩ := q
  subst e1
  obtain ⟨tx, e2⟩ := r1
  subst e2
  have h1 : 1 ≤ s1.toks := Nat.le_trans h0 hk
  refine ⟨"str", _, PySem.F.plainAttrs_str, PySem.F.slot_str_replace, PySem.F.type_str_replace, typeIs_str _ _ _, (fun _ e => nomatch e), Calls.callWith_builtin rfl (Calls.evalArgs_plain (Calls.spliced_cons ?_))⟩
  refine Calls.Constant_str (Calls.spliced_cons (Calls.Constant_str (Calls.spliced_nil ?_)))
  refine PySem.SC.replaceA (by show s1.toks ≠ 0; omega) (by show s1.toks + 1 ≠ 0; omega) (by show s1.toks ≠ s1.toks + 1; omega) ?_ (fun t' k => ?_) (nb.none I1.kIn)
  · rw [ey, len_svv, len_svv]; exact hb
  · rw [Txt.replace_self]
    exact ⟨svv x, H1, I1.tok k, ⟨t', rfl⟩, q⟩
theorem pet_cmpR {a b : Expr} {ta tb : TE} {op : CmpOp} {r : R2} (ho : OpR X (compareOp op) r) (ha : PET X a ta) (hb : PET X b tb) (hm : behindInMarks op b = false) : PET X (.Compare a [op] [b] pos) (tOp r ta tb) := by
  intro pins s σ H Q h0 I h
  refine wpAny_Compare1 (wpAny_mono (PySem.wpAny_toks (ha pins s σ H _ h0 I h)) (fun v s1 q => ?_) fun _ _ z => z.2) hm
  obtain ⟨hk, x, H1, I1, r1, q1⟩ := q
  exact thn (hb pins s1 σ H1 _ (Nat.le_trans h0 hk) I1 q1) fun u s2 ⟨y, H2, I2, r2, q2⟩ => ho pins s2 σ H2 x y v u Q I2 r1 r2 q2
theorem pet_one {op} (h : PET X e te) : PET X (.BoolOp op [e] pos) te := fun pins s σ H Q h0 I hw => BoolOp_one (h pins s σ H Q h0 I hw)
theorem pet_and {a b : Expr} {rest : List Expr} {ta tb : TE} (ha : PET X a ta) (hb : PET X (.BoolOp .And (b :: rest) pos) tb) : PET X (.BoolOp .And (a :: b :: rest) pos) (tAndV ta tb) := by
  intro pins s σ H Q h0 I h
  refine BoolOp_and (wpAny_mono (PySem.wpAny_toks (ha pins s σ H _ h0 I h)) (fun v s1 q => ?_) fun _ _ z => z.2)
  obtain ⟨hk, x, H1, I1, r1, c, rfl, q1⟩ := q
  cases r1
  refine wpAny_truthy_bool ?_
  cases c with
  | true => exact hb pins s1 σ H1 Q (Nat.le_trans h0 hk) I1 q1
  | false => exact ⟨.bl false, H1, I1, rfl, q1⟩
theorem psst_cut {st : Stmt} {rest : List Stmt} {t u : TS} (h1 : PST X st t) (h2 : PSsT X rest u) : PSsT X (st :: rest) (C8.tCut t u) := by
  intro pins s σ H D h0 I h
  obtain ⟨Mid, ht, hu⟩ := h
  refine wpAny_execs_cons (wpAny_mono (PySem.wpAny_toks (h1 pins s σ H { D with nx := Mid } h0 I ht)) (fun f s1 q => ?_) fun _ _ x => x.2)
  obtain ⟨hk, q⟩ := q
  cases f with
  | next =>
    obtain ⟨σ', H', I', q⟩ := q
    exact h2 pins s1 σ' H' D (Nat.le_trans h0 hk) I' (hu σ' H' q)
  | ret v => exact q
  | brk => exact q
  | cont => exact q
/-- name = e, where e gives out a token; what stands behind may lean on it -/
theorem pss_set1 {i : Nat} {x : Str} {rest : List Stmt} {u : TS} {pos' : Pos} (hN : X.N.Nodup) (hi : X.N[i]? = some x) (hx : Loc X.env.scope x) (he : PE1 X e te) (h2 : PSsT X rest u) (hs : swapsWith e (some (.Name x pos')) pos.line X.env = pure false := by rfl)
    (hf : X.fn x = true ∨ X.env.scope.names.lookup x = some .local := by first | exact .inl rfl | exact .inr rfl | assumption) : PSs X (.Assign [.Name x pos'] e pos :: rest) (tSeq (tAsg te (gName i)) u) := by
  refine ⟨fun pins s σ H D I h => ?_⟩
  refine wpAny_execs_cons (wpAny_Assign_Name (wpAny_mono (he pins s σ H _ I h) (fun v s1 q => ?_) fun _ _ z => z) hs)
  obtain ⟨h1, y, H1, I1, r1, q1⟩ := q
  refine wpAny_mono (PySem.wpAny_toks (store_ok (v := y) (u := v) (Q := fun _ s2 => Inv X pins (σ.set i (some y)) H1 s2) I1 hN hi hx r1 (fun _ I2 => I2) hf)) (fun _ s2 q => ?_) fun _ _ z => z.2
  exact h2 pins s2 _ H1 D (Nat.le_trans h1 q.1) q.2 q1
/-- s.rstrip() -/
def rRstrip : V → List V → Hp → VK → Prop := fun x xs H Q => ∃ a : Str, x = .str a ∧ xs = [] ∧ a.length ≤ sizeLine ∧ Q (.str (Txt.rstrip a)) H
theorem mt_rstripQ : MtR X "str.rstrip" rRstrip := mt_rstrip
theorem v_rstrip {K : PySem.W.Frag} {H : Hp} {Q : VK} {a : Str} (h : a.length ≤ sizeLine) (q : Q (.str (Txt.rstrip a)) H) : tyV K "str" (.str a) H ∧ rRstrip (.str a) [] H Q := ⟨rfl, a, rfl, rfl, h, q⟩
end
end G

namespace GN
open PySem PySem.Spec PyProof.Rows PySem.Builtin
/-! ### != by an own __eq__ (object's __ne__ asks it) -/
section
variable {prog : Program} {w : World} {A : Around} {E : Value → Shared → Prop} {s : Shared} {K : PySem.W.Frag} {x y C f L : Addr} {h₀ : Heap} {m : Str → Option Value} {ox : Obj} {od : Option Obj} {tb : Value}
theorem entry_K (hu : A.units < cLine) (X : K.In s.heap) (I : PySem.W.InstAt s.heap x ox C od) (hs : PySem.W.findIn K (.ref C) "__eq__" = some (some (.ref f))) (hf : PySem.W.isFn K (.ref f) = true) {Q : Fin → Shared → Prop}
    (hcall : wpAny (model prog w) A (call (.ref f) [.ref x, .ref y]) (fun v s' => ∃ b, v = .bool b ∧ Q (.done (.ret (.bool (!b)))) s') E s) :
    wpAny (model prog w) A (Builtin.«object.__ne__» ⟨[.ref x, .ref y], []⟩) Q E s := by
  unfold Builtin.«object.__ne__»
  repeat (first
    | with_reducible refine wpAny_cRoomFor hu ?_
    | (refine wpAny_bind (m := callSpecialIfBound? (.ref x) (Str.ofString "__eq__") [.ref y])
        (PySem.W.ifBound_K X I hs hf (wpAny_mono hcall (fun r s' hr => by
          obtain ⟨b, rfl, hq⟩ := hr
          repeat (first | exact hq | exact wpAny_pure hq | exact wpAny_truthy_bool hq | (refine wpAny_bind (m := truthy (.bool _)) (wpAny_truthy_bool ?_)) | wp_step)) fun _ _ e => e)))
    | wp_step)
theorem ifBound_objNe {M : Model} {args : List Value} {Q : Option Value → Shared → Prop} (X : K.In s.heap) (I : PySem.W.InstAt s.heap x ox C od) (hs : PySem.W.findIn K (.ref C) "__ne__" = some (some (.builtin "object.__ne__")))
    (h : wpAny M A (call (.builtin "object.__ne__") (.ref x :: args)) (fun v => Q (some v)) E s) : wpAny M A (callSpecialIfBound? (.ref x) "__ne__" args) Q E s := by
  simp only [callSpecialIfBound?, bindSpecialIfBound?]
  refine wpAny_holding (wpAny_bind (wpAny_bind (wpAny_bind (I.type.here ((PySem.W.looks_findIn X hs).here ?_)))))
  refine wpAny_bind (wpAny_askSetting (wpAny_ite ?_))
  have fin : wpAny M A (call (.builtin "object.__ne__") ([.ref x] ++ args) >>= fun v => pure (some v)) Q E s := wpAny_bind (wpAny_mono h (fun v s' h' => wpAny_pure h') fun _ _ h' => h')
  split
  · exact wpAny_bind (wpAny_of_eq (F.cmp_object.ne.bind _) (wpAny_pure (by exact fin)))
  · exact wpAny_tryCatch (wpAny_bind (wpAny_of_eq (F.cmp_object.ne.bind _) (wpAny_pure (by exact fin))))
theorem rcNe_K {Q : Value → Shared → Prop} (hu : A.units + 1 < cLine) (X : K.In s.heap) (I : PySem.W.InstAt s.heap x ox C od) (hb : PySem.W.Looks (model prog w) s.heap (typeOf (.ref y)) tb) (hn : PySem.W.notFirst K C tb = true) (hm : PySem.W.mroIn K C (.type "object") = some true)
    (hne : PySem.W.findIn K (.ref C) "__ne__" = some (some (.builtin "object.__ne__"))) (hs : PySem.W.findIn K (.ref C) "__eq__" = some (some (.ref f))) (hf : PySem.W.isFn K (.ref f) = true)
    (h : wpAny (model prog w) A.in1 (call (.ref f) [.ref x, .ref y]) (fun v s' => ∃ b, v = .bool b ∧ Q (.bool (!b)) s') E s) : wpAny (model prog w) A (richCompare .NotEq (.ref x) (.ref y)) Q E s := by
  have one : wpAny (model prog w) A (tryCompare (.ref x) "__ne__" (.ref y)) (fun r s' => ∃ v, r = some v ∧ Q v s') E s := by
    unfold tryCompare
    refine wpAny_bind (ifBound_objNe X I hne (wpAny_call (codeAny_call_builtin F.cmp_object.ne.plain F.cmpEntry_ne (PySem.W.check_slot F.cmpKind_ne F.cmpSplit_ne (I.type.andThen (PySem.W.looks_mroIn X hm)) (F.cmpArgs_ne _ _)
      (entry_K (A := A.in1) hu X I hs hf (wpAny_mono h (fun v s' hv => ?_) fun _ _ e => e))))))
    obtain ⟨b, rfl, hq⟩ := hv
    first | exact ⟨b, rfl, wpAny_pure ⟨_, rfl, hq⟩⟩ | exact ⟨b, rfl, wpAny_pure (wpAny_pure ⟨_, rfl, hq⟩)⟩
  unfold richCompare
  simp only [oneThing_ref]
  refine wpAny_holding (wpAny_bind (wpAny_cRoomFor (Nat.lt_of_succ_lt hu) ?_))
  rw [cmpInfo_NotEq]
  dsimp only
  refine wpAny_bind (I.type.here (wpAny_bind (hb.here ?_)))
  split
  · rename_i q
    have e : PySem.W.subIn K tb (.ref C) = some false := by
      rcases Bool.or_eq_true_iff.mp hn with e | e
      · rw [beq_iff_eq.mp e] at q; simp at q
      · exact beq_iff_eq.mp e
    refine wpAny_bind ((PySem.W.looks_subIn X e).here ?_)
    simp only [Bool.false_eq_true, if_false]
    refine wpAny_bind (wpAny_mono one (fun r s' z => ?_) fun _ _ e => e)
    obtain ⟨v, rfl, hq⟩ := z
    exact wpAny_pure hq
  · refine wpAny_bind (wpAny_pure ?_)
    simp only [Bool.false_eq_true, if_false]
    refine wpAny_bind (wpAny_mono one (fun r s' z => ?_) fun _ _ e => e)
    obtain ⟨v, rfl, hq⟩ := z
    exact wpAny_pure hq
end
end GN
namespace L2
open PySem PySem.Spec PyProof.Rows
section
variable {X : Cx} {n : Nat}
/-- a != b: instances of the class at C (its own __eq__ promises sp), and of the class at D -/
def rNeO (K : PySem.W.Frag) (C : Addr) (sp : Sp) (E : XK) : R2 := fun x y H Q => ∃ a b dx fs D dy gs, x = .ref a ∧ y = .ref b ∧ H a = some (.ins C dx fs) ∧ H b = some (.ins D dy gs) ∧ PySem.W.notFirst K C (.ref D) = true ∧ sp [.ref a, .ref b] H (fun v H' => ∃ t, v = .bl t ∧ Q (.bl (!t)) H') E
theorem op_neO {CX : CXT} {C f : Addr} {fd : FuncData} {ps : List Str} {sp : Sp} {E : XK} (F : FnOk X.prog X.w X.K X.mg X.base CX n f fd ps sp) (hm : PySem.W.mroIn X.K C (.type "object") = some true)
    (hne : PySem.W.findIn X.K (.ref C) "__ne__" = some (some (.builtin "object.__ne__"))) (hs : PySem.W.findIn X.K (.ref C) "__eq__" = some (some (.ref f))) (hf : PySem.W.isFn X.K (.ref f) = true) (hb : Binds X.K fd ps []) (hx : Passes CX X E) (hr : Room (n + 1) X.A) :
    OpR X (compareOp .NotEq) (rNeO X.K C sp E) := by
  intro pins s σ H x y v u Q I rx ry hq
  obtain ⟨a, b, dx, fs, D, dy, gs, rfl, rfl, ha, hb', hnf, hsp⟩ := hq
  cases rx
  cases ry
  obtain ⟨mA, J, _⟩ := ins_get I.hok ha
  obtain ⟨mB, J', _⟩ := ins_get I.hok hb'
  obtain ⟨od, J, _⟩ := J.look
  obtain ⟨od', J', _⟩ := J'.look
  show wpAny (model X.prog X.w) X.A (richCompare .NotEq (.ref a) (.ref b)) (EP X pins σ Q) X.xe s
  refine GN.rcNe_K (tb := .ref D) hr.in1.units0 I.kIn J J'.type hnf hm hne hs hf ?_
  have hl := F.len _ _ _ _ hsp
  have r2 : Vals [V.ref a, V.ref b] [Value.ref a, Value.ref b] := .cons rfl (.cons rfl .nil)
  refine wpAny_call (codeAny_mono (F.run X.A.in1 X.stack s H ⟨[.ref a, .ref b], []⟩ [.ref a, .ref b] [.ref a, .ref b] _ E hr.in1 I.env0.in1 (by
    have := hb s [.ref a, .ref b] I.kIn (by simpa using hl)
    simpa using this) r2 hsp) fun r s' hq => ?_)
  cases r with
  | error e => exact hx pins σ H s e s' I hq
  | ok fl =>
    cases fl with
    | ret w =>
      obtain ⟨z, H', I', rz, t, ez, hQ⟩ := I.after hq
      subst ez
      cases rz
      exact ⟨t, rfl, .bl (!t), H', I', rfl, hQ⟩
    | next => exact False.elim hq
    | brk => exact False.elim hq
    | cont => exact False.elim hq
def NeF (K : PySem.W.Frag) (C : Addr) : Prop := PySem.W.mroIn K C (.type "object") = some true ∧ PySem.W.findIn K (.ref C) "__ne__" = some (some (.builtin "object.__ne__"))
def neFB (c : Str) (K : PySem.W.Frag) : Bool := (PySem.W.mroIn K (He.ga K c) (.type "object") == some true) && (PySem.W.findIn K (.ref (He.ga K c)) "__ne__" == some (some (.builtin "object.__ne__")))
theorem neF_ok {K : PySem.W.Frag} {c : Str} (h : neFB c K = true) : NeF K (He.ga K c) := by
  unfold neFB at h
  rw [Bool.and_eq_true] at h
  exact ⟨beq_iff_eq.mp h.1, beq_iff_eq.mp h.2⟩
def rOr2 (r r' : R2) : R2 := fun x y H Q => r x y H Q ∨ r' x y H Q
theorem op_or2 {f : Value → Value → Sem Value} {r r' : R2} (h : OpR X f r) (h' : OpR X f r') : OpR X f (rOr2 r r') := fun pins s σ H x y v u Q I rx ry q => q.elim (h pins s σ H x y v u Q I rx ry) (h' pins s σ H x y v u Q I rx ry)
theorem op_neMt {j : Nat} {C : Addr} {sp : Sp} (c : G.Mt X.prog X.w X.K X.mg X.base n C "__eq__" sp []) (nf : NeF X.K C) (hr : Room j X.A) (hk : n + 1 ≤ j) : OpR X (compareOp .NotEq) (rNeO X.K C sp E0) := by
  obtain ⟨f, fd, ps, ds, cl, hm, F, b, d⟩ := c.ex
  cases d
  exact op_neO F nf.1 nf.2 hm.at_ hm.fn b passL (hr.mono hk)
end
end L2

namespace G
open PySem PySem.Spec PyProof.Rows L2
/-! ### defs that are called where no repr is under way -/
structure FnG (P : Program) (w : World) (K : PySem.W.Frag) (mg : Str → Option Value) (base : Heap) (k : Nat) (f : Addr) (fd : FuncData) (ps : List Str) (sp : Sp) : Prop where
  len : ∀ vs H Q E, sp vs H Q E → vs.length = ps.length
  go : ∀ (A : Around) (fr : List Env) (s : Shared) (H : Hp) (ar : Args) (us : List Value) (vs : List V) (Q : VK) (E : XK), A.guards = some [] → Room k A → Env0 P w K mg base A fr s H →
    BindsTo s fd ar (ps.zip us) → Vals vs us → sp vs H Q E → codeAny (model P w) A (.call (.ref f) ar) (CR (L2.CX P w) fr P w H s Q E) s
theorem FnG.of {P : Program} {w : World} {K : PySem.W.Frag} {mg : Str → Option Value} {base : Heap} {k : Nat} {f : Addr} {fd : FuncData} {ps : List Str} {sp : Sp} (F : FnOk P w K mg base (L2.CX P w) k f fd ps sp) : FnG P w K mg base k f fd ps sp :=
  ⟨F.len, fun A fr s H ar us vs Q E _ hr => F.run A fr s H ar us vs Q E hr⟩
/-- such a def, by its body -/
theorem fnG {P : Program} {w : World} {K : PySem.W.Frag} {mg : Str → Option Value} {base : Heap} {x qual : Str} {params : Arguments} {body : List Stmt} {sc : Scope} {dvs : List V} {kws : List (Str × V)} {f : Addr} {fd : FuncData} {N ps : List Str} {k : Nat} {sp : Sp}
    (F : FunD K x qual params body sc dvs kws f fd) (S : FnScope N ps sc) (len : ∀ vs H Q E, sp vs H Q E → vs.length = ps.length)
    (hb : ∀ (cd : Value) (A : Around) (fr : List Env) (s : Shared) (H : Hp) (vs : List V) (Q : VK) (E : XK), (A.deeper (envOfC qual sc s.heap.objs.size f cd)).guards = some [] → Room k (A.deeper (envOfC qual sc s.heap.objs.size f cd)) → sp vs H Q E →
      ∃ t, PSs (cxOf (L2.CX P w) P w K mg base N qual sc f cd A fr s H E) body t ∧ t ⟨fun _ H' => Q .non H', Q, fun _ _ => False, fun _ _ => False⟩ (start N vs) H) : FnG P w K mg base (k + 1) f fd ps sp := by
  obtain ⟨_, _, _, _, _, _, _, cd, _, _, rfl, lk, hcd, _, _⟩ := F.ex
  refine ⟨len, fun A fr s H ar us vs Q E hg hr e0 bi rv hsp => ?_⟩
  have old : ∀ b o, base.get? b = some o → s.heap.get? b = some o := fun b o e => (e0.bs b o e).1
  have hk : ∀ y ∈ ps.zip us, sc.names.lookup y.1 = some .local ∨ (sc.names.lookup y.1 = some .cell ∧ ((cellsFrom (s.heap.objs.size + 1) sc.names []).lookup y.1).isSome = true) := by
    rintro ⟨n, v⟩ hy
    exact (S.par n (List.of_mem_zip hy).1).imp id fun q => ⟨q, PySem.W.cellsFrom_some _ _ _ (.inl q)⟩
  refine codeAny_call_function hr.depth (e0.mod.kin.keeps old _ _ lk) rfl S.co S.gen rfl (PySem.W.codeRec_of (e0.mod.kin.keeps old) hcd) (bi _ _ _ _ (wpAny_newFunctionEnv_cells S.kind hk fun env he s1 x => ?_))
  subst he
  obtain ⟨t, ht, hq⟩ := hb cd A fr s H vs Q E hg (hr.deeper _) hsp
  refine ⟨(e0.mod.nolimit.keeps old).keeps x.toInCall.keep, codeAny_func (wpAny_mono (ht.run [] s1 _ H _ (inv_start S hr.hd e0 (len _ _ _ _ hsp) rv x) hq) (fun fl s' z => ?_) fun _ _ z => z)⟩
  cases fl with
  | ret u =>
    obtain ⟨v, _, H', J, r, q⟩ := z
    exact ⟨v, H', J.os, J.bare, J.base, J.hok, r, q⟩
  | next =>
    obtain ⟨_, H', J, q⟩ := z
    exact ⟨.non, H', J.os, J.bare, J.base, J.hok, rfl, q⟩
  | brk => exact z.elim fun _ z => z.elim fun _ z => z.2.elim
  | cont => exact z.elim fun _ z => z.elim fun _ z => z.2.elim
structure ClG (P : Program) (w : World) (K : PySem.W.Frag) (mg : Str → Option Value) (base : Heap) (k : Nat) (x : Str) (sp : Sp) (dvs : List V) : Prop where
  ex : ∃ (f : Addr) (fd : FuncData) (ps : List Str) (ds : List Value), FnG P w K mg base k f fd ps sp ∧ mg x = some (.ref f) ∧ PySem.W.keepIn K (.ref f) = true ∧ Binds K fd ps ds ∧ Vals dvs ds
section
variable {X : Cx} {k j : Nat} {x : Str} {sp : Sp} {dvs : List V} {p pos : Pos} {e : Expr} {es : List Expr} {t : TA} {E : L2.St → XK}
theorem pe_clg (c : ClG X.prog X.w X.K X.mg X.base k x sp dvs) (gd : X.A.guards = some []) (hr : Room j X.A) (hk : k ≤ j) (hx : ∀ σ, PassesAt (L2.CX X.prog X.w) X σ (E σ)) (hg : Gl X x) (ha : PA X (e :: es) t)
    (hdb : (x == ("__debug__" : Str)) = false := by decide) (he : starEach (e :: es) X.env = (false, eval e X.env) :: starEach es X.env := by rfl) (hpl : (backTo pos (starEach es X.env)).any (·.1) = false := by rfl) :
    PE X (.Call (.Name x p) (e :: es) [] pos) (tCallSD sp dvs E t) := by
  obtain ⟨f, fd, ps, ds, F, hm, kp, b, d⟩ := c.ex
  refine ⟨fun pins s σ H Q I h => wpAny_Call_Name_kw (ld_glob I hg hm (PySem.W.callWith_K (h₀ := X.base) I.ok.mod.kin kp (thn (ha.run pos pins s σ H _ I h) fun us s1 z => ?_) he hpl) hdb)⟩
  obtain ⟨vs, H1, I1, r, q⟩ := z
  have r2 : Vals (vs ++ dvs) (us ++ ds) := r.append d
  refine ⟨I1.kIn, wpAny_call (codeAny_mono (F.go X.A X.stack s1 H1 ⟨us, []⟩ (us ++ ds) (vs ++ dvs) Q (E σ) gd (hr.mono hk) I1.env0 (b s1 us I1.kIn (by rw [← r2.length]; exact F.len _ _ _ _ q)) r2 q) fun res s2 z => ?_)⟩
  cases res with
  | error e => exact hx σ pins H1 s1 e s2 I1 z
  | ok fl =>
    cases fl with
    | ret u => exact I1.after z
    | next => exact z.elim
    | brk => exact z.elim
    | cont => exact z.elim
end
/-! ### repr -/
def keyP : L2.Key → PyData
  | .inl i => .int i
  | .inr z => .str z
/-- data that repr may be asked of: flat, lists and tuples of such, a dict of such -/
inductive Dq (K : PySem.W.Frag) (H : Hp) : V → PyData → Prop
  | p {v : V} {d : PyData} : Dp K H v d → Dq K H v d
  | d {a : Addr} {kvs : List (L2.Key × V)} {ds : List PyData} : Rd H a (.dK kvs) → DpAll K H (kvs.map (·.2)) ds → Dq K H (.ref a) (.dict ((kvs.map fun kv => keyP kv.1).zip ds))
def rRepr (K : PySem.W.Frag) : List V → Hp → VK → Prop := fun xs H Q => ∃ v d, xs = [v] ∧ Dq K H v d ∧ d.showable = true ∧ d.leavesShort 13 = true ∧ d.bulk ≤ 2 ^ 20 ∧ d.depth ≤ 60 ∧ Q (.str d.shown) H
mutual
theorem Dp.nod {K : PySem.W.Frag} {H : Hp} : ∀ {v : V} {d : PyData}, Dp K H v d → d.hasDict = false
  | _, _, .non => by simp only [PyData.hasDict]
  | _, _, .bl _ => by simp only [PyData.hasDict]
  | _, _, .int _ => by simp only [PyData.hasDict]
  | _, _, .str _ => by simp only [PyData.hasDict]
  | _, _, .lst _ h => by rw [PyData.hasDict]; exact DpAll.nod h
  | _, _, .tup _ h => by rw [PyData.hasDict]; exact DpAll.nod h
theorem DpAll.nod {K : PySem.W.Frag} {H : Hp} : ∀ {vs : List V} {ds : List PyData}, DpAll K H vs ds → PyData.hasDictAll ds = false
  | _, _, .nil => by simp only [PyData.hasDictAll]
  | _, _, .cons h t => by rw [PyData.hasDictAll, Dp.nod h, DpAll.nod t]; rfl
end
theorem DpAll.len {K : PySem.W.Frag} {H : Hp} : ∀ {vs : List V} {ds : List PyData}, DpAll K H vs ds → vs.length = ds.length
  | _, _, .nil => rfl
  | _, _, .cons _ t => congrArg Nat.succ (DpAll.len t)
theorem zip_fst {α β : Type} : ∀ {xs : List α} {ys : List β}, xs.length = ys.length → (xs.zip ys).map (·.1) = xs
  | [], [], _ => rfl
  | [], _ :: _, h => nomatch h
  | _ :: _, [], h => nomatch h
  | x :: xs, y :: ys, h => by rw [List.zip_cons_cons, List.map_cons, zip_fst (Nat.succ.inj h)]
theorem zip_snd {α β : Type} : ∀ {xs : List α} {ys : List β}, xs.length = ys.length → (xs.zip ys).map (·.2) = ys
  | [], [], _ => rfl
  | [], _ :: _, h => nomatch h
  | _ :: _, [], h => nomatch h
  | x :: xs, y :: ys, h => by rw [List.zip_cons_cons, List.map_cons, zip_snd (Nat.succ.inj h)]
/-- a dict's entries are read -/
theorem ents {P : Program} {w : World} {h : Heap} : ∀ {es : List DictEntry} {vs : List (L2.Key × Value)}, Pairs (mixKind P w) es vs → (∃ as, ReadsAll h (es.map (·.key)) (vs.map fun p => keyP p.1) as) ∧ es.map (·.val) = vs.map (·.2)
  | _, _, .nil => ⟨⟨_, .nil⟩, rfl⟩
  | _, _, .cons (e := e) (kv := kv) h1 h2 t => by
    obtain ⟨⟨as, q1⟩, q2⟩ := ents (P := P) (w := w) (h := h) t
    obtain ⟨k, v⟩ := kv
    refine ⟨?_, by rw [List.map_cons, List.map_cons, q2, h2]⟩
    rcases keyIs_shape (k := k) (v := e.key) (show keyIs k e.key = true from h1) with ⟨i, t, e1, e2⟩ | ⟨i, t, e1, e2⟩
    · refine ⟨[] ++ as, ?_⟩
      rw [List.map_cons, List.map_cons, e2]
      show ReadsAll h _ (keyP k :: _) _
      rw [e1]
      exact .cons (.int i t) q1
    · refine ⟨[] ++ as, ?_⟩
      rw [List.map_cons, List.map_cons, e2]
      show ReadsAll h _ (keyP k :: _) _
      rw [e1]
      exact .cons (.str i t) q1
theorem kv_vals {vs : List (L2.Key × Value)} {kvs : List (L2.Key × V)} (r : KV kvs vs) : Vals (kvs.map (·.2)) (vs.map (·.2)) := by
  induction r with
  | nil => exact .nil
  | cons h _ ih => exact .cons h.2 ih
section
variable {X : Cx} {pins : List (Addr × Obj)} {σ : L2.St} {H : Hp} {s : Shared} {Q : VK}
theorem call_repr (gd : X.A.guards = some []) (hu : X.A.units + 64 < cLine) : CallR X (.builtin "repr") (rRepr X.K) := by
  intro pins s σ H xs us Q I r h
  obtain ⟨v, d, rfl, hd, hs, hl, hw, hdp, q⟩ := h
  obtain ⟨u, rfl, ru⟩ := vals1 r
  have hz : d.shown.length ≤ sizeLine := PyData.shown_fits_bulk (by decide) (by decide) hl hw
  cases hd with
  | p hd =>
    cases hd with
    | non =>
      obtain rfl : u = .none := ru
      exact PySem.P.repr_of_none ⟨.str _, H, I.tok _, ⟨_, rfl⟩, q⟩
    | bl b =>
      obtain rfl : u = .bool b := ru
      refine PySem.P.repr_of_bool ⟨.str _, H, I.tok _, ⟨_, rfl⟩, ?_⟩
      have e : (PyData.bool b).shown = (if b then "True" else "False" : Str) := by rw [PyData.shown]
      rw [e] at q
      exact q
    | int i =>
      obtain ⟨t, rfl⟩ : ∃ t, u = .int i t := ru
      have hs' : i.natAbs.log2 < 1920 := by simpa [PyData.showable] using hs
      refine PySem.P.repr_of_int hs' ⟨.str _, H, I.tok _, ⟨_, rfl⟩, ?_⟩
      rw [PyData.shown] at q
      exact q
    | str z =>
      obtain ⟨t, rfl⟩ : ∃ t, u = .str z t := ru
      rw [PyData.shown] at q hz
      exact PySem.P.repr_of_str ⟨.str _, H, I.tok _, ⟨_, rfl⟩, q⟩ hz
    | lst h1 h2 =>
      have hd2 := L2.Dp.lst h1 h2
      obtain ⟨as, rr⟩ := L2.Dp.reads I _ _ u hd2 ru
      cases ru
      exact repr_of_reads' rr hs (PyData.noDict_hsm (Dp.nod hd2)) gd (by omega) (fun _ _ e => e) (fun h' u tk hk => ⟨.str _, H, I.kept hk, ⟨_, rfl⟩, q⟩) hz
    | tup h1 h2 =>
      have hd2 := L2.Dp.tup h1 h2
      obtain ⟨as, rr⟩ := L2.Dp.reads I _ _ u hd2 ru
      cases ru
      exact repr_of_reads' rr hs (PyData.noDict_hsm (Dp.nod hd2)) gd (by omega) (fun _ _ e => e) (fun h' u tk hk => ⟨.str _, H, I.kept hk, ⟨_, rfl⟩, q⟩) hz
  | d hr hv =>
    rename_i a kvs ds
    cases ru
    obtain ⟨_, hsys, vs, rel, dd⟩ := dk_rd I.hok hr
    obtain ⟨o, es, ep, ho, hx, hdat, hko, hpa, hnd⟩ := dd
    obtain ⟨⟨as, ra⟩, ev⟩ := ents (P := X.prog) (w := X.w) (h := s.heap) hpa
    have rv := kv_vals rel
    rw [← ev] at rv
    obtain ⟨bs, rb⟩ := L2.Dp.readsAll I _ _ _ hv rv
    have ek : (vs.map fun p => keyP p.1) = kvs.map fun kv => keyP kv.1 := by
      have e := congrArg (List.map keyP) rel.keys
      rw [List.map_map, List.map_map] at e
      exact e.symm
    rw [ek] at ra
    have hlen : (kvs.map fun kv => keyP kv.1).length = ds.length := by rw [List.length_map, ← DpAll.len hv, List.length_map]
    generalize hD : (kvs.map fun kv => keyP kv.1).zip ds = D at hs hl hw hdp q hz ⊢
    have e1 : D.map (·.1) = kvs.map fun kv => keyP kv.1 := by rw [← hD]; exact zip_fst hlen
    have e2 : D.map (·.2) = ds := by rw [← hD]; exact zip_snd hlen
    rw [← e1] at ra
    rw [← e2] at rb
    have nod2 : PyData.hasDictAll (D.map (·.2)) = false := by rw [e2]; exact DpAll.nod hv
    have nod1 : PyData.hasDictAll (D.map (·.1)) = false := by
      rw [e1]
      generalize kvs = l
      induction l with
      | nil => simp only [List.map_nil, PyData.hasDictAll]
      | cons p l ih =>
        rw [List.map_cons, PyData.hasDictAll, ih]
        cases p.1 <;> rfl
    rw [PyData.shown] at hz q
    obtain ⟨sk, sv⟩ := PyData.showableKv_split D (by simpa [PyData.showable] using hs)
    obtain ⟨b1, m1, k1⟩ := ReprAllK.of_readsAll (prog := X.prog) (w := X.w) ra sk (fun z => by rw [nod1] at z; cases z) fun t ht => by
      obtain ⟨p, hp, l⟩ := PyData.shownKv_key_le D t ht
      exact Nat.le_trans l (Nat.le_trans (dictText_mem_le hp) hz)
    obtain ⟨b2, m2, k2⟩ := ReprAllK.of_readsAll (prog := X.prog) (w := X.w) rb sv (fun z => by rw [nod2] at z; cases z) fun t ht => by
      obtain ⟨p, hp, l⟩ := PyData.shownKv_val_le D t ht
      exact Nat.le_trans l (Nat.le_trans (dictText_mem_le hp) hz)
    rw [PyData.depth] at hdp
    have fit : (dictText (PyData.shownKv D)).length ≤ sizeLine := hz
    have far : a ∉ b1 ++ b2 := not_mem_of_deeper (n := PyData.depthKv D) (.dict ho hx.1 hdat ra rb) (by rw [PyData.depth]; exact Nat.lt_succ_self _) ((m1.mono (PyData.depthAll_keys_le D)).append (m2.mono (PyData.depthAll_vals_le D)))
    rw [PyData.shownKv_eq] at q fit
    refine call_repr_slot (T := "dict") (by omega) ⟨o, ho, hx.1⟩ F.slot_dict_repr (call_dict_reprK (g := []) (d := PyData.depthKv D) ho hx.1 hdat hsys far (ReprEntriesK.of_two es.toList _ _
      (k1.more_le (fun b hb => List.mem_append_left _ hb) (PyData.depthAll_keys_le D)) (k2.more_le (fun b hb => List.mem_append_right _ hb) (PyData.depthAll_vals_le D))) gd (fun b _ => Clear.nil b) (by show X.A.units + 1 + _ < _; omega) (fun _ _ e => e)
      (fun h' u tk hk => ⟨_, _, rfl, .str _, H, I.kept hk, ⟨_, rfl⟩, q⟩) fit)
end
end G

namespace G
open PySem PySem.Spec PyProof.Rows L2
/-! ### the law's own call, where its defs ask repr -/
section
variable {P : Program} {w : World} {K : PySem.W.Frag} {mg mb : Str → Option Value} {k : Nat} {fa a : Addr} {fd : FuncData} {x : Str} {sp : Sp} {s1 : Shared} {vs : List Value} {ns : List Int}
def LawEnd (s1 : Shared) : Result → Shared → Prop := fun r s' => r = .ok (.ret (.bool true)) ∧ OldK s1.heap s'.heap ∧ s'.os = s1.os ∧ AllBare s'.gens
theorem law_core (KX : K.In s1.heap) (hns : s1.heap.Ns mainGlobals mg) (hb : s1.heap.Ns builtinsNs mb) (hbb : ∀ x : Str, x ≠ "__name__" → mb x = bootBuiltins x) (hlim : s1.heap.NoLimit) (hg : s1.gens = #[])
    (ha : s1.heap.get? a = some { cls := .type "list", data := .seq vs.toArray }) (hr : Room k callerA) (F : ∀ base : Heap, FnG P w K mg base k fa fd [x] sp) (bi : ∀ (s : Shared) (u : Value), BindsTo s fd ⟨[u], []⟩ [(x, u)])
    (H : Hp) (hO : Only H) (hok : HOk P w H s1.heap) (hA : ∀ b, H b ≠ none → b = a) (hK : H a ≠ none → K.lookup a = none) (hsp : sp [.ref a] H (fun v _ => v = .bl true) fun _ _ _ => False) :
    codeAny (model P w) callerA (.call (.ref fa) ⟨[.ref a], []⟩) (LawEnd s1) s1 := by
  have out : ∀ {b : Addr} {o : Obj}, s1.heap.get? b = some o → (b = a → False) → (hidT s1.heap H).get? b = some o := fun {b o} e n => hidT_get e (by
    cases q : H b with
    | none => rfl
    | some u => exact (n (hA b (by rw [q]; intro z; cases z))).elim)
  have nsO : ∀ {b : Addr} {m : Str → Option Value}, s1.heap.Ns b m → (hidT s1.heap H).Ns b m := fun {b m} z => by
    obtain ⟨o, es, ep, e, d, r⟩ := z
    refine ⟨o, es, ep, out e fun z => ?_, d, r⟩
    rw [z, ha] at e
    cases e
    cases d
  have kin : K.In (hidT s1.heap H) := fun b o e => hidT_get (KX b o e) (by
    cases q : H b with
    | none => rfl
    | some u =>
      have z := hA b (by rw [q]; intro z; cases z)
      subst z
      rw [hK (by rw [q]; intro z; cases z)] at e
      cases e)
  obtain ⟨mc, l1, l2⟩ := hlim
  have e0 : Env0 P w K mg (hidT s1.heap H) callerA [] s1 H := by
    refine ⟨rfl, ⟨kin, nsO hns, ⟨mb, nsO hb, hbb⟩, ⟨mc, nsO l1, l2⟩⟩, fun b o e => of_hidT e, Nat.le_of_eq (hidT_size _ _), trivial, ?_, hok, .of_eq hg⟩
    intro b z
    cases (show b ∈ ([] : List Addr) from z)
  refine codeAny_mono ((F _).go callerA [] s1 H ⟨[.ref a], []⟩ [.ref a] [.ref a] _ _ rfl hr e0 (bi s1 (.ref a)) (.cons rfl .nil) hsp) fun r s' h => ?_
  cases r with
  | error e =>
    obtain ⟨_, _, _, _, _, _, _, _, _, _, _, _, z⟩ := h
    exact z.elim
  | ok fl =>
    cases fl with
    | next => exact h.elim
    | brk => exact h.elim
    | cont => exact h.elim
    | ret u =>
      obtain ⟨v, H', os, bare, un, hok', r', q⟩ := h
      obtain rfl : v = .bl true := q
      obtain rfl : u = Value.bool true := r'
      refine ⟨rfl, OldK.of_keep fun b o e => ?_, os, bare⟩
      rcases hO b with z | ⟨ob, xs, z⟩
      · refine un.keep b o e z ?_ ?_
        · intro z
          cases (show b ∈ ([] : List Addr) from z)
        · intro z
          cases z
      · have z2 := un.frzs b ob _ z
        have e1 := (hok b _ z).1
        have e2 := (hok' b _ z2).1
        rw [e] at e1
        cases e1
        exact e2
theorem law_callG (KX : K.In s1.heap) (hns : s1.heap.Ns mainGlobals mg) (hb : s1.heap.Ns builtinsNs mb) (hbb : ∀ x : Str, x ≠ "__name__" → mb x = bootBuiltins x) (hlim : s1.heap.NoLimit) (hg : s1.gens = #[])
    (ha : s1.heap.get? a = some { cls := .type "list", data := .seq vs.toArray }) (hi : IntsAre vs ns) (hl : ns.length ≤ sizeLine) (hr : Room k callerA) (F : ∀ base : Heap, FnG P w K mg base k fa fd [x] sp)
    (bi : ∀ (s : Shared) (u : Value), BindsTo s fd ⟨[u], []⟩ [(x, u)]) (hsp : ∀ H : Hp, Only H → SqL K H a (ns.map V.int) → sp [.ref a] H (fun v _ => v = .bl true) fun _ _ _ => False) :
    codeAny (model P w) callerA (.call (.ref fa) ⟨[.ref a], []⟩) (LawEnd s1) s1 := by
  have rv := vals_ints hi
  cases hk : K.lookup a with
  | some o =>
    have e := KX a o hk
    rw [ha] at e
    cases e
    have o0 : Only (fun _ => none) := fun _ => .inl rfl
    have sq : SqL K (fun _ => none) a (ns.map V.int) := .inr ⟨_, vs.toArray, _, hk, rfl, rfl, rfl, by rw [List.size_toArray, hi.length]; exact hl, by simpa using rv⟩
    exact law_core KX hns hb hbb hlim hg ha hr F bi _ o0 (fun b u z => nomatch (show (none : Option HO) = some u from z)) (fun b z => (z rfl).elim) (fun z => (z rfl).elim) (hsp _ o0 sq)
  | none =>
    generalize hH : (fun b => if b = a then some (HO.frz { cls := .type "list", data := .seq vs.toArray } (.lst (ns.map V.int))) else none : Hp) = H
    have at_ : H a = some (.frz { cls := .type "list", data := .seq vs.toArray } (.lst (ns.map V.int))) := by rw [← hH]; exact if_pos rfl
    have el : ∀ b, b ≠ a → H b = none := fun b n => by rw [← hH]; exact if_neg n
    have o1 : Only H := fun b => by
      by_cases z : b = a
      · rw [z]; exact .inr ⟨_, _, at_⟩
      · exact .inl (el b z)
    refine law_core KX hns hb hbb hlim hg ha hr F bi H o1 (fun b u z => ?_) (fun b z => ?_) (fun _ => hk) (hsp H o1 (.inl (.inr ⟨_, at_⟩)))
    · by_cases n : b = a
      · subst n
        rw [at_] at z
        cases z
        exact ⟨ha, by rw [List.length_map]; exact hl, vs, _, rv, ha⟩
      · rw [el b n] at z
        cases z
    · by_cases n : b = a
      · exact n
      · exact (z (el b n)).elim
end
theorem walk_ofG {l : PySem.W.OpenLaw} {n k : Nat} {q : Program} {loose : List Str} {XP : (Str → Option Value) → Heap → Prop} {YP : World → Heap → Prop} {d : DefRec} {x : Str}
    (hn : l.most = some n) (hn2 : n ≤ sizeLine) (hdf : d.params.defaults = []) (hr : Room k callerA)
    (F : ∀ (w : World) (mg : Str → Option Value) (fa : Addr) (h : Heap), YP w h → h.Ns mainGlobals mg → mg d.name = some (.ref fa) →
      ∃ (K : PySem.W.Frag) (fd : FuncData) (sp : Sp), K.In h ∧ (∀ (s : Shared) (u : Value), BindsTo s fd ⟨[u], []⟩ [(x, u)]) ∧
        (∀ (H : Hp) (a : Addr) (ns : List Int), ns.length ≤ n → Only H → SqL K H a (ns.map V.int) → sp [.ref a] H (fun v _ => v = .bl true) fun _ _ _ => False) ∧
        ∀ base : Heap, FnG l.prog w K mg base k fa fd [x] sp) :
    PySem.W.WalkO q loose XP YP l.row.toRowW d [] (fun f vs => PySem.call f vs) := by
  refine Att.attach_call hn hdf fun w s₀ s₁ mg mb fa o pm cd doc a vs ns G Y ho hd hcd hmg hobj hints hlen hg => ?_
  obtain ⟨K, fd, sp, KX, hb, hsp, hF⟩ := F w mg fa _ Y G.T.g hmg
  exact law_callG KX G.T.g G.T.b G.T.builtins G.T.nolimit hg hobj hints (Nat.le_trans hlen hn2) hr hF hb fun H hO hS => hsp H a ns hlen hO hS
end G

/-! ### own ==, own !=, of an instance and any value -/
namespace GN
open PySem PySem.Spec PyProof.Rows PySem.Builtin
section
variable {prog : Program} {w : World} {A : Around} {E : Value → Shared → Prop} {s : Shared} {K : PySem.W.Frag} {x C f L : Addr} {y : Value} {h₀ : Heap} {m : Str → Option Value} {ox : Obj} {od : Option Obj} {tb : Value}
theorem entry_V (hu : A.units < cLine) (X : K.In s.heap) (I : PySem.W.InstAt s.heap x ox C od) (hs : PySem.W.findIn K (.ref C) "__eq__" = some (some (.ref f))) (hf : PySem.W.isFn K (.ref f) = true) {Q : Fin → Shared → Prop}
    (hcall : wpAny (model prog w) A (call (.ref f) [.ref x, y]) (fun v s' => ∃ b, v = .bool b ∧ Q (.done (.ret (.bool (!b)))) s') E s) :
    wpAny (model prog w) A (Builtin.«object.__ne__» ⟨[.ref x, y], []⟩) Q E s := by
  unfold Builtin.«object.__ne__»
  repeat (first
    | with_reducible refine wpAny_cRoomFor hu ?_
    | (refine wpAny_bind (m := callSpecialIfBound? (.ref x) (Str.ofString "__eq__") [y])
        (PySem.W.ifBound_K X I hs hf (wpAny_mono hcall (fun r s' hr => by
          obtain ⟨b, rfl, hq⟩ := hr
          repeat (first | exact hq | exact wpAny_pure hq | exact wpAny_truthy_bool hq | (refine wpAny_bind (m := truthy (.bool _)) (wpAny_truthy_bool ?_)) | wp_step)) fun _ _ e => e)))
    | wp_step)
theorem rcNe_V {Q : Value → Shared → Prop} (hu : A.units + 1 < cLine) (X : K.In s.heap) (I : PySem.W.InstAt s.heap x ox C od) (hb : PySem.W.Looks (model prog w) s.heap (typeOf y) tb) (hn : PySem.W.notFirst K C tb = true) (hm : PySem.W.mroIn K C (.type "object") = some true)
    (hne : PySem.W.findIn K (.ref C) "__ne__" = some (some (.builtin "object.__ne__"))) (hs : PySem.W.findIn K (.ref C) "__eq__" = some (some (.ref f))) (hf : PySem.W.isFn K (.ref f) = true)
    (h : wpAny (model prog w) A.in1 (call (.ref f) [.ref x, y]) (fun v s' => ∃ b, v = .bool b ∧ Q (.bool (!b)) s') E s) : wpAny (model prog w) A (richCompare .NotEq (.ref x) y) Q E s := by
  have one : wpAny (model prog w) A (tryCompare (.ref x) "__ne__" y) (fun r s' => ∃ v, r = some v ∧ Q v s') E s := by
    unfold tryCompare
    refine wpAny_bind (ifBound_objNe X I hne (wpAny_call (codeAny_call_builtin F.cmp_object.ne.plain F.cmpEntry_ne (PySem.W.check_slot F.cmpKind_ne F.cmpSplit_ne (I.type.andThen (PySem.W.looks_mroIn X hm)) (F.cmpArgs_ne _ _)
      (entry_V (A := A.in1) hu X I hs hf (wpAny_mono h (fun v s' hv => ?_) fun _ _ e => e))))))
    obtain ⟨b, rfl, hq⟩ := hv
    first | exact ⟨b, rfl, wpAny_pure ⟨_, rfl, hq⟩⟩ | exact ⟨b, rfl, wpAny_pure (wpAny_pure ⟨_, rfl, hq⟩)⟩
  unfold richCompare
  simp only [oneThing_ref]
  refine wpAny_holding (wpAny_bind (wpAny_cRoomFor (Nat.lt_of_succ_lt hu) ?_))
  rw [cmpInfo_NotEq]
  dsimp only
  refine wpAny_bind (I.type.here (wpAny_bind (hb.here ?_)))
  split
  · rename_i q
    have e : PySem.W.subIn K tb (.ref C) = some false := by
      rcases Bool.or_eq_true_iff.mp hn with e | e
      · rw [beq_iff_eq.mp e] at q; simp at q
      · exact beq_iff_eq.mp e
    refine wpAny_bind ((PySem.W.looks_subIn X e).here ?_)
    simp only [Bool.false_eq_true, if_false]
    refine wpAny_bind (wpAny_mono one (fun r s' z => ?_) fun _ _ e => e)
    obtain ⟨v, rfl, hq⟩ := z
    exact wpAny_pure hq
  · refine wpAny_bind (wpAny_pure ?_)
    simp only [Bool.false_eq_true, if_false]
    refine wpAny_bind (wpAny_mono one (fun r s' z => ?_) fun _ _ e => e)
    obtain ⟨v, rfl, hq⟩ := z
    exact wpAny_pure hq
end
end GN
namespace G
open PySem PySem.Spec PyProof.Rows L2
/-- y's type, and that its own == does not come first -/
def OwnR (K : PySem.W.Frag) (C : Addr) (y : V) (H : Hp) : Prop := (∃ b D dy gs, y = .ref b ∧ H b = some (.ins D dy gs) ∧ PySem.W.notFirst K C (.ref D) = true) ∨ ((∃ i, y = .int i) ∧ PySem.W.notFirst K C (.type "int") = true)
/-- x == y (neg: !=), x an instance of the class at C, whose own == promises sp -/
def rOwn (neg : Bool) (K : PySem.W.Frag) (C : Addr) (sp : Sp) : R2 := fun x y H Q => ∃ a dx fs, x = .ref a ∧ H a = some (.ins C dx fs) ∧ OwnR K C y H ∧ sp [.ref a, y] H (fun v H' => ∃ t, v = .bl t ∧ Q (.bl (if neg then !t else t)) H') E0
def NeF2 (K : PySem.W.Frag) (C : Addr) : Prop := NeF K C ∧ PySem.W.notFirst K C (.ref C) = true ∧ PySem.W.notFirst K C (.type "int") = true
def neF2B (c : Str) (K : PySem.W.Frag) : Bool := neFB c K && (PySem.W.notFirst K (He.ga K c) (.ref (He.ga K c)) && PySem.W.notFirst K (He.ga K c) (.type "int"))
theorem neF2_ok {K : PySem.W.Frag} {c : Str} (h : neF2B c K = true) : NeF2 K (He.ga K c) := by
  unfold neF2B at h
  rw [Bool.and_eq_true, Bool.and_eq_true] at h
  exact ⟨neF_ok h.1, h.2.1, h.2.2⟩
section
variable {X : Cx} {n j : Nat} {C : Addr} {sp : Sp}
theorem looks_int {M : Model} {h : Heap} {u : Value} {i : Int} (r : RelV (.int i) u) : PySem.W.Looks M h (typeOf u) (.type "int") := by
  obtain ⟨t, rfl⟩ := r
  exact PySem.W.Looks.of_pure rfl
theorem own_call (c : Mt X.prog X.w X.K X.mg X.base n C "__eq__" sp []) (hr : Room j X.A) (hk : n + 1 ≤ j) {pins : List (Addr × Obj)} {s : Shared} {σ : L2.St} {H : Hp} {a : Addr} {y : V} {u : Value} {R : V → Hp → Prop} (I : Inv X pins σ H s) (ry : RelV y u)
    (hsp : sp [.ref a, y] H R E0) (A : Around) (hA : A = X.A ∨ A = X.A.in1) : ∃ f, Meth X.K C "__eq__" f ∧ wpAny (model X.prog X.w) A (call (.ref f) [.ref a, u]) (EP X pins σ R) X.xe s := by
  obtain ⟨f, fd, ps, ds, cl, hm, F, b, d⟩ := c.ex
  cases d
  refine ⟨f, hm, ?_⟩
  have hl := F.len _ _ _ _ hsp
  have rm : Room n A := by
    rcases hA with rfl | rfl
    · exact hr.mono (by omega)
    · exact (hr.mono hk).in1
  have e0 : Env0 X.prog X.w X.K X.mg X.base A X.stack s H := by
    rcases hA with rfl | rfl
    · exact I.env0
    · exact I.env0.in1
  have bi := b s [.ref a, u] I.kIn (by simpa using hl)
  rw [List.append_nil] at bi
  refine wpAny_call (codeAny_mono (F.run A X.stack s H ⟨[.ref a, u], []⟩ [.ref a, u] [.ref a, y] R E0 rm e0 bi (.cons rfl (.cons ry .nil)) hsp) fun r s' hq => ?_)
  cases r with
  | error e => exact (passL (X := X)) pins σ H s e s' I hq
  | ok fl =>
    cases fl with
    | ret w => exact I.after hq
    | next => exact hq.elim
    | brk => exact hq.elim
    | cont => exact hq.elim
theorem op_own {op : CmpOp} {neg : Bool} (hop : (op = .Eq ∧ neg = false) ∨ (op = .NotEq ∧ neg = true)) (c : Mt X.prog X.w X.K X.mg X.base n C "__eq__" sp []) (nf : NeF2 X.K C) (hr : Room j X.A) (hk : n + 1 ≤ j) : OpR X (compareOp op) (rOwn neg X.K C sp) := by
  intro pins s σ H x y v u Q I rx ry hq
  obtain ⟨a, dx, fs, rfl, ha, hy, hsp⟩ := hq
  cases rx
  obtain ⟨mA, J, _⟩ := ins_get I.hok ha
  obtain ⟨od, J, _⟩ := J.look
  obtain ⟨m, hF⟩ := I.fr
  obtain ⟨tb, hb, hn⟩ : ∃ tb, PySem.W.Looks (model X.prog X.w) s.heap (typeOf u) tb ∧ PySem.W.notFirst X.K C tb = true := by
    rcases hy with ⟨b, D, dy, gs, rfl, hb', hn⟩ | ⟨⟨i, rfl⟩, hn⟩
    · cases ry
      obtain ⟨mB, J', _⟩ := ins_get I.hok hb'
      obtain ⟨od', J', _⟩ := J'.look
      exact ⟨_, J'.type, hn⟩
    · exact ⟨_, looks_int ry, hn⟩
  rcases hop with ⟨rfl, rfl⟩ | ⟨rfl, rfl⟩
  · obtain ⟨f, hm, hc⟩ := own_call c hr hk I ry hsp X.A (.inl rfl)
    show wpAny (model X.prog X.w) X.A (richCompare .Eq (.ref a) u) (EP X pins σ Q) X.xe s
    refine PySem.W.cmp_K (op := .Eq) (tb := tb) hr.units0 hF I.ok.mod.kin J hb hn hm.at_ hm.fn (wpAny_mono hc (fun r s' z => ?_) fun _ _ e => e)
    obtain ⟨v, H', I', rv, t, rfl, q⟩ := z
    cases rv
    exact ⟨.bl t, H', I', rfl, q⟩
  · obtain ⟨f, hm, hc⟩ := own_call c hr hk I ry hsp X.A.in1 (.inr rfl)
    show wpAny (model X.prog X.w) X.A (richCompare .NotEq (.ref a) u) (EP X pins σ Q) X.xe s
    refine GN.rcNe_V (tb := tb) (hr.mono hk).in1.units0 I.kIn J hb hn nf.1.1 nf.1.2 hm.at_ hm.fn (wpAny_mono hc (fun r s' z => ?_) fun _ _ e => e)
    obtain ⟨v, H', I', rv, t, rfl, q⟩ := z
    cases rv
    exact ⟨t, rfl, .bl (!t), H', I', rfl, q⟩
end
end G

namespace G
open PySem PySem.Spec PyProof.Rows L2
/-! ### dicts that stand still (frz), dicts that are being filled (cells) -/
def FzK (Q : VK) : VK := fun v H => Q v H ∨ ∃ a kvs, v = .ref a ∧ H a = some (.dK kvs) ∧ ∀ od, Q v (upd H a (.frz od (.dK kvs)))
/-- from here on the dict is only read, if that is wished -/
def tFz (t : TE) : TE := fun σ H Q => t σ H (FzK Q)
theorem pe_fz {X : Cx} {e : Expr} {t : TE} (h : PE X e t) : PE X e (tFz t) := ⟨fun pins s σ H Q I q => thn (h.run pins s σ H _ I q) fun u s1 z => by
  obtain ⟨v, H1, I1, r, q⟩ := z
  rcases q with q | ⟨a, kvs, rfl, ha, q⟩
  · exact ⟨v, H1, I1, r, q⟩
  · obtain ⟨od, I2⟩ := I1.lock ha True.intro
    exact ⟨_, _, I2, r, q od⟩⟩
abbrev kT (z : List Nat) : L2.Key := .inr ⟨z.toArray⟩
abbrev kI (n : Int) : L2.Key := .inl n
def valD (kvs : List (L2.Key × D)) (k : L2.Key) : Option D := (kvs.find? fun kv => decide (kv.1 = k)).map (·.2)
theorem valD_pos {k : L2.Key} {d : D} {r : List (L2.Key × D)} : valD ((k, d) :: r) k = some d := by unfold valD; rw [List.find?_cons, decide_eq_true rfl]; rfl
theorem valD_neg {j k : L2.Key} {d : D} {r : List (L2.Key × D)} (n : j ≠ k) : valD ((j, d) :: r) k = valD r k := by unfold valD; rw [List.find?_cons, decide_eq_false n]
section
variable {K : PySem.W.Frag} {F F0 F1 F' H H' : Hp} {x y w u v : V} {d : D} {ds es : List D} {us vs : List V} {M : List (Addr × HO)} {Q : VK} {S : Hp → Prop} {σ : L2.St} {nx bk ct : L2.St → Hp → Prop} {rt : VK} {td ty tv : TE}
theorem g_fz (h : td σ H (FzK Q)) : tFz td σ H Q := h
theorem fz_no (q : Q x H) : FzK Q x H := .inl q
theorem o_fz {a : Addr} {kvs : List (L2.Key × V)} (hh : HH F H ((a, .dK kvs) :: M)) (q : ∀ F' H' od, Same F F' → HH F' H' M → F' a = some (.frz od (.dK kvs)) → Q (.ref a) H') : FzK Q (.ref a) H :=
  .inr ⟨a, kvs, rfl, hh.get (i := 0) rfl, fun od => q _ _ od hh.set0.frzS hh.set0.frz upd_same⟩
theorem AtK.nil : AtK K F [] [] := by unfold AtK; rfl
theorem AtK.cons {k : L2.Key} {ks : List (L2.Key × D)} {gs : List (L2.Key × V)} (h : At K F d u) (t : AtK K F ks gs) : AtK K F ((k, d) :: ks) ((k, u) :: gs) := by unfold AtK; exact ⟨_, _, rfl, h, t⟩
theorem AtK.ni {gs : List (L2.Key × V)} (h : AtK K F [] gs) : gs = [] := by unfold AtK at h; exact h
theorem AtK.ci {k : L2.Key} {ks : List (L2.Key × D)} {gs : List (L2.Key × V)} (h : AtK K F ((k, d) :: ks) gs) : ∃ u us, gs = (k, u) :: us ∧ At K F d u ∧ AtK K F ks us := by unfold AtK at h; exact h
theorem AtK.snoc {k : L2.Key} : ∀ {ks : List (L2.Key × D)} {gs : List (L2.Key × V)}, AtK K F ks gs → At K F d u → AtK K F (ks ++ [(k, d)]) (gs ++ [(k, u)])
  | [], gs, h, t => by rw [h.ni]; exact AtK.cons t AtK.nil
  | (j, e) :: ks, gs, h, t => by
    obtain ⟨z, us, rfl, h1, h2⟩ := h.ci
    exact AtK.cons h1 (AtK.snoc h2 t)
theorem AtK.keys : ∀ {ks : List (L2.Key × D)} {gs : List (L2.Key × V)}, AtK K F ks gs → gs.map (·.1) = ks.map (·.1)
  | [], gs, h => by rw [h.ni]; rfl
  | (j, e) :: ks, gs, h => by
    obtain ⟨z, us, rfl, _, h2⟩ := h.ci
    rw [List.map_cons, List.map_cons, AtK.keys h2]
theorem AtK.vals : ∀ {ks : List (L2.Key × D)} {gs : List (L2.Key × V)}, AtK K F ks gs → AtA K F (ks.map (·.2)) (gs.map (·.2))
  | [], gs, h => by rw [h.ni]; exact AtA.nil
  | (j, e) :: ks, gs, h => by
    obtain ⟨z, us, rfl, h1, h2⟩ := h.ci
    exact AtA.cons h1 (AtK.vals h2)
theorem AtK.len {ks : List (L2.Key × D)} {gs : List (L2.Key × V)} (h : AtK K F ks gs) : gs.length = ks.length := by
  have := congrArg List.length h.keys
  rw [List.length_map, List.length_map] at this
  exact this
theorem AtK.val {k : L2.Key} : ∀ {ks : List (L2.Key × D)} {gs : List (L2.Key × V)}, AtK K F ks gs → valD ks k = some d → ∃ u, valV gs k = some u ∧ At K F d u
  | [], gs, h, e => by cases e
  | (j, e) :: ks, gs, h, q => by
    obtain ⟨z, us, rfl, h1, h2⟩ := h.ci
    by_cases c : j = k
    · subst c
      rw [valD_pos] at q
      cases q
      exact ⟨z, valV_pos rfl, h1⟩
    · rw [valD_neg c] at q
      rw [valV_neg (p := (j, z)) c]
      exact AtK.val h2 q
theorem AtK.non {k : L2.Key} : ∀ {ks : List (L2.Key × D)} {gs : List (L2.Key × V)}, AtK K F ks gs → valD ks k = none → valV gs k = none
  | [], gs, h, e => by rw [h.ni]; rfl
  | (j, e) :: ks, gs, h, q => by
    obtain ⟨z, us, rfl, h1, h2⟩ := h.ci
    by_cases c : j = k
    · subst c
      rw [valD_pos] at q
      cases q
    · rw [valD_neg c] at q
      rw [valV_neg (p := (j, z)) c]
      exact AtK.non h2 q
theorem At.dk_ {ks : List (L2.Key × D)} (h : At K F (.dk ks) u) : ∃ a od vs, u = .ref a ∧ F a = some (.frz od (.dK vs)) ∧ AtK K F ks vs := by unfold At at h; exact h
theorem At.mkK {a : Addr} {od : Obj} {ks : List (L2.Key × D)} {vs : List (L2.Key × V)} (h : F a = some (.frz od (.dK vs))) (t : AtK K F ks vs) : At K F (.dk ks) (.ref a) := by unfold At; exact ⟨a, od, vs, rfl, h, t⟩
theorem At.dkR {ks : List (L2.Key × D)} (h : At K F0 (.dk ks) u) (s : Same F0 H) : ∃ a od vs, u = .ref a ∧ H a = some (.frz od (.dK vs)) ∧ Rd H a (.dK vs) ∧ AtK K F0 ks vs := by
  obtain ⟨a, od, vs, e, h1, h2⟩ := h.dk_
  exact ⟨a, od, vs, e, s _ _ h1, .inr ⟨od, s _ _ h1⟩, h2⟩
/-! d[k], k in d, d.get(k) -/
def DgK (Q : VK) (x y : V) (H : Hp) : Prop := ∃ a v, x = .ref a ∧ DGet H a y (some v) ∧ Q v H
def DiK (neg : Bool) (Q : VK) (x y : V) (H : Hp) : Prop := ∃ a o, x = .ref a ∧ DGet H a y o ∧ Q (.bl (if neg then !o.isSome else o.isSome)) H
def DhK (x : V) (H : Hp) (A : Prop) : Prop := ∃ a, x = .ref a ∧ IsD H a ∧ A
theorem g_dget (h : td σ H fun x H1 => ty σ H1 fun y H2 => DgK Q x y H2) : tDGet td ty σ H Q := h
theorem g_din (h : ty σ H fun y H1 => td σ H1 fun x H2 => DiK false Q x y H2) : tDIn ty td σ H Q := h
theorem g_dnin (h : ty σ H fun y H1 => td σ H1 fun x H2 => DiK true Q x y H2) : tDNotIn ty td σ H Q := h
/-- d.get(k): the dict's address is told twice -/
def DeK (Q : VK) (a : Addr) (y : V) (H : Hp) : Prop := ∃ o, DGet H a y o ∧ Q (o.getD .non) H
def DfK (ty : TE) (σ : L2.St) (Q : VK) (x : V) (H : Hp) : Prop := ∃ a, x = .ref a ∧ IsD H a ∧ ty σ H fun y H2 => DeK Q a y H2
theorem g_dget1 (h : td σ H fun x H1 => DfK ty σ Q x H1) : tDGet1 td ty σ H Q := h
theorem v_dget {a : Addr} {kvs : List (L2.Key × V)} {k : L2.Key} (h : Rd H a (.dK kvs)) (e : valV kvs k = some v) (q : Q v H) : DgK Q (.ref a) (kV k) H := ⟨a, v, rfl, .inl ⟨kvs, k, h, rfl, e.symm⟩, q⟩
theorem v_din {neg : Bool} {a : Addr} {kvs : List (L2.Key × V)} {k : L2.Key} (h : Rd H a (.dK kvs)) (q : Q (.bl (if neg then !(valV kvs k).isSome else (valV kvs k).isSome)) H) : DiK neg Q (.ref a) (kV k) H := ⟨a, _, rfl, .inl ⟨kvs, k, h, rfl, rfl⟩, q⟩
theorem s_dgetT {ks : List (L2.Key × D)} {z : List Nat} (h : At K F0 (.dk ks) x) (s : Same F0 H) (e : valD ks (kT z) = some d) (q : ∀ w, At K F0 d w → Q w H) : DgK Q x (.str ⟨z.toArray⟩) H := by
  obtain ⟨a, od, vs, rfl, _, h1, h2⟩ := h.dkR s
  obtain ⟨u, eu, hu⟩ := h2.val e
  exact v_dget (k := kT z) h1 eu (q u hu)
theorem s_dgetI {ks : List (L2.Key × D)} {n : Int} (h : At K F0 (.dk ks) x) (s : Same F0 H) (e : valD ks (kI n) = some d) (q : ∀ w, At K F0 d w → Q w H) : DgK Q x (.int n) H := by
  obtain ⟨a, od, vs, rfl, _, h1, h2⟩ := h.dkR s
  obtain ⟨u, eu, hu⟩ := h2.val e
  exact v_dget (k := kI n) h1 eu (q u hu)
theorem isS_AtK {k : L2.Key} {ks : List (L2.Key × D)} {gs : List (L2.Key × V)} (h : AtK K F ks gs) : (valV gs k).isSome = (valD ks k).isSome := by
  cases e : valD ks k with
  | none => rw [h.non e]; rfl
  | some d =>
    obtain ⟨u, eu, _⟩ := h.val e
    rw [eu]
    rfl
theorem s_dinI {neg : Bool} {ks : List (L2.Key × D)} {n : Int} (h : At K F0 (.dk ks) x) (s : Same F0 H) (q : Q (.bl (if neg then !(valD ks (kI n)).isSome else (valD ks (kI n)).isSome)) H) : DiK neg Q x (.int n) H := by
  obtain ⟨a, od, vs, rfl, _, h1, h2⟩ := h.dkR s
  refine v_din (k := kI n) h1 ?_
  rw [isS_AtK h2]
  exact q
theorem s_dgetD {ks : List (L2.Key × D)} (h : At K F0 (.dk ks) x) (s : Same F0 H) (q : ∀ a, (∀ {H' : Hp} {Q : VK} {n : Int}, Same F0 H' → (valD ks (kI n) = none → Q .non H') → (∀ d w, valD ks (kI n) = some d → At K F0 d w → Q w H') → DeK Q a (.int n) H') → ty σ H fun y H2 => DeK Q a y H2) : DfK ty σ Q x H := by
  obtain ⟨a, od, vs, rfl, hf, hv⟩ := h.dk_
  refine ⟨a, rfl, .inl ⟨vs, .inr ⟨od, s _ _ hf⟩⟩, q a fun {H' Q n} s' q1 q2 => ?_⟩
  refine ⟨valV vs (kI n), .inl ⟨vs, kI n, .inr ⟨od, s' _ _ hf⟩, rfl, rfl⟩, ?_⟩
  cases e : valD ks (kI n) with
  | none => rw [hv.non e]; exact q1 e
  | some d =>
    obtain ⟨u, eu, hu⟩ := hv.val e
    rw [eu]
    exact q2 d u e hu
/-! {}, d[k] = v -/
def DnK (Q : VK) (H : Hp) : Prop := ∀ p, H p = none → Q (.ref p) (upd H p (.dK []))
theorem g_dnew (h : DnK Q H) : tDNewK σ H Q := h
theorem o_dnew (hh : HH F H M) (q : ∀ H' p, HH F H' ((p, .dK []) :: M) → Q (.ref p) H') : DnK Q H := fun p hp => q _ p (hh.new hp)
theorem o_dnew1 {c : Addr × HO} (hh : HH F H (c :: M)) (q : ∀ H' p, HH F H' (c :: (p, .dK []) :: M) → Q (.ref p) H') : DnK Q H := fun p hp => q _ p (hh.new1 hp)
def DpK (S : Hp → Prop) (x y v : V) (H : Hp) : Prop := ∃ a H4, x = .ref a ∧ DPut H a y v H4 ∧ S H4
theorem g_dput (h : tv σ H fun v H1 => td σ H1 fun x H2 => ty σ H2 fun y H3 => DpK (nx σ) x y v H3) : sDPut td ty tv ⟨nx, rt, bk, ct⟩ σ H := h
theorem o_dput0 {a : Addr} {kvs : List (L2.Key × V)} {k : L2.Key} (hh : HH F H ((a, .dK kvs) :: M)) (l : kvs.length < 1000000) (q : ∀ H', HH F H' ((a, .dK (putK kvs k v)) :: M) → S H') : DpK S (.ref a) (kV k) v H :=
  ⟨a, _, rfl, DPut.k (hh.get (i := 0) rfl) (by rw [sl16]; omega), q _ hh.set0⟩
theorem o_dput1 {a : Addr} {c : Addr × HO} {kvs : List (L2.Key × V)} {k : L2.Key} (hh : HH F H (c :: (a, .dK kvs) :: M)) (l : kvs.length < 1000000) (q : ∀ H', HH F H' (c :: (a, .dK (putK kvs k v)) :: M) → S H') : DpK S (.ref a) (kV k) v H :=
  ⟨a, _, rfl, DPut.k (hh.get (i := 1) rfl) (by rw [sl16]; omega), q _ hh.set1⟩
/-! walks over keys -/
def OvK (R : It → Hp → Prop) (x : V) (H : Hp) : Prop := ∃ d o, x = .ref d ∧ ((∃ kvs, H d = some (.frz o (.dK kvs)) ∧ R (Itk d o kvs) H) ∨ ∃ kvs, H d = some (.frz o (.dT kvs)) ∧ R (Itkt d o kvs) H)
theorem gi_keys {R : It → Hp → Prop} (h : td σ H (OvK R)) : iKeys td σ H R := h
theorem v_ovK {R : It → Hp → Prop} {p : Addr} {o : Obj} {kvs : List (L2.Key × V)} (h : H p = some (.frz o (.dK kvs))) (q : R (Itk p o kvs) H) : OvK R (.ref p) H := ⟨p, o, rfl, .inl ⟨kvs, h, q⟩⟩
theorem l_keys {p : Addr} {o : Obj} {kvs : List (L2.Key × V)} {g : TG} {tb : TS} (Pv : Nat → L2.St → Hp → Prop) (h0 : Pv 0 σ H) (hl : ∀ i σ H, Pv i σ H → H p = some (.frz o (.dK kvs)))
    (hs : ∀ i k v σ H, kvs[i]? = some (k, v) → Pv i σ H → g (kV k) σ H fun σ2 H2 => tb ⟨Pv (i + 1), rt, nx, Pv (i + 1)⟩ σ2 H2) (hd : ∀ σ H, Pv kvs.length σ H → nx σ H) : LoopG (Itk p o kvs) g tb ⟨nx, rt, bk, ct⟩ σ H := by
  refine ⟨fun i m σ H => m = kvs.length - i ∧ i ≤ kvs.length ∧ Pv i σ H, ⟨kvs.length, by simp, Nat.zero_le _, h0⟩, ?_⟩
  rintro i m σ H ⟨rfl, hi, q⟩
  by_cases hlt : i < kvs.length
  · refine .inr ⟨⟨hl i σ H q, hlt⟩, Pv (i + 1), fun σ' H' q' => ⟨kvs.length - (i + 1), by omega, rfl, hlt, q'⟩, fun x H' z => ?_⟩
    obtain ⟨rfl, k, v, e, rfl⟩ := z
    exact hs i k v σ H' e q
  · obtain rfl : i = kvs.length := by omega
    exact .inl ⟨⟨hl _ σ H q, Nat.le_refl _⟩, hd σ H q⟩
theorem AtK.drop : ∀ {ks : List (L2.Key × D)} {gs : List (L2.Key × V)} (i : Nat), AtK K F ks gs → AtK K F (ks.drop i) (gs.drop i)
  | ks, gs, 0, h => h
  | [], gs, i + 1, h => by rw [h.ni]; exact AtK.nil
  | (j, e) :: ks, gs, i + 1, h => by
    obtain ⟨z, us, rfl, _, h2⟩ := h.ci
    exact AtK.drop i h2
theorem a_forK {ks : List (L2.Key × D)} {g : TG} {tb : TS} (hx : At K F0 (.dk ks) x) (s : Same F0 H) (I : List (L2.Key × D) → L2.St → Hp → Prop) (hF : ∀ r σ H, I r σ H → Same F0 H) (h0 : I ks σ H)
    (hs : ∀ k d r σ H, I ((k, d) :: r) σ H → g (kV k) σ H fun σ2 H2 => tb ⟨I r, rt, nx, I r⟩ σ2 H2) (hd : ∀ σ H, I [] σ H → nx σ H) : OvK (fun J H1 => LoopG J g tb ⟨nx, rt, bk, ct⟩ σ H1) x H := by
  obtain ⟨a, od, vs, rfl, hf, hv⟩ := hx.dk_
  refine v_ovK (s _ _ hf) (l_keys (fun i σ H => I (ks.drop i) σ H) h0 (fun i σ H q => hF _ _ _ q _ _ hf) (fun i k v σ H e q => ?_) fun σ H q => hd σ H ?_)
  · have h2 := hv.drop i
    rw [drop_c e] at h2
    cases hk : ks.drop i with
    | nil => rw [hk] at h2; cases h2.ni
    | cons p r =>
      obtain ⟨j, d⟩ := p
      rw [hk] at h2 q
      obtain ⟨z, us, ez, _, _⟩ := h2.ci
      cases ez
      have er : ks.drop (i + 1) = r := by rw [← List.drop_drop, hk]; rfl
      show g (kV k) σ H fun σ2 H2 => tb ⟨I (ks.drop (i + 1)), rt, nx, I (ks.drop (i + 1))⟩ σ2 H2
      rw [er]
      exact hs k d r σ H q
  · rw [hv.len, List.drop_length] at q
    exact q
/-! dict comprehensions -/
def PutDK (D : Addr) (y z : V) (H5 : Hp) (S : Hp → Prop) : Prop := ∃ kvs k, y = kV k ∧ H5 D = some (.dK kvs) ∧ kvs.length < sizeLine ∧ S (upd H5 D (.dK (putK kvs k z)))
def DcG (J : It) (g : TG) (tt : TT) (tk tv : TE) (σ : L2.St) (vs : List Nat) (D : Addr) (H1 : Hp) (Qd : Hp → Prop) : Prop := ∃ W : Nat → Nat → Hp → Prop, (∃ m, W 0 m (upd H1 D (.dK []))) ∧ ∀ i m H, W i m H →
  (J.stop i H ∧ Qd H) ∨ (J.go i H ∧ ∃ Nx : Hp → Prop, (∀ H', Nx H' → ∃ m', m' < m ∧ W (i + 1) m' H') ∧ ∀ x H', J.yld i H x H' → g x (wipe σ vs) H' fun σ2 H2 => wipe σ2 vs = wipe σ vs ∧ tt σ2 H2 fun b H3 =>
    if b = true then tk σ2 H3 fun y H4 => tv σ2 H4 fun z H5 => PutDK D y z H5 Nx else Nx H3)
def DcK (J : It) (g : TG) (tt : TT) (tk tv : TE) (σ : L2.St) (ws : List Nat) (H1 : Hp) (Q : VK) : Prop := ∀ D, H1 D = Option.none → DcG J g tt tk tv σ ws D H1 (Q (.ref D))
theorem g_dcK {wi : TI} {g : TG} {tt : TT} {tk : TE} {ws : List Nat} (h : wi σ H fun J H1 => DcK J g tt tk tv σ ws H1 Q) : tDc wi g tt tk tv ws σ H Q := h
theorem v_putD {D : Addr} {kvs : List (L2.Key × V)} {k : L2.Key} (h : H D = some (.dK kvs)) (l : kvs.length < 1000000) (q : S (upd H D (.dK (putK kvs k v)))) : PutDK D (kV k) v H S := ⟨kvs, k, rfl, h, by rw [sl16]; omega, q⟩
theorem dc_keys {p : Addr} {o : Obj} {kvs : List (L2.Key × V)} {g : TG} {tt : TT} {tk : TE} {ws : List Nat} {D : Addr} {Qd : Hp → Prop} (Pv : Nat → Hp → Prop) (h0 : Pv 0 (upd H D (.dK []))) (hl : ∀ i H, Pv i H → H p = some (.frz o (.dK kvs)))
    (hs : ∀ i k v H, kvs[i]? = some (k, v) → Pv i H → g (kV k) (wipe σ ws) H fun σ2 H2 => wipe σ2 ws = wipe σ ws ∧ tt σ2 H2 fun b H3 => if b = true then tk σ2 H3 fun y H4 => tv σ2 H4 fun z H5 => PutDK D y z H5 (Pv (i + 1)) else Pv (i + 1) H3)
    (hd : ∀ H, Pv kvs.length H → Qd H) : DcG (Itk p o kvs) g tt tk tv σ ws D H Qd := by
  refine ⟨fun i m H => m = kvs.length - i ∧ i ≤ kvs.length ∧ Pv i H, ⟨kvs.length, by simp, Nat.zero_le _, h0⟩, ?_⟩
  rintro i m H ⟨rfl, hi, q⟩
  by_cases hlt : i < kvs.length
  · refine .inr ⟨⟨hl i H q, hlt⟩, Pv (i + 1), fun H' q' => ⟨kvs.length - (i + 1), by omega, rfl, hlt, q'⟩, fun x H' z => ?_⟩
    obtain ⟨rfl, k, v, e, rfl⟩ := z
    exact hs i k v H' e q
  · obtain rfl : i = kvs.length := by omega
    exact .inl ⟨⟨hl _ H q, Nat.le_refl _⟩, hd H q⟩
theorem dc_list {a : Addr} {xs : List V} {g : TG} {tt : TT} {tk : TE} {ws : List Nat} {D : Addr} {Qd : Hp → Prop} (Pv : Nat → Hp → Prop) (h0 : Pv 0 (upd H D (.dK []))) (hl : ∀ i H, Pv i H → SqL K H a xs)
    (hs : ∀ i x H, xs[i]? = some x → Pv i H → g x (wipe σ ws) H fun σ2 H2 => wipe σ2 ws = wipe σ ws ∧ tt σ2 H2 fun b H3 => if b = true then tk σ2 H3 fun y H4 => tv σ2 H4 fun z H5 => PutDK D y z H5 (Pv (i + 1)) else Pv (i + 1) H3)
    (hd : ∀ H, Pv xs.length H → Qd H) : DcG (Itl K a) g tt tk tv σ ws D H Qd := by
  refine ⟨fun i m H => m = xs.length - i ∧ i ≤ xs.length ∧ Pv i H, ⟨xs.length, by simp, Nat.zero_le _, h0⟩, ?_⟩
  rintro i m H ⟨rfl, hi, p⟩
  have q := hl i H p
  by_cases hlt : i < xs.length
  · refine .inr ⟨⟨xs, xs[i], q, by simp [hlt]⟩, Pv (i + 1), fun H' p' => ⟨xs.length - (i + 1), by omega, rfl, hlt, p'⟩, fun x H' y => ?_⟩
    obtain ⟨e, y⟩ := y
    subst e
    exact hs i x _ (y xs q) p
  · have e : i = xs.length := by omega
    subst e
    exact .inl ⟨⟨xs, q, Nat.le_refl _⟩, hd H p⟩
/-! list(d), sorted(ints) -/
def rListDk : List V → Hp → VK → Prop := fun xs H Q => ∃ (a : Addr) (kvs : List (L2.Key × V)), xs = [.ref a] ∧ Rd H a (.dK kvs) ∧ ∀ p, H p = Option.none → Q (.ref p) (upd H p (.lst (kvs.map fun kv => kV kv.1)))
theorem map_kVI : ∀ {ks : List (L2.Key × V)} {ns : List Int}, ks.map (·.1) = ns.map Sum.inl → (ks.map fun kv => kV kv.1) = ns.map V.int
  | [], [], _ => rfl
  | [], _ :: _, e => nomatch e
  | _ :: _, [], e => nomatch e
  | k :: ks, n :: ns, e => by
    rw [List.map_cons, List.map_cons, List.cons.injEq] at e
    rw [List.map_cons, List.map_cons, map_kVI e.2, e.1]
    rfl
theorem s_listK {ks : List (L2.Key × D)} {ns : List Int} (hx : At K F0 (.dk ks) x) (hh : HH F H M) (s : Same F0 F) (ek : ks.map (·.1) = ns.map Sum.inl) (q : ∀ F' H' u, Same F F' → HH F' H' M → At K F' (.lst (ns.map D.i)) u → Q u H') : rListDk [x] H Q := by
  obtain ⟨a, od, vs, rfl, _, hr, hv⟩ := hx.dkR (s.trans hh.sub)
  refine ⟨a, vs, rfl, hr, fun p hp => ?_⟩
  rw [map_kVI (hv.keys.trans ek)]
  exact q _ _ _ (hh.grow hp) (hh.newF hp) (At.mkL upd_same (AtA.ofFlat (g := V.int)))
def srt (ns : List Int) : List Int := ns.mergeSort fun a b => decide (a ≤ b)
theorem srt_perm {ns : List Int} : (srt ns).Perm ns := List.mergeSort_perm _ _
theorem srt_ord {ns : List Int} : (srt ns).Pairwise (· ≤ ·) := by
  have h := List.pairwise_mergeSort (le := fun a b : Int => decide (a ≤ b)) (fun a b c h1 h2 => decide_eq_true (Int.le_trans (of_decide_eq_true h1) (of_decide_eq_true h2))) (fun a b => by
    rcases Int.le_total a b with h | h
    · rw [decide_eq_true h]; rfl
    · rw [decide_eq_true h]; simp) ns
  exact h.imp fun z => of_decide_eq_true z
theorem srt_uniq {ns ms : List Int} (p : ms.Perm ns) (o : ms.Pairwise (· ≤ ·)) : ms = srt ns := List.Perm.eq_of_pairwise (le := fun a b : Int => a ≤ b) (fun a b _ _ h1 h2 => Int.le_antisymm h1 h2) o srt_ord (p.trans srt_perm.symm)
theorem s_sorted {ns : List Int} (hx : At K F0 (.lst (ns.map D.i)) x) (hh : HH F H M) (s : Same F0 F) (q : ∀ F' H' u, Same F F' → HH F' H' M → At K F' (.lst ((srt ns).map D.i)) u → Q u H') : rSortedI K [x] H Q := by
  obtain ⟨a, vs, rfl, h, t⟩ := hx.lst_
  have e := t.flat (g := V.int)
  subst e
  refine ⟨a, ns, rfl, (s.trans hh.sub).seq h, fun ms p pe po hp => ?_⟩
  rw [srt_uniq pe po]
  exact q _ _ _ (hh.grow hp) (hh.newF hp) (At.mkL upd_same (AtA.ofFlat (g := V.int)))
end
theorem call_listDk {X : Cx} (hc : X.calm = true) : CallR X (.type "list") rListDk := call_listD hc
theorem u1 {k : Nat} {A : Around} (r : Room k A) : A.units + 1 < cLine := by have := r.units; omega
/-! dicts compared -/
def rEqDk (K : PySem.W.Frag) : R2 := fun x y H Q => ∃ a b ks ls ds es, x = .ref a ∧ y = .ref b ∧ Rd H a (.dK ks) ∧ Rd H b (.dK ls) ∧ ks.map (·.1) = ls.map (·.1) ∧ DpAll K H (ks.map (·.2)) ds ∧ DpAll K H (ls.map (·.2)) es ∧ PyData.canLayAll0 ds = true ∧ PyData.canLayAll0 es = true ∧
  PyData.depthAll ds ≤ 60 ∧ Q (.bl (PyData.eqvAll ds es)) H
theorem hits_of {P : Program} {w : World} {A : Around} {s : Shared} {kb : List (L2.Key × Value)} (hn : (kb.map (·.1)).Nodup) (hu : A.units + 60 < cLine) : ∀ {ra rb : List (L2.Key × Value)} {ds es : List PyData} {as bs : List Addr}, ra.map (·.1) = rb.map (·.1) → (∀ p ∈ rb, p ∈ kb) →
    ReadsAll s.heap (ra.map (·.2)) ds as → ReadsAll s.heap (rb.map (·.2)) es bs → PyData.canLayAll0 ds = true → PyData.canLayAll0 es = true → PyData.depthAll ds ≤ 60 → PySem.W.KeqHitsIn P w A s kb ra (PyData.eqvAll ds es)
  | [], [], _, _, _, _, _, _, r1, r2, _, _, _ => by
    cases r1
    cases r2
    rw [PyData.eqvAll]
    exact .nil
  | [], _ :: _, _, _, _, _, e, _, _, _, _, _, _ => nomatch e
  | _ :: _, [], _, _, _, _, e, _, _, _, _, _, _ => nomatch e
  | (k, v) :: ra, (j, u) :: rb, _, _, _, _, e, hm, r1, r2, c1, c2, hd => by
    rw [List.map_cons, List.map_cons, List.cons.injEq] at e
    obtain ⟨e1, e2⟩ := e
    have e1 : k = j := e1
    subst e1
    cases r1 with
    | cons q1 t1 =>
      cases r2 with
      | cons q2 t2 =>
        rw [PyData.canLayAll0, Bool.and_eq_true] at c1 c2
        rw [PyData.depthAll] at hd
        rw [PyData.eqvAll]
        refine .hit (PySem.valueAt_of_mem hn (hm _ (List.mem_cons_self ..))) ((SeqAt.eqAt_reads _ _ A s _ _ _ _ q1 q2 c1.1 c2.1 (by omega)).inModel P w) ?_
        exact hits_of hn hu e2 (fun p hp => hm p (List.mem_cons_of_mem _ hp)) t1 t2 c1.2 c2.2 (by omega)
theorem op_eqDk {X : Cx} (hu : X.A.units + 64 < cLine) : OpR X (compareOp .Eq) (rEqDk X.K) := by
  intro pins s σ H x y v u Q I rx ry h
  obtain ⟨a, b, ks, ls, ds, es, rfl, rfl, ha, hb, ek, h1, h2, c1, c2, hd, q⟩ := h
  cases rx
  cases ry
  obtain ⟨_, ya, va, ra, da⟩ := dk_rd I.hok ha
  obtain ⟨_, yb, vb, rb, db⟩ := dk_rd I.hok hb
  obtain ⟨as, q1⟩ := L2.Dp.readsAll I _ _ _ h1 (kv_vals ra)
  obtain ⟨bs, q2⟩ := L2.Dp.readsAll I _ _ _ h2 (kv_vals rb)
  have ekv : va.map (·.1) = vb.map (·.1) := by rw [← ra.keys, ← rb.keys]; exact ek
  have hnd : (vb.map (·.1)).Nodup := db.elim fun _ z => z.elim fun _ z => z.elim fun _ z => z.2.2.2.2.2
  have hl : va.length = vb.length := by have := congrArg List.length ekv; rw [List.length_map, List.length_map] at this; exact this
  refine PySem.W.keq_eqIn (knd := mixKind X.prog X.w) ya yb da db (by omega) (fun _ => hits_of hnd (by show X.A.units + 1 + 60 < _; omega) ekv (fun p hp => hp) q1 q2 c1 c2 hd) ?_
  rw [hl, beq_self_eq_true, Bool.true_and]
  exact ⟨.bl _, H, I, rfl, q⟩
end G

/-! ### == of dicts whose values have an own == (the state goes on, the abstract heap stays) -/
namespace GN
open PySem PySem.Spec PyProof.Rows L2
section
variable {X : Cx} {pins : List (Addr × Obj)} {σ : L2.St} {H : Hp} {A : Around} {s : Shared}
/-- == inside a builtin tells r and leaves the abstract heap -/
def EqB (X : Cx) (pins : List (Addr × Obj)) (σ : L2.St) (A : Around) (H : Hp) (v u : Value) (r : Bool) : Prop := ∀ s, Inv X pins σ H s → wpAny (model X.prog X.w) A (eqBool v u) (fun b s' => b = r ∧ Inv X pins σ H s') X.xe s
inductive Hits (X : Cx) (pins : List (Addr × Obj)) (σ : L2.St) (A : Around) (H : Hp) (kb : List (L2.Key × Value)) : List (L2.Key × Value) → Bool → Prop
  | nil : Hits X pins σ A H kb [] true
  | hit {k : L2.Key} {v y : Value} {r : List (L2.Key × Value)} {e b : Bool} : valueAt kb k = some y → EqB X pins σ A H v y e → Hits X pins σ A H kb r b → Hits X pins σ A H kb ((k, v) :: r) (e && b)
theorem Hits.inv {kb : List (L2.Key × Value)} {k : L2.Key} {v : Value} {r : List (L2.Key × Value)} {b : Bool} (h : Hits X pins σ A H kb ((k, v) :: r) b) : ∃ y e b', valueAt kb k = some y ∧ EqB X pins σ A H v y e ∧ Hits X pins σ A H kb r b' ∧ b = (e && b') := by
  cases h with
  | hit h1 h2 h3 => exact ⟨_, _, _, h1, h2, h3, rfl⟩
/-- a dict's object, the same in every state -/
structure Std (X : Cx) (pins : List (Addr × Obj)) (σ : L2.St) (H : Hp) (a : Addr) (es : Array DictEntry) (ka : List (L2.Key × Value)) : Prop where
  sys : (a == sysModules) = false
  ex : ∃ (oa : Obj) (ep : Nat), (∀ s, Inv X pins σ H s → s.heap.get? a = some oa) ∧ oa.ExactDict ∧ oa.data = .dict es ep
  keys : KeysOf (mixKind X.prog X.w) es
  prs : Pairs (mixKind X.prog X.w) es.toList ka
  nd : (ka.map (·.1)).Nodup
theorem Std.len {a : Addr} {es : Array DictEntry} {ka : List (L2.Key × Value)} (h : Std X pins σ H a es ka) : ka.length = es.size := by rw [← h.prs.length]; exact Array.length_toList
theorem Std.dict {a : Addr} {es : Array DictEntry} {ka : List (L2.Key × Value)} (h : Std X pins σ H a es ka) (I : Inv X pins σ H s) : s.heap.DictOf (mixKind X.prog X.w) a ka := by
  obtain ⟨oa, ep, g, x, d⟩ := h.ex
  exact ⟨oa, es, ep, g s I, x, d, h.keys, h.prs, h.nd⟩
theorem samePairsI {nm : String} {a b : Addr} {es es' : Array DictEntry} {ka kb : List (L2.Key × Value)} {r : Bool} (I : Inv X pins σ H s) (da : Std X pins σ H a es ka) (db : Std X pins σ H b es' kb) (hits : ka.length = kb.length → Hits X pins σ A H kb ka r) :
    wpAny (model X.prog X.w) A (Builtin.Dict.samePairs nm a b) (fun q s' => q = (ka.length == kb.length && r) ∧ Inv X pins σ H s') X.xe s := by
  have hla := da.len
  have hlb := db.len
  obtain ⟨oa, ep, ga, _, hda⟩ := da.ex
  obtain ⟨ob, ep', gb, _, hdb⟩ := db.ex
  have hfind : ∀ k, findBy (mixKind X.prog X.w).is es' k = valueAt kb k := fun k => by
    rw [← db.prs.find k]
    clear hlb db hdb
    obtain ⟨l⟩ := es'
    simp [findBy]
  unfold Builtin.Dict.samePairs Builtin.Dict.showsAll
  rw [if_neg (show ¬ (a == sysModules) = true by rw [da.sys]; exact Bool.false_ne_true), if_neg (show ¬ (b == sysModules) = true by rw [db.sys]; exact Bool.false_ne_true)]
  refine wpAny_bind (wpAny_pure (wpAny_bind (wpAny_pure ?_)))
  refine wpAny_bind (wpAny_dictEntries (ga s I) hda ?_)
  dsimp only
  refine wpAny_bind (wpAny_dictEntries (gb s I) hdb ?_)
  by_cases hsz : es.size = es'.size
  case neg =>
    rw [if_pos (by simpa using hsz)]
    have hbf : (ka.length == kb.length) = false := by rw [hla, hlb]; simpa using hsz
    exact wpAny_bind (wpAny_rule (wpAny_pure ⟨by rw [hbf, Bool.false_and], I⟩))
  case pos =>
    have hbt : (ka.length == kb.length) = true := by rw [hla, hlb, hsz]; exact beq_self_eq_true _
    have hits' := hits (by rw [hla, hlb]; exact hsz)
    rw [if_neg (by rw [hsz]; simp), hbt, Bool.true_and]
    refine wpAny_bind (wpAny_dictEpoch (ga s I) hda ?_)
    refine wpAny_bind ?_
    rw [Std.Legacy.Range.forIn_eq_forIn_range']
    simp only [Std.Legacy.Range.size, Nat.sub_zero, Nat.add_sub_cancel, Nat.div_one]
    refine wpAny_forIn_list _
      (fun rest q s' => Inv X pins σ H s' ∧ q = (none, ()) ∧ ∃ i b', rest = List.range' i (es.size - i) ∧ i ≤ es.size ∧ Hits X pins σ A H kb (ka.drop i) b' ∧ b' = r)
      _ ?_ ?_ _ _ ⟨I, rfl, 0, r, by simp, Nat.zero_le _, hits', rfl⟩
    · clear I
      rintro x rest q s' ⟨I, rfl, i, b', hr, hi, hpre, rfl⟩
      have hlt : i < es.size := by
        rcases Nat.lt_or_ge i es.size with h | h
        · exact h
        · rw [Nat.sub_eq_zero_of_le h] at hr; simp at hr
      obtain ⟨rfl, hrest⟩ : x = i ∧ rest = List.range' (i + 1) (es.size - (i + 1)) := by
        have e : es.size - i = (es.size - (i + 1)) + 1 := by omega
        rw [e, List.range'_succ] at hr
        injection hr with h1 h2
        exact ⟨h1, h2⟩
      refine wpAny_bind (wpAny_dictEntries (ga _ I) hda ?_)
      rw [Array.getElem?_eq_getElem hlt]
      have hlt' : x < ka.length := by rw [hla]; exact hlt
      obtain ⟨k, v, hkv⟩ : ∃ k v, ka[x] = (k, v) := ⟨_, _, rfl⟩
      have hdrop : ka.drop x = (k, v) :: ka.drop (x + 1) := by rw [← hkv]; exact List.drop_eq_getElem_cons hlt'
      obtain ⟨hkey, hval⟩ := da.prs.get? (i := x) (e := es[x]) (k := k) (v := v) (by rw [Array.getElem?_toList]; exact Array.getElem?_eq_getElem hlt) (by rw [List.getElem?_eq_getElem hlt', hkv])
      obtain ⟨k', hk', hh⟩ := da.keys es[x] (Array.getElem_mem hlt)
      have ekk : k' = k := (mixKind X.prog X.w).inj _ _ _ hk' hkey
      rw [ekk] at hh
      rw [hdrop] at hpre
      show wpAny _ _ (holding [es[x].key, es[x].val] _ >>= _) _ _ _
      rw [hh]
      refine wpAny_bind (wpAny_holding (wpAny_bind (wpAny_dictFind_of hkey (gb _ I) hdb db.keys ?_)))
      obtain ⟨y, e, b'', hy, he, hrr, er⟩ := hpre.inv
      cases hj : es'.findIdx? fun e => (mixKind X.prog X.w).is k e.key with
      | none =>
        have hn : valueAt kb k = none := by rw [← hfind k, findBy_of_findIdx?, hj]
        rw [hn] at hy; exact nomatch hy
      | some j =>
        obtain ⟨hjlt, _, _⟩ := Array.findIdx?_eq_some_iff_getElem.mp hj
        have hv' : valueAt kb k = some es'[j].val := by
          rw [← hfind k, findBy_of_findIdx?, hj]
          simp [Array.getElem?_eq_getElem hjlt]
        refine wpAny_bind (wpAny_dictEntries (gb _ I) hdb ?_)
        rw [Array.getElem?_eq_getElem hjlt]
        have ey : es'[j].val = y := Option.some.inj (hv'.symm.trans hy)
        rw [← ey, ← hval] at he
        refine wpAny_holding (wpAny_mono (he _ I) (fun q s'' z => ?_) fun _ _ z => z)
        obtain ⟨rfl, I''⟩ := z
        cases q with
        | false =>
          show wpAny _ _ (if (!false) = true then _ else _) _ _ _
          rw [if_pos (by decide)]
          exact wpAny_pure (wpAny_pure ⟨by rw [er]; rfl, I''⟩)
        | true =>
          show wpAny _ _ (if (!true) = true then _ else _) _ _ _
          rw [if_neg (by decide)]
          refine wpAny_bind (wpAny_dictEpoch (ga _ I'') hda ?_)
          rw [if_neg (by simp)]
          exact wpAny_pure ⟨I'', rfl, x + 1, b'', hrest, hlt, hrr, by rw [er, Bool.true_and]⟩
    · rintro q s' ⟨I, rfl, i, b', hr, hi, hpre, rfl⟩
      have hin : i = es.size := by
        rcases Nat.lt_or_ge i es.size with h | h
        · have e : es.size - i = (es.size - (i + 1)) + 1 := by omega
          rw [e, List.range'_succ] at hr; exact nomatch hr
        · exact Nat.le_antisymm hi h
      refine wpAny_pure ?_
      rw [hin, ← hla, List.drop_length] at hpre
      cases hpre
      exact ⟨rfl, I⟩
theorem rcI_dicts {a b : Addr} {es es' : Array DictEntry} {ka kb : List (L2.Key × Value)} {r : Bool} (I : Inv X pins σ H s) (da : Std X pins σ H a es ka) (db : Std X pins σ H b es' kb) (hu : A.units < cLine) (hits : ka.length = kb.length → Hits X pins σ A.in1 H kb ka r) :
    wpAny (model X.prog X.w) A (richCompare .Eq (.ref a) (.ref b)) (fun v s' => ∃ q, v = .bool q ∧ q = (ka.length == kb.length && r) ∧ Inv X pins σ H s') X.xe s := by
  have ta := (da.dict I).typeIs
  have tb := (db.dict I).typeIs
  refine wpAny_richCompare_same_room (op := .Eq) ta tb PySem.F.slot_dict_eq (wpAny_call_entry PySem.F.slot_dict_eq ta PySem.F.entry_dict_eq ?_ (PySem.F.args_dict_eq_2 _ _)) hu
  show wpAny _ _ (Builtin.Dict.dictSlotArgs "__eq__" ⟨[.ref a, .ref b], []⟩ >>= _) _ _ s
  refine wpAny_bind ?_
  unfold Builtin.Dict.dictSlotArgs
  refine wpAny_bind (wpAny_notOrdered_dict ta ?_)
  show wpAny _ _ (pure (Value.ref a, Value.ref b)) _ _ s
  refine wpAny_pure ?_
  refine wpAny_bind (wpAny_isInstance (T := "dict") tb PySem.F.sub_dict_dict ?_)
  simp only [Bool.not_true, Bool.false_eq_true, if_false]
  refine wpAny_bind (wpAny_pure (wpAny_bind (wpAny_pure ?_)))
  refine wpAny_bind (wpAny_mono (samePairsI I da db hits) (fun q s' z => ?_) fun _ _ z => z)
  obtain ⟨rfl, I'⟩ := z
  refine wpAny_pure ⟨_, rfl, ?_, ?_⟩
  · exact fun x => nomatch x
  · exact ⟨_, rfl, by simp, I'⟩
theorem eqB_dicts {a b : Addr} {es es' : Array DictEntry} {ka kb : List (L2.Key × Value)} {r : Bool} (da : Std X pins σ H a es ka) (db : Std X pins σ H b es' kb) (hu : A.units < cLine) (hits : ka.length = kb.length → Hits X pins σ A.in1 H kb ka r)
    (hs : a = b → (ka.length == kb.length && r) = true) : EqB X pins σ A H (.ref a) (.ref b) (ka.length == kb.length && r) := fun s I => by
  by_cases h : a = b
  · have e := hs h
    generalize (ka.length == kb.length && r) = q at e ⊢
    subst e
    unfold eqBool
    refine wpAny_holding (wpAny_ite_split (fun _ => wpAny_bind (wpAny_rule (wpAny_pure ⟨rfl, I⟩))) fun z => absurd (by rw [h]; exact beq_self_eq_true _) z)
  · refine GQ.eqBool_refG h (wpAny_mono (rcI_dicts I da db hu hits) (fun v s' z => ?_) fun _ _ z => z)
    obtain ⟨q, rfl, rfl, I'⟩ := z
    exact ⟨_, rfl, rfl, I'⟩
end
end GN
namespace G
open PySem PySem.Spec PyProof.Rows L2 GN
/-! as the walks tell it -/
inductive HitV (D : V → V → Bool → Prop) (kb : List (L2.Key × V)) : List (L2.Key × V) → Bool → Prop
  | nil : HitV D kb [] true
  | hit {k : L2.Key} {v u : V} {r : List (L2.Key × V)} {e b : Bool} : valV kb k = some u → D v u e → HitV D kb r b → HitV D kb ((k, v) :: r) (e && b)
/-- two instances of the class at C that its own == calls equal, changing nothing -/
def TEq (C : Addr) (sp : Sp) (H : Hp) (x y : V) (r : Bool) : Prop := r = true ∧ ∃ a dx fs b dy gs, x = .ref a ∧ y = .ref b ∧ H a = some (.ins C dx fs) ∧ H b = some (.ins C dy gs) ∧ sp [.ref a, .ref b] H (fun v H1 => v = .bl true ∧ H1 = H) E0
/-- two frozen dicts of such -/
def DEq (D : V → V → Bool → Prop) (H : Hp) (x y : V) (r : Bool) : Prop := ∃ a b oa ob ka kb q, x = .ref a ∧ y = .ref b ∧ H a = some (.frz oa (.dK ka)) ∧ H b = some (.frz ob (.dK kb)) ∧ (ka.length = kb.length → HitV D kb ka q) ∧ (a = b → q = true) ∧ r = (ka.length == kb.length && q)
/-- dicts of dicts of instances; a dict that may still change is looked at, too -/
def rEqPP (C : Addr) (sp : Sp) : R2 := fun x y H Q => (∃ r, DEq (DEq (TEq C sp H) H) H x y r ∧ Q (.bl r) H) ∨
  ∃ d kvs, H d = some (.dK kvs) ∧ ∃ r, (∀ od, DEq (DEq (TEq C sp (upd H d (.frz od (.dK kvs)))) (upd H d (.frz od (.dK kvs)))) (upd H d (.frz od (.dK kvs))) x y r) ∧ Q (.bl r) H
section
variable {X : Cx} {pins : List (Addr × Obj)} {σ : L2.St} {H : Hp} {A : Around} {s : Shared} {n m j : Nat} {C : Addr} {sp : Sp} {D : V → V → Bool → Prop}
theorem std_of {a : Addr} {oa : Obj} {kvs : List (L2.Key × V)} (I : Inv X pins σ H s) (h : H a = some (.frz oa (.dK kvs))) : ∃ es ka, KV kvs ka ∧ Std X pins σ H a es ka := by
  obtain ⟨_, sys, va, ra, o, es, ep, g, x, d, k, p, nd⟩ := dk_rd I.hok (.inr ⟨oa, h⟩)
  have e := (I.hok a _ h).1
  rw [g] at e
  cases e
  exact ⟨es, va, ra, sys, ⟨oa, ep, fun s' I' => (I'.hok a _ h).1, x, d⟩, k, p, nd⟩
theorem hits_V {kb : List (L2.Key × V)} {vb : List (L2.Key × Value)} (rb : KV kb vb) (hD : ∀ v u e v' u', D v u e → RelV v v' → RelV u u' → EqB X pins σ A H v' u' e) {ka : List (L2.Key × V)} {r : Bool} (h : HitV D kb ka r) : ∀ {va : List (L2.Key × Value)}, KV ka va → Hits X pins σ A H vb va r := by
  induction h with
  | nil =>
    intro va ra
    cases ra
    exact .nil
  | hit h1 h2 _ ih =>
    rename_i k v u r' e b _
    intro va ra
    cases ra with
    | cons q t =>
      rename_i p vs
      obtain ⟨k', w⟩ := p
      obtain ⟨q1, q2⟩ := q
      have q1 : k = k' := q1
      subst q1
      obtain ⟨w', hw, rw'⟩ := RelO.some_of (v := u) (o := valueAt vb k) (by rw [← h1]; exact rb.val k)
      exact .hit hw (hD v u e w w' h2 q2 rw') (ih t)
theorem kv_len {ks : List (L2.Key × V)} {vs : List (L2.Key × Value)} (r : KV ks vs) : vs.length = ks.length := by
  have := congrArg List.length r.keys
  rw [List.length_map, List.length_map] at this
  exact this.symm
theorem eqB_thing (c : Mt X.prog X.w X.K X.mg X.base n C "__eq__" sp []) (sb : L2.Sub X m A) (hm : n ≤ m) {v u : V} {v' u' : Value} {r : Bool} (h : TEq C sp H v u r) (rv : RelV v v') (ru : RelV u u') : EqB X pins σ A H v' u' r := by
  obtain ⟨rfl, a, dx, fs, b, dy, gs, rfl, rfl, ha, hb, hsp⟩ := h
  cases rv
  cases ru
  intro s I
  by_cases z : a = b
  · unfold eqBool
    refine wpAny_holding (wpAny_ite_split (fun _ => wpAny_bind (wpAny_rule (wpAny_pure ⟨rfl, I⟩))) fun q => absurd (by rw [z]; exact beq_self_eq_true _) q)
  obtain ⟨f, fd, ps, ds, cl, hme, F, bi, d⟩ := c.ex
  cases d
  obtain ⟨mA, J, _⟩ := ins_get I.hok ha
  obtain ⟨mB, J', _⟩ := ins_get I.hok hb
  obtain ⟨od, J, _⟩ := J.look
  obtain ⟨od', J', _⟩ := J'.look
  obtain ⟨mm, hF⟩ := I.fr
  refine GQ.eqBool_refG z ?_
  refine PySem.W.cmp_K (op := .Eq) (tb := .ref C) sb.room.units0 hF I.ok.mod.kin J J'.type (by simp [PySem.W.notFirst]) hme.at_ hme.fn ?_
  have hl := F.len _ _ _ _ hsp
  have e0 : Env0 X.prog X.w X.K X.mg X.base A X.stack s H := by
    have e := I.env0
    exact ⟨by rw [sb.fr]; exact e.frames, e.mod, e.bs, e.bsz, e.funs, e.frf, e.hok, e.bare⟩
  have b2 := bi s [.ref a, .ref b] I.kIn (by simpa using hl)
  rw [List.append_nil] at b2
  have r2 : Vals [V.ref a, V.ref b] [Value.ref a, Value.ref b] := .cons rfl (.cons rfl .nil)
  refine wpAny_call (codeAny_mono (F.run A X.stack s H ⟨[.ref a, .ref b], []⟩ [.ref a, .ref b] [.ref a, .ref b] _ E0 (sb.room.mono hm) e0 b2 r2 hsp) fun r s' hq => ?_)
  cases r with
  | error e => exact (passL (X := X)) pins σ H s e s' I hq
  | ok fl =>
    cases fl with
    | ret w =>
      obtain ⟨w1, H', I', rz, rfl, eH⟩ := I.after hq
      cases rz
      subst eH
      exact ⟨true, rfl, rfl, I'⟩
    | next => exact hq.elim
    | brk => exact hq.elim
    | cont => exact hq.elim
theorem eqB_deq (sb : L2.Sub X (m + 1) A) (hD : ∀ v u e v' u', D v u e → RelV v v' → RelV u u' → EqB X pins σ A.in1 H v' u' e) {x y : V} {v u : Value} {r : Bool} (h : DEq D H x y r) (rx : RelV x v) (ry : RelV y u) : EqB X pins σ A H v u r := by
  obtain ⟨a, b, oa, ob, ka, kb, q, rfl, rfl, ha, hb, hi, hs, rfl⟩ := h
  cases rx
  cases ry
  intro s I
  obtain ⟨es, va, ra, da⟩ := std_of I ha
  obtain ⟨es', vb, rb, db⟩ := std_of I hb
  rw [← kv_len ra, ← kv_len rb] at hi ⊢
  refine eqB_dicts da db sb.room.units0 (fun e => hits_V rb hD (hi e) ra) (fun e => ?_) s I
  subst e
  rw [ha] at hb
  cases hb
  rw [hs rfl, kv_len ra, kv_len rb, beq_self_eq_true]
  rfl
theorem run_eqPP (c : Mt X.prog X.w X.K X.mg X.base n C "__eq__" sp []) (hr : Room j X.A) (hk : n + 3 ≤ j) (I : Inv X pins σ H s) {x y : V} {v u : Value} {r : Bool} (h : DEq (DEq (TEq C sp H) H) H x y r) (rx : RelV x v) (ry : RelV y u) :
    wpAny (model X.prog X.w) X.A (richCompare .Eq v u) (fun w s' => w = .bool r ∧ Inv X pins σ H s') X.xe s := by
  obtain ⟨a, b, oa, ob, ka, kb, q, rfl, rfl, ha, hb, hi, hs, rfl⟩ := h
  cases rx
  cases ry
  obtain ⟨es, va, ra, da⟩ := std_of I ha
  obtain ⟨es', vb, rb, db⟩ := std_of I hb
  rw [← kv_len ra, ← kv_len rb] at hi ⊢
  have sb : L2.Sub X (n + 3) X.A := ⟨hr.mono hk, rfl⟩
  refine wpAny_mono (rcI_dicts I da db sb.room.units0 fun e => hits_V rb (fun v u e v' u' d rv ru => eqB_deq (m := n + 1) sb.in1 (fun v u e v' u' d rv ru => eqB_thing c (m := n + 1) sb.in1.in1 (Nat.le_succ n) d rv ru) d rv ru) (hi e) ra) (fun w s' z => ?_) fun _ _ z => z
  obtain ⟨q', rfl, rfl, I'⟩ := z
  exact ⟨rfl, I'⟩
theorem op_eqPP (c : Mt X.prog X.w X.K X.mg X.base n C "__eq__" sp []) (hr : Room j X.A) (hk : n + 3 ≤ j) : OpR X (compareOp .Eq) (rEqPP C sp) := by
  intro pins s σ H x y v u Q I rx ry hq
  show wpAny (model X.prog X.w) X.A (richCompare .Eq v u) (EP X pins σ Q) X.xe s
  rcases hq with ⟨r, h, q⟩ | ⟨d, kvs, hd, r, h, q⟩
  · refine wpAny_mono (run_eqPP c hr hk I h rx ry) (fun w s' z => ?_) fun _ _ z => z
    obtain ⟨rfl, I'⟩ := z
    exact ⟨.bl r, H, I', rfl, q⟩
  · have nf := I.nofrz hd True.intro
    obtain ⟨od, I1⟩ := I.lock hd True.intro
    refine wpAny_mono (run_eqPP c hr hk I1 (h od) rx ry) (fun w s' z => ?_) fun _ _ z => z
    obtain ⟨rfl, I2⟩ := z
    have I3 := I2.unlock upd_same nf
    have eH : upd (upd H d (.frz od (.dK kvs))) d (.dK kvs) = H := by
      funext c
      by_cases e : c = d
      · rw [e, upd_same, hd]
      · rw [upd_ne e, upd_ne e]
    rw [eH] at I3
    exact ⟨.bl r, H, I3, rfl, q⟩
end
/-! a dict that is a cell, looked through as if it stood still -/
def tLk (t : TE) : TE := fun σ H Q => t σ H Q ∨ ∃ d kvs, H d = some (.dK kvs) ∧ ∀ od, t σ (upd H d (.frz od (.dK kvs))) (fun v H1 => H1 d = some (.frz od (.dK kvs)) ∧ Q v (upd H1 d (.dK kvs)))
theorem pe_lk {X : Cx} {e : Expr} {t : TE} (h : PE X e t) : PE X e (tLk t) := ⟨fun pins s σ H Q I q => by
  rcases q with q | ⟨d, kvs, hd, q⟩
  · exact h.run pins s σ H Q I q
  · have nf := I.nofrz hd True.intro
    obtain ⟨od, I1⟩ := I.lock hd True.intro
    refine thn (h.run pins s σ _ _ I1 (q od)) fun u s1 z => ?_
    obtain ⟨v, H1, I2, r, h1, q1⟩ := z
    exact ⟨v, _, I2.unlock h1 nf, r, q1⟩⟩
theorem g_lk {t : TE} {σ : L2.St} {H : Hp} {Q : VK} (h : tLk t σ H Q) : tLk t σ H Q := h
theorem lk_no {t : TE} {σ : L2.St} {H : Hp} {Q : VK} (h : t σ H Q) : tLk t σ H Q := .inl h
theorem lk_yes {t : TE} {σ : L2.St} {F H : Hp} {Q : VK} {M : List (Addr × HO)} {d : Addr} {kvs : List (L2.Key × V)} (hh : HH F H ((d, .dK kvs) :: M)) (q : ∀ od H1, HH F H1 ((d, .frz od (.dK kvs)) :: M) → t σ H1 (fun v H1 => H1 d = some (.frz od (.dK kvs)) ∧ Q v (upd H1 d (.dK kvs)))) : tLk t σ H Q :=
  .inr ⟨d, kvs, hh.get (i := 0) rfl, fun od => q od _ hh.set0⟩
theorem HH.frzAll {F H : Hp} {M : List (Addr × HO)} : ∀ {C : List (Addr × HO)}, HH F H (C ++ M) → ∃ F', Same F F' ∧ HH F' H M ∧ ∀ c ∈ C, F' c.1 = some c.2
  | [], h => ⟨F, Same.refl F, h, fun _ z => nomatch z⟩
  | c :: C, h => by
    obtain ⟨a, o⟩ := c
    have h1 : HH F H ((a, o) :: (C ++ M)) := h
    obtain ⟨F', s, h', hc⟩ := HH.frzAll h1.frz
    refine ⟨F', h1.frzS.trans s, h', fun c hm => ?_⟩
    rcases List.mem_cons.mp hm with rfl | hm
    · exact s _ _ upd_same
    · exact hc c hm
end G

/-! ### defs that make lambdas: their code objects' tables, from the head to the law's call -/
namespace G
open PySem PySem.Spec PyProof.Rows L2
abbrev TO : Obj := { cls := .none, data := .fields #[] }
/-- what the head tells of a def's code object and its table -/
structure TabAt (h : Heap) (K : PySem.W.Frag) (p : Addr × Addr) : Prop where
  tb : h.get? p.2 = some TO
  nk : K.lookup p.2 = none
  cd : PySem.W.CodeHd h p.1 p.2
def tabB (K : PySem.W.Frag) (g : Addr → Option Obj) (q : He.Defn) : Bool := PySem.W.codeHdIn K (He.cT K q).1 (He.cT K q).2 && (match g (He.cT K q).2 with
  | some o => He.emptyTab o
  | none => false)
theorem tabB_ok {h : Heap} {as : List Addr} {q : He.Defn} (e : tabB (He.frT h.get? as) h.get? q = true) : TabAt h (He.frT h.get? as) (He.cT (He.frT h.get? as) q) := by
  obtain ⟨e1, e2⟩ := He.ba e
  cases z : h.get? (He.cT (He.frT h.get? as) q).2 with
  | none =>
    rw [z] at e2
    cases e2
  | some o =>
    rw [z] at e2
    exact ⟨by rw [z, He.emptyTab_eq e2], He.frT_none z e2, PySem.W.codeHd_of_K He.frT_in e1⟩
abbrev AlT : Type := AlZ × Bool
def obsT (n : Nat) (fa : List He.Fa) (fn : List He.DefD) (gs : List DefP) (ex : PySem.W.Frag → Bool) (fc : PySem.W.Frag → FnC) (fb : PySem.W.Frag → Bool) (ts : List He.Defn) (g : Addr → Option Obj) : AlT := (obsZ n fa fn gs ex fc fb g, ts.all fun q => tabB (He.frT g (asY g n)) g q)
def hookT (n : Nat) (fa : List He.Fa) (fn : List He.DefD) (gs : List DefP) (ex : PySem.W.Frag → Bool) (fc : PySem.W.Frag → FnC) (fcv : FnC) (fb : PySem.W.Frag → Bool) (ts : List He.Defn) : PySem.W.Hook where
  α := AlT
  obs := fun s => obsT n fa fn gs ex fc fb ts s.heap.get?
  val := fun _ => (valZ fn gs fcv, true)
  says := fun _ h => ∃ K : PySem.W.Frag, K.In h ∧ SaysZ fa fn gs ex fc fcv fb K ∧ ∀ q ∈ ts, TabAt h K (He.cT K q)
  of := fun _ s e => by
    have e1 : obsZ n fa fn gs ex fc fb s.heap.get? = valZ fn gs fcv := congrArg (fun z : AlT => z.1) e
    have e2 : (ts.all fun q => tabB (He.frT s.heap.get? (asY s.heap.get? n)) s.heap.get? q) = true := congrArg (fun z : AlT => z.2) e
    refine ⟨_, He.frT_in, ⟨congrArg (fun z : AlZ => z.1) e1, ⟨?_, congrArg (fun z : AlZ => z.2.1) e1⟩, congrArg (fun z : AlZ => z.2.2.1) e1, ?_, ?_⟩, fun q hq => tabB_ok (List.all_eq_true.mp e2 q hq)⟩
    · exact (He.ba (He.ba (congrArg (fun z : AlZ => z.2.2.2) e1)).2).2
    · exact (He.ba (congrArg (fun z : AlZ => z.2.2.2) e1)).1
    · exact (He.ba (He.ba (congrArg (fun z : AlZ => z.2.2.2) e1)).2).1
  keeps := fun _ _ _ ⟨K, hK, c, t⟩ k => ⟨K, PySem.W.Frag.In.keeps hK k, c, fun q hq => ⟨k _ _ (t q hq).tb, (t q hq).nk, (t q hq).cd.keeps k⟩⟩
theorem obsT_eq {n : Nat} {fa : List He.Fa} {fn : List He.DefD} {gs : List DefP} {ex : PySem.W.Frag → Bool} {fc : PySem.W.Frag → FnC} {fcv : FnC} {fb : PySem.W.Frag → Bool} {ts : List He.Defn} {g : Addr → Option Obj} {s : Shared} (h : ∀ a, g a = s.heap.get? a) : obsT n fa fn gs ex fc fb ts g = (hookT n fa fn gs ex fc fcv fb ts).obs s := by
  have e : g = s.heap.get? := funext h
  rw [e] <;> rfl
/-! the law's own call -/
section
variable {P : Program} {w : World} {K : PySem.W.Frag} {mg mb : Str → Option Value} {k : Nat} {fa a : Addr} {fd : FuncData} {x : Str} {sp : Sp} {s1 : Shared} {vs : List Value} {ns : List Int} {cs : List (Addr × Addr)}
def MainBm (mg : Str → Option Value) (h : Heap) : Prop := ∃ (m : Addr) (om : Obj), mg "__builtins__" = some (.ref m) ∧ m ≠ builtinsNs ∧ h.get? m = some om ∧ om.cls = .type "module" ∧ om.dict = some builtinsNs ∧ om.data = .plain
/-- a heap in which the script's list and the tables alone may be tracked -/
structure TabH (cs : List (Addr × Addr)) (a : Addr) (H : Hp) : Prop where
  tab : ∀ p ∈ cs, H p.2 = some (.tbl #[])
  all : ∀ b u, H b = some u → (b = a ∧ ∃ ob xs, u = .frz ob (.lst xs)) ∨ ((∃ p ∈ cs, p.2 = b) ∧ u = .tbl #[])
theorem law_coreT (KX : K.In s1.heap) (hns : s1.heap.Ns mainGlobals mg) (hb : s1.heap.Ns builtinsNs mb) (hbb : ∀ x : Str, x ≠ "__name__" → mb x = bootBuiltins x) (hlim : s1.heap.NoLimit) (hg : s1.gens = #[]) (hbm : MainBm mg s1.heap)
    (ht : ∀ p ∈ cs, TabAt s1.heap K p) (ha : s1.heap.get? a = some { cls := .type "list", data := .seq vs.toArray }) (hr : Room k callerA)
    (F : ∀ base : Heap, K.In base → base.Ns mainGlobals mg → (∀ p ∈ cs, LamX.TabB base mg p.1 p.2) → FnG P w K mg base k fa fd [x] sp) (bi : ∀ (s : Shared) (u : Value), BindsTo s fd ⟨[u], []⟩ [(x, u)])
    (H : Hp) (hT : TabH cs a H) (hok : HOk P w H s1.heap) (hK : H a ≠ none → K.lookup a = none) (hsp : sp [.ref a] H (fun v _ => v = .bl true) fun _ _ _ => False) :
    codeAny (model P w) callerA (.call (.ref fa) ⟨[.ref a], []⟩) (LawEnd s1) s1 := by
  -- an object of another make is not tracked
  have free : ∀ {b : Addr} {o : Obj}, s1.heap.get? b = some o → (∀ z n, o.data ≠ .seq z n) → o.data ≠ .fields #[] → H b = none := fun {b o} e n1 n2 => by
    cases q : H b with
    | none => rfl
    | some u =>
      rcases hT.all b u q with ⟨rfl, _⟩ | ⟨⟨p, hp, rfl⟩, _⟩
      · rw [ha] at e
        cases e
        exact (n1 _ _ rfl).elim
      · rw [(ht p hp).tb] at e
        cases e
        exact (n2 rfl).elim
  have dictN : ∀ {b : Addr} {o : Obj} {es : Array DictEntry} {ep : Nat}, s1.heap.get? b = some o → o.data = .dict es ep → H b = none := fun {b o es ep} e d => free e (fun z n q => by rw [d] at q; cases q) fun q => by rw [d] at q; cases q
  have nsO : ∀ {b : Addr} {m : Str → Option Value}, s1.heap.Ns b m → (hidT s1.heap H).Ns b m := fun {b m} z => by
    obtain ⟨o, es, ep, e, d, r⟩ := z
    exact ⟨o, es, ep, hidT_get e (dictN e d), d, r⟩
  have kin : K.In (hidT s1.heap H) := fun b o e => hidT_get (KX b o e) (by
    cases q : H b with
    | none => rfl
    | some u =>
      rcases hT.all b u q with ⟨rfl, _⟩ | ⟨⟨p, hp, rfl⟩, _⟩
      · rw [hK (by rw [q]; intro z; cases z)] at e
        cases e
      · rw [(ht p hp).nk] at e
        cases e)
  have TB : ∀ p ∈ cs, LamX.TabB (hidT s1.heap H) mg p.1 p.2 := fun p hp => by
    have tb := (ht p hp).tb
    refine ⟨?_, ?_, fun z => ?_⟩
    · obtain ⟨o, us, c1, c2, c3, c4, c5, c6, c7, g, d1, d2, d3, rest⟩ := (ht p hp).cd
      exact ⟨o, us, c1, c2, c3, c4, c5, c6, c7, hidT_get g (free g (fun z n q => by rw [d2] at q; cases q) fun q => by rw [d2] at q; cases q; simp at d3), d1, d2, d3, rest⟩
    · obtain ⟨m, om, y1, y2, y3, y4, y5, y6⟩ := hbm
      have notG : m ≠ mainGlobals := fun q => by
        obtain ⟨o, es, ep, e, d, _⟩ := hns
        rw [q, e] at y3
        cases y3
        rw [d] at y6
        cases y6
      have notP : m ≠ p.2 := fun q => by
        rw [q, tb] at y3
        cases y3
        cases y6
      exact ⟨m, om, y1, y2, notG, notP, hidT_get y3 (free y3 (fun z n q => by rw [y6] at q; cases q) fun q => by rw [y6] at q; cases q), y4, y5, y6⟩
    · obtain ⟨o, es, ep, e, d, _⟩ := hns
      rw [z, tb] at e
      cases e
      cases d
  obtain ⟨mc, l1, l2⟩ := hlim
  have e0 : Env0 P w K mg (hidT s1.heap H) callerA [] s1 H := by
    refine ⟨rfl, ⟨kin, nsO hns, ⟨mb, nsO hb, hbb⟩, ⟨mc, nsO l1, l2⟩⟩, fun b o e => of_hidT e, Nat.le_of_eq (hidT_size _ _), trivial, ?_, hok, .of_eq hg⟩
    intro b z
    cases (show b ∈ ([] : List Addr) from z)
  refine codeAny_mono ((F _ kin (nsO hns) TB).go callerA [] s1 H ⟨[.ref a], []⟩ [.ref a] [.ref a] _ _ rfl hr e0 (bi s1 (.ref a)) (.cons rfl .nil) hsp) fun r s' h => ?_
  cases r with
  | error e =>
    obtain ⟨_, _, _, _, _, _, _, _, _, _, _, _, z⟩ := h
    exact z.elim
  | ok fl =>
    cases fl with
    | next => exact h.elim
    | brk => exact h.elim
    | cont => exact h.elim
    | ret u =>
      obtain ⟨v, H', os, bare, un, hok', r', q⟩ := h
      obtain rfl : v = .bl true := q
      obtain rfl : u = Value.bool true := r'
      have stay : ∀ b o, s1.heap.get? b = some o → (∀ p ∈ cs, p.2 ≠ b) → s'.heap.get? b = some o := fun b o e nb => by
        cases q : H b with
        | none =>
          refine un.keep b o e q ?_ ?_
          · intro z
            cases (show b ∈ ([] : List Addr) from z)
          · intro z
            cases z
        | some u =>
          rcases hT.all b u q with ⟨_, ob, xs, rfl⟩ | ⟨⟨p, hp, ep⟩, _⟩
          · have z2 := un.frzs b ob _ q
            have e1 := (hok b _ q).1
            have e2 := (hok' b _ z2).1
            rw [e] at e1
            cases e1
            exact e2
          · exact (nb p hp ep).elim
      have grown : ∀ p ∈ cs, ∃ more : Array Value, s'.heap.get? p.2 = some { cls := .none, data := .fields more } := fun p hp => by
        obtain ⟨more, z⟩ := un.tbls p.2 #[] (hT.tab p hp)
        exact ⟨_, hok' p.2 _ z⟩
      refine ⟨rfl, ⟨fun b o e => ?_, fun b o e => ?_⟩, os, bare⟩
      · by_cases nb : ∃ p ∈ cs, p.2 = b
        · obtain ⟨p, hp, rfl⟩ := nb
          obtain ⟨more, hm⟩ := grown p hp
          have tb := (ht p hp).tb
          rw [tb] at e
          cases e
          exact .inr (.inl ⟨((ht p hp).cd.tab tb).isCodeTable, rfl, #[], more, rfl, by rw [Array.empty_append]; exact hm⟩)
        · exact .inl (stay b o e fun p hp z => nb ⟨p, hp, z⟩)
      · by_cases nb : ∃ p ∈ cs, p.2 = b
        · obtain ⟨p, hp, rfl⟩ := nb
          obtain ⟨more, hm⟩ := grown p hp
          exact ⟨_, hm⟩
        · exact ⟨o, stay b o e fun p hp z => nb ⟨p, hp, z⟩⟩
theorem law_callT (KX : K.In s1.heap) (hns : s1.heap.Ns mainGlobals mg) (hb : s1.heap.Ns builtinsNs mb) (hbb : ∀ x : Str, x ≠ "__name__" → mb x = bootBuiltins x) (hlim : s1.heap.NoLimit) (hg : s1.gens = #[]) (hbm : MainBm mg s1.heap)
    (ht : ∀ p ∈ cs, TabAt s1.heap K p) (ha : s1.heap.get? a = some { cls := .type "list", data := .seq vs.toArray }) (hi : IntsAre vs ns) (hl : ns.length ≤ sizeLine) (hr : Room k callerA)
    (F : ∀ base : Heap, K.In base → base.Ns mainGlobals mg → (∀ p ∈ cs, LamX.TabB base mg p.1 p.2) → FnG P w K mg base k fa fd [x] sp) (bi : ∀ (s : Shared) (u : Value), BindsTo s fd ⟨[u], []⟩ [(x, u)])
    (hsp : ∀ H : Hp, TabH cs a H → SqL K H a (ns.map V.int) → sp [.ref a] H (fun v _ => v = .bl true) fun _ _ _ => False) :
    codeAny (model P w) callerA (.call (.ref fa) ⟨[.ref a], []⟩) (LawEnd s1) s1 := by
  have rv := vals_ints hi
  have na : ∀ p ∈ cs, p.2 ≠ a := fun p hp z => by
    have e := (ht p hp).tb
    rw [z, ha] at e
    cases e
  have tobj : ∀ p ∈ cs, ObjOk P w (fun b => if ∃ p ∈ cs, p.2 = b then some (.tbl #[]) else none) s1.heap p.2 (.tbl #[]) := fun p hp => (ht p hp).tb
  cases hk : K.lookup a with
  | some o =>
    have e := KX a o hk
    rw [ha] at e
    cases e
    generalize hH : (fun b => if ∃ p ∈ cs, p.2 = b then some (HO.tbl #[]) else none : Hp) = H
    have hT : TabH cs a H := ⟨fun p hp => by rw [← hH]; exact if_pos ⟨p, hp, rfl⟩, fun b u q => by
      rw [← hH] at q
      by_cases z : ∃ p ∈ cs, p.2 = b
      · have q2 := (if_pos z).symm.trans q
        cases q2
        exact .inr ⟨z, rfl⟩
      · have q2 := (if_neg z).symm.trans q
        cases q2⟩
    have sq : SqL K H a (ns.map V.int) := .inr ⟨_, vs.toArray, _, hk, rfl, rfl, rfl, by rw [List.size_toArray, hi.length]; exact hl, by simpa using rv⟩
    refine law_coreT KX hns hb hbb hlim hg hbm ht ha hr F bi H hT (fun b u q => ?_) (fun z => ?_) (hsp H hT sq)
    · rcases hT.all b u q with ⟨rfl, ob, xs, rfl⟩ | ⟨⟨p, hp, rfl⟩, rfl⟩
      · rw [← hH] at q
        have q2 := (if_neg (fun z => by obtain ⟨p, hp, e⟩ := z; exact na p hp e)).symm.trans q
        cases q2
      · exact (ht p hp).tb
    · exfalso
      apply z
      rw [← hH]
      exact if_neg (fun z => by obtain ⟨p, hp, e⟩ := z; exact na p hp e)
  | none =>
    generalize hH : (fun b => if b = a then some (HO.frz { cls := .type "list", data := .seq vs.toArray } (.lst (ns.map V.int))) else if ∃ p ∈ cs, p.2 = b then some (HO.tbl #[]) else none : Hp) = H
    have at_ : H a = some (.frz { cls := .type "list", data := .seq vs.toArray } (.lst (ns.map V.int))) := by rw [← hH]; exact if_pos rfl
    have hT : TabH cs a H := ⟨fun p hp => by rw [← hH]; exact (if_neg (na p hp)).trans (if_pos ⟨p, hp, rfl⟩), fun b u q => by
      by_cases y : b = a
      · subst y
        rw [at_] at q
        cases q
        exact .inl ⟨rfl, _, _, rfl⟩
      · rw [← hH] at q
        have q1 := (if_neg y).symm.trans q
        by_cases z : ∃ p ∈ cs, p.2 = b
        · have q2 := (if_pos z).symm.trans q1
          cases q2
          exact .inr ⟨z, rfl⟩
        · have q2 := (if_neg z).symm.trans q1
          cases q2⟩
    refine law_coreT KX hns hb hbb hlim hg hbm ht ha hr F bi H hT (fun b u q => ?_) (fun _ => hk) (hsp H hT (.inl (.inr ⟨_, at_⟩)))
    rcases hT.all b u q with ⟨rfl, ob, xs, rfl⟩ | ⟨⟨p, hp, rfl⟩, rfl⟩
    · rw [at_] at q
      cases q
      exact ⟨ha, by rw [List.length_map]; exact hl, vs, _, rv, ha⟩
    · exact (ht p hp).tb
end
theorem walk_ofT {l : PySem.W.OpenLaw} {n k : Nat} {q : Program} {loose : List Str} {XP : (Str → Option Value) → Heap → Prop} {YP : World → Heap → Prop} {d : DefRec} {x : Str}
    (hn : l.most = some n) (hn2 : n ≤ sizeLine) (hdf : d.params.defaults = []) (hr : Room k callerA)
    (F : ∀ (w : World) (mg : Str → Option Value) (fa : Addr) (h : Heap), YP w h → h.Ns mainGlobals mg → mg d.name = some (.ref fa) →
      ∃ (K : PySem.W.Frag) (fd : FuncData) (sp : Sp) (cs : List (Addr × Addr)), K.In h ∧ (∀ p ∈ cs, TabAt h K p) ∧ (∀ (s : Shared) (u : Value), BindsTo s fd ⟨[u], []⟩ [(x, u)]) ∧
        (∀ (H : Hp) (a : Addr) (ns : List Int), ns.length ≤ n → TabH cs a H → SqL K H a (ns.map V.int) → sp [.ref a] H (fun v _ => v = .bl true) fun _ _ _ => False) ∧
        ∀ base : Heap, K.In base → base.Ns mainGlobals mg → (∀ p ∈ cs, LamX.TabB base mg p.1 p.2) → FnG l.prog w K mg base k fa fd [x] sp) :
    PySem.W.WalkO q loose XP YP l.row.toRowW d [] (fun f vs => PySem.call f vs) := by
  refine Att.attach_call hn hdf fun w s₀ s₁ mg mb fa o pm cd doc a vs ns G Y ho hd hcd hmg hobj hints hlen hg => ?_
  obtain ⟨K, fd, sp, cs, KX, hT, hb, hsp, hF⟩ := F w mg fa _ Y G.T.g hmg
  exact law_callT KX G.T.g G.T.b G.T.builtins G.T.nolimit hg G.T.bmain hT hobj hints (Nat.le_trans hlen hn2) hr hF hb fun H h1 h2 => hsp H a ns hlen h1 h2
end G

/-! ### a lambda with one parameter, called -/
namespace G
open PySem PySem.Spec PyProof.Rows L2 LamX
/-- the lambda's names: its parameter, captured ones, globals -/
structure LamP (sc scope : Scope) (pn : Str) : Prop where
  kind : scope.kind = .function
  co : scope.isCoroutine = false
  gen : scope.isGenerator = false
  nocell : ∀ y ∈ scope.names, y.2 ≠ .cell
  par : scope.names.lookup pn = some .local
  free : ∀ y ∈ scope.names, y.2 = .free → sc.names.lookup y.1 = some .cell ∨ sc.names.lookup y.1 = some .free
def lamPB (sc scope : Scope) (pn : Str) : Bool :=
  decide (scope.kind = .function) && (!scope.isCoroutine && (!scope.isGenerator && (decide (scope.names.lookup pn = some .local) && scope.names.all fun y => !decide (y.2 = .cell) && (!decide (y.2 = .free) || (decide (sc.names.lookup y.1 = some .cell) || decide (sc.names.lookup y.1 = some .free))))))
theorem lamP_by {sc scope : Scope} {pn : Str} (h : lamPB sc scope pn = true) : LamP sc scope pn := by
  unfold lamPB at h
  simp only [Bool.and_eq_true, Bool.or_eq_true, Bool.not_eq_true', decide_eq_true_eq, decide_eq_false_iff_not, List.all_eq_true] at h
  obtain ⟨h1, h2, h3, h4, h5⟩ := h
  exact ⟨h1, h2, h3, fun y hy => (h5 y hy).1, h4, fun y hy e => (h5 y hy).2.elim (fun z => (z e).elim) id⟩
def lamX (X : Cx) (A : Around) (outer : List Env) (s : Shared) (H : Hp) (E : XK) (scope : Scope) (f c' : Addr) (NL : List Str) : Cx := { lamCx X A outer s H E scope f c' with N := NL }
/-- what stands in the lambda's names at the start: the argument, and what the maker's cells hold -/
def LamSt (X : Cx) (σ : L2.St) (scope : Scope) (pn : Str) (NL : List Str) (v0 : V) (σ' : L2.St) : Prop := σ'.length = NL.length ∧ ∀ (i : Nat) (x : Str) (v : V), NL[i]? = some x → σ'[i]? = some (some v) →
  (scope.names.lookup x = some .local → x = pn ∧ v = v0) ∧ (scope.names.lookup x = some .free → ∃ j : Nat, X.N[j]? = some x ∧ σ[j]? = some (some v))
section
variable {X : Cx} {pins : List (Addr × Obj)} {σ σ' : L2.St} {H H1 : Hp} {s s1 : Shared} {A : Around} {outer : List Env} {E : XK} {scope : Scope} {f c' : Addr} {pn : Str} {NL : List Str} {v0 : V} {u0 : Value} {h2 : Heap} {tk : Nat}
theorem LamP.has (L : LamP X.env.scope scope pn) (ok : X.Ok) : ∀ y ∈ scope.names, y.2 = .free → ∃ c, X.env.cells.lookup y.1 = some c := fun y hy e => ok.has _ (L.free y hy e)
/-- a captured name has the maker's cell -/
theorem clo_cell (L : LamP X.env.scope scope pn) (ok : X.Ok) {y : Str} {c : Addr} (e : (cloFrom X.env.cells scope.names []).lookup y = some c) : X.env.cells.lookup y = some c := by
  rcases cloFrom_mem (PySem.mem_of_lookup e) with hm | ⟨k1, k2⟩
  · cases hm
  · obtain ⟨d, hd⟩ := L.has ok (y, .free) k1 rfl
    have hd : X.env.cells.lookup y = some d := hd
    rw [hd] at k2
    rw [hd, show c = d from k2]
theorem clo_has {y : Str} (hl : scope.names.lookup y = some .free) : ∃ c, (cloFrom X.env.cells scope.names []).lookup y = some c :=
  mem_lookup (cloFrom_has (cells := X.env.cells) (acc := []) (PySem.mem_of_lookup hl))
theorem lam_inv (I : Inv X pins σ H s) (L : LamP X.env.scope scope pn) (e0 : Env0 X.prog X.w X.K X.mg X.base A outer s1 H1) (hd : A.handled = none) (un : Un (frs X.stack) [] H H1 s.heap s1.heap)
    (hns : h2.Ns s1.heap.objs.size fun y => ([(pn, u0)] : List (Str × Value)).reverse.lookup y) (kp : ∀ b o, s1.heap.get? b = some o → h2.get? b = some o) (r0 : RelV v0 u0) (st : LamSt X σ scope pn NL v0 σ') :
    Inv (lamX X A outer s1 H1 E scope f c' NL) [] σ' H1 { s1 with heap := h2, toks := tk } := by
  have keepC : ∀ {c : Addr} {v : Option Value}, H c = none → s.heap.IsCell c v → h2.IsCell c v := fun {c v} n z => by
    obtain ⟨o, ho, hdat⟩ := z
    obtain ⟨sl, q⟩ := un.any ho n (by simp)
    exact ⟨_, kp _ _ q, hdat⟩
  have none1 : ∀ b : Addr, b ∉ (lamX X A outer s1 H1 E scope f c' NL).ex := fun b z => by cases (show b ∈ ([] : List Addr) from z)
  have okX : (lamX X A outer s1 H1 E scope f c' NL).Ok :=
    { mod := e0.mod
      kind := L.kind
      glob := rfl
      blt := rfl
      above := Nat.le_refl _
      inj := fun y z c e1 e2 => I.ok.inj y z c (clo_cell L I.ok e1) (clo_cell L I.ok e2)
      has := fun y hy => by
        have hy : scope.names.lookup y = some .cell ∨ scope.names.lookup y = some .free := hy
        rcases hy with hy | hy
        · exact (L.nocell _ (PySem.mem_of_lookup hy) rfl).elim
        · exact clo_has hy
      cab := fun y c z _ => by cases (show false = true from z)
      hd := fun _ => hd
      frames := Around.frames_deeper e0.frames
      stk := .inr ⟨rfl, rfl⟩
      exf := fun b z => (none1 b z).elim
      bs := e0.bs
      bsz := e0.bsz
      noex := fun b _ _ => none1 b
      exfs := fun b z => (none1 b z).elim
      funs := e0.funs
      frf := e0.frf }
  refine ⟨okX, rfl, e0.bare, Un.kept kp, ⟨_, hns, fun i y v e1 e2 e3 => ?_⟩, fun y c e => ?_, e0.hok.fresh (Nat.le_refl _), fun y c e => ?_, fun q hq => ?_, e0.hok.kept kp, st.1⟩
  · obtain ⟨q1, q2⟩ := st.2 i y v e1 e2
    have e3 : Vis scope y := e3
    rcases e3 with k | k | k
    · obtain ⟨rfl, rfl⟩ := q1 k
      refine ⟨u0, r0, .inl ⟨k, ?_⟩⟩
      show ([(y, u0)] : List (Str × Value)).lookup y = some u0
      rw [List.lookup_cons, beq_self_eq_true]
    · exact (L.nocell _ (PySem.mem_of_lookup k) rfl).elim
    · obtain ⟨j, n1, n2⟩ := q2 k
      obtain ⟨m, _, hl⟩ := I.loc
      have vis : Vis X.env.scope y := .inr (L.free _ (PySem.mem_of_lookup k) rfl)
      obtain ⟨w, r, q⟩ := hl j y v n1 n2 vis
      obtain ⟨c, hc⟩ := clo_has (X := X) k
      have hc2 := clo_cell L I.ok hc
      refine ⟨w, r, .inr ⟨.inr k, c, hc, ?_⟩⟩
      rcases q with ⟨k2, _⟩ | ⟨_, c3, e4, z⟩
      · have k2 : X.env.scope.names.lookup y = some .local := k2
        rcases L.free _ (PySem.mem_of_lookup k) rfl with k3 | k3
        · rw [show X.env.scope.names.lookup y = _ from k3] at k2; cases k2
        · rw [show X.env.scope.names.lookup y = _ from k3] at k2; cases k2
      · rw [hc2] at e4
        cases e4
        exact keepC (I.freeC y _ hc2) z
  · obtain ⟨w, z⟩ := I.cell y c (clo_cell L I.ok e)
    exact ⟨w, keepC (I.freeC y c (clo_cell L I.ok e)) z⟩
  · obtain ⟨v, o, ho, _⟩ := I.cell y c (clo_cell L I.ok e)
    exact un.free c o ho (I.freeC y c (clo_cell L I.ok e)) (by simp)
  · cases (show q ∈ ([] : List (Addr × Obj)) ++ [] from hq)
/-- the lambda called: at s1, from the frames outer; its maker stands at s -/
theorem lam_call {params : Arguments} {body : Expr} {pm ctv : Value} {k : Nat} {tb : TE} {Q : VK} {qn : Str} (I : Inv X pins σ H s) (L : LamP X.env.scope scope pn) (hq : qn = X.env.qual ++ "<lambda>") (e0 : Env0 X.prog X.w X.K X.mg X.base A outer s1 H1) (hr : Room (k + 1) A) (un : Un (frs X.stack) [] H H1 s.heap s1.heap)
    (hf : s1.heap.get? f = some (PySem.W.kla_obj "<lambda>" qn params body scope (cloFrom X.env.cells scope.names []) pm c' ctv)) (hc : H1 c' = some (CodeO c' qn))
    (hbind : bindArgs (PySem.W.kla_fn "<lambda>" qn params body scope (cloFrom X.env.cells scope.names []) pm (.ref c') ctv) ⟨[u0], []⟩ = pure [(pn, u0)])
    (hbody : Room k (A.deeper (lamEnv X scope s1.heap.objs.size f c')) → PE (lamX X A outer s1 H1 E scope f c' NL) body tb) (r0 : RelV v0 u0) (st : LamSt X σ scope pn NL v0 σ') (hlim : s1.heap.NoLimit) (ht : tb σ' H1 Q) :
    codeAny (model X.prog X.w) A (.call (.ref f) ⟨[u0], []⟩) (CR (L2.CX X.prog X.w) outer X.prog X.w H1 s1 Q E) s1 := by
  subst hq
  obtain ⟨⟨oc, vs, t, hoc, hdc, hvc⟩, _, _⟩ := e0.hok c' _ hc
  refine PySem.W.kla_callFunE hr.depth hf rfl L.co L.gen rfl ⟨c', oc, vs, t, rfl, hoc, hdc, hvc⟩ ?_
  rw [hbind]
  refine wpAny_pure (wpAny_newFunctionEnv (fun y hy => L.nocell y hy) (fun y hy => ?_) (fun h2 hns sb => ⟨hlim.fresh _ sb, ?_⟩) L.kind)
  · rw [List.mem_singleton.mp hy]
    exact L.par
  · show codeAny _ _ (.expr body (lamEnv X scope s1.heap.objs.size f c')) _ _
    have kp : ∀ b o, s1.heap.get? b = some o → h2.get? b = some o := fun b o e => sb.extBut b o (Nat.ne_of_lt (Heap.lt_size e)) (Heap.get?_push_of_some _ e)
    have J := lam_inv (E := E) (f := f) (c' := c') (tk := s1.toks + ([(pn, u0)] : List (Str × Value)).length) I L e0 hr.hd un hns kp r0 st
    refine PySem.W.kla_codeExpr (wpAny_mono ((hbody (hr.deeper _)).run [] _ σ' H1 Q J ht) (fun v s' z => ?_) fun e s' z => z)
    obtain ⟨w, H', J', rv, q⟩ := z
    exact ⟨w, H', J'.os, J'.bare, J'.base, J'.hok, rv, q⟩
end
end G

/-! ### sorted(xs, key=f) while a def's invariant holds -/
namespace G
open PySem PySem.Spec PyProof.Rows PySem.W L2
/-- the abstract heap has grown -/
def Gr (H H' : Hp) : Prop := ∀ b o, H b = some o → H' b = some o
theorem Gr.refl (H : Hp) : Gr H H := fun _ _ h => h
theorem Gr.trans {H H1 H2 : Hp} (a : Gr H H1) (b : Gr H1 H2) : Gr H H2 := fun c o h => b c o (a c o h)
section
variable {X : Cx} {pins : List (Addr × Obj)} {σ : L2.St} {H H' : Hp} {s s1 : Shared}
theorem ns_uniq {h : Heap} {a : Addr} {m m' : Str → Option Value} (x : h.Ns a m) (y : h.Ns a m') : m = m' := by
  obtain ⟨o, es, ep, e1, e2, _, e3⟩ := x
  obtain ⟨o', es', ep', f1, f2, _, f3⟩ := y
  rw [e1] at f1
  cases f1
  rw [e2] at f2
  cases f2
  funext n
  rw [← e3 n, f3 n]
/-- objects that are not tracked, born in this def, change; all else stays -/
theorem Inv.temp {h' : Heap} {t' : Nat} {ch : List Addr} (I : Inv X pins σ H s) (hc : ∀ b ∈ ch, X.s_0.heap.objs.size ≤ b ∧ b ≠ X.env.locals ∧ H b = none ∧ (∀ x c, X.env.cells.lookup x = some c → c ≠ b) ∧ ∀ p ∈ X.pn ++ pins, p.1 ≠ b)
    (k : ∀ b o, b ∉ ch → b ≠ X.env.locals → s.heap.get? b = some o → h'.get? b = some o) (kl : ∀ o, s.heap.get? X.env.locals = some o → ∃ o', h'.get? X.env.locals = some o') (ns : ∀ m, s.heap.Ns X.env.locals m → h'.Ns X.env.locals m) : Inv X pins σ H { s with heap := h', toks := t' } := by
  have tr : ∀ b o, H b = some o → b ∉ ch ∧ b ≠ X.env.locals := fun b o e => ⟨fun z => (by rw [(hc b z).2.2.1] at e; cases e), fun z => (by rw [z, I.free] at e; cases e)⟩
  refine I.step (g' := s.gens) (d' := s.drawn) (ch := ch) (fun b hb => ?_) (fun b o hL _ hb e _ => k b o hb hL e) (fun b o hL _ hb e _ => ⟨o.slots, k b o hb hL e⟩) (fun b o _ _ n => n) (fun b o hb e => ?_) (fun b xs e => e) (fun b o u e => e) (fun b ps e => ⟨#[], by rw [e]; simp⟩) ns (fun b u e => ?_) I.bare
  · obtain ⟨q1, q2, _, q4, q5⟩ := hc b hb
    exact ⟨.inr q1, q2, q4, q5⟩
  · by_cases z : b = X.env.locals
    · rw [z] at e ⊢
      exact kl o e
    · exact ⟨o, k b o hb z e⟩
  · refine (I.hok b u e).stay (fun d v hd q => ?_) (fun d q => q) fun d xs q => q
    rcases hd with z | z
    · subst z
      exact k d v (tr d u e).1 (tr d u e).2 q
    · exact k d v (tr d _ z).1 (tr d _ z).2 q
/-- a new object, not tracked, pinned from here on -/
theorem Inv.pinN {o : Obj} {h' : Heap} {a : Addr} {t' : Nat} (I : Inv X pins σ H s) (k : ∀ b u, s.heap.get? b = some u → h'.get? b = some u) (ha : s.heap.objs.size ≤ a) (ho : h'.get? a = some o) (hc : ∀ v, o.data ≠ .cell v) : Inv X ((a, o) :: pins) σ H { s with heap := h', toks := t' } := ClX.pin_new I k ha ho hc
theorem pinMem {p : Addr × Obj} (I : Inv X pins σ H s) (hp : p ∈ pins) : s.heap.get? p.1 = some p.2 ∧ H p.1 = none ∧ p.1 ≠ X.env.locals ∧ p.1 ∉ X.fs ∧ ∀ v, p.2.data ≠ .cell v := I.pin p (List.mem_append_right _ hp)
/-- a pinned list's items change -/
theorem Inv.pinSet {a : Addr} {o o' : Obj} {h' : Heap} {t' : Nat} (I : Inv X ((a, o) :: pins) σ H s) (ha : X.s_0.heap.objs.size ≤ a) (n1 : ∀ p ∈ X.pn ++ pins, p.1 ≠ a) (nc : ∀ x c, X.env.cells.lookup x = some c → c ≠ a) (sb : Heap.SameBut a s.heap h') (ho : h'.get? a = some o') (hd : ∀ v, o'.data ≠ .cell v) :
    Inv X ((a, o') :: pins) σ H { s with heap := h', toks := t' } := by
  obtain ⟨p1, p2, p3, p4, p5⟩ := pinMem I (List.mem_cons_self ..)
  have I0 := ClX.unpin I
  have J : Inv X pins σ H { s with heap := h', toks := t' } := Inv.temp (ch := [a]) I0 (fun b hb => by
    rw [List.mem_singleton.mp hb]
    exact ⟨ha, p3, p2, nc, n1⟩) (fun b u hb _ e => (sb.2 b (fun z => hb (by rw [z]; exact List.mem_singleton.mpr rfl))).trans e) (fun u e => ⟨u, (sb.2 _ p3.symm).trans e⟩) (fun m hm => hm.sameBut sb p3.symm)
  refine J.pins_of fun p hp => ?_
  rcases List.mem_cons.mp hp with rfl | hp
  · exact ⟨ho, p2, p3, p4, hd⟩
  · exact J.pin p (List.mem_append_right _ hp)
end
/-- a key as a value that a walk has made: it reads as k from here on -/
def KeyV (K : PySem.W.Frag) (H : Hp) (v : Value) (k : PyData) : Prop := ∃ x, RelV x v ∧ ∀ H', Gr H H' → Dp K H' x k
theorem KeyV.mono {K : PySem.W.Frag} {H H' : Hp} {v : Value} {k : PyData} (h : KeyV K H v k) (g : Gr H H') : KeyV K H' v k := by
  obtain ⟨x, r, d⟩ := h
  exact ⟨x, r, fun H2 g2 => d H2 (g.trans g2)⟩
theorem each_mono {α β : Type} {R S : α → β → Prop} (f : ∀ a b, R a b → S a b) {as : List α} {bs : List β} (h : EachIs R as bs) : EachIs S as bs := h.mono f
section
variable {X : Cx} {pins : List (Addr × Obj)} {σ : L2.St} {H : Hp} {s : Shared} {A : Around} {kz : List PyData} {us : List Value} {b : Bool}
/-- what a call of the key function does, whatever is pinned besides -/
def Turn (X : Cx) (pins : List (Addr × Obj)) (σ : L2.St) (H : Hp) (A : Around) (f : Value) (us : List Value) (kz : List PyData) : Prop :=
  ∀ (i : Nat) (u : Value) (k : PyData), us[i]? = some u → kz[i]? = some k → ∀ (pl : List (Addr × Obj)) (H1 : Hp) (s1 : Shared), Inv X (pl ++ pins) σ H1 s1 → Gr H H1 →
    wpAny (model X.prog X.w) A (call f [u]) (fun v s2 => ∃ H2, Inv X (pl ++ pins) σ H2 s2 ∧ Gr H1 H2 ∧ KeyV X.K H2 v k) (fun _ _ => False) s1
theorem key_loop {f : Value} {kS a : Addr} {e1 : Nat} {P : PySem.Fin → Shared → Prop} {E : Value → Shared → Prop} (I : Inv X ((kS, seqObj "list" #[] 0) :: (a, seqObj "list" #[] e1) :: pins) σ H s) (hka : kS ≠ a) (hk0 : X.s_0.heap.objs.size ≤ kS) (ha0 : X.s_0.heap.objs.size ≤ a)
    (nk : ∀ p ∈ X.pn ++ pins, p.1 ≠ kS ∧ p.1 ≠ a) (nc : ∀ x c, X.env.cells.lookup x = some c → c ≠ kS ∧ c ≠ a)
    (hlen : kz.length = us.length) (hZ : us.length ≤ sizeLine) (hal : AllAlike kz) (hsk : Sortable kz) (hu : ∀ d, d ∈ kz → A.units + d.depth < cLine) (turn : Turn X pins σ H A f us kz)
    (h : ∀ s' H' out c, Inv X ((a, seqObj "list" (List.toArray out) c) :: pins) σ H' s' → Gr H H' → KeyedOut b kz us out → P (.done (.ret .none)) s') :
    wpAny (model X.prog X.w) A (ksk_rest a f b us.toArray e1 (.ref kS)) P E s := by
  unfold ksk_rest
  refine wpAny_bind (wpAny_rule ?_)
  rw [List.forIn_toArray]
  have lst : ∀ {xs : Array Value} {n : Nat} (v : Option Value), (seqObj "list" xs n).data ≠ .cell v := fun v z => by cases z
  refine wpAny_bind (ksk_fold (fun i s' => ∃ (Hi : Hp) (kA : Array Value) (e : Nat), Inv X ((kS, seqObj "list" kA e) :: (a, seqObj "list" #[] e1) :: pins) σ Hi s' ∧ Gr H Hi ∧ EachIs (fun v k => KeyV X.K Hi v k) kA.toList (kz.take i)) us 0 s
    ⟨H, #[], 0, I, Gr.refl H, by rw [List.take_zero]; exact EachIs.nil⟩ ?step ?done)
  case step =>
    clear I
    rintro j x s' hx ⟨Hi, kA, e, I, g, hk⟩
    simp only [Nat.zero_add] at hk ⊢
    have hj : j < us.length := (List.getElem?_eq_some_iff.mp hx).1
    obtain ⟨k, hkj⟩ : ∃ k, kz[j]? = some k := ⟨_, List.getElem?_eq_getElem (by omega)⟩
    have hz : kA.size ≤ us.length := by
      have q := hk.length
      rw [Array.length_toList, List.length_take] at q
      omega
    refine wpAny_bind (wpAny_attempt (wpAny_mono (turn j x k hx hkj [(kS, seqObj "list" kA e), (a, seqObj "list" #[] e1)] Hi s' I g) (fun v s2 z => ?_) fun _ _ z => z.elim))
    obtain ⟨H2, I2, g2, kv⟩ := z
    have I2 : Inv X ((kS, seqObj "list" kA e) :: (a, seqObj "list" #[] e1) :: pins) σ H2 s2 := I2
    have atk := (pinMem I2 (List.mem_cons_self ..)).1
    have sb := Heap.SameBut.update s2.heap kS (Obj.mapSeq (·.push v))
    obtain ⟨c2, hc2⟩ : ∃ c2, (s2.heap.update kS (Obj.mapSeq (·.push v))).get? kS = some (seqObj "list" (kA.push v) c2) := ⟨_, get?_update_seq atk (·.push v)⟩
    try dsimp only
    refine wpAny_bind (listUpdate_at atk rfl ?_ (Nat.le_trans hz hZ) (Nat.le_trans (Nat.le_of_eq (Array.size_push ..)) (Nat.succ_le_succ (Nat.le_trans hz hZ))))
    refine wpAny_pure ⟨rfl, H2, kA.push v, c2, ?_, g.trans g2, ?_⟩
    · refine Inv.pinSet (t' := s2.toks) I2 hk0 (fun p hp => ?_) (fun x c e => (nc x c e).1) sb hc2 lst
      rcases List.mem_append.mp hp with hp | hp
      · exact (nk p (List.mem_append_left _ hp)).1
      · rcases List.mem_cons.mp hp with rfl | hp
        · exact hka.symm
        · exact (nk p (List.mem_append_right _ hp)).1
    · have ek : kz.take (j + 1) = kz.take j ++ [k] := by rw [List.take_add_one, hkj]; rfl
      have ea : (kA.push v).toList = kA.toList ++ [v] := by simp
      rw [ea, ek]
      exact each_snoc kv (hk.mono fun v k z => z.mono g2)
  case done =>
    clear I
    rintro s' ⟨Hi, kA, e, I, g, hk⟩
    rw [Nat.zero_add, List.take_of_length_le (Nat.le_of_eq hlen)] at hk
    have atk := (pinMem I (List.mem_cons_self ..)).1
    have ata := (pinMem I (List.mem_cons_of_mem _ (List.mem_cons_self ..))).1
    obtain ⟨_, nk2, nk3, nk4, _⟩ := pinMem I (List.mem_cons_self ..)
    obtain ⟨_, na2, na3, na4, _⟩ := pinMem I (List.mem_cons_of_mem _ (List.mem_cons_self ..))
    have hsz : kA.size = us.length := by
      have q := hk.length
      rw [Array.length_toList] at q
      omega
    have rd : EachIs (fun v k => ∃ as, Reads s'.heap v k as) kA.toList kz := hk.mono fun v k z => by
      obtain ⟨x, r, d⟩ := z
      exact L2.Dp.reads I _ _ _ (d Hi (Gr.refl Hi)) r
    obtain ⟨m, Fm⟩ := I.fr
    -- all other objects, told one by one
    generalize hN : (List.range s'.heap.objs.size).filterMap (fun c => if c = X.env.locals ∨ c = a ∨ c = kS then none else match X.base.get? c with
      | some _ => none
      | none => (s'.heap.get? c).map fun o => (c, o)) = news
    have mem : ∀ p, p ∈ news ↔ s'.heap.get? p.1 = some p.2 ∧ p.1 ≠ X.env.locals ∧ p.1 ≠ a ∧ p.1 ≠ kS ∧ X.base.get? p.1 = none := by
      rintro ⟨c, o⟩
      rw [← hN, List.mem_filterMap]
      constructor
      · rintro ⟨c', hc', e⟩
        by_cases z : c' = X.env.locals ∨ c' = a ∨ c' = kS
        · rw [if_pos z] at e
          cases e
        · rw [if_neg z] at e
          rw [not_or, not_or] at z
          cases hb : X.base.get? c' with
          | some u =>
            rw [hb] at e
            cases e
          | none =>
            rw [hb] at e
            obtain ⟨o', e1, e2⟩ := Option.map_eq_some_iff.mp e
            obtain ⟨rfl, rfl⟩ := Prod.mk.inj e2
            exact ⟨e1, z.1, z.2.1, z.2.2, hb⟩
      · rintro ⟨e1, e2, e3, e4, e5⟩
        refine ⟨c, List.mem_range.mpr (Heap.lt_size e1), ?_⟩
        rw [if_neg (by rw [not_or, not_or]; exact ⟨e2, e3, e4⟩)]
        have e5 : X.base.get? c = none := e5
        rw [e5]
        exact Option.map_eq_some_iff.mpr ⟨o, e1, rfl⟩
    have b0 : ∀ {c : Addr}, X.s_0.heap.objs.size ≤ c → X.base.get? c = none := fun {c} hc => Heap.get?_none_of_le (Nat.le_trans I.ok.bsz hc)
    have N : News X.base X.env.locals s'.heap (news ++ [(kS, seqObj "list" kA e), (a, seqObj "list" #[] e1)]) := fun p hp => by
      rcases List.mem_append.mp hp with hp | hp
      · obtain ⟨q1, q2, _, _, q5⟩ := (mem p).mp hp
        exact ⟨q1, q2, q5⟩
      · rcases List.mem_cons.mp hp with rfl | hp
        · exact ⟨atk, nk3, b0 hk0⟩
        · rw [List.mem_singleton.mp hp]
          exact ⟨ata, na3, b0 ha0⟩
    try dsimp only
    refine wpAny_bind (listItems_at atk rfl ?_)
    refine key_end (κ := dataKind s'.heap kz) Fm N hka (fun p hp => ((mem p).mp hp).2.2.2.1) (fun p hp => ((mem p).mp hp).2.2.1) (SortsAt.data rd hal hsk hu) hsz hZ fun h3 tk3 c F3 N3 => ?_
    have J0 : Inv X pins σ Hi s' := ClX.unpin (ClX.unpin I)
    have J : Inv X pins σ Hi { s' with heap := h3, toks := tk3 } := Inv.temp (ch := [a, kS]) J0 (fun z hz => by
        rcases List.mem_cons.mp hz with rfl | hz
        · exact ⟨ha0, na3, na2, fun x c e => (nc x c e).2, fun p hp => (nk p hp).2⟩
        · rw [List.mem_singleton.mp hz]
          exact ⟨hk0, nk3, nk2, fun x c e => (nc x c e).1, fun p hp => (nk p hp).1⟩)
      (fun z o hz hL e => by
        rw [List.mem_cons, List.mem_singleton, not_or] at hz
        cases hb : X.base.get? z with
        | some u =>
          have e1 := Fm.keep z u hb
          rw [e] at e1
          cases e1
          exact F3.keep z o hb
        | none => exact (N3 (z, o) (List.mem_cons_of_mem _ ((mem (z, o)).mpr ⟨e, hL, hz.1, hz.2, hb⟩))).1)
      (fun o e => by
        obtain ⟨o', _, _, q, _⟩ := F3.ns
        exact ⟨o', q⟩)
      (fun m' hm' => by rw [ns_uniq hm' Fm.ns]; exact F3.ns)
    refine h _ Hi _ c (J.pins_of fun p hp => ?_) g ⟨s'.heap, kA.toList, hal, rfl, rd⟩
    rcases List.mem_cons.mp hp with rfl | hp
    · exact ⟨(N3 _ (List.mem_cons_self ..)).1, na2, na3, na4, lst⟩
    · exact J.pin p (List.mem_append_right _ hp)
end
end G

namespace G
open PySem PySem.Spec PyProof.Rows PySem.W L2
section
variable {X : Cx} {pins : List (Addr × Obj)} {σ : L2.St} {H H' : Hp} {s s1 : Shared} {A : Around} {kz : List PyData} {us : List Value}
/-- an object born in this def is tracked from here on -/
theorem Inv.adopt {a : Addr} {o : HO} (I : Inv X pins σ H s) (hn : H a = none) (ha : X.s_0.heap.objs.size ≤ a) (hp : ∀ p ∈ X.pn ++ pins, p.1 ≠ a) (hL : a ≠ X.env.locals) (hc : ∀ x c, X.env.cells.lookup x = some c → c ≠ a) (new : ObjOk X.prog X.w (upd H a o) s.heap a o) : Inv X pins σ (upd H a o) s := by
  have ne : ∀ b u, H b = some u → b ≠ a := fun b u e z => by rw [z, hn] at e; cases e
  refine ⟨I.ok, I.os, I.bare, ⟨I.base.keep, I.base.slot, fun b u e n hx => ?_, I.base.there, fun b xs e => ?_, fun b u v e => ?_, fun b ps e => ?_⟩, I.loc, I.cell, ?_, fun x c e => ?_, fun p hq => ?_, fun b u e => ?_, I.len⟩
  · rw [upd_ne (Nat.ne_of_lt (Nat.lt_of_lt_of_le (Heap.lt_size e) ha))]
    exact I.base.free b u e n hx
  · have q := I.base.tups b xs e
    rw [upd_ne (ne b _ q)]
    exact q
  · have q := I.base.frzs b u v e
    rw [upd_ne (ne b _ q)]
    exact q
  · obtain ⟨m, q⟩ := I.base.tbls b ps e
    exact ⟨m, by rw [upd_ne (ne b _ q)]; exact q⟩
  · rw [upd_ne hL.symm]
    exact I.free
  · rw [upd_ne (hc x c e)]
    exact I.freeC x c e
  · obtain ⟨e1, e2, e3⟩ := I.pin p hq
    exact ⟨e1, by rw [upd_ne (hp p hq)]; exact e2, e3⟩
  · by_cases z : b = a
    · rw [z, upd_same] at e
      cases e
      rw [z]
      exact new
    · rw [upd_ne z] at e
      refine (I.hok b u e).stay (fun d v _ q => q) (fun d q => ?_) fun d xs q => ?_
      · rw [upd_ne (ne d _ q)]; exact q
      · rw [upd_ne (ne d _ q)]; exact q
/-- list.sort(key=f) of a list that sorted has made -/
theorem key_sort {f : Value} {a : Addr} {n : Nat} {P : PySem.Fin → Shared → Prop} {E : Value → Shared → Prop} (I : Inv X ((a, seqObj "list" us.toArray n) :: pins) σ H s) (ha0 : X.s_0.heap.objs.size ≤ a)
    (nk : ∀ p ∈ X.pn ++ pins, p.1 ≠ a) (nc : ∀ x c, X.env.cells.lookup x = some c → c ≠ a) (hlen : kz.length = us.length) (hZ : us.length ≤ sizeLine) (hal : AllAlike kz) (hsk : Sortable kz) (hu : ∀ d, d ∈ kz → A.units + d.depth < cLine) (turn : Turn X pins σ H A f us kz)
    (h : ∀ s' H' out c, Inv X ((a, seqObj "list" (List.toArray out) c) :: pins) σ H' s' → Gr H H' → KeyedOut false kz us out → P (.done (.ret .none)) s') :
    wpAny (model X.prog X.w) A (ksk_tree a f false) P E s := by
  have lst : ∀ {xs : Array Value} {n : Nat} (v : Option Value), (seqObj "list" xs n).data ≠ .cell v := fun v z => by cases z
  have at0 := (pinMem I (List.mem_cons_self ..)).1
  have sb := Heap.SameBut.update s.heap a (Obj.mapSeq fun _ => (#[] : Array Value))
  obtain ⟨e1, at1⟩ : ∃ e1, (s.heap.update a (Obj.mapSeq fun _ => (#[] : Array Value))).get? a = some (seqObj "list" #[] e1) := ⟨_, get?_update_seq at0 fun _ => #[]⟩
  have I1 := Inv.pinSet (t' := s.toks) I ha0 nk nc sb at1 lst
  have I2 := I1.kept (t' := s.toks) (h' := (s.heap.update a (Obj.mapSeq fun _ => (#[] : Array Value))).push (seqObj "tuple" us.toArray 0)) fun b u q => Heap.get?_push_of_some _ q
  have I3 := Inv.pinN (t' := s.toks) (o := seqObj "list" #[] 0) (a := ((s.heap.update a (Obj.mapSeq fun _ => (#[] : Array Value))).push (seqObj "tuple" us.toArray 0)).objs.size) (h' := ((s.heap.update a (Obj.mapSeq fun _ => (#[] : Array Value))).push (seqObj "tuple" us.toArray 0)).push (seqObj "list" #[] 0)) I2
    (fun b u q => Heap.get?_push_of_some _ q) (Nat.le_refl _) (Heap.get?_push_size _ rfl) lst
  unfold ksk_tree
  refine wpAny_bind (listItems_at at0 rfl ?_)
  refine wpAny_bind (listUpdate_at at0 rfl ?_ (by rw [List.size_toArray]; exact hZ) (Nat.zero_le _))
  refine wpAny_bind (seqEpoch_at at1 rfl ?_)
  refine wpAny_bind (wpAny_newTuple ?_ (by show us.length ≤ _; exact hZ))
  refine wpAny_bind (wpAny_newList ?_ (Nat.zero_le _))
  refine wpAny_holding ?_
  have lt : ∀ {c : Addr} {u : Obj}, (s.heap.update a (Obj.mapSeq fun _ => (#[] : Array Value))).get? c = some u → c < ((s.heap.update a (Obj.mapSeq fun _ => (#[] : Array Value))).push (seqObj "tuple" us.toArray 0)).objs.size := fun e => Heap.lt_size (Heap.get?_push_of_some _ e)
  refine key_loop I3 (Nat.ne_of_gt (lt at1)) (Nat.le_trans ha0 (Nat.le_of_lt (lt at1))) ha0 (fun p hp => ⟨Nat.ne_of_lt ?_, nk p hp⟩) (fun x c e => ⟨Nat.ne_of_lt ?_, nc x c e⟩) hlen hZ hal hsk hu turn h
  · rcases List.mem_append.mp hp with q | q
    · exact lt (I1.pin p (List.mem_append_left _ q)).1
    · exact lt (I1.pin p (List.mem_append_right _ (List.mem_cons_of_mem _ q))).1
  · obtain ⟨v, u, q, _⟩ := I1.cell x c e
    exact lt q
theorem each_vals {α : Type} {ev : α → V} : ∀ {bs : List α} {us : List Value}, Vals (bs.map ev) us → EachIs (fun u b => RelV (ev b) u) us bs
  | [], _, h => by cases h; exact .nil
  | b :: bs, _, h => by
    cases h with
    | cons h t => exact .cons h (each_vals t)
theorem vals_each {α : Type} {ev : α → V} : ∀ {bs : List α} {us : List Value}, EachIs (fun u b => RelV (ev b) u) us bs → Vals (bs.map ev) us
  | [], _, h => by cases h; exact .nil
  | b :: bs, _, h => by
    cases h with
    | cons h t => exact .cons h (vals_each t)
/-- sorted(l, key=f) -/
theorem sorted_key {α : Type} {bs : List α} {ev : α → V} {kf : α → PyData} {l : Addr} {f : Addr} {Q : VK} (I : Inv X pins σ H s) (hl : SqL X.K H l (bs.map ev)) (hal : AllAlike (bs.map kf)) (hsk : Sortable (bs.map kf)) (hu : ∀ d, d ∈ bs.map kf → X.A.units + 2 + d.depth < cLine)
    (turn : ∀ us, Vals (bs.map ev) us → Turn X pins σ H X.A.in1.in1 (.ref f) us (bs.map kf)) (q : ∀ H' p, Gr H H' → H' p = none → Q (.ref p) (upd H' p (.lst ((bs.mergeSort (dataLe false kf)).map ev)))) :
    wpAny (model X.prog X.w) X.A (call (.builtin "sorted") [.ref l] [(Str.ofString "key", .ref f)]) (EP X pins σ Q) X.xe s := by
  obtain ⟨its, rv, il, hz⟩ := I.list hl
  have hlen : its.length = bs.length := by rw [← rv.length, List.length_map]
  have hZ : its.length ≤ sizeLine := by rw [← rv.length]; exact hz
  refine sorted_of_sort (vs := its) il.isList hZ (ksk_s1 _ _) (fun _ => ksk_l1 _ _) fun E' => ?_
  rw [ksk_t1]
  have lst : ∀ {xs : Array Value} {n : Nat} (v : Option Value), (seqObj "list" xs n).data ≠ .cell v := fun v z => by cases z
  have ha0 : X.s_0.heap.objs.size ≤ s.heap.objs.size + 1 := Nat.le_succ_of_le I.sz
  have J := Inv.pinN (t' := s.toks) (h' := copyHeap s.heap its) I (fun _ _ => copyHeap_old) (Nat.le_succ _) (copyHeap_at s.heap its) lst
  have nk : ∀ p ∈ X.pn ++ pins, p.1 ≠ s.heap.objs.size + 1 := fun p hp => Nat.ne_of_lt (Nat.lt_succ_of_lt (Heap.lt_size (I.pin p hp).1))
  have nc : ∀ x c, X.env.cells.lookup x = some c → c ≠ s.heap.objs.size + 1 := fun x c e => by
    obtain ⟨v, u, z, _⟩ := I.cell x c e
    exact Nat.ne_of_lt (Nat.lt_succ_of_lt (Heap.lt_size z))
  refine key_sort J ha0 nk nc (by rw [List.length_map, hlen]) hZ hal hsk (fun d hd => by have := hu d hd; show X.A.units + 1 + 1 + d.depth < _; omega) (turn its rv) fun s' H' out c J' g ko => ⟨rfl, ?_⟩
  obtain ⟨p1, p2, p3, p4, _⟩ := pinMem J' (List.mem_cons_self ..)
  have vo := vals_each (keyedOut_each kf ko (each_vals rv))
  have hol : ((bs.mergeSort (dataLe false kf)).map ev).length ≤ sizeLine := by
    rw [List.length_map, List.length_mergeSort, ← hlen]
    exact hZ
  refine ⟨.ref _, upd H' (s.heap.objs.size + 1) (.lst ((bs.mergeSort (dataLe false kf)).map ev)), Inv.adopt (ClX.unpin J') p2 ha0 nk p3 nc ⟨hol, out, c, vo, p1⟩, rfl, q H' _ g p2⟩
end
end G

/-! ### sorted(e, key=lambda x: ..), as an expression -/
namespace G
open PySem PySem.Spec PyProof.Rows PySem.W L2 LamX
/-- the lambda's start: its argument, then what stands at the places js of the maker -/
def lamS (js : List Nat) (σ : L2.St) (v : V) : L2.St := some v :: js.map fun j => (σ[j]?).join
/-- the captured names -/
def capB (N : List Str) (scope : Scope) (pn : Str) (js : List Nat) (NL : List Str) : Bool := decide (NL = pn :: js.map fun j => (N[j]?).getD Str.empty) && js.all fun j => decide (j < N.length) && decide (scope.names.lookup ((N[j]?).getD Str.empty) = some .free)
theorem lamS_st {X : Cx} {σ : L2.St} {scope : Scope} {pn : Str} {NL : List Str} {js : List Nat} {v : V} (h : capB X.N scope pn js NL = true) (hp : scope.names.lookup pn = some .local) : LamSt X σ scope pn NL v (lamS js σ v) := by
  obtain ⟨h1, h2⟩ := He.ba h
  have h1 := of_decide_eq_true h1
  subst h1
  refine ⟨by unfold lamS; rw [List.length_cons, List.length_cons, List.length_map, List.length_map], fun i x w e1 e2 => ?_⟩
  cases i with
  | zero =>
    obtain rfl : pn = x := Option.some.inj e1
    obtain rfl : v = w := Option.some.inj (Option.some.inj e2)
    exact ⟨fun _ => ⟨rfl, rfl⟩, fun k => by rw [hp] at k; cases k⟩
  | succ i =>
    have e1 : (js.map fun j => (X.N[j]?).getD Str.empty)[i]? = some x := e1
    have e2 : (js.map fun j => (σ[j]?).join)[i]? = some (some w) := e2
    rw [List.getElem?_map] at e1 e2
    obtain ⟨j, hj, e3⟩ := Option.map_eq_some_iff.mp e1
    rw [hj] at e2
    have e2 : (σ[j]?).join = some w := Option.some.inj e2
    obtain ⟨k1, k2⟩ := He.ba (List.all_eq_true.mp h2 j (List.mem_of_getElem? hj))
    have k1 := of_decide_eq_true k1
    have k2 := of_decide_eq_true k2
    have hN : X.N[j]? = some x := by
      rw [List.getElem?_eq_getElem k1] at e3 ⊢
      exact congrArg some e3
    refine ⟨fun k => ?_, fun _ => ⟨j, hN, ?_⟩⟩
    · rw [e3, k] at k2
      cases k2
    · cases hs : σ[j]? with
      | none => rw [hs] at e2; cases e2
      | some o =>
        rw [hs] at e2
        exact congrArg some e2
/-- what is asked of the walk, the list being there -/
def SortW (K : PySem.W.Frag) (T : List (Addr × Str)) (js : List Nat) (tb : TE) (σ : L2.St) (Q : VK) (x : V) (H1 : Hp) : Prop := Tabs T H1 ∧ ∃ (l : Addr) (α : Type) (bs : List α) (ev : α → V) (kf : α → PyData), x = .ref l ∧ (∀ H2, ExtN H1 H2 → SqL K H2 l (bs.map ev)) ∧ AllAlike (bs.map kf) ∧ Sortable (bs.map kf) ∧ (∀ b ∈ bs, (kf b).depth ≤ 60) ∧
  (∀ b ∈ bs, ∀ H2, ExtN H1 H2 → Tabs T H2 → tb (lamS js σ (ev b)) H2 fun y H3 => Gr H2 H3 ∧ ∀ H4, Gr H3 H4 → Dp K H4 y (kf b)) ∧
  ∀ H2 p, ExtN H1 H2 → Tabs T H2 → H2 p = none → Q (.ref p) (upd H2 p (.lst ((bs.mergeSort (dataLe false kf)).map ev)))
def tSortK (K : PySem.W.Frag) (T : List (Addr × Str)) (js : List Nat) (ta : TA) (tb : TE) : TE := fun σ H Q => ta σ H fun vs H1 => ∃ x, vs = [x] ∧ SortW K T js tb σ Q x H1
theorem Gr.ext {H H1 H2 : Hp} (e : ExtN H H1) (g : Gr H1 H2) : ExtN H H2 := e.trans (ExtN.of g)
theorem Gr.upd {H : Hp} {a : Addr} {o : HO} (h : H a = none) : Gr H (upd H a o) := fun b u e => by rw [upd_ne (ne_of_none e h)]; exact e
section
variable {X : Cx} {pins : List (Addr × Obj)} {σ : L2.St} {H H1 : Hp} {s s1 : Shared}
theorem each_at {α β : Type} {R : α → β → Prop} : ∀ {as : List α} {bs : List β} {i : Nat} {x : α} {y : β}, EachIs R as bs → as[i]? = some x → bs[i]? = some y → R x y
  | _, _, 0, _, _, .cons h _, e1, e2 => by cases e1; cases e2; exact h
  | _, _, i + 1, _, _, .cons _ t, e1, e2 => each_at (i := i) t e1 e2
  | _, _, _, _, _, .nil, e1, _ => by cases e1
/-- the lambda keeps its promise at each item -/
theorem lam_turn {k : Nat} {params : Arguments} {body : Expr} {scope : Scope} {pn : Str} {NL : List Str} {js : List Nat} {tb : TE} {f c' : Addr} {pm ctv : Value} {α : Type} {bs : List α} {ev : α → V} {kf : α → PyData} {us : List Value} {H0 : Hp}
    (hr : Room (k + 3) X.A) (L : LamP X.env.scope scope pn) (hcap : capB X.N scope pn js NL = true)
    (hbind : ∀ (q : Str) (cl : List (Str × Addr)) (pm cv ctv u : Value), bindArgs (PySem.W.kla_fn "<lambda>" q params body scope cl pm cv ctv) ⟨[u], []⟩ = pure [(pn, u)])
    (hbody : ∀ (A : Around) (outer : List Env) (s : Shared) (H : Hp) (E : XK) (f c' : Addr), Room k (A.deeper (lamEnv X scope s.heap.objs.size f c')) → PE (lamX X A outer s H E scope f c' NL) body tb)
    (fo : Obj) (hfo : fo = PySem.W.kla_obj "<lambda>" (X.env.qual ++ "<lambda>") params body scope (cloFrom X.env.cells scope.names []) pm c' ctv) (hc : H0 c' = some (CodeO c' (X.env.qual ++ "<lambda>")))
    (rv : Vals (bs.map ev) us) (hb : ∀ b ∈ bs, ∀ H2, Gr H0 H2 → tb (lamS js σ (ev b)) H2 fun y H3 => Gr H2 H3 ∧ ∀ H4, Gr H3 H4 → Dp X.K H4 y (kf b)) : Turn X ((f, fo) :: pins) σ H0 X.A.in1.in1 (.ref f) us (bs.map kf) := by
  intro i u kd hu hk pl H2 s2 I g
  have each := each_vals rv
  rw [List.getElem?_map] at hk
  obtain ⟨b, hb0, rfl⟩ := Option.map_eq_some_iff.mp hk
  have r0 : RelV (ev b) u := by
    exact each_at (R := fun u b => RelV (ev b) u) each hu hb0
  have hf : s2.heap.get? f = some fo := (pinMem I (List.mem_append_right _ (List.mem_cons_self ..))).1
  rw [hfo] at hf
  have hr1 : Room (k + 1) X.A.in1.in1 := hr.in1.in1
  refine wpAny_call (codeAny_mono (lam_call (E := fun _ _ _ => False) (H1 := H2) (s := s2) I L rfl I.env0.in1.in1 hr1 Un.refl hf (g _ _ hc) (hbind _ _ _ _ _ _) (hbody _ _ _ _ _ _ _) r0 (lamS_st hcap L.par) I.nolimit (hb b (List.mem_of_getElem? hb0) H2 g)) fun r s3 z => ?_)
  cases r with
  | error e =>
    obtain ⟨_, _, _, _, _, _, _, _, _, _, _, _, z⟩ := z
    exact z.elim
  | ok fl =>
    cases fl with
    | ret w =>
      obtain ⟨y, H3, I3, ry, g3, d⟩ := I.after z
      exact ⟨H3, I3, g3, y, ry, d⟩
    | next => exact z.elim
    | brk => exact z.elim
    | cont => exact z.elim
theorem pe_sortLam {T : List (Addr × Str)} {c P : Addr} {k : Nat} {params : Arguments} {body e : Expr} {scope : Scope} {pn : Str} {NL : List Str} {js : List Nat} {ta : TA} {tb : TE} {p lpos kpos pos : Pos} (hg : Gl X "sorted") (hm : X.mg "sorted" = none) (ha : PA X [e] ta)
    (TB : TabB X.base X.mg c P) (hcode : X.env.code = .ref c) (hmT : (P, X.env.qual ++ "<lambda>") ∈ T) (hu : ∀ p ∈ T, p.1 = P → p.2 = X.env.qual ++ "<lambda>") (hr : Room (k + 3) X.A) (L : LamP X.env.scope scope pn) (hcap : capB X.N scope pn js NL = true) (hdef : defaultsOf params X.env = ([], []))
    (hbind : ∀ (q : Str) (cl : List (Str × Addr)) (pm cv ctv u : Value), bindArgs (PySem.W.kla_fn "<lambda>" q params body scope cl pm cv ctv) ⟨[u], []⟩ = pure [(pn, u)])
    (hbody : ∀ (A : Around) (outer : List Env) (s : Shared) (H : Hp) (E : XK) (f c' : Addr), Room k (A.deeper (lamEnv X scope s.heap.objs.size f c')) → PE (lamX X A outer s H E scope f c' NL) body tb)
    (hs : backTo pos (starEach [e] X.env) = (false, eval e X.env) :: backTo pos (starEach [] X.env) := by rfl) (hpl : (backTo pos (starEach [e] X.env)).any (·.1) = false := by rfl) (hv : bootBuiltins "sorted" = some (.builtin "sorted") := by decide +kernel) :
    PE X (.Call (.Name "sorted" p) [e] [⟨some "key", .Lambda params body scope lpos, kpos⟩] pos) (tSortK X.K T js ta tb) := by
  refine ⟨fun pins s σ H Q I h => ?_⟩
  refine wpAny_Call_Name_kw (ld_blt I hg hm hv ?_ (by decide) (by decide))
  refine PyProof.Rows.callWith_kw (thn (ha.run pos pins s σ H _ I h) fun us s1 z => ?_) hs hpl (by rfl) (by rfl)
  obtain ⟨vs, H1, I1, r1, x, rfl, hT, l, α, bs, ev, kf, rfl, hl, hal, hsk, hd, hb, q⟩ := z
  obtain rfl := Vals.ref1 r1
  show wpAny _ _ (evalAll ((do let v ← eval (.Lambda params body scope lpos) X.env; standAt pos; pure v) :: [])) _ _ s1
  refine wpAny_evalAll_cons (wpAny_bind (lam_make2 I1 TB hcode hmT hu hT hdef (L.has I1.ok) fun f c' pm ctv H2 s2 I2 e2 T2 hf hfn hfr hc => wpAny_bind (wpAny_standAt (wpAny_pure ?_))))
  refine wpAny_evalAll_nil ?_
  show wpAny _ _ (call (.builtin "sorted") [.ref l] [(Str.ofString "key", .ref f)]) _ _ _
  have lnone : f ≠ X.env.locals := fun z => by
    obtain ⟨m, hn, _⟩ := I2.loc
    obtain ⟨o, es, ep, w1, w2, _⟩ := hn
    rw [← z, hf] at w1
    cases w1
    cases w2
  have fnone : f ∉ X.fs := fun z => hfr (by
    rcases I2.ok.stk with e | ⟨e, _⟩
    · rw [e]; exact z
    · rw [e]
      obtain ⟨b, hb, h2⟩ := List.mem_filterMap.mp z
      exact List.mem_filterMap.mpr ⟨b, List.mem_cons_of_mem _ hb, h2⟩)
  have I3 : Inv X ((f, PySem.W.kla_obj "<lambda>" (X.env.qual ++ "<lambda>") params body scope (cloFrom X.env.cells scope.names []) pm c' ctv) :: pins) σ H2 s2 := I2.pins_of fun p hp => by
    rcases List.mem_cons.mp hp with rfl | hp
    · exact ⟨hf, hfn, lnone, fnone, fun v z => by cases z⟩
    · exact I2.pin p (List.mem_append_right _ hp)
  refine thn (sorted_key (Q := Q) I3 (hl H2 e2) hal hsk (fun d hd' => ?_) (fun us rv => lam_turn hr L hcap hbind hbody _ rfl hc rv fun b hb' H3 g => hb b hb' H3 (Gr.ext e2 g) (T2.ext g)) fun H3 p g hp => q H3 p (Gr.ext e2 g) (T2.ext g) hp) fun u s3 z => ClX.unpinE z
  obtain ⟨b, hb', rfl⟩ := List.mem_map.mp hd'
  have h1 := hd b hb'
  have h2 := hr.un
  omega
end
end G

/-! ### a dict whose keys are nested tuples, all values True -/
namespace G
open PySem PySem.Spec PyProof.Rows PySem.W L2
abbrev Nky := List (NestedKey × Addr)
def ndE (w : World) (x : NestedKey × Addr) : DictEntry := ⟨x.1.hash w, .ref x.2, .bool true⟩
def NdO (w : World) (a : Addr) (ks : Nky) : HO := .ext fun h => (a == sysModules) = false ∧ ks.length ≤ sizeLine ∧ (ks.map (·.1)).Nodup ∧ ∃ o es ep, h.get? a = some o ∧ o.ExactDict ∧ o.data = .dict es ep ∧ es.toList = ks.map (ndE w)
/-- the dict at a holds these keys (empty: as it was made) -/
def NdAt (w : World) (H : Hp) (a : Addr) (ks : Nky) : Prop := (H a = some (.dK []) ∧ ks = []) ∨ H a = some (NdO w a ks)
mutual
/-- a value that reads as a key, by tracked tuples -/
inductive NkV (H : Hp) : NestedKey → V → Prop
  | non : NkV H .none .non
  | int (i : Int) : NkV H (.num i) (.int i)
  | str (z : Str) : NkV H (.text z) (.str z)
  | tup {a : Addr} {vs : List V} {ks : List NestedKey} : H a = some (.tup vs) → NkVs H ks vs → NkV H (.tup ks) (.ref a)
inductive NkVs (H : Hp) : List NestedKey → List V → Prop
  | nil : NkVs H [] []
  | cons {k : NestedKey} {ks : List NestedKey} {v : V} {vs : List V} : NkV H k v → NkVs H ks vs → NkVs H (k :: ks) (v :: vs)
end
mutual
theorem NkV.mono {H H' : Hp} (g : ∀ a xs, H a = some (.tup xs) → H' a = some (.tup xs)) : ∀ {k : NestedKey} {v : V}, NkV H k v → NkV H' k v
  | _, _, .non => .non
  | _, _, .int i => .int i
  | _, _, .str z => .str z
  | _, _, .tup h t => .tup (g _ _ h) (NkVs.mono g t)
theorem NkVs.mono {H H' : Hp} (g : ∀ a xs, H a = some (.tup xs) → H' a = some (.tup xs)) : ∀ {ks : List NestedKey} {vs : List V}, NkVs H ks vs → NkVs H' ks vs
  | _, _, .nil => .nil
  | _, _, .cons h t => .cons (NkV.mono g h) (NkVs.mono g t)
end
section
variable {X : Cx} {pins : List (Addr × Obj)} {σ : L2.St} {H : Hp} {s : Shared} {w : World}
mutual
theorem NkV.is (I : Inv X pins σ H s) : ∀ {k : NestedKey} {v : V} {u : Value}, NkV H k v → RelV v u → NestedIs s.heap k u
  | _, _, _, .non, r => by cases r; exact .none
  | _, _, _, .int i, r => by
    obtain ⟨t, rfl⟩ := r
    exact .int i t
  | _, _, _, .str z, r => by
    obtain ⟨t, rfl⟩ := r
    exact .text z t
  | _, _, _, .tup h t, r => by
    cases r
    obtain ⟨_, its, rv, o, e1, e2, e3, e4⟩ := I.hok _ _ h
    exact .tup e1 e2 e4 (by simpa using NkVs.is I t rv)
theorem NkVs.is (I : Inv X pins σ H s) : ∀ {ks : List NestedKey} {vs : List V} {us : List Value}, NkVs H ks vs → Vals vs us → NestedAll s.heap ks us
  | _, _, _, .nil, r => by cases r; exact .nil
  | _, _, _, .cons h t, r => by
    cases r with
    | cons q1 q2 => exact .cons (NkV.is I h q1) (NkVs.is I t q2)
end
def Rdy (H : Hp) (ks : Nky) : Prop := ∀ x ∈ ks, NkV H x.1 (.ref x.2) ∧ x.1.depth ≤ 8
theorem nd_dict {a : Addr} {ks : Nky} (I : Inv X pins σ H s) (h : NdAt X.w H a ks) (r : Rdy H ks) : (a == sysModules) = false ∧ ks.length ≤ sizeLine ∧ s.heap.DictOfH (nestedKind X.prog X.w) a (ks.map fun x => (x.1, x.2, Value.bool true)) := by
  have isK : ∀ x ∈ ks.map (fun x => (x.1, x.2, Value.bool true)), (nestedKind X.prog X.w).is s.heap x.1 x.2.1 := fun x hx => by
    obtain ⟨y, hy, rfl⟩ := List.mem_map.mp hx
    exact ⟨(r y hy).1.is I rfl, (r y hy).2⟩
  rcases h with ⟨h, rfl⟩ | h
  · obtain ⟨_, sys, vs, rv, o, es, ep, e1, e2, e3, _, e4, _⟩ := dk_of I.hok h
    cases rv
    refine ⟨sys, Nat.zero_le _, o, es, ep, e1, e2, e3, ?_, isK, List.nodup_nil⟩
    cases hl : es.toList with
    | nil => rfl
    | cons x xs => rw [hl] at e4; cases e4
  · obtain ⟨⟨sys, len, nd, o, es, ep, e1, e2, e3, e4⟩, _, _⟩ := I.hok a _ h
    refine ⟨sys, len, o, es, ep, e1, e2, e3, ?_, isK, ?_⟩
    · rw [e4, List.map_map]
      rfl
    · rw [List.map_map]
      exact nd
theorem nd_atKey {ks : Nky} {k : NestedKey} : (atKey (ks.map fun x => (x.1, x.2, Value.bool true)) k).isSome = decide (k ∈ ks.map (·.1)) := by
  induction ks with
  | nil => rfl
  | cons x ks ih =>
    unfold atKey at ih ⊢
    rw [List.map_cons, List.find?_cons, List.map_cons]
    by_cases c : x.1 = k
    · rw [decide_eq_true c, decide_eq_true (by rw [c]; exact List.mem_cons_self ..)]
      rfl
    · rw [decide_eq_false c]
      show (Option.map (fun x : NestedKey × Addr × Value => x.2) (List.find? (fun x : NestedKey × Addr × Value => decide (x.1 = k)) (ks.map fun x => (x.1, x.2, Value.bool true)))).isSome = _
      rw [ih]
      exact decide_eq_decide.mpr ⟨fun h => List.mem_cons_of_mem _ h, fun h => (List.mem_cons.mp h).resolve_left fun z => c z.symm⟩
/-- y in d -/
def rNIn (w : World) : R2 := fun y d H Q => ∃ (a b : Addr) (ks : Nky) (k : NestedKey), d = .ref a ∧ y = .ref b ∧ NdAt w H a ks ∧ Rdy H ks ∧ NkV H k (.ref b) ∧ k.depth ≤ 8 ∧ Q (.bl (decide (k ∈ ks.map (·.1)))) H
theorem op_nin (hw : X.w = w) (hu : X.A.units + 16 < cLine) : OpR X (compareOp .In) (rNIn w) := by
  subst hw
  intro pins s σ H x y v u Q I rx ry h
  obtain ⟨a, b, ks, k, rfl, rfl, hd, r, hk, dk, q⟩ := h
  cases rx
  cases ry
  obtain ⟨sys, _, dd⟩ := nd_dict I hd r
  refine wpAny_in_heap (knd := nestedKind X.prog X.w) (k := k) (by show X.A.units + 1 + 8 < cLine; omega) ⟨hk.is I rfl, dk⟩ sys dd ?_
  rw [nd_atKey]
  exact ⟨.bl _, H, I.tok _, rfl, q⟩
/-- d[y] = True -/
def NPut (w : World) (H : Hp) (x y v : V) (S : Hp → Prop) : Prop := ∃ (a b : Addr) (ks : Nky) (k : NestedKey), x = .ref a ∧ y = .ref b ∧ v = .bl true ∧ NdAt w H a ks ∧ Rdy H ks ∧ NkV H k (.ref b) ∧ k.depth ≤ 8 ∧ k ∉ ks.map (·.1) ∧ ks.length < sizeLine ∧ S (upd H a (NdO w a (ks ++ [(k, b)])))
def sNPut (w : World) (td ty tv : TE) : TS := fun D σ H => tv σ H fun v H1 => td σ H1 fun x H2 => ty σ H2 fun y H3 => NPut w H3 x y v (D.nx σ)
theorem ps_nput {td ty tv : TE} {o i value : Expr} {pos pos' : Pos} (hw : X.w = w) (hu : X.A.units + 16 < cLine) (ho : PE X o td) (hi : PE X i ty) (hv : PE X value tv) (hs : swapsWith value (some (.Subscript o i pos')) pos.line X.env = pure false) : PS X (.Assign [.Subscript o i pos'] value pos) (sNPut w td ty tv) := by
  subst hw
  refine ⟨fun pins s σ H D I h => ?_⟩
  refine wpAny_Assign_Subscript (thn (hv.run pins s σ H _ I h) fun r s1 ⟨v, H1, I1, rv, q1⟩ => thn (ho.run pins s1 σ H1 _ I1 q1) fun u s2 ⟨x, H2, I2, rx, q2⟩ => thn (hi.run pins s2 σ H2 _ I2 q2) fun iv s3 ⟨y, H3, I3, ry, z⟩ => ?_) hs
  obtain ⟨a, b, ks, k, rfl, rfl, rfl, hd, rr, hk, dk, nin, hl, q⟩ := z
  cases rx
  cases ry
  cases rv
  obtain ⟨sys, _, dd⟩ := nd_dict I3 hd rr
  have none_ : atKey (ks.map fun x => (x.1, x.2, Value.bool true)) k = none := by
    have e := nd_atKey (ks := ks) (k := k)
    rw [decide_eq_false nin] at e
    cases z : atKey (ks.map fun x => (x.1, x.2, Value.bool true)) k with
    | none => rfl
    | some p => rw [z] at e; cases e
  have mu : Mut (H3 a) := by
    rcases hd with ⟨h, _⟩ | h
    · rw [h]; exact True.intro
    · rw [h]; exact True.intro
  refine wpAny_setItem_heap (knd := nestedKind X.prog X.w) (k := k) (by show X.A.units + 1 + 8 < cLine; omega) ⟨hk.is I3 rfl, dk⟩ dd (fun h' hm' hs' => ?_) (by rw [List.length_map]; exact Nat.le_of_lt hl)
  rw [storedH_new none_] at hm'
  obtain ⟨o2, es, ep, e1, e2, e3, e4, _, e6⟩ := hm'
  have em : (ks.map fun x => (x.1, x.2, Value.bool true)) ++ [(k, b, Value.bool true)] = (ks ++ [(k, b)]).map fun x => (x.1, x.2, Value.bool true) := by rw [List.map_append]; rfl
  rw [em, List.map_map] at e4 e6
  refine ⟨σ, _, I3.write (x := a) (e := a) (o := NdO X.w a (ks ++ [(k, b)])) (h' := h') (t' := s3.toks + (nestedKind X.prog X.w).draws k) mu (.inl rfl) (fun c u hc e => (hs'.2 c hc).trans e) ⟨o2, e1⟩ ?_, q⟩
  refine ⟨⟨sys, by rw [List.length_append]; exact hl, e6, o2, es, ep, e1, e2, e3, e4⟩, ⟨o2, e1⟩, fun h1 h2 z st => ?_⟩
  obtain ⟨z1, z2, z3, o3, es3, ep3, z4, z5⟩ := z
  exact ⟨z1, z2, z3, o3, es3, ep3, st _ z4, z5⟩
end
end G

/-! ### defs that make lambdas, defaults that are (), tables among the cells -/
namespace G
open PySem PySem.Spec PyProof.Rows L2 LamX
/-- a def whose code object is told -/
theorem fnGT {P : Program} {w : World} {K : PySem.W.Frag} {mg : Str → Option Value} {base : Heap} {x qual : Str} {params : Arguments} {body : List Stmt} {sc : Scope} {dvs : List V} {kws : List (Str × V)} {p : Str × Option Str} {fd : FuncData} {N ps : List Str} {k : Nat} {sp : Sp}
    (F : FunD K x qual params body sc dvs kws (He.fAd K p) fd) (S : FnScope N ps sc) (len : ∀ vs H Q E, sp vs H Q E → vs.length = ps.length)
    (hb : ∀ (A : Around) (fr : List Env) (s : Shared) (H : Hp) (vs : List V) (Q : VK) (E : XK), (A.deeper (envOfC qual sc s.heap.objs.size (He.fAd K p) (.ref (He.cT K p).1))).guards = some [] → Room k (A.deeper (envOfC qual sc s.heap.objs.size (He.fAd K p) (.ref (He.cT K p).1))) → sp vs H Q E →
      ∃ t, PSs (cxOf (L2.CX P w) P w K mg base N qual sc (He.fAd K p) (.ref (He.cT K p).1) A fr s H E) body t ∧ t ⟨fun _ H' => Q .non H', Q, fun _ _ => False, fun _ _ => False⟩ (start N vs) H) : FnG P w K mg base (k + 1) (He.fAd K p) fd ps sp := by
  obtain ⟨_, _, _, _, _, _, _, cd, _, _, rfl, lk, hcd, _, _⟩ := F.ex
  obtain ⟨c, rfl⟩ := He.codeIn_ref hcd
  have ec : (He.cT K p).1 = c := He.codeOf_eq lk rfl
  rw [ec] at hb
  refine ⟨len, fun A fr s H ar us vs Q E hg hr e0 bi rv hsp => ?_⟩
  have old : ∀ b o, base.get? b = some o → s.heap.get? b = some o := fun b o e => (e0.bs b o e).1
  have hk : ∀ y ∈ ps.zip us, sc.names.lookup y.1 = some .local ∨ (sc.names.lookup y.1 = some .cell ∧ ((cellsFrom (s.heap.objs.size + 1) sc.names []).lookup y.1).isSome = true) := by
    rintro ⟨n, v⟩ hy
    exact (S.par n (List.of_mem_zip hy).1).imp id fun q => ⟨q, PySem.W.cellsFrom_some _ _ _ (.inl q)⟩
  refine codeAny_call_function hr.depth (e0.mod.kin.keeps old _ _ lk) rfl S.co S.gen rfl (PySem.W.codeRec_of (e0.mod.kin.keeps old) hcd) (bi _ _ _ _ (wpAny_newFunctionEnv_cells S.kind hk fun env he s1 x => ?_))
  subst he
  obtain ⟨t, ht, hq⟩ := hb A fr s H vs Q E hg (hr.deeper _) hsp
  refine ⟨(e0.mod.nolimit.keeps old).keeps x.toInCall.keep, codeAny_func (wpAny_mono (ht.run [] s1 _ H _ (inv_start S hr.hd e0 (len _ _ _ _ hsp) rv x) hq) (fun fl s' z => ?_) fun _ _ z => z)⟩
  cases fl with
  | ret u =>
    obtain ⟨v, _, H', J, r, q⟩ := z
    exact ⟨v, H', J.os, J.bare, J.base, J.hok, r, q⟩
  | next =>
    obtain ⟨_, H', J, q⟩ := z
    exact ⟨.non, H', J.os, J.bare, J.base, J.hok, rfl, q⟩
  | brk => exact z.elim fun _ z => z.elim fun _ z => z.2.elim
  | cont => exact z.elim fun _ z => z.elim fun _ z => z.2.elim
/-! defaults that are the empty tuple -/
/-- where the i-th default of a def stands -/
def dfAt (K : PySem.W.Frag) (p : Str × Option Str) (i : Nat) : Addr := match K.lookup (He.fAd K p) with
  | some ⟨_, _, .func fd, _⟩ => (match fd.defaults with
    | .ref T => (match K.lookup T with
      | some ⟨_, _, .seq its _, _⟩ => (match its.getD i .none with
        | .ref a => a
        | _ => 0)
      | _ => 0)
    | _ => 0)
  | _ => 0
def mtB (p : Str × Option Str) (i : Nat) (K : PySem.W.Frag) : Bool := match K.lookup (dfAt K p i) with
  | some ⟨.type c, _, .seq its _, _⟩ => decide (c = "tuple") && decide (its.toList = [])
  | _ => false
theorem mtB_ok {p : Str × Option Str} {i : Nat} {K : PySem.W.Frag} (h : mtB p i K = true) : ∀ H : Hp, SqT K H (dfAt K p i) [] := fun H => by
  unfold mtB at h
  cases q : K.lookup (dfAt K p i) with
  | none => rw [q] at h; cases h
  | some o =>
    obtain ⟨oc, od, dt, osl⟩ := o
    rw [q] at h
    cases oc with
    | type c =>
      cases dt with
      | seq its n =>
        obtain ⟨h1, h2⟩ := He.ba (show (decide (c = "tuple") && decide (its.toList = [])) = true from h)
        have e := of_decide_eq_true h2
        refine .inr ⟨_, its, n, q, congrArg Value.type (of_decide_eq_true h1), rfl, ?_, ?_⟩
        · have : its.size = 0 := by rw [← Array.length_toList, e]; rfl
          rw [this]; exact Nat.zero_le _
        · rw [e]; exact .nil
      | _ => cases h
    | _ => cases dt <;> cases h
theorem u65 {k : Nat} {A : Around} (r : Room k A) : A.units + 65 < cLine := by have := r.un; omega
theorem u16 {k : Nat} {A : Around} (r : Room k A) : A.units + 16 < cLine := by have := r.units; omega
def rInsert : V → List V → Hp → VK → Prop := fun x vs H Q => ∃ (l : Addr) (xs : List V) (i : Int) (y : V), x = .ref l ∧ vs = [.int i, y] ∧ H l = some (.lst xs) ∧ xs.length < sizeLine ∧ 0 ≤ i ∧ i < 2 ^ 63 ∧ Q .non (upd H l (.lst (xs.take i.toNat ++ [y] ++ xs.drop i.toNat)))
/-! tables among the cells -/
def NoT (F : Hp) : Prop := ∀ b ps, F b ≠ some (.tbl ps)
/-- F without the tables -/
def bare (F : Hp) : Hp := fun b => match F b with
  | some (.tbl _) => none
  | o => o
theorem bare_some {F : Hp} {b : Addr} {o : HO} (h : F b = some o) (n : ∀ ps, o ≠ .tbl ps) : bare F b = some o := by
  unfold bare
  rw [h]
  cases o with
  | tbl ps => exact (n ps rfl).elim
  | _ => rfl
theorem bare_sub (F : Hp) : Same (bare F) F := fun b o h => by
  unfold bare at h
  cases e : F b with
  | none => rw [e] at h; cases h
  | some u =>
    rw [e] at h
    cases u with
    | tbl ps => cases h
    | _ => exact h
theorem bare_noT (F : Hp) : NoT (bare F) := fun b ps h => by
  unfold bare at h
  cases e : F b with
  | none => rw [e] at h; cases h
  | some u => rw [e] at h; cases u <;> cases h
theorem NoT.same {F F' : Hp} (n : NoT F) (s : Same F F') : Same F (bare F') := fun b o h => bare_some (s b o h) fun ps z => n b ps (by rw [h, z])
theorem HH.bare {F H : Hp} {M : List (Addr × HO)} (h : HH F H M) : HH (G.bare F) H M := ⟨fun b o e => h.sub b o (bare_sub F b o e), h.nd, fun p hp => ⟨(h.cell p hp).1, by
  have e := (h.cell p hp).2
  unfold G.bare
  rw [e]⟩⟩
section
variable {K : PySem.W.Frag} {F : Hp}
theorem SqT.bare {a : Addr} {xs : List V} (h : SqT K F a xs) : SqT K (G.bare F) a xs := by
  rcases h with (h | ⟨o, h⟩) | h
  · exact .inl (.inl (bare_some h fun ps z => by cases z))
  · exact .inl (.inr ⟨o, bare_some h fun ps z => by cases z⟩)
  · exact .inr h
mutual
theorem At.bare : ∀ {d : D} {u : V}, At K F d u → At K (G.bare F) d u
  | .v x, u, h => by unfold At at h ⊢; exact h
  | .lst xs, u, h => by
    unfold At at h ⊢
    obtain ⟨a, vs, e, hq, h⟩ := h
    exact ⟨a, vs, e, bare_some hq (fun ps z => by cases z), AtA.bare h⟩
  | .tup xs, u, h => by
    unfold At at h ⊢
    obtain ⟨a, vs, e, hq, h⟩ := h
    exact ⟨a, vs, e, SqT.bare hq, AtA.bare h⟩
  | .obj c fs, u, h => by
    unfold At at h ⊢
    obtain ⟨a, dx, vs, e, hq, h⟩ := h
    exact ⟨a, dx, vs, e, bare_some hq (fun ps z => by cases z), AtF.bare h⟩
  | .dk kvs, u, h => by
    unfold At at h ⊢
    obtain ⟨a, od, vs, e, hq, h⟩ := h
    exact ⟨a, od, vs, e, bare_some hq (fun ps z => by cases z), AtK.bare h⟩
theorem AtA.bare : ∀ {ds : List D} {us : List V}, AtA K F ds us → AtA K (G.bare F) ds us
  | [], us, h => by unfold AtA at h ⊢; exact h
  | d :: ds, us, h => by
    unfold AtA at h ⊢
    obtain ⟨u, us, e, h1, h2⟩ := h
    exact ⟨u, us, e, At.bare h1, AtA.bare h2⟩
theorem AtF.bare : ∀ {ds : List (Str × D)} {us : List (Str × V)}, AtF K F ds us → AtF K (G.bare F) ds us
  | [], us, h => by unfold AtF at h ⊢; exact h
  | (f, d) :: ds, us, h => by
    unfold AtF at h ⊢
    obtain ⟨u, us, e, h1, h2⟩ := h
    exact ⟨u, us, e, At.bare h1, AtF.bare h2⟩
theorem AtK.bare : ∀ {ds : List (Key × D)} {us : List (Key × V)}, AtK K F ds us → AtK K (G.bare F) ds us
  | [], us, h => by unfold AtK at h ⊢; exact h
  | (f, d) :: ds, us, h => by
    unfold AtK at h ⊢
    obtain ⟨u, us, e, h1, h2⟩ := h
    exact ⟨u, us, e, At.bare h1, AtK.bare h2⟩
end
end
/-- the tables T as cells -/
def TbC (T : List (Addr × Str)) (C : List (Addr × HO)) : Prop := C.map (·.1) = T.map (·.1) ∧ ∀ p ∈ C, ∃ ps, p.2 = .tbl ps
/-- behind an ExtN step: the tables stand as others, all else stays -/
theorem HH.extT {F H H2 : Hp} {T : List (Addr × Str)} {C M : List (Addr × HO)} (h : HH F H (C ++ M)) (nF : NoT F) (nM : ∀ p ∈ M, ∀ ps, p.2 ≠ .tbl ps) (hC : TbC T C) (e : ExtN H H2) (t : Tabs T H2) : ∃ C', TbC T C' ∧ HH F H2 (C' ++ M) := by
  have key : ∀ (T : List (Addr × Str)) (C : List (Addr × HO)), C.map (·.1) = T.map (·.1) → (∀ p ∈ T, ∃ ps, H2 p.1 = some (.tbl ps)) → ∃ C' : List (Addr × HO), C'.map (·.1) = T.map (·.1) ∧ (∀ p ∈ C', ∃ ps, p.2 = .tbl ps) ∧ ∀ p ∈ C', H2 p.1 = some p.2 := by
    intro T
    induction T with
    | nil => intro C _ _; exact ⟨[], rfl, (fun _ h => nomatch h), (fun _ h => nomatch h)⟩
    | cons x T ih =>
      intro C hC hT
      cases C with
      | nil => cases hC
      | cons c C =>
        obtain ⟨ps, e1⟩ := hT x (List.mem_cons_self ..)
        obtain ⟨C', c1, c2, c3⟩ := ih C (List.cons.inj hC).2 fun p hp => hT p (List.mem_cons_of_mem _ hp)
        refine ⟨(x.1, .tbl ps) :: C', ?_, fun p hp => ?_, fun p hp => ?_⟩
        · rw [List.map_cons, List.map_cons, c1]
        · rcases List.mem_cons.mp hp with rfl | hp
          · exact ⟨ps, rfl⟩
          · exact c2 p hp
        · rcases List.mem_cons.mp hp with rfl | hp
          · exact e1
          · exact c3 p hp
  obtain ⟨C', c1, c2, c3⟩ := key T C hC.1 fun p hp => by
    obtain ⟨ps, q, _⟩ := t p hp
    exact ⟨ps, q⟩
  have names : (C' ++ M).map (·.1) = (C ++ M).map (·.1) := by rw [List.map_append, List.map_append, c1, hC.1]
  refine ⟨C', ⟨c1, c2⟩, fun b o q => e b o (h.sub b o q) fun ps z => nF b ps (by rw [q, z]), by rw [names]; exact h.nd, fun p hp => ?_⟩
  have fn : F p.1 = none := by
    have : p.1 ∈ (C ++ M).map (·.1) := by rw [← names]; exact List.mem_map.mpr ⟨p, hp, rfl⟩
    obtain ⟨q, hq, eq⟩ := List.mem_map.mp this
    rw [← eq]
    exact (h.cell q hq).2
  refine ⟨?_, fn⟩
  rcases List.mem_append.mp hp with hp | hp
  · exact c3 p hp
  · exact e _ _ (h.cell p (List.mem_append_right _ hp)).1 (nM p hp)/-! a dict comprehension that is stored in a name -/
section
variable {X : Cx}
theorem sw_trueD {kx vx : Expr} {gs : List Comprehension} {scope : Scope} {pos py : Pos} {y : Str} {l : Nat} {env : Env} (hk : env.scope.kind = .function) (hy : env.scope.names.lookup y = some .local) (hl : (py.line == pos.line) = true)
    (ha : (scope.names.any fun (n, k) => n == y && (k == .local || k == .cell)) = false) : swapsWith (.DictComp kx vx gs scope pos) (some (.Name y py)) l env = pure true := by
  have e1 : env.blockKind = .function := by unfold Env.blockKind; rw [hk]; rfl
  have e2 : env.kindOf y = some .local := hy
  unfold swapsWith
  simp only [e1, e2, ha, Expr.pos, hl]
  rfl
theorem ps_setDc {i : Nat} {y : Str} {py : Pos} {kx vx tg iter : Expr} {ifs : List Expr} {scope : Scope} {own : List (Str × Nat)} {pos spos : Pos} {wi : TI} {g : TG} {tt : TT} {tk tv : TE} (hc : X.calm = true) (hN : X.N.Nodup) (hy : X.N[i]? = some y) (hyl : X.env.scope.names.lookup y = some .local)
    (hsw : swapsWith (.DictComp kx vx [⟨tg, iter, ifs, 0⟩] scope pos) (some (.Name y py)) spos.line X.env = pure true) (hi : L2.PI X tg iter wi) (ok : BlkOk X.N X.env.scope scope own)
    (hg : ∀ (s : Shared) (H : Hp) (C : Addr) (cl : List (Str × Addr)) (fp : List Addr), PG (X.blk s H scope (compEnvC scope cl C X.env) fp) tg g) (ht : ∀ (s : Shared) (H : Hp) (C : Addr) (cl : List (Str × Addr)) (fp : List Addr), PTs (X.blk s H scope (compEnvC scope cl C X.env) fp) ifs tt)
    (hk : ∀ (s : Shared) (H : Hp) (C : Addr) (cl : List (Str × Addr)) (fp : List Addr), PE (X.blk s H scope (compEnvC scope cl C X.env) fp) kx tk)
    (he : ∀ (s : Shared) (H : Hp) (C : Addr) (cl : List (Str × Addr)) (fp : List Addr), PE (X.blk s H scope (compEnvC scope cl C X.env) fp) vx tv) (hs : ∀ x, foldedSetIterable iter X.env x = pure x := by intro _; rfl) :
    PS X (.Assign [.Name y py] (.DictComp kx vx [⟨tg, iter, ifs, 0⟩] scope pos) spos) (tAsg (tDc wi g tt tk tv (own.map (·.2))) (gName i)) := by
  refine ⟨fun pins s σ H D I h => ?_⟩
  rw [exec_Assign_Name_used _ _ _ _ hsw]
  refine wpAny_bind (wpAny_standAt (wpAny_bind ?_))
  show wpAny _ X.A (do let _ ← comprehension (.DictComp kx vx [⟨tg, iter, ifs, 0⟩] scope pos) scope X.env (firstIterPos [⟨tg, iter, ifs, 0⟩] pos) newDict false (eval iter X.env) (some (assign (.Name y py) X.env))) _ _ s
  have z : tDc wi g tt tk tv (own.map (·.2)) σ H (fun x H1 => gName i x σ H1 D.nx) := h
  refine wpAny_bind (thn (dc_core (Qf := fun _ s' => SP X pins D .next s') hc hN I hi ok hg ht hk he hs z fun L C s1 m H1 I1 q hn fp => ?_) fun _ s1 q => wpAny_pure (wpAny_pure q))
  show wpAny _ _ (assign (.Name y py) X.env (.ref L)) _ _ _
  refine wpAny_assign_Name (store_ok2 (v := V.ref L) I1 hN hy (.inl hyl) rfl (fun s2 I2 ⟨a, sb, ha⟩ => ?_) (.inr hyl))
  obtain ⟨g0, g1, g2, g3, g4, g5⟩ := fp
  refine ⟨m, hn.sameBut sb ?_, fun h3 sb3 => ⟨_, H1, I2.turned (t' := s2.toks) (fun b o hb e => (sb3.2 b hb).trans e) g0 g1 g3 g4 g5, q⟩⟩
  rcases ha with e | e
  · rw [e]; exact g1
  · exact fun q => g4 y a e q.symm
end
end G

/-! ### == and != of lists whose items have an own == (the state goes on, the abstract heap stays) -/
namespace GN
open PySem PySem.Spec PyProof.Rows L2
open AutoSeq1 (wpAny_loadPart')
open MeetsSeq MeetsSeq2 MeetsSeq3 SeqRoads2
section
variable {X : Cx} {pins : List (Addr × Obj)} {σ : L2.St} {H : Hp} {A : Around} {s : Shared}
/-- == of two values as the walks tell them -/
def EqV (X : Cx) (pins : List (Addr × Obj)) (σ : L2.St) (A : Around) (H : Hp) (x y : V) (r : Bool) : Prop := ∀ v u, RelV x v → RelV y u → EqB X pins σ A H v u r
inductive EqVs (X : Cx) (pins : List (Addr × Obj)) (σ : L2.St) (A : Around) (H : Hp) : List V → List V → Bool → Prop
  | nil : EqVs X pins σ A H [] [] true
  | yes {x y : V} {xs ys : List V} {b : Bool} : EqV X pins σ A H x y true → EqVs X pins σ A H xs ys b → EqVs X pins σ A H (x :: xs) (y :: ys) b
  | no {x y : V} {xs ys : List V} : EqV X pins σ A H x y false → xs.length = ys.length → EqVs X pins σ A H (x :: xs) (y :: ys) false
theorem EqVs.len {xs ys : List V} {b : Bool} (h : EqVs X pins σ A H xs ys b) : xs.length = ys.length := by
  induction h with
  | nil => rfl
  | yes _ _ ih => rw [List.length_cons, List.length_cons, ih]
  | no _ e => rw [List.length_cons, List.length_cons, e]
theorem list_obj (I : Inv X pins σ H s) {l : Addr} {xs : List V} (h : SqL X.K H l xs) : ∃ (its : Array Value) (n : Nat) (dd : Option Addr) (sl : Array (Option Value)), s.heap.get? l = some { cls := .type "list", dict := dd, data := .seq its n, slots := sl } ∧ Vals xs its.toList := by
  obtain ⟨its, rv, pl, _⟩ := I.list h
  obtain ⟨⟨cls, dd, data, sl⟩, ho, hc, n, hd⟩ := pl.isList
  simp only at hc hd
  subst hc hd
  exact ⟨_, n, dd, sl, ho, rv⟩
theorem val_at {xs : List V} {its : Array Value} (r : Vals xs its.toList) {i : Nat} {x : V} {t : List V} (h : xs.drop i = x :: t) : ∃ v, its[i]? = some v ∧ RelV x v ∧ its[((i : Nat) : Int).toNat]? = some v := by
  have hi : xs[i]? = some x := by
    have := congrArg (·[0]?) h
    rw [List.getElem?_drop] at this
    simpa using this
  have each := G.each_vals (ev := id) (bs := xs) (us := its.toList) (by rw [List.map_id]; exact r)
  have hl : i < its.size := by
    have e := r.length
    have : i < xs.length := by
      rcases Nat.lt_or_ge i xs.length with z | z
      · exact z
      · rw [List.getElem?_eq_none z] at hi; cases hi
    rw [← Array.length_toList, ← e]; exact this
  refine ⟨its[i], Array.getElem?_eq_getElem hl, ?_, by simp [hl]⟩
  exact G.each_at (R := fun u b => RelV (id b) u) each (x := its[i]) (y := x) (by rw [Array.getElem?_toList]; exact Array.getElem?_eq_getElem hl) hi
theorem eq_loopI {l b : Addr} {xs ys : List V} {r : Bool} (hl : SqL X.K H l xs) (hb : SqL X.K H b ys) (k : Nat) :
    ∀ (i : Nat) (s : Shared), xs.length - i = k → i ≤ xs.length → xs.length = ys.length → EqVs X pins σ A.in1 H (xs.drop i) (ys.drop i) r → Inv X pins σ H s →
      wpAny (model X.prog X.w) A.in1 (Builtin.«list.__eq__.loop» ⟨[.ref l, .ref b, rawInt i, rawInt 2], []⟩)
        (fun fin s' => match fin with | .done f => wants (fun v s' => v = .bool r ∧ Inv X pins σ H s') X.xe (.ok f) s' | .again c' => c'.quiet = true ∧ codeAny (model X.prog X.w) A c' (wants (fun v s' => v = .bool r ∧ Inv X pins σ H s') X.xe) s') (fun e s' => wants (fun v s' => v = .bool r ∧ Inv X pins σ H s') X.xe (.error e) s') s := by
  induction k with
  | zero =>
    intro i s hk hi hsz hv I
    obtain ⟨its, n, dd, sl, ho, rv⟩ := list_obj I hl
    obtain ⟨its2, n2, dd2, sl2, ho2, rv2⟩ := list_obj I hb
    have e1 : xs.length = its.size := by rw [← Array.length_toList]; exact rv.length
    have e2 : ys.length = its2.size := by rw [← Array.length_toList]; exact rv2.length
    have hi1 : its[((i : Nat) : Int).toNat]? = none := by simp; omega
    have hi2 : its2[((i : Nat) : Int).toNat]? = none := by simp; omega
    have hd : xs.drop i = [] := List.drop_eq_nil_of_le (by omega)
    have hd2 : ys.drop i = [] := List.drop_eq_nil_of_le (by omega)
    rw [hd, hd2] at hv
    cases hv
    clear hd hd2
    obtain ⟨hp, g, d, tk, os⟩ := s
    wp_walk using wpAny_loadPart' ho, wpAny_loadPart' ho2
    rw [hi1, hi2]
    wp_walk using wpAny_loadPart' ho, wpAny_loadPart' ho2
    refine ⟨?_, I⟩
    show Value.bool (its.size == its2.size) = _
    rw [show (its.size == its2.size) = true by rw [← e1, ← e2, hsz]; exact beq_self_eq_true _]
  | succ k ih =>
    intro i s hk hi hsz hv I
    have lt1 : i < xs.length := by omega
    have lt2 : i < ys.length := by omega
    obtain ⟨x, t, hd⟩ : ∃ x t, xs.drop i = x :: t := ⟨_, _, List.drop_eq_getElem_cons lt1⟩
    obtain ⟨y, t2, hd2⟩ : ∃ y t2, ys.drop i = y :: t2 := ⟨_, _, List.drop_eq_getElem_cons lt2⟩
    have ht : t = xs.drop (i + 1) := by rw [List.drop_eq_getElem_cons lt1] at hd; exact (List.cons.inj hd).2.symm
    have ht2 : t2 = ys.drop (i + 1) := by rw [List.drop_eq_getElem_cons lt2] at hd2; exact (List.cons.inj hd2).2.symm
    obtain ⟨its, n, dd, sl, ho, rv⟩ := list_obj I hl
    obtain ⟨its2, n2, dd2, sl2, ho2, rv2⟩ := list_obj I hb
    obtain ⟨v, _, r1, hi1⟩ := val_at rv hd
    obtain ⟨u, _, r2, hi2⟩ := val_at rv2 hd2
    have hc : ((i : Int) + 1) = ((i + 1 : Nat) : Int) := by push_cast; rfl
    rw [hd, hd2] at hv
    have step : ∃ e, EqB X pins σ A.in1 H v u e ∧ ((e = true ∧ EqVs X pins σ A.in1 H (xs.drop (i + 1)) (ys.drop (i + 1)) r) ∨ (e = false ∧ r = false)) := by
      cases hv with
      | yes h1 h2 => exact ⟨true, h1 v u r1 r2, .inl ⟨rfl, by rw [← ht, ← ht2]; exact h2⟩⟩
      | no h1 _ => exact ⟨false, h1 v u r1 r2, .inr ⟨rfl, rfl⟩⟩
    obtain ⟨e, he, st⟩ := step
    have he1 := he s I
    clear hv
    obtain ⟨hp, g, d, tk, os⟩ := s
    wp_walk using wpAny_loadPart' ho, wpAny_loadPart' ho2
    rw [hi1, hi2]
    refine wpAny_bind (wpAny_mono (he _ (I.tok _)) (fun q s' z => ?_) fun _ _ z => z)
    obtain ⟨rfl, I'⟩ := z
    rcases st with ⟨rfl, hv⟩ | ⟨rfl, rfl⟩
    · wp_walk
      rw [hc]
      exact ⟨plainId_quiet plain_eq_loop _, codeAny_builtin entry_eq_loop (by
        rw [Around.under_plainId plain_eq_loop _]
        exact ih (i + 1) _ (by omega) (by omega) hsz hv I')⟩
    · obtain ⟨its, n, dd, sl, ho, rv⟩ := list_obj I' hl
      obtain ⟨its2, n2, dd2, sl2, ho2, rv2⟩ := list_obj I' hb
      obtain ⟨v, _, r1, hi1⟩ := val_at rv hd
      obtain ⟨u, _, r2, hi2⟩ := val_at rv2 hd2
      obtain ⟨hp, g, d, tk, os⟩ := s'
      wp_walk using wpAny_loadPart' ho, wpAny_loadPart' ho2
      rw [hi1, hi2]
      wp_walk
      exact ⟨rfl, I'⟩
theorem ne_loopI {l b : Addr} {xs ys : List V} {r : Bool} (hl : SqL X.K H l xs) (hb : SqL X.K H b ys) (k : Nat) :
    ∀ (i : Nat) (s : Shared), xs.length - i = k → i ≤ xs.length → xs.length = ys.length → EqVs X pins σ A.in1 H (xs.drop i) (ys.drop i) r → Inv X pins σ H s →
      wpAny (model X.prog X.w) A.in1 (Builtin.«list.__eq__.loop» ⟨[.ref l, .ref b, rawInt i, rawInt 3], []⟩)
        (fun fin s' => match fin with | .done f => wants (fun v s' => v = .bool (!r) ∧ Inv X pins σ H s') X.xe (.ok f) s' | .again c' => c'.quiet = true ∧ codeAny (model X.prog X.w) A c' (wants (fun v s' => v = .bool (!r) ∧ Inv X pins σ H s') X.xe) s') (fun e s' => wants (fun v s' => v = .bool (!r) ∧ Inv X pins σ H s') X.xe (.error e) s') s := by
  induction k with
  | zero =>
    intro i s hk hi hsz hv I
    obtain ⟨its, n, dd, sl, ho, rv⟩ := list_obj I hl
    obtain ⟨its2, n2, dd2, sl2, ho2, rv2⟩ := list_obj I hb
    have e1 : xs.length = its.size := by rw [← Array.length_toList]; exact rv.length
    have e2 : ys.length = its2.size := by rw [← Array.length_toList]; exact rv2.length
    have hi1 : its[((i : Nat) : Int).toNat]? = none := by simp; omega
    have hi2 : its2[((i : Nat) : Int).toNat]? = none := by simp; omega
    have hd : xs.drop i = [] := List.drop_eq_nil_of_le (by omega)
    have hd2 : ys.drop i = [] := List.drop_eq_nil_of_le (by omega)
    rw [hd, hd2] at hv
    cases hv
    clear hd hd2
    obtain ⟨hp, g, d, tk, os⟩ := s
    wp_walk using wpAny_loadPart' ho, wpAny_loadPart' ho2
    rw [hi1, hi2]
    wp_walk using wpAny_loadPart' ho, wpAny_loadPart' ho2
    refine ⟨?_, I⟩
    show Value.bool (its.size != its2.size) = _
    rw [show (its.size != its2.size) = false by rw [← e1, ← e2, hsz]; simp]
    rfl
  | succ k ih =>
    intro i s hk hi hsz hv I
    have lt1 : i < xs.length := by omega
    have lt2 : i < ys.length := by omega
    obtain ⟨x, t, hd⟩ : ∃ x t, xs.drop i = x :: t := ⟨_, _, List.drop_eq_getElem_cons lt1⟩
    obtain ⟨y, t2, hd2⟩ : ∃ y t2, ys.drop i = y :: t2 := ⟨_, _, List.drop_eq_getElem_cons lt2⟩
    have ht : t = xs.drop (i + 1) := by rw [List.drop_eq_getElem_cons lt1] at hd; exact (List.cons.inj hd).2.symm
    have ht2 : t2 = ys.drop (i + 1) := by rw [List.drop_eq_getElem_cons lt2] at hd2; exact (List.cons.inj hd2).2.symm
    obtain ⟨its, n, dd, sl, ho, rv⟩ := list_obj I hl
    obtain ⟨its2, n2, dd2, sl2, ho2, rv2⟩ := list_obj I hb
    obtain ⟨v, _, r1, hi1⟩ := val_at rv hd
    obtain ⟨u, _, r2, hi2⟩ := val_at rv2 hd2
    have hc : ((i : Int) + 1) = ((i + 1 : Nat) : Int) := by push_cast; rfl
    rw [hd, hd2] at hv
    have step : ∃ e, EqB X pins σ A.in1 H v u e ∧ ((e = true ∧ EqVs X pins σ A.in1 H (xs.drop (i + 1)) (ys.drop (i + 1)) r) ∨ (e = false ∧ r = false)) := by
      cases hv with
      | yes h1 h2 => exact ⟨true, h1 v u r1 r2, .inl ⟨rfl, by rw [← ht, ← ht2]; exact h2⟩⟩
      | no h1 _ => exact ⟨false, h1 v u r1 r2, .inr ⟨rfl, rfl⟩⟩
    obtain ⟨e, he, st⟩ := step
    have he1 := he s I
    clear hv
    obtain ⟨hp, g, d, tk, os⟩ := s
    wp_walk using wpAny_loadPart' ho, wpAny_loadPart' ho2
    rw [hi1, hi2]
    refine wpAny_bind (wpAny_mono (he _ (I.tok _)) (fun q s' z => ?_) fun _ _ z => z)
    obtain ⟨rfl, I'⟩ := z
    rcases st with ⟨rfl, hv⟩ | ⟨rfl, rfl⟩
    · wp_walk
      rw [hc]
      exact ⟨plainId_quiet plain_eq_loop _, codeAny_builtin entry_eq_loop (by
        rw [Around.under_plainId plain_eq_loop _]
        exact ih (i + 1) _ (by omega) (by omega) hsz hv I')⟩
    · obtain ⟨its, n, dd, sl, ho, rv⟩ := list_obj I' hl
      obtain ⟨its2, n2, dd2, sl2, ho2, rv2⟩ := list_obj I' hb
      obtain ⟨v, _, r1, hi1⟩ := val_at rv hd
      obtain ⟨u, _, r2, hi2⟩ := val_at rv2 hd2
      obtain ⟨hp, g, d, tk, os⟩ := s'
      wp_walk using wpAny_loadPart' ho, wpAny_loadPart' ho2
      rw [hi1, hi2]
      wp_walk
      exact ⟨rfl, I'⟩
theorem rcI_eq {l b : Addr} {xs ys : List V} {r : Bool} (I : Inv X pins σ H s) (hl : SqL X.K H l xs) (hb : SqL X.K H b ys) (hu : A.units < cLine) (hv : xs.length = ys.length → EqVs X pins σ A.in1 H xs ys r) (hn : xs.length ≠ ys.length → r = false) :
    wpAny (model X.prog X.w) A (richCompare .Eq (.ref l) (.ref b)) (fun v s' => v = .bool r ∧ Inv X pins σ H s') X.xe s := by
  obtain ⟨its, n, dd, sl, ho, rv⟩ := list_obj I hl
  obtain ⟨its2, n2, dd2, sl2, ho2, rv2⟩ := list_obj I hb
  have e1 : xs.length = its.size := by rw [← Array.length_toList]; exact rv.length
  have e2 : ys.length = its2.size := by rw [← Array.length_toList]; exact rv2.length
  have ta : s.TypeIs (.ref l) "list" := ⟨_, ho, rfl⟩
  have tb : s.TypeIs (.ref b) "list" := ⟨_, ho2, rfl⟩
  refine wpAny_richCompare_same_room (op := .Eq) ta tb F.slot_list_eq (wpAny_call (codeAny_call_builtin F.slot_list_eq.plain F.entry_list_eq (F.slot_list_eq.check _ _ _ _ _ _ _ _ ta (F.args_list_eq_2 _ _) ?_))) hu
  have f3 := AutoSeq1.sub_list_list
  by_cases hsz : xs.length = ys.length
  · have hv := hv hsz
    have hne : ¬ (its.size != its2.size) = true := by rw [← e1, ← e2, hsz]; simp
    have lp : ∀ s', Inv X pins σ H s' → _ := fun s' I' => eq_loopI (A := A) hl hb (xs.length - 0) 0 s' rfl (Nat.zero_le _) hsz (by simpa using hv) I'
    obtain ⟨hp, g, d, tk, os⟩ := s
    wp_walk using wpAny_loadPart' ho, wpAny_loadPart' ho2
    refine ⟨plainId_quiet plain_eq_loop _, codeAny_builtin entry_eq_loop ?_⟩
    rw [Around.under_plainId plain_eq_loop _]
    refine wpAny_mono (lp _ I) (fun fin s' z => ?_) fun _ _ z => z
    cases fin with
    | done f =>
      cases f with
      | ret v =>
        obtain ⟨rfl, I'⟩ := z
        exact ⟨(fun x => nomatch x), rfl, I'⟩
      | next => exact z.elim
      | brk => exact z.elim
      | cont => exact z.elim
    | again c' =>
      refine ⟨z.1, codeAny_mono z.2 fun res s2 z2 => ?_⟩
      cases res with
      | error e => exact z2
      | ok f =>
        cases f with
        | ret v =>
          obtain ⟨rfl, I'⟩ := z2
          exact ⟨(fun x => nomatch x), rfl, I'⟩
        | next => exact z2.elim
        | brk => exact z2.elim
        | cont => exact z2.elim
  · obtain rfl := hn hsz
    have hne : (its.size != its2.size) = true := by
      rw [← e1, ← e2]
      simpa using hsz
    obtain ⟨hp, g, d, tk, os⟩ := s
    wp_walk using wpAny_loadPart' ho, wpAny_loadPart' ho2
    exact ⟨(fun x => nomatch x), rfl, I⟩
theorem rcI_ne {l b : Addr} {xs ys : List V} {r : Bool} (I : Inv X pins σ H s) (hl : SqL X.K H l xs) (hb : SqL X.K H b ys) (hu : A.units < cLine) (hv : xs.length = ys.length → EqVs X pins σ A.in1 H xs ys r) (hn : xs.length ≠ ys.length → r = false) :
    wpAny (model X.prog X.w) A (richCompare .NotEq (.ref l) (.ref b)) (fun v s' => v = .bool (!r) ∧ Inv X pins σ H s') X.xe s := by
  obtain ⟨its, n, dd, sl, ho, rv⟩ := list_obj I hl
  obtain ⟨its2, n2, dd2, sl2, ho2, rv2⟩ := list_obj I hb
  have e1 : xs.length = its.size := by rw [← Array.length_toList]; exact rv.length
  have e2 : ys.length = its2.size := by rw [← Array.length_toList]; exact rv2.length
  have ta : s.TypeIs (.ref l) "list" := ⟨_, ho, rfl⟩
  have tb : s.TypeIs (.ref b) "list" := ⟨_, ho2, rfl⟩
  refine wpAny_richCompare_same_room (op := .NotEq) ta tb F.slot_list_ne (wpAny_call (codeAny_call_builtin F.slot_list_ne.plain F.entry_list_ne (F.slot_list_ne.check _ _ _ _ _ _ _ _ ta (F.args_list_ne_2 _ _) ?_))) hu
  have f3 := AutoSeq1.sub_list_list
  by_cases hsz : xs.length = ys.length
  · have hv := hv hsz
    have hne : ¬ (its.size != its2.size) = true := by rw [← e1, ← e2, hsz]; simp
    have lp : ∀ s', Inv X pins σ H s' → _ := fun s' I' => ne_loopI (A := A) hl hb (xs.length - 0) 0 s' rfl (Nat.zero_le _) hsz (by simpa using hv) I'
    obtain ⟨hp, g, d, tk, os⟩ := s
    wp_walk using wpAny_loadPart' ho, wpAny_loadPart' ho2
    refine ⟨plainId_quiet plain_eq_loop _, codeAny_builtin entry_eq_loop ?_⟩
    rw [Around.under_plainId plain_eq_loop _]
    refine wpAny_mono (lp _ I) (fun fin s' z => ?_) fun _ _ z => z
    cases fin with
    | done f =>
      cases f with
      | ret v =>
        obtain ⟨rfl, I'⟩ := z
        exact ⟨(fun x => nomatch x), rfl, I'⟩
      | next => exact z.elim
      | brk => exact z.elim
      | cont => exact z.elim
    | again c' =>
      refine ⟨z.1, codeAny_mono z.2 fun res s2 z2 => ?_⟩
      cases res with
      | error e => exact z2
      | ok f =>
        cases f with
        | ret v =>
          obtain ⟨rfl, I'⟩ := z2
          exact ⟨(fun x => nomatch x), rfl, I'⟩
        | next => exact z2.elim
        | brk => exact z2.elim
        | cont => exact z2.elim
  · obtain rfl := hn hsz
    have hne : (its.size != its2.size) = true := by
      rw [← e1, ← e2]
      simpa using hsz
    obtain ⟨hp, g, d, tk, os⟩ := s
    wp_walk using wpAny_loadPart' ho, wpAny_loadPart' ho2
    exact ⟨(fun x => nomatch x), rfl, I⟩
end
end GN

/-! ### own == against texts and tuples; lists of instances -/
namespace G
open PySem PySem.Spec PyProof.Rows L2 GN
/-- that the own == of y's type does not come first, for the types that y may have -/
structure NfA (K : PySem.W.Frag) (C : Addr) : Prop where
  own : PySem.W.notFirst K C (.ref C) = true
  int : PySem.W.notFirst K C (.type "int") = true
  str : PySem.W.notFirst K C (.type "str") = true
  tup : PySem.W.notFirst K C (.type "tuple") = true
  ne : NeF K C
def nfAB (c : Str) (K : PySem.W.Frag) : Bool := PySem.W.notFirst K (He.ga K c) (.ref (He.ga K c)) && (PySem.W.notFirst K (He.ga K c) (.type "int") && (PySem.W.notFirst K (He.ga K c) (.type "str") && (PySem.W.notFirst K (He.ga K c) (.type "tuple") && neFB c K)))
theorem nfA_ok {K : PySem.W.Frag} {c : Str} (h : nfAB c K = true) : NfA K (He.ga K c) := by
  unfold nfAB at h
  simp only [Bool.and_eq_true] at h
  exact ⟨h.1, h.2.1, h.2.2.1, h.2.2.2.1, neF_ok h.2.2.2.2⟩
/-- what y may be -/
def OthV (K : PySem.W.Frag) (C : Addr) (y : V) (H : Hp) : Prop := (∃ b dy gs, y = .ref b ∧ H b = some (.ins C dy gs)) ∨ (∃ i, y = .int i) ∨ (∃ z, y = .str z) ∨ ∃ b ts, y = .ref b ∧ SqT K H b ts
def rOwnA (neg : Bool) (K : PySem.W.Frag) (C : Addr) (sp : Sp) : R2 := fun x y H Q => ∃ a dx fs, x = .ref a ∧ H a = some (.ins C dx fs) ∧ OthV K C y H ∧ sp [.ref a, y] H (fun v H' => ∃ t, v = .bl t ∧ Q (.bl (if neg then !t else t)) H') E0
/-- x == y tells r and leaves the heap -/
def OwnE (K : PySem.W.Frag) (C : Addr) (sp : Sp) (H : Hp) (x y : V) (r : Bool) : Prop := ∃ a dx fs, x = .ref a ∧ H a = some (.ins C dx fs) ∧ OthV K C y H ∧ (y = x → r = true ∨ ∃ ts, SqT K H a ts) ∧ sp [.ref a, y] H (fun v H1 => v = .bl r ∧ H1 = H) E0
inductive OwnEs (K : PySem.W.Frag) (C : Addr) (sp : Sp) (H : Hp) : List V → List V → Bool → Prop
  | nil : OwnEs K C sp H [] [] true
  | yes {x y : V} {xs ys : List V} {b : Bool} : OwnE K C sp H x y true → OwnEs K C sp H xs ys b → OwnEs K C sp H (x :: xs) (y :: ys) b
  | no {x y : V} {xs ys : List V} : OwnE K C sp H x y false → xs.length = ys.length → OwnEs K C sp H (x :: xs) (y :: ys) false
def rOwnL (neg : Bool) (K : PySem.W.Frag) (C : Addr) (sp : Sp) : R2 := fun x y H Q => ∃ a b xs ys r, x = .ref a ∧ y = .ref b ∧ SqL K H a xs ∧ SqL K H b ys ∧ (xs.length = ys.length → OwnEs K C sp H xs ys r) ∧ (xs.length ≠ ys.length → r = false) ∧ Q (.bl (if neg then !r else r)) H
section
variable {X : Cx} {n j : Nat} {C : Addr} {sp : Sp} {pins : List (Addr × Obj)} {σ : L2.St} {H : Hp} {A : Around} {s : Shared}
theorem looks_of {M : Model} {a : Addr} {o : Obj} {T : String} (h : s.heap.get? a = some o) (hc : o.cls = .type T) : PySem.W.Looks M s.heap (typeOf (.ref a)) (.type T) := fun _ _ _ s' k q => wpAny_typeOf ⟨o, k _ _ h, hc⟩ q
theorem oth_looks {y : V} {u : Value} (I : Inv X pins σ H s) (nf : NfA X.K C) (hy : OthV X.K C y H) (ry : RelV y u) : ∃ tb, PySem.W.Looks (model X.prog X.w) s.heap (typeOf u) tb ∧ PySem.W.notFirst X.K C tb = true := by
  rcases hy with ⟨b, dy, gs, rfl, hb⟩ | ⟨i, rfl⟩ | ⟨z, rfl⟩ | ⟨b, ts, rfl, hb⟩
  · cases ry
    obtain ⟨mB, J', _⟩ := ins_get I.hok hb
    obtain ⟨od', J', _⟩ := J'.look
    exact ⟨_, J'.type, nf.own⟩
  · exact ⟨_, looks_int ry, nf.int⟩
  · obtain ⟨t, rfl⟩ := ry
    exact ⟨_, PySem.W.Looks.of_pure rfl, nf.str⟩
  · cases ry
    obtain ⟨its, rv, pl, hz⟩ := I.tuple hb
    obtain ⟨o, ho, hc⟩ := (show s.TypeIs (.ref b) "tuple" from Heap.IsTuple.typeIs pl)
    exact ⟨_, looks_of ho hc, nf.tup⟩
theorem op_ownA {op : CmpOp} {neg : Bool} (hop : (op = .Eq ∧ neg = false) ∨ (op = .NotEq ∧ neg = true)) (c : Mt X.prog X.w X.K X.mg X.base n C "__eq__" sp []) (nf : NfA X.K C) (hr : Room j X.A) (hk : n + 1 ≤ j) : OpR X (compareOp op) (rOwnA neg X.K C sp) := by
  intro pins s σ H x y v u Q I rx ry hq
  obtain ⟨a, dx, fs, rfl, ha, hy, hsp⟩ := hq
  cases rx
  obtain ⟨mA, J, _⟩ := ins_get I.hok ha
  obtain ⟨od, J, _⟩ := J.look
  obtain ⟨m, hF⟩ := I.fr
  obtain ⟨tb, hb, hn⟩ := oth_looks I nf hy ry
  rcases hop with ⟨rfl, rfl⟩ | ⟨rfl, rfl⟩
  · obtain ⟨f, hm, hc⟩ := own_call c hr hk I ry hsp X.A (.inl rfl)
    show wpAny (model X.prog X.w) X.A (richCompare .Eq (.ref a) u) (EP X pins σ Q) X.xe s
    refine PySem.W.cmp_K (op := .Eq) (tb := tb) hr.units0 hF I.ok.mod.kin J hb hn hm.at_ hm.fn (wpAny_mono hc (fun r s' z => ?_) fun _ _ e => e)
    obtain ⟨v, H', I', rv, t, rfl, q⟩ := z
    cases rv
    exact ⟨.bl t, H', I', rfl, q⟩
  · obtain ⟨f, hm, hc⟩ := own_call c hr hk I ry hsp X.A.in1 (.inr rfl)
    show wpAny (model X.prog X.w) X.A (richCompare .NotEq (.ref a) u) (EP X pins σ Q) X.xe s
    refine GN.rcNe_V (tb := tb) (hr.mono hk).in1.units0 I.kIn J hb hn nf.ne.1 nf.ne.2 hm.at_ hm.fn (wpAny_mono hc (fun r s' z => ?_) fun _ _ e => e)
    obtain ⟨v, H', I', rv, t, rfl, q⟩ := z
    cases rv
    exact ⟨t, rfl, .bl (!t), H', I', rfl, q⟩
theorem eqV_own {m : Nat} (c : Mt X.prog X.w X.K X.mg X.base n C "__eq__" sp []) (nf : NfA X.K C) (sb : L2.Sub X m A) (hm : n ≤ m) {x y : V} {r : Bool} (h : OwnE X.K C sp H x y r) : EqV X pins σ A H x y r := by
  obtain ⟨a, dx, fs, rfl, ha, hy, hid, hsp⟩ := h
  intro v' u' rv ru s I
  cases rv
  by_cases z : u' = .ref a
  · subst z
    have e : y = .ref a := by
      rcases hy with ⟨b, dy, gs, rfl, _⟩ | ⟨i, rfl⟩ | ⟨q, rfl⟩ | ⟨b, ts, rfl, _⟩
      · cases ru; rfl
      · obtain ⟨t, e⟩ := ru; cases e
      · obtain ⟨t, e⟩ := ru; cases e
      · cases ru; rfl
    rcases hid e with rfl | ⟨ts, ht⟩
    rotate_left
    · obtain ⟨mA, J, _⟩ := ins_get I.hok ha
      obtain ⟨its, rv, pl, hz⟩ := I.tuple ht
      obtain ⟨o, ho, hc⟩ := (show s.TypeIs (.ref a) "tuple" from Heap.IsTuple.typeIs pl)
      rw [J.obj] at ho
      cases ho
      have hc : Value.ref C = .type "tuple" := hc
      cases hc
    unfold eqBool
    exact wpAny_holding (wpAny_ite_split (fun _ => wpAny_bind (wpAny_rule (wpAny_pure ⟨rfl, I⟩))) fun q => absurd (beq_self_eq_true _) q)
  obtain ⟨f, fd, ps, ds, cl, hme, F, bi, d⟩ := c.ex
  cases d
  obtain ⟨mA, J, _⟩ := ins_get I.hok ha
  obtain ⟨od, J, _⟩ := J.look
  obtain ⟨mm, hF⟩ := I.fr
  obtain ⟨tb, hb, hn⟩ := oth_looks I nf hy ru
  have hl := F.len _ _ _ _ hsp
  have e0 : Env0 X.prog X.w X.K X.mg X.base A X.stack s H := by
    have e := I.env0
    exact ⟨by rw [sb.fr]; exact e.frames, e.mod, e.bs, e.bsz, e.funs, e.frf, e.hok, e.bare⟩
  have b2 := bi s [.ref a, u'] I.kIn (by simpa using hl)
  rw [List.append_nil] at b2
  have r2 : Vals [V.ref a, y] [Value.ref a, u'] := .cons rfl (.cons ru .nil)
  unfold eqBool
  refine wpAny_holding (wpAny_ite_split (fun q => absurd (by simpa using q) (fun q => z (Eq.symm q))) fun _ => ?_)
  refine wpAny_bind (PySem.W.cmp_K (op := .Eq) (tb := tb) sb.room.units0 hF I.ok.mod.kin J hb hn hme.at_ hme.fn ?_)
  refine wpAny_call (codeAny_mono (F.run A X.stack s H ⟨[.ref a, u'], []⟩ [.ref a, u'] [.ref a, y] _ E0 (sb.room.mono hm) e0 b2 r2 hsp) fun res s' hq => ?_)
  cases res with
  | error e => exact (passL (X := X)) pins σ H s e s' I hq
  | ok fl =>
    cases fl with
    | ret w =>
      obtain ⟨w1, H', I', rz, rfl, eH⟩ := I.after hq
      cases rz
      subst eH
      exact wpAny_truthy_bool ⟨rfl, I'⟩
    | next => exact hq.elim
    | brk => exact hq.elim
    | cont => exact hq.elim
theorem eqVs_own {m : Nat} (c : Mt X.prog X.w X.K X.mg X.base n C "__eq__" sp []) (nf : NfA X.K C) (sb : L2.Sub X m A) (hm : n ≤ m) {xs ys : List V} {r : Bool} (h : OwnEs X.K C sp H xs ys r) : EqVs X pins σ A H xs ys r := by
  induction h with
  | nil => exact .nil
  | yes h1 _ ih => exact .yes (eqV_own c nf sb hm h1) ih
  | no h1 e => exact .no (eqV_own c nf sb hm h1) e
theorem op_ownL {op : CmpOp} {neg : Bool} (hop : (op = .Eq ∧ neg = false) ∨ (op = .NotEq ∧ neg = true)) (c : Mt X.prog X.w X.K X.mg X.base n C "__eq__" sp []) (nf : NfA X.K C) (hr : Room j X.A) (hk : n + 2 ≤ j) : OpR X (compareOp op) (rOwnL neg X.K C sp) := by
  intro pins s σ H x y v u Q I rx ry hq
  obtain ⟨a, b, xs, ys, r, rfl, rfl, ha, hb, h1, h2, q⟩ := hq
  cases rx
  cases ry
  have sb : L2.Sub X (n + 2) X.A := ⟨hr.mono hk, rfl⟩
  rcases hop with ⟨rfl, rfl⟩ | ⟨rfl, rfl⟩
  · show wpAny (model X.prog X.w) X.A (richCompare .Eq (.ref a) (.ref b)) (EP X pins σ Q) X.xe s
    refine wpAny_mono (rcI_eq I ha hb sb.room.units0 (fun e => eqVs_own c nf (m := n + 1) sb.in1 (Nat.le_succ n) (h1 e)) h2) (fun w s' z => ?_) fun _ _ z => z
    obtain ⟨rfl, I'⟩ := z
    exact ⟨.bl r, H, I', rfl, q⟩
  · show wpAny (model X.prog X.w) X.A (richCompare .NotEq (.ref a) (.ref b)) (EP X pins σ Q) X.xe s
    refine wpAny_mono (rcI_ne I ha hb sb.room.units0 (fun e => eqVs_own c nf (m := n + 1) sb.in1 (Nat.le_succ n) (h1 e)) h2) (fun w s' z => ?_) fun _ _ z => z
    obtain ⟨rfl, I'⟩ := z
    exact ⟨.bl (!r), H, I', rfl, q⟩
end
end G

/-! ### comprehensions with several fors -/
namespace G
open PySem PySem.Spec PyProof.Rows PySem.W L2
theorem wipe_out {σ : L2.St} {i : Nat} : ∀ {vs : List Nat}, i ∉ vs → (wipe σ vs)[i]? = σ[i]?
  | [], _ => rfl
  | v :: vs, h => by
    rw [List.mem_cons, not_or] at h
    unfold wipe
    rw [List.getElem?_set_ne (fun z => h.1 z.symm)]
    exact wipe_out h.2
/-- one turn of a for in a comprehension: EM is what is done for an item that passes, ahead of the next turn -/
def turnOf (tg : Expr) (p : Pos) (ifs : List Expr) (EM : Sem Fin → Sem Fin) (c : Code) (it : Value) (env : Env) : Sem Fin := do
  standAt p
  match ← pyNext it with
  | none => pure (.done .next)
  | some v =>
    letOwnedTupleGo tg it v; assign tg env v
    let ok ← forIn ifs true fun t r => if r = true then (do let ok ← isTrue t env (eval t env); pure (ForInStep.yield ok)) else pure (ForInStep.yield r)
    if ok = true then EM (again c) else again c
/-- the code that starts the next for -/
def nextFor (iter : Expr) (e : Expr) (d : Nat) (acc : Value) (env : Env) (k : Sem Fin) : Sem Fin := do
  let x ← eval iter env; standAt iter.pos; let x ← foldedSetIterable iter env x
  let y ← holding [x] (pyIter x)
  let _ ← runOwn (.compStart e d y acc env) env
  k
/-- what a dict comprehension does for each item -/
def putD (kx vx : Expr) (D : Addr) (env : Env) : Sem Unit := do
  let kv ← eval kx env
  let vv ← holding [kv] (eval vx env)
  standAt { kx.pos with endLine := vx.pos.endLine, endCol := vx.pos.endCol }
  holding [kv, vv] (dictSet D kv vv)
theorem turn30 {kx vx t0 i0 t1 i1 t2 i2 : Expr} {f0 f1 f2 : List Expr} {scope : Scope} {pos : Pos} {it acc : Value} {env : Env} :
    compTurn (.DictComp kx vx [⟨t0, i0, f0, 0⟩, ⟨t1, i1, f1, 0⟩, ⟨t2, i2, f2, 0⟩] scope pos) 0 it acc env = turnOf t0 i0.pos f0 (nextFor i1 (.DictComp kx vx [⟨t0, i0, f0, 0⟩, ⟨t1, i1, f1, 0⟩, ⟨t2, i2, f2, 0⟩] scope pos) 1 acc env) (.compLoop (.DictComp kx vx [⟨t0, i0, f0, 0⟩, ⟨t1, i1, f1, 0⟩, ⟨t2, i2, f2, 0⟩] scope pos) 0 it acc env) it env := rfl
theorem turn31 {kx vx t0 i0 t1 i1 t2 i2 : Expr} {f0 f1 f2 : List Expr} {scope : Scope} {pos : Pos} {it acc : Value} {env : Env} :
    compTurn (.DictComp kx vx [⟨t0, i0, f0, 0⟩, ⟨t1, i1, f1, 0⟩, ⟨t2, i2, f2, 0⟩] scope pos) 1 it acc env = turnOf t1 i1.pos f1 (nextFor i2 (.DictComp kx vx [⟨t0, i0, f0, 0⟩, ⟨t1, i1, f1, 0⟩, ⟨t2, i2, f2, 0⟩] scope pos) 2 acc env) (.compLoop (.DictComp kx vx [⟨t0, i0, f0, 0⟩, ⟨t1, i1, f1, 0⟩, ⟨t2, i2, f2, 0⟩] scope pos) 1 it acc env) it env := rfl
theorem turn32 {kx vx t0 i0 t1 i1 t2 i2 : Expr} {f0 f1 f2 : List Expr} {scope : Scope} {pos : Pos} {it : Value} {D : Addr} {env : Env} :
    compTurn (.DictComp kx vx [⟨t0, i0, f0, 0⟩, ⟨t1, i1, f1, 0⟩, ⟨t2, i2, f2, 0⟩] scope pos) 2 it (.ref D) env = turnOf t2 i2.pos f2 (fun k => do putD kx vx D env; k) (.compLoop (.DictComp kx vx [⟨t0, i0, f0, 0⟩, ⟨t1, i1, f1, 0⟩, ⟨t2, i2, f2, 0⟩] scope pos) 2 it (.ref D) env) it env := rfl
/-- what a for asks of its items, in a comprehension -/
def LpC (J : It) (g : TG) (tt : TT) (BD : L2.St → Hp → (Hp → Prop) → Prop) (σ : L2.St) (vs : List Nat) (H1 : Hp) (Dn : Hp → Prop) : Prop := ∃ W : Nat → Nat → Hp → Prop, (∃ m, W 0 m H1) ∧ ∀ i m H, W i m H →
  (J.stop i H ∧ Dn H) ∨ (J.go i H ∧ ∃ Nx : Hp → Prop, (∀ H', Nx H' → ∃ m', m' < m ∧ W (i + 1) m' H') ∧ ∀ x H', J.yld i H x H' → g x (wipe σ vs) H' fun σ2 H2 => wipe σ2 vs = wipe σ vs ∧ tt σ2 H2 fun b H3 => if b = true then BD σ2 H3 Nx else Nx H3)
section
variable {Y : Cx} {pins : List (Addr × Obj)} {s : Shared} {σ : L2.St} {H1 : Hp} {tg kx vx : Expr} {gens : List Comprehension} {scope : Scope} {pos : Pos} {ifs : List Expr} {g : TG} {tt : TT} {BD : L2.St → Hp → (Hp → Prop) → Prop} {vs vE : List Nat} {Dn : Hp → Prop} {R : Result → Shared → Prop} {d : Nat} {acc : Value} {p : Pos} {EM : Sem Fin → Sem Fin} {it : Addr} {fp : List Addr} {tn : Nat → Heap → Prop} {J : It}
theorem loop_mid (hc : Y.calm = true) (hx : ∀ e s, Y.xe e s → False) (hturn : compTurn (.DictComp kx vx gens scope pos) d (.ref it) acc Y.env = turnOf tg p ifs EM (.compLoop (.DictComp kx vx gens scope pos) d (.ref it) acc Y.env) (.ref it) Y.env) (hg : PG Y tg g) (ht : PTs Y ifs tt) (hv : ∀ i ∈ vE, i ∈ vs)
    (hEM : ∀ (pins : List (Addr × Obj)) (s : Shared) (σ : L2.St) (H : Hp) (Nx : Hp → Prop), Inv Y pins σ H s → BD σ H Nx → ∀ (k : Sem Fin) (Q : Fin → Shared → Prop) (E : Value → Shared → Prop), (∀ s' H', Inv Y pins (wipe σ vE) H' s' → Nx H' → wpAny (model Y.prog Y.w) Y.A k Q E s') → wpAny (model Y.prog Y.w) Y.A (EM k) Q E s)
    (I : Inv Y pins σ H1 s) (T : L2.Turn Y.prog Y.w Y.K tg J fp it tn) (st : tn 0 s.heap) (f : ∀ b ∈ fp, FpOk Y pins H1 b) (h : LpC J g tt BD σ vs H1 Dn)
    (hR : ∀ s' H', Inv Y pins (wipe σ vs) H' s' → Dn H' → R (.ok .next) s') : codeAny (model Y.prog Y.w) Y.A (.compLoop (.DictComp kx vx gens scope pos) d (.ref it) acc Y.env) R s := by
  obtain ⟨W, ⟨m0, w0⟩, turn⟩ := h
  refine codeAny_loop rfl (fun n s' => ∃ i H', Inv Y pins (wipe σ vs) H' s' ∧ tn i s'.heap ∧ (∀ b ∈ fp, H' b = none) ∧ W i n H') (fun n s5 hI => ?_) m0 ⟨0, H1, I.weak (wipe_length σ vs) (fun j v q => (wipe_some q).1), st, fun b hb => (f b hb).1, w0⟩
  obtain ⟨i, H5, I5, st5, n5, w5⟩ := hI
  have stat : ∀ {H' : Hp}, (∀ b ∈ fp, H' b = none) → ∀ b ∈ fp, FpOk Y pins H' b := fun hn b hb => ⟨hn b hb, (f b hb).2⟩
  show wpAny _ Y.A ((compTurn (.DictComp kx vx gens scope pos) d (.ref it) acc Y.env).onRaise fun x => do noteFrame x Y.env; theTreesLotGoes x) _ _ s5
  refine wpAny_noted ?_
  rw [hturn]
  unfold turnOf
  refine wpAny_bind (wpAny_standAt ?_)
  rcases turn i n H5 w5 with ⟨stop, dn⟩ | ⟨go, Nx, hNx, step⟩
  · refine wpAny_bind (thnF (T.done Y rfl rfl rfl hc i pins s5 _ H5 (fun _ _ => False) I5 (stat n5) st5 stop) fun r s6 ⟨er, I6⟩ => ?_)
    subst er
    exact wpAny_pure (hR s6 H5 I6 dn)
  · refine wpAny_bind (thnF (T.item Y rfl rfl rfl hc i pins s5 _ H5 (fun _ _ => False) I5 (stat n5) st5 go) fun r s6 ⟨u, er, h6⟩ => ?_)
    subst er
    refine wpAny_bind (thnF h6 fun _ s7 ⟨x, H7, I7, r7, y7, st7, n7⟩ => ?_)
    have I7p := I7.pinned (stat n7) (T.obj _ _ st7)
    refine wpAny_bind (wpAny_mono (hg.run _ s7 _ H7 x u _ I7p r7 (step x H7 y7)) (fun _ s8 q => ?_) fun e s z => (hx e s z).elim)
    obtain ⟨σ8, H8, I8, hw8, q8⟩ := q
    refine wpAny_bind (wpAny_mono (ht.run _ s8 σ8 H8 _ I8 q8) (fun b s9 q => ?_) fun e s z => (hx e s z).elim)
    obtain ⟨H9, I9, q9⟩ := q
    have fin : ∀ {s' : Shared} {H' : Hp} {vE : List Nat}, (∀ i ∈ vE, i ∈ vs) → Inv Y (pins ++ pinsAt fp s7.heap) (wipe σ8 vE) H' s' → Nx H' → ∃ m, m < n ∧ ∃ i H', Inv Y pins (wipe σ vs) H' s' ∧ tn i s'.heap ∧ (∀ b ∈ fp, H' b = none) ∧ W i m H' := fun {s' H' vE} hv I' nx => by
      obtain ⟨m', hm, w'⟩ := hNx H' nx
      have there : ∀ b ∈ fp, ∀ o, s7.heap.get? b = some o → s'.heap.get? b = some o ∧ H' b = none := fun b hb o q => by
        have z := I'.pin (b, o) (List.mem_append_right _ (List.mem_append_right _ (mem_pinsAt hb q)))
        exact ⟨z.1, z.2.1⟩
      have hl : (wipe σ vs).length = (wipe σ8 vE).length := by rw [wipe_length, wipe_length, ← wipe_length σ vs, ← hw8, wipe_length]
      refine ⟨m', hm, i + 1, H', I'.unpinned.weak hl (fun j v q => ?_), T.keep _ _ _ st7 fun b hb o q => (there b hb o q).1, fun b hb => ?_, w'⟩
      · rw [← hw8] at q
        obtain ⟨q1, q2⟩ := wipe_some q
        rw [wipe_out fun z => q2 (hv j z)]
        exact q1
      · obtain ⟨o, q, _⟩ := T.obj _ _ st7 b hb
        exact (there b hb o q).2
    cases b with
    | false =>
      simp only [Bool.false_eq_true, if_false] at q9 ⊢
      refine wpAny_pure ⟨rfl, ?_⟩
      exact fin (vE := []) (fun _ z => nomatch z) I9 q9
    | true =>
      simp only [if_true] at q9 ⊢
      refine hEM _ s9 σ8 H9 Nx I9 q9 _ _ _ fun s10 H10 I10 nx => wpAny_pure ⟨rfl, ?_⟩
      exact fin hv I10 nx
theorem start_any {kx vx : Expr} {gens : List Comprehension} {tg iter : Expr} {ifs : List Expr} {scope : Scope} {pos : Pos} {d : Nat} {P : Program} {w : World} {A : Around} {R : Result → Shared → Prop} {s : Shared} {itv acc : Value} {env : Env} (hd : gens[d]? = some ⟨tg, iter, ifs, 0⟩)
    (h0 : codeAny (model P w) A (.compLoop (.DictComp kx vx gens scope pos) d itv acc env) R s)
    (h : wpAny (model P w) A (pyIter itv) (fun it' s' => codeAny (model P w) A (.compLoop (.DictComp kx vx gens scope pos) d it' acc env) R s') (notedBy (model P w) A env fun x s' => R (.error x) s') s) :
    codeAny (model P w) A (.compStart (.DictComp kx vx gens scope pos) d itv acc env) R s := by
  refine codeAny_of_tree ?_
  show wpAny _ A ((compStart (.DictComp kx vx gens scope pos) d itv acc env).onRaise (fun x => do noteFrame x env; standAt theWindowsPlace)) _ _ s
  refine wpAny_notedAt ?_
  have hcl : (clausesOf (.DictComp kx vx gens scope pos))[d]? = some ⟨tg, iter, ifs, 0⟩ := hd
  unfold compStart
  rw [hcl]
  show wpAny _ A (ask >>= _) _ _ s
  refine wpAny_bind (wpAny_askSetting (wpAny_ite ?_))
  split
  · first
      | exact wpAny_bind (wpAny_pure (wpAny_pure ⟨rfl, h0⟩))
      | exact wpAny_pure ⟨rfl, h0⟩
  · refine wpAny_bind (wpAny_rule ?_)
    show wpAny _ _ (standAt iter.pos >>= _) _ _ s
    exact wpAny_bind (wpAny_standAt (wpAny_bind (wpAny_mono h (fun it' s' h' => wpAny_pure ⟨rfl, h'⟩) fun _ _ x => x)))
/-- the next for, as what is done for an item -/
theorem em_next {iter' tg' : Expr} {ifs' : List Expr} {wi' : TI} {g' : TG} {tt' : TT} {BD' : L2.St → Hp → (Hp → Prop) → Prop} {ws : List Nat} {kx vx : Expr} {gens : List Comprehension} {scope : Scope} {pos : Pos} (hx : ∀ e s, Y.xe e s → False) (hd : gens[d]? = some ⟨tg', iter', ifs', 0⟩) (hi : L2.PI Y tg' iter' wi') (hs : ∀ x, foldedSetIterable iter' Y.env x = pure x)
    (inner : ∀ (pins : List (Addr × Obj)) (s : Shared) (σ : L2.St) (H1 : Hp) (J : It) (it : Addr) (fp : List Addr) (tn : Nat → Heap → Prop) (Dn : Hp → Prop) (R : Result → Shared → Prop), Inv Y pins σ H1 s → L2.Turn Y.prog Y.w Y.K tg' J fp it tn → tn 0 s.heap → (∀ b ∈ fp, FpOk Y pins H1 b) → LpC J g' tt' BD' σ ws H1 Dn →
      (∀ s' H', Inv Y pins (wipe σ ws) H' s' → Dn H' → R (.ok .next) s') → codeAny (model Y.prog Y.w) Y.A (.compLoop (.DictComp kx vx gens scope pos) d (.ref it) acc Y.env) R s)
    (pins : List (Addr × Obj)) (s : Shared) (σ : L2.St) (H : Hp) (Nx : Hp → Prop) (I : Inv Y pins σ H s) (h : wi' σ H fun J H1 => LpC J g' tt' BD' σ ws H1 Nx) (k : Sem Fin) (Q : Fin → Shared → Prop) (E : Value → Shared → Prop) (hk : ∀ s' H', Inv Y pins (wipe σ ws) H' s' → Nx H' → wpAny (model Y.prog Y.w) Y.A k Q E s') :
    wpAny (model Y.prog Y.w) Y.A (nextFor iter' (.DictComp kx vx gens scope pos) d acc Y.env k) Q E s := by
  unfold nextFor
  refine wpAny_bind (wpAny_mono (hi.run pins s σ H _ I h) (fun xv s1 h1 => ?_) fun e s z => (hx e s z).elim)
  refine wpAny_bind (wpAny_standAt ?_)
  rw [hs]
  refine wpAny_bind (wpAny_pure ?_)
  refine wpAny_bind (wpAny_holding (wpAny_mono h1 (fun itv s2 h2 => ?_) fun e s z => (hx e s z).elim))
  obtain ⟨it, fp, tn, J, H2, e2, I2, T, st2, f2, q⟩ := h2
  subst e2
  have loop := inner pins s2 σ H2 J it fp tn Nx (fun r s' => match r with | .ok f => wpAny (model Y.prog Y.w) Y.A k Q E s' | .error e => cameBackBy (model Y.prog Y.w) Y.A Y.env E e s') I2 T st2 f2 q fun s' H' I' nx => hk s' H' I' nx
  exact wpAny_bind (wpAny_runOwn (start_any hd loop (T.self Y.A 0 _ _ _ st2 loop)))
/-- a pair is put -/
theorem em_put {kx vx : Expr} {tk tv : TE} {D : Addr} (hx : ∀ e s, Y.xe e s → False) (hk : PE Y kx tk) (hv : PE Y vx tv)
    (pins : List (Addr × Obj)) (s : Shared) (σ : L2.St) (H : Hp) (Nx : Hp → Prop) (I : Inv Y pins σ H s) (h : tk σ H fun y H4 => tv σ H4 fun z H5 => PutDK D y z H5 Nx) (k : Sem Fin) (Q : Fin → Shared → Prop) (E : Value → Shared → Prop) (hn : ∀ s' H', Inv Y pins (wipe σ []) H' s' → Nx H' → wpAny (model Y.prog Y.w) Y.A k Q E s') :
    wpAny (model Y.prog Y.w) Y.A (do putD kx vx D Y.env; k) Q E s := by
  unfold putD
  refine wpAny_bind (wpAny_bind (wpAny_mono (hk.run pins s σ H _ I h) (fun u s1 q => ?_) fun e s z => (hx e s z).elim))
  obtain ⟨y, H4, I4, r4, q4⟩ := q
  refine wpAny_bind (wpAny_holding (wpAny_mono (hv.run pins s1 σ H4 _ I4 q4) (fun u2 s2 q => ?_) fun e s z => (hx e s z).elim))
  obtain ⟨z, H5, I5, r5, kvs, kk, ek, hD, hz, nx⟩ := q
  subst ek
  refine wpAny_bind (wpAny_standAt (wpAny_holding ?_))
  exact d_dictSet I5 hD hz r4 r5 fun s3 I3 => hn s3 _ I3 nx
end
theorem wipe_twice {σ : L2.St} {vs : List Nat} : wipe (wipe σ vs) vs = wipe σ vs := by
  refine List.ext_getElem? fun i => ?_
  by_cases h : i ∈ vs
  · cases e : (wipe σ vs)[i]? with
    | none =>
      have hl : (wipe (wipe σ vs) vs).length = (wipe σ vs).length := wipe_length _ _
      rw [List.getElem?_eq_none_iff] at e ⊢
      omega
    | some v =>
      have hl : (wipe (wipe σ vs) vs).length = (wipe σ vs).length := wipe_length _ _
      have hi : i < (wipe σ vs).length := by
        rcases Nat.lt_or_ge i (wipe σ vs).length with z | z
        · exact z
        · rw [List.getElem?_eq_none z] at e; exact nomatch e
      have e2 : (wipe (wipe σ vs) vs)[i]? = some ((wipe (wipe σ vs) vs)[i]'(by omega)) := List.getElem?_eq_getElem _
      cases v with
      | none =>
        cases z : (wipe (wipe σ vs) vs)[i]'(by omega) with
        | none => rw [e2, z]
        | some u => exact absurd h (wipe_some (σ := wipe σ vs) (vs := vs) (by rw [e2, z])).2
      | some u => exact absurd h (wipe_some e).2
  · exact wipe_out h
theorem LpC.wiped {J : It} {g : TG} {tt : TT} {BD : L2.St → Hp → (Hp → Prop) → Prop} {σ : L2.St} {vs : List Nat} {H : Hp} {Dn : Hp → Prop} (h : LpC J g tt BD σ vs H Dn) : LpC J g tt BD (wipe σ vs) vs H Dn := by
  unfold LpC at h ⊢
  rw [wipe_twice]
  exact h
section
variable {X : Cx}
/-- a dict comprehension with several fors: the outermost one -/
theorem dc_outer {pins : List (Addr × Obj)} {s : Shared} {σ : L2.St} {H : Hp} {Q : VK} {kx vx tg iter : Expr} {ifs : List Expr} {rest : List Comprehension} {scope : Scope} {own : List (Str × Nat)} {pos pos' : Pos} {wi : TI} {g : TG} {tt : TT} {BD : Addr → L2.St → Hp → (Hp → Prop) → Prop} {EM : Addr → Env → Sem Fin → Sem Fin} {vE : List Nat} {o0 : HO} {use : Option (Value → Sem Unit)} {Qf : Value → Shared → Prop}
    (hc : X.calm = true) (ho : ∀ (H : Hp) (h : Heap), sysModules < h.objs.size → ObjOk X.prog X.w H (h.push { cls := .type "dict", data := .dict #[] }) h.objs.size o0) (hN : X.N.Nodup) (I : Inv X pins σ H s) (hi : L2.PI X tg iter wi) (ok : BlkOk X.N X.env.scope scope own) (hv : ∀ i ∈ vE, i ∈ own.map (·.2))
    (hg : ∀ (s : Shared) (H : Hp) (C : Addr) (cl : List (Str × Addr)) (fp : List Addr), PG (X.blk s H scope (compEnvC scope cl C X.env) fp) tg g)
    (ht : ∀ (s : Shared) (H : Hp) (C : Addr) (cl : List (Str × Addr)) (fp : List Addr), PTs (X.blk s H scope (compEnvC scope cl C X.env) fp) ifs tt)
    (hturn : ∀ (D it : Addr) (env : Env), compTurn (.DictComp kx vx (⟨tg, iter, ifs, 0⟩ :: rest) scope pos) 0 (.ref it) (.ref D) env = turnOf tg iter.pos ifs (EM D env) (.compLoop (.DictComp kx vx (⟨tg, iter, ifs, 0⟩ :: rest) scope pos) 0 (.ref it) (.ref D) env) (.ref it) env)
    (hEM : ∀ (D : Addr) (s : Shared) (H : Hp) (C : Addr) (cl : List (Str × Addr)) (fp : List Addr) (pins : List (Addr × Obj)) (s' : Shared) (σ : L2.St) (H' : Hp) (Nx : Hp → Prop), Inv (X.blk s H scope (compEnvC scope cl C X.env) fp) pins σ H' s' → BD D σ H' Nx → ∀ (k : Sem Fin) (Q : Fin → Shared → Prop) (E : Value → Shared → Prop),
      (∀ s2 H2, Inv (X.blk s H scope (compEnvC scope cl C X.env) fp) pins (wipe σ vE) H2 s2 → Nx H2 → wpAny (model X.prog X.w) X.A k Q E s2) → wpAny (model X.prog X.w) X.A (EM D (compEnvC scope cl C X.env) k) Q E s')
    (hs : ∀ x, foldedSetIterable iter X.env x = pure x) (h : wi σ H fun J H1 => ∀ D, H1 D = none → LpC J g tt (BD D) σ (own.map (·.2)) (upd H1 D o0) (Q (.ref D)))
    (hend : ∀ D C s' m H', Inv X pins σ H' s' → Q (.ref D) H' → s'.heap.Ns C m → FpOk X pins H' C → compPost (model X.prog X.w) X.A X.xe use Qf (.ref D) C (.ok .next) s') :
    wpAny (model X.prog X.w) X.A (comprehension (.DictComp kx vx (⟨tg, iter, ifs, 0⟩ :: rest) scope pos) scope X.env pos' newDict false (eval iter X.env) use) Qf X.xe s := by
  have seen : ∀ y ∈ scope.names, y.2 = .free → ∃ c, X.env.cells.lookup y.1 = some c := fun y hy e => (ok.free y hy e).elim (fun k => I.ok.has _ (.inl k)) fun k => I.ok.has _ (.inr k)
  refine wpAny_comprehension_free (use := use) rfl hs (closure_ok seen) ok.kind (fun y hy e => by rw [ok.uniq y hy, e]) (thn (hi.run pins s σ H _ I h) fun xv s1 hx => thn hx fun itv s2 h2 => ?_)
  obtain ⟨it, fp, tn, J, H2, e2, I2, T, st2, f2, q⟩ := h2
  subst e2
  refine wpAny_newObj_type (newEnv_comp ?_)
  generalize eD : s2.heap.objs.size = D
  have q1 := q D (I2.hok.fresh (Nat.le_of_eq eD))
  generalize e3 : ({ s2 with heap := s2.heap.push { cls := .type "dict", data := .dict #[] } } : Shared) = s3
  have I3 : Inv X pins σ (upd H2 D o0) s3 := by
    subst e3
    exact I2.laid (t' := s2.toks) (fun b o e => Heap.get?_push_of_some _ e) (Nat.le_of_eq eD) (by rw [← eD]; exact ho _ s2.heap I2.big)
  have h3 : s3.heap = s2.heap.push { cls := .type "dict", data := .dict #[] } := by subst e3; rfl
  have f3 : ∀ b ∈ fp, FpOk X pins (upd H2 D o0) b ∧ b < s3.heap.objs.size := fun b hb => by
    obtain ⟨o, e, _⟩ := T.obj _ _ st2 b hb
    have lt : b < s2.heap.objs.size := Heap.lt_size e
    exact ⟨⟨(upd_ne (by rw [← eD]; exact Nat.ne_of_lt lt)).trans (f2 b hb).1, (f2 b hb).2⟩, by rw [h3, Heap.size_push]; exact Nat.lt_succ_of_lt lt⟩
  have st3 : tn 0 s3.heap := T.keep _ _ _ st2 fun b _ o e => by rw [h3]; exact Heap.get?_push_of_some _ e
  have I4 := block_start I3 ok hN f3
  have pg := hg s3 (upd H2 D o0) s3.heap.objs.size (cellsFrom (s3.heap.objs.size + 1) scope.names (cloFrom X.env.cells scope.names [])) fp
  have pt := ht s3 (upd H2 D o0) s3.heap.objs.size (cellsFrom (s3.heap.objs.size + 1) scope.names (cloFrom X.env.cells scope.names [])) fp
  have pm := hEM D s3 (upd H2 D o0) s3.heap.objs.size (cellsFrom (s3.heap.objs.size + 1) scope.names (cloFrom X.env.cells scope.names [])) fp
  show codeAny _ _ (.compStart (.DictComp kx vx (⟨tg, iter, ifs, 0⟩ :: rest) scope pos) 0 (.ref it) (.ref D) (compEnvC scope (cellsFrom (s3.heap.objs.size + 1) scope.names (cloFrom X.env.cells scope.names [])) s3.heap.objs.size X.env)) (compPost (model X.prog X.w) X.A X.xe use Qf (.ref D) s3.heap.objs.size) { s3 with heap := pushCells (s3.heap.push { cls := .type "dict", data := .dict #[] }) scope.names }
  generalize ece : compEnvC scope (cellsFrom (s3.heap.objs.size + 1) scope.names (cloFrom X.env.cells scope.names [])) s3.heap.objs.size X.env = ce at I4 pg pt pm ⊢
  have cL : ce.locals = s3.heap.objs.size := by subst ece; rfl
  generalize eH : upd H2 D o0 = H3 at I3 I4 pg pt pm q1 f3
  generalize e4 : ({ s3 with heap := pushCells (s3.heap.push { cls := .type "dict", data := .dict #[] }) scope.names } : Shared) = s4 at I4 ⊢
  have st4 : tn 0 s4.heap := T.keep _ _ _ st3 fun b _ o e => by subst e4; exact pushCells_keeps _ _ _ _ (Heap.get?_push_of_some _ e)
  have fb : ∀ b ∈ fp, FpOk (X.blk s3 H3 scope ce fp) [] H3 b := fun b hb => ⟨(f3 b hb).1.1, (I4.ok.exf b hb).1, I4.ok.exfs b hb, .inl hb, fun x c e => (I4.ok.exf b hb).2 x c e, fun p hp => absurd (show p ∈ ([] : List (Addr × Obj)) ++ [] from hp) (by simp)⟩
  have loop := loop_mid (Y := X.blk s3 H3 scope ce fp) (R := compPost (model X.prog X.w) X.A X.xe use Qf (.ref D) s3.heap.objs.size) (Dn := Q (.ref D)) (BD := BD D) hc (fun _ _ z => z) (hturn D it ce) pg pt hv pm I4 T st4 fb q1.wiped fun s6 H6 I6 dn => by
    have I7 : Inv X pins σ H6 s6 := I3.call' (ch := fp) I6.os I6.base I6.hok I6.bare fun b hb => ⟨(f3 b hb).1.2.2.2.1, (f3 b hb).1.2.1, (f3 b hb).1.2.2.2.2.1, (f3 b hb).1.2.2.2.2.2⟩
    have nC : H6 ce.locals = none := I6.free
    obtain ⟨m, (hn : s6.heap.Ns ce.locals m), _⟩ := I6.loc
    rw [cL] at nC hn
    exact hend D s3.heap.objs.size s6 m H6 I7 dn hn (I3.fpOk (Nat.le_refl _) nC)
  exact start_any rfl loop (T.self X.A 0 _ _ _ st4 loop)
/-- a further for, as what is done for an item of the for around it -/
def BdN (wi : TI) (g : TG) (tt : TT) (vs : List Nat) (BD : L2.St → Hp → (Hp → Prop) → Prop) : L2.St → Hp → (Hp → Prop) → Prop := fun σ H Nx => wi σ H fun J H1 => LpC J g tt BD σ vs H1 Nx
/-- the pair that is put -/
def BdP (tk tv : TE) (D : Addr) : L2.St → Hp → (Hp → Prop) → Prop := fun σ H Nx => tk σ H fun y H4 => tv σ H4 fun z H5 => PutDK D y z H5 Nx
/-- {k: v for .. for .. for ..} -/
def tDc3 (wi : TI) (g : TG) (tt : TT) (vs : List Nat) (wi1 : TI) (g1 : TG) (tt1 : TT) (v1 : List Nat) (wi2 : TI) (g2 : TG) (tt2 : TT) (v2 : List Nat) (tk tv : TE) : TE := fun σ H Q => wi σ H fun J H1 => ∀ D, H1 D = none → LpC J g tt (BdN wi1 g1 tt1 v1 (BdN wi2 g2 tt2 v2 (BdP tk tv D))) σ vs (upd H1 D (.dK [])) (Q (.ref D))
theorem pe_dc3 {kx vx t0 i0 t1 i1 t2 i2 : Expr} {f0 f1 f2 : List Expr} {scope : Scope} {own : List (Str × Nat)} {pos : Pos} {wi0 wi1 wi2 : TI} {g0 g1 g2 : TG} {tt0 tt1 tt2 : TT} {v1 v2 : List Nat} {tk tv : TE} (hc : X.calm = true) (hN : X.N.Nodup) (ok : BlkOk X.N X.env.scope scope own) (hv1 : ∀ i ∈ v1, i ∈ own.map (·.2)) (hv2 : ∀ i ∈ v2, i ∈ v1) (hi : L2.PI X t0 i0 wi0)
    (hg : ∀ (s : Shared) (H : Hp) (C : Addr) (cl : List (Str × Addr)) (fp : List Addr), PG (X.blk s H scope (compEnvC scope cl C X.env) fp) t0 g0) (ht : ∀ (s : Shared) (H : Hp) (C : Addr) (cl : List (Str × Addr)) (fp : List Addr), PTs (X.blk s H scope (compEnvC scope cl C X.env) fp) f0 tt0)
    (hi1 : ∀ (s : Shared) (H : Hp) (C : Addr) (cl : List (Str × Addr)) (fp : List Addr), L2.PI (X.blk s H scope (compEnvC scope cl C X.env) fp) t1 i1 wi1) (hg1 : ∀ (s : Shared) (H : Hp) (C : Addr) (cl : List (Str × Addr)) (fp : List Addr), PG (X.blk s H scope (compEnvC scope cl C X.env) fp) t1 g1) (ht1 : ∀ (s : Shared) (H : Hp) (C : Addr) (cl : List (Str × Addr)) (fp : List Addr), PTs (X.blk s H scope (compEnvC scope cl C X.env) fp) f1 tt1)
    (hi2 : ∀ (s : Shared) (H : Hp) (C : Addr) (cl : List (Str × Addr)) (fp : List Addr), L2.PI (X.blk s H scope (compEnvC scope cl C X.env) fp) t2 i2 wi2) (hg2 : ∀ (s : Shared) (H : Hp) (C : Addr) (cl : List (Str × Addr)) (fp : List Addr), PG (X.blk s H scope (compEnvC scope cl C X.env) fp) t2 g2) (ht2 : ∀ (s : Shared) (H : Hp) (C : Addr) (cl : List (Str × Addr)) (fp : List Addr), PTs (X.blk s H scope (compEnvC scope cl C X.env) fp) f2 tt2)
    (hk : ∀ (s : Shared) (H : Hp) (C : Addr) (cl : List (Str × Addr)) (fp : List Addr), PE (X.blk s H scope (compEnvC scope cl C X.env) fp) kx tk) (he : ∀ (s : Shared) (H : Hp) (C : Addr) (cl : List (Str × Addr)) (fp : List Addr), PE (X.blk s H scope (compEnvC scope cl C X.env) fp) vx tv)
    (hs : ∀ env x, foldedSetIterable i0 env x = pure x := by intro _ _; rfl) (hs1 : ∀ env x, foldedSetIterable i1 env x = pure x := by intro _ _; rfl) (hs2 : ∀ env x, foldedSetIterable i2 env x = pure x := by intro _ _; rfl) :
    PE X (.DictComp kx vx [⟨t0, i0, f0, 0⟩, ⟨t1, i1, f1, 0⟩, ⟨t2, i2, f2, 0⟩] scope pos) (tDc3 wi0 g0 tt0 (own.map (·.2)) wi1 g1 tt1 v1 wi2 g2 tt2 v2 tk tv) := by
  refine ⟨fun pins s σ H Q I h => ?_⟩
  rw [arm_eval_DictComp]
  refine dc_outer (vE := v1) (EM := fun D env => nextFor i1 (.DictComp kx vx [⟨t0, i0, f0, 0⟩, ⟨t1, i1, f1, 0⟩, ⟨t2, i2, f2, 0⟩] scope pos) 1 (.ref D) env) (BD := fun D => BdN wi1 g1 tt1 v1 (BdN wi2 g2 tt2 v2 (BdP tk tv D))) hc (fun _ h z => dk_empty h z) hN I hi ok hv1 hg ht (fun D it env => turn30) ?_ (hs _) h ?_
  · intro D s3 H3 C cl fp pins s5 σ5 H5 Nx I5 b5 k Qk Ek hk5
    refine em_next (Y := X.blk s3 H3 scope (compEnvC scope cl C X.env) fp) (fun _ _ z => z) rfl (hi1 s3 H3 C cl fp) (hs1 _) ?_ pins s5 σ5 H5 Nx I5 b5 k Qk Ek hk5
    intro pins s6 σ6 H6 J it fp6 tn Dn R I6 T st f6 l6 hR
    refine loop_mid (Y := X.blk s3 H3 scope (compEnvC scope cl C X.env) fp) (vE := v2) hc (fun _ _ z => z) turn31 (hg1 s3 H3 C cl fp) (ht1 s3 H3 C cl fp) hv2 ?_ I6 T st f6 l6 hR
    intro pins s7 σ7 H7 Nx I7 b7 k Qk Ek hk7
    refine em_next (Y := X.blk s3 H3 scope (compEnvC scope cl C X.env) fp) (fun _ _ z => z) rfl (hi2 s3 H3 C cl fp) (hs2 _) ?_ pins s7 σ7 H7 Nx I7 b7 k Qk Ek hk7
    intro pins s8 σ8 H8 J it fp8 tn Dn R I8 T st f8 l8 hR
    refine loop_mid (Y := X.blk s3 H3 scope (compEnvC scope cl C X.env) fp) (vE := []) (EM := fun k => do putD kx vx D (compEnvC scope cl C X.env); k) hc (fun _ _ z => z) turn32 (hg2 s3 H3 C cl fp) (ht2 s3 H3 C cl fp) (fun _ z => nomatch z) ?_ I8 T st f8 l8 hR
    exact fun pins s9 σ9 H9 Nx I9 b9 k Qk Ek hk9 => em_put (Y := X.blk s3 H3 scope (compEnvC scope cl C X.env) fp) (fun _ _ z => z) (hk s3 H3 C cl fp) (he s3 H3 C cl fp) pins s9 σ9 H9 Nx I9 b9 k Qk Ek hk9
  · intro D C s' m H' I' q hn f
    obtain ⟨f0, f1, f2, f3, f4, f5⟩ := f
    exact ⟨m, hn, fun h2 sb => ⟨.ref D, H', I'.turned (t' := s'.toks) (fun b o hb e => (sb.2 b hb).trans e) f0 f1 f3 f4 f5, rfl, q⟩⟩
/-- a pair is put, its key a tuple of ints and texts -/
def PutDT (D : Addr) (y z : V) (H5 : Hp) (S : Hp → Prop) : Prop := ∃ kvs k b, y = .ref b ∧ H5 b = some (.tup (k.map kV)) ∧ H5 D = some (.dT kvs) ∧ kvs.length < sizeLine ∧ S (upd H5 D (.dT (putK kvs k z)))
def BdT (tk tv : TE) (D : Addr) : L2.St → Hp → (Hp → Prop) → Prop := fun σ H Nx => tk σ H fun y H4 => tv σ H4 fun z H5 => PutDT D y z H5 Nx
theorem d_dictSetT {pins : List (Addr × Obj)} {s : Shared} {σ : L2.St} {H : Hp} {E : Value → Shared → Prop} {D b : Addr} {kvs : List (List L2.Key × V)} {k : List L2.Key} {v : V} {r : Value} {Q : Unit → Shared → Prop} (hu : X.A.units < cLine) (I : Inv X pins σ H s) (eb : H b = some (.tup (k.map kV))) (e : H D = some (.dT kvs)) (l : kvs.length < sizeLine) (rv : RelV v r)
    (h : ∀ s', Inv X pins σ (upd H D (.dT (putK kvs k v))) s' → Q () s') : wpAny (model X.prog X.w) X.A (dictSet D (.ref b) r) Q E s := by
  obtain ⟨z, hd, xs, rel, dd⟩ := dt_of I.hok e
  have hz : xs.length ≤ sizeLine := by rw [← Paired.length rel]; exact z
  have hl : (putK kvs k v).length ≤ sizeLine := by have := length_putK kvs k v; omega
  refine wpAny_dictSet_heap (hsz := hz) (show (PySem.tupleKind (mixKind X.prog X.w)).room X.A from hu) (key_of I.hok eb) dd fun h' dd' hs => h _ ?_
  obtain ⟨q, es, ep, hq, h2, h3, h4, _, h5⟩ := dd'
  refine d_write I (by rw [e]; exact True.intro) hs ⟨q, hq⟩ ⟨hl, hd, _, (rel.put k eb rv).keeps fun c ys ec => ?_, q, es, ep, hq, h2, h3, h4, h5⟩
  exact (upd_ne (L2.ne_of ec e (fun z => nomatch z))).trans ec
theorem em_putT {kx vx : Expr} {tk tv : TE} {D : Addr} (hu : X.A.units < cLine) (hx : ∀ e s, X.xe e s → False) (hk : PE X kx tk) (hv : PE X vx tv)
    (pins : List (Addr × Obj)) (s : Shared) (σ : L2.St) (H : Hp) (Nx : Hp → Prop) (I : Inv X pins σ H s) (h : BdT tk tv D σ H Nx) (k : Sem Fin) (Q : Fin → Shared → Prop) (E : Value → Shared → Prop) (hn : ∀ s' H', Inv X pins (wipe σ []) H' s' → Nx H' → wpAny (model X.prog X.w) X.A k Q E s') :
    wpAny (model X.prog X.w) X.A (do putD kx vx D X.env; k) Q E s := by
  unfold putD
  refine wpAny_bind (wpAny_bind (wpAny_mono (hk.run pins s σ H _ I h) (fun u s1 q => ?_) fun e s z => (hx e s z).elim))
  obtain ⟨y, H4, I4, r4, q4⟩ := q
  refine wpAny_bind (wpAny_holding (wpAny_mono (hv.run pins s1 σ H4 _ I4 q4) (fun u2 s2 q => ?_) fun e s z => (hx e s z).elim))
  obtain ⟨z, H5, I5, r5, kvs, kk, b, ey, eb, hD, hz, nx⟩ := q
  subst ey
  obtain rfl : u = Value.ref b := r4
  refine wpAny_bind (wpAny_standAt (wpAny_holding ?_))
  exact d_dictSetT hu I5 eb hD hz r5 fun s3 I3 => hn s3 _ I3 nx
theorem turn10 {kx vx t0 i0 : Expr} {f0 : List Expr} {scope : Scope} {pos : Pos} {it : Value} {D : Addr} {env : Env} :
    compTurn (.DictComp kx vx [⟨t0, i0, f0, 0⟩] scope pos) 0 it (.ref D) env = turnOf t0 i0.pos f0 (fun k => do putD kx vx D env; k) (.compLoop (.DictComp kx vx [⟨t0, i0, f0, 0⟩] scope pos) 0 it (.ref D) env) it env := rfl
/-- {k: v for ..}, keys tuples -/
def tDcT (wi : TI) (g : TG) (tt : TT) (tk tv : TE) (vs : List Nat) : TE := fun σ H Q => wi σ H fun J H1 => ∀ D, H1 D = none → LpC J g tt (BdT tk tv D) σ vs (upd H1 D (.dT [])) (Q (.ref D))
theorem ps_setDcT {i : Nat} {y : Str} {py : Pos} {kx vx tg iter : Expr} {ifs : List Expr} {scope : Scope} {own : List (Str × Nat)} {pos spos : Pos} {wi : TI} {g : TG} {tt : TT} {tk tv : TE} (hu : X.A.units < cLine) (hc : X.calm = true) (hN : X.N.Nodup) (hy : X.N[i]? = some y) (hyl : X.env.scope.names.lookup y = some .local)
    (hsw : swapsWith (.DictComp kx vx [⟨tg, iter, ifs, 0⟩] scope pos) (some (.Name y py)) spos.line X.env = pure true) (hi : L2.PI X tg iter wi) (ok : BlkOk X.N X.env.scope scope own)
    (hg : ∀ (s : Shared) (H : Hp) (C : Addr) (cl : List (Str × Addr)) (fp : List Addr), PG (X.blk s H scope (compEnvC scope cl C X.env) fp) tg g) (ht : ∀ (s : Shared) (H : Hp) (C : Addr) (cl : List (Str × Addr)) (fp : List Addr), PTs (X.blk s H scope (compEnvC scope cl C X.env) fp) ifs tt)
    (hk : ∀ (s : Shared) (H : Hp) (C : Addr) (cl : List (Str × Addr)) (fp : List Addr), PE (X.blk s H scope (compEnvC scope cl C X.env) fp) kx tk) (he : ∀ (s : Shared) (H : Hp) (C : Addr) (cl : List (Str × Addr)) (fp : List Addr), PE (X.blk s H scope (compEnvC scope cl C X.env) fp) vx tv)
    (hs : ∀ x, foldedSetIterable iter X.env x = pure x := by intro _; rfl) : PS X (.Assign [.Name y py] (.DictComp kx vx [⟨tg, iter, ifs, 0⟩] scope pos) spos) (tAsg (tDcT wi g tt tk tv (own.map (·.2))) (gName i)) := by
  refine ⟨fun pins s σ H D I h => ?_⟩
  rw [exec_Assign_Name_used _ _ _ _ hsw]
  refine wpAny_bind (wpAny_standAt (wpAny_bind ?_))
  show wpAny _ X.A (do let _ ← comprehension (.DictComp kx vx [⟨tg, iter, ifs, 0⟩] scope pos) scope X.env (firstIterPos [⟨tg, iter, ifs, 0⟩] pos) newDict false (eval iter X.env) (some (assign (.Name y py) X.env))) _ _ s
  have z : tDcT wi g tt tk tv (own.map (·.2)) σ H (fun x H1 => gName i x σ H1 D.nx) := h
  refine wpAny_bind (thn (dc_outer (vE := []) (EM := fun D env k => do putD kx vx D env; k) (BD := BdT tk tv) (Q := fun x H1 => gName i x σ H1 D.nx) (Qf := fun _ s' => SP X pins D .next s') hc (fun _ h z => dt_empty h z) hN I hi ok (fun _ z => nomatch z) hg ht (fun D it env => turn10)
    (fun D s3 H3 C cl fp pins s5 σ5 H5 Nx I5 b5 k Qk Ek hk5 => em_putT (X := X.blk s3 H3 scope (compEnvC scope cl C X.env) fp) hu (fun _ _ z => z) (hk s3 H3 C cl fp) (he s3 H3 C cl fp) pins s5 σ5 H5 Nx I5 b5 k Qk Ek hk5) hs z fun L C s1 m H1 I1 q hn fp => ?_) fun _ s1 q => wpAny_pure (wpAny_pure q))
  show wpAny _ _ (assign (.Name y py) X.env (.ref L)) _ _ _
  refine wpAny_assign_Name (store_ok2 (v := V.ref L) I1 hN hy (.inl hyl) rfl (fun s2 I2 ⟨a, sb, ha⟩ => ?_) (.inr hyl))
  obtain ⟨g0, g1, g2, g3, g4, g5⟩ := fp
  refine ⟨m, hn.sameBut sb ?_, fun h3 sb3 => ⟨_, H1, I2.turned (t' := s2.toks) (fun b o hb e => (sb3.2 b hb).trans e) g0 g1 g3 g4 g5, q⟩⟩
  rcases ha with e | e
  · rw [e]; exact g1
  · exact fun q => g4 y a e q.symm
end
/-- from here on a dict whose keys are tuples is only read, if that is wished -/
def FzT (Q : VK) : VK := fun v H => Q v H ∨ ∃ a kvs, v = .ref a ∧ H a = some (.dT kvs) ∧ ∀ od, Q v (upd H a (.frz od (.dT kvs)))
def tFzT (t : TE) : TE := fun σ H Q => t σ H (FzT Q)
theorem pe_fzT {X : Cx} {e : Expr} {t : TE} (h : PE X e t) : PE X e (tFzT t) := ⟨fun pins s σ H Q I q => thn (h.run pins s σ H _ I q) fun u s1 z => by
  obtain ⟨v, H1, I1, r, q⟩ := z
  rcases q with q | ⟨a, kvs, e, ha, q⟩
  · exact ⟨v, H1, I1, r, q⟩
  · subst e
    obtain ⟨od, I2⟩ := I1.lock ha True.intro
    exact ⟨_, _, I2, r, q od⟩⟩
theorem u0 {k : Nat} {A : Around} (r : Room k A) : A.units < cLine := by have := r.units; omega
end G

/-! ### sets whose members are objects of one kind (tuples of texts and numbers) -/
namespace G
open PySem PySem.Spec PyProof.Rows L2
/-- what a set asks of a kind beyond its hash and its == -/
structure ByV {P : Program} {w : World} {κ : Type} [DecidableEq κ] (kd : HeapKind P w κ) : Prop where
  cls : ∀ {A : Around} {E : Value → Shared → Prop} {s : Shared} {k : κ} {b : Addr} {Q : Bool → Shared → Prop}, kd.is s.heap k b → Q false s → wpAny (model P w) A (ofAClassStatement 8 (.ref b)) Q E s
  val : ∀ {A : Around} {E : Value → Shared → Prop} {s : Shared} {k : κ} {b : Addr} {Q : Bool → Shared → Prop}, kd.is s.heap k b → (∀ r, Q r s) → wpAny (model P w) A (hashByValue 8 (.ref b)) Q E s
  put : ∀ {h h' : Heap} {k : κ} {a b : Addr} {o : Obj} {es : Array (Int × Value)} {ep : Nat} {t : SetTable}, kd.is h k b → h.get? a = some o → o.data = .set es ep t → Heap.SameBut a h h' → kd.is h' k b
  ext : ∀ {h h' : Heap} {k : κ} {b : Addr}, kd.is h k b → (∀ c o, h.get? c = some o → h'.get? c = some o) → kd.is h' k b
section
variable {P : Program} {w : World} {κ : Type} [DecidableEq κ] {kd : HeapKind P w κ} {A : Around} {E : Value → Shared → Prop} {s : Shared} {a x : Addr} {k : κ} {M : List (κ × Addr)} {es : Array (Int × Value)} {ep : Nat} {t : SetTable}
abbrev hsOf (kd : HeapKind P w κ) (M : List (κ × Addr)) : List Int := M.map fun m => kd.hash m.1
abbrev rwOf (kd : HeapKind P w κ) (M : List (κ × Addr)) : List (Int × Value) := M.map fun m => (kd.hash m.1, .ref m.2)
/-- the set at a has these members -/
structure StH (kd : HeapKind P w κ) (h : Heap) (a : Addr) (M : List (κ × Addr)) (es : Array (Int × Value)) (ep : Nat) (t : SetTable) : Prop where
  obj : ∃ o, h.get? a = some o ∧ o.ExactSet ∧ o.data = .set es ep t
  ents : es.toList = rwOf kd M
  okT : TabOk t (hsOf kd M)
  uniq : (M.map (·.1)).Nodup
  mem : ∀ m ∈ M, kd.is h m.1 m.2
  ld : w.params.followText "set-order" = true ∨ t.led = true
  free : M.length * 5 < t.mask * 3
  lt : M.length < 64
theorem StH.es_len (S : StH kd s.heap a M es ep t) : es.size = M.length := by
  have := congrArg List.length S.ents
  simpa using this
theorem StH.fit (S : StH kd s.heap a M es ep t) : t.fits es.size = true := by
  have e1 := S.okT.sz
  have e2 := S.es_len
  have e3 := S.free
  rw [List.length_map] at e1
  unfold SetTable.fits SetTable.fill
  rw [S.okT.dm]
  simp only [Bool.and_eq_true, beq_iff_eq, decide_eq_true_eq]
  exact ⟨by omega, by show t.place.size + 0 ≤ t.mask; omega⟩
theorem StH.at_ (S : StH kd s.heap a M es ep t) {i : Nat} {m : κ × Addr} (e : M[i]? = some m) : es[i]? = some (kd.hash m.1, .ref m.2) := by
  have z : es.toList[i]? = some (kd.hash m.1, .ref m.2) := by rw [S.ents, List.getElem?_map, e]; rfl
  simpa using z
theorem StH.stays (S : StH kd s.heap a M es ep t) : ¬ t.gaveWay = true := by
  unfold SetTable.gaveWay
  rw [mask_odd S.okT.mok]
  exact fun z => by cases z
/-- a search among them shows nothing -/
theorem unseen (B : ByV kd) (hx : kd.is s.heap k x) {ys : List Value} (hy : ∀ y ∈ ys, ∃ j c, y = .ref c ∧ kd.is s.heap j c) {Q : Bool → Shared → Prop} (q : Q false s) : wpAny (model P w) A (searchCouldBeSeen (.ref x) ys) Q E s := by
  unfold searchCouldBeSeen
  refine wpAny_bind (wpAny_forIn_list _ (fun l r z => r.1 = none ∧ z = s ∧ ∀ y ∈ l, ∃ j c, y = Value.ref c ∧ kd.is s.heap j c) _ ?_ ?_ _ _ ⟨rfl, rfl, hy⟩)
  · rintro v l r z ⟨er, rfl, al⟩
    obtain ⟨j, c, rfl, hc⟩ := al v (List.mem_cons_self ..)
    have al' := fun y (h : y ∈ l) => al y (List.mem_cons_of_mem _ h)
    dsimp only
    by_cases d : (x == c || (carriedByValue (.ref x) && carriedByValue (.ref c))) = true
    · exact wp_if_pos d (wpAny_pure ⟨rfl, rfl, al'⟩)
    refine wp_if_neg d (wpAny_bind (kd.quiet hx ?_))
    simp only [Bool.not_true, Bool.false_eq_true, if_false]
    refine wpAny_bind (kd.quiet hc ?_)
    simp only [Bool.not_true, Bool.false_eq_true, if_false]
    refine wpAny_bind (B.cls hx ?_)
    simp only [Bool.false_eq_true, if_false]
    refine wpAny_bind (B.cls hc ?_)
    simp only [Bool.false_eq_true, if_false]
    exact wpAny_pure ⟨rfl, rfl, al'⟩
  · rintro ⟨r1, r2⟩ z ⟨er, rfl, _⟩
    have er : r1 = none := er
    subst er
    exact wpAny_pure q
abbrev pr0 (t : SetTable) (g : Int) : SetTable.Probe := runAt t.mask (SetTable.bits g % (t.mask + 1)) (SetTable.bits g)
abbrev pr (t : SetTable) (g : Int) (c : Nat) : SetTable.Probe := nth t.mask (pr0 t g) c
theorem pr_plain {t : SetTable} {g : Int} {c : Nat} : (pr t g c).dummy = none := by
  suffices z : ∀ (n : Nat) (p : SetTable.Probe), p.dummy = none → (nth t.mask p n).dummy = none from z c _ rfl
  intro n
  induction n with
  | zero => exact fun _ h => h
  | succ n ih =>
    intro p h
    apply ih
    unfold adv
    split <;> exact h
theorem pr_add {t : SetTable} {g : Int} {c q : Nat} : nth t.mask (pr t g c) q = pr t g (c + q) := (nth_add t.mask c _ q).symm
/-- from the c-th step of a key's way on; what was passed is not the key -/
theorem look_on (B : ByV kd) (S : StH kd s.heap a M es ep t) (hx : kd.is s.heap k x) (rm : kd.room A) {z : Nat} (hz : z < 10 * SetTable.turns t.mask) (out : way t.mask (kd.hash k) z ∉ t.place.toList) (ins : ∀ c, c < z → way t.mask (kd.hash k) c ∈ t.place.toList) {Q : SetFound → Shared → Prop}
    (q1 : k ∈ M.map (·.1) → Q (.there none) s) (q2 : k ∉ M.map (·.1) → Q (.free (way t.mask (kd.hash k) z) false) s) :
    ∀ (f c : Nat) (st : Option SetTable.Probe), st.getD (t.probeStart (kd.hash k)) = pr t (kd.hash k) c → c ≤ z → z - c < f → (∀ (i : Nat) (m : κ × Addr), M[i]? = some m → m.1 = k → ∃ d, c ≤ d ∧ d < z ∧ t.place.toList[i]? = some (way t.mask (kd.hash k) d)) →
      wpAny (model P w) A (setSearchFrom a (.ref x) (kd.hash k) true f st) Q E s := by
  intro f
  induction f with
  | zero => exact fun c _ _ _ h _ => absurd h (Nat.not_lt_zero _)
  | succ f ih =>
    intro c st est hc hf later
    obtain ⟨o, ho, hex, hd⟩ := S.obj
    have wj : ∀ n, (nth t.mask (pr t (kd.hash k) c) n).j = way t.mask (kd.hash k) (c + n) := fun n => congrArg SetTable.Probe.j pr_add
    have hash_of : ∀ (i : Nat) (m : κ × Addr), M[i]? = some m → (es[i]?.map (·.1)).getD 0 = kd.hash m.1 := fun i m e => by rw [S.at_ e]; rfl
    rw [setSearchFrom_succ]
    refine wpAny_bind (wpAny_setState_of ho hd S.fit ?_)
    dsimp only
    refine wp_if_neg S.stays ?_
    try refine wpAny_bind (wpAny_pure ?_)
    rcases go_spec t S.okT.ris S.okT.dm (fun i => (es[i]?.map (·.1)).getD 0) (kd.hash k) (10 * SetTable.turns t.mask) (z - c) (pr t (kd.hash k) c) pr_plain (by omega) (fun n hn => by rw [wj]; exact ins (c + n) (by omega)) (by rw [wj, show c + (z - c) = z by omega]; exact out) with ⟨n, i, hn, hi, hhash, before, found⟩ | ⟨before, found⟩
    · have found' : t.probe (fun i => (es[i]?.map (·.1)).getD 0) (kd.hash k) (st.getD (t.probeStart (kd.hash k))) = some (.candidate (way t.mask (kd.hash k) (c + n)) i (pr t (kd.hash k) (c + (n + 1)))) := by
        rw [est, ← wj, ← pr_add]
        exact found
      rw [found']
      dsimp only
      rw [wj] at hi
      have il : i < M.length := by
        have h1 := (List.getElem?_eq_some_iff.mp hi).1
        have h2 := S.okT.sz
        rw [List.length_map] at h2
        rw [Array.length_toList] at h1
        omega
      obtain ⟨m, em⟩ : ∃ m, M[i]? = some m := ⟨_, List.getElem?_eq_getElem il⟩
      have mm := List.mem_of_getElem? em
      have live : t.slot (way t.mask (kd.hash k) (c + n)) = .live i := slot_live S.okT.ris hi
      have on : wpAny (model P w) A (searchRest a (.ref x) (kd.hash k) true f es t (way t.mask (kd.hash k) (c + n)) i (pr t (kd.hash k) (c + (n + 1)))) Q E s := by
        unfold searchRest
        rw [S.at_ em]
        dsimp only
        refine wpAny_bind (wpAny_holding (kd.eqBool rm (S.mem m mm) hx ?_))
        refine wpAny_bind (wpAny_setState_of ho hd S.fit ?_)
        dsimp only
        by_cases ek : m.1 = k
        · exact wp_if_pos (by simp [ek]) (wpAny_pure (q1 (List.mem_map.mpr ⟨m, mm, ek⟩)))
        refine wp_if_neg (by simp [ek]) ?_
        try refine wpAny_bind (wpAny_pure ?_)
        rw [sameMem]
        dsimp only
        simp only [if_true, live, S.at_ em]
        refine wpAny_bind (wpAny_isSame_ref_self (wpAny_bind (wpAny_pure ?_)))
        simp only [if_true]
        refine wp_if_neg (by simp [ek]) ?_
        refine ih (c + (n + 1)) (some (pr t (kd.hash k) (c + (n + 1)))) rfl (by omega) (by omega) fun i2 m2 e2 k2 => ?_
        obtain ⟨d, d1, d2, d3⟩ := later i2 m2 e2 k2
        refine ⟨d, ?_, d2, d3⟩
        refine Classical.byContradiction fun no => ?_
        by_cases dc : d = c + n
        · rw [dc] at d3
          have := slot_live S.okT.ris d3
          rw [live] at this
          injection this with this
          rw [← this, em] at e2
          exact ek (by rw [Option.some.inj e2]; exact k2)
        · exact before (d - c) i2 (by omega) (by rw [wj, show c + (d - c) = d by omega]; exact d3) ((hash_of i2 m2 e2).trans (congrArg kd.hash k2))
      by_cases led : t.led = true
      · refine wp_if_neg (by simp [led]) ?_
        try refine wpAny_bind (wpAny_pure ?_)
        exact on
      · refine wp_if_pos (by simp [led]) (wpAny_bind (unseen B hx (fun y hy => ?_) ?_))
        · obtain ⟨e, he, rfl⟩ := List.mem_map.mp hy
          have h1 : e ∈ es.toList := by
            have : e ∈ es ∧ e.1 = kd.hash k := by simpa using he
            simpa using this.1
          rw [S.ents] at h1
          obtain ⟨m2, hm2, rfl⟩ := List.mem_map.mp h1
          exact ⟨m2.1, m2.2, rfl, S.mem m2 hm2⟩
        · refine wp_if_neg (by decide) ?_
          try refine wpAny_bind (wpAny_pure ?_)
          exact on
    · have found' : t.probe (fun i => (es[i]?.map (·.1)).getD 0) (kd.hash k) (st.getD (t.probeStart (kd.hash k))) = some (.empty (way t.mask (kd.hash k) z) none) := by
        rw [est, show way t.mask (kd.hash k) z = (nth t.mask (pr t (kd.hash k) c) (z - c)).j from by rw [wj, show c + (z - c) = z by omega]]
        exact found
      rw [found']
      dsimp only
      refine wpAny_pure (q2 fun hm => ?_)
      obtain ⟨m, hm, ek⟩ := List.mem_map.mp hm
      obtain ⟨i, il, ei⟩ := List.getElem_of_mem hm
      have em : M[i]? = some m := by rw [List.getElem?_eq_getElem il, ei]
      obtain ⟨d, d1, d2, d3⟩ := later i m em ek
      exact before (d - c) i (by omega) (by rw [wj, show c + (d - c) = d by omega]; exact d3) ((hash_of i m em).trans (congrArg kd.hash ek))
/-- the search that adding makes -/
theorem look (B : ByV kd) (S : StH kd s.heap a M es ep t) (hx : kd.is s.heap k x) (rm : kd.room A) {Q : SetFound → Shared → Prop} (q1 : k ∈ M.map (·.1) → Q (.there none) s)
    (q2 : ∀ z, k ∉ M.map (·.1) → way t.mask (kd.hash k) z ∉ t.place.toList → (∀ c, c < z → way t.mask (kd.hash k) c ∈ t.place.toList) → Q (.free (way t.mask (kd.hash k) z) false) s) : wpAny (model P w) A (setSearch a (.ref x) (kd.hash k) true) Q E s := by
  have fr := S.free
  obtain ⟨z, hz, out, ins⟩ := S.okT.first (by rw [List.length_map]; omega) (kd.hash k)
  have small : z < 100000 := by
    have : SetTable.turns t.mask ≤ 142 := by
      unfold SetTable.turns
      rcases S.okT.mok with e | e | e <;> omega
    omega
  unfold setSearch
  refine look_on B S hx rm hz out ins q1 (fun n => q2 z n out ins) 100000 0 none rfl (Nat.zero_le _) (by omega) fun i m em ek => ?_
  have il : i < t.place.toList.length := by
    have h1 := (List.getElem?_eq_some_iff.mp em).1
    have h2 := S.okT.sz
    rw [List.length_map] at h2
    rw [Array.length_toList]
    omega
  obtain ⟨c, hc, e⟩ := S.okT.before out (show (hsOf kd M)[i]? = some (kd.hash k) by rw [List.getElem?_map, em, ← ek]; rfl) (List.getElem?_eq_getElem il)
  exact ⟨c, Nat.zero_le _, hc, by rw [List.getElem?_eq_getElem il, e]⟩
theorem all_of_range {α : Type} : ∀ {M : List α}, (List.range M.length).filterMap (fun i => M[i]?) = M
  | [] => rfl
  | m :: M => by
    rw [List.length_cons, List.range_succ_eq_map, List.filterMap_cons]
    show m :: ((List.range M.length).map Nat.succ).filterMap (fun i => (m :: M)[i]?) = _
    rw [List.filterMap_map]
    exact congrArg (m :: ·) all_of_range
/-- the members in another order -/
theorem reord (he : es.toList = rwOf kd M) {ord : Array Nat} (po : ord.toList.Perm (List.range M.length)) : ∃ M2 : List (κ × Addr), (ord.filterMap (es[·]?)).toList = rwOf kd M2 ∧ M2.Perm M ∧ hsOf kd M2 = ord.toList.map fun i => (es.map (·.1)).getD i 0 := by
  have ge : ∀ i : Nat, es[i]? = (M[i]?).map fun m : κ × Addr => (kd.hash m.1, Value.ref m.2) := fun i => by
    have z : es.toList[i]? = (rwOf kd M)[i]? := by rw [he]
    rw [List.getElem?_map] at z
    simpa using z
  refine ⟨ord.toList.filterMap fun i => M[i]?, ?_, ?_, ?_⟩
  · rw [Array.toList_filterMap, rwOf, List.map_filterMap]
    exact congrArg (fun f => List.filterMap f ord.toList) (funext ge)
  · have z := po.filterMap fun i => M[i]?
    rw [all_of_range] at z
    exact z
  · have lt : ∀ i ∈ ord.toList, i < M.length := fun i hi => List.mem_range.mp (po.mem_iff.mp hi)
    generalize ord.toList = l at lt
    induction l with
    | nil => rfl
    | cons i l ih =>
      have hi := lt i (List.mem_cons_self ..)
      have em : M[i]? = some M[i] := List.getElem?_eq_getElem hi
      have eh : (es.map (·.1)).getD i 0 = kd.hash M[i].1 := by
        rw [Array.getD_eq_getD_getElem?, Array.getElem?_map, ge i, em]
        rfl
      rw [List.filterMap_cons_some em, List.map_cons, eh]
      exact congrArg (kd.hash M[i].1 :: ·) (ih fun j hj => lt j (List.mem_cons_of_mem _ hj))
/-- the table is laid anew -/
theorem laid {o : Obj} (B : ByV kd) (ho : s.heap.get? a = some o) (hex : o.ExactSet) (hd : o.data = .set es ep t) (he : es.toList = rwOf kd M) (size : t.place.size = es.size) (dm : t.dummies = #[]) (fits : es.size ≤ t.mask) (un : (M.map (·.1)).Nodup) (me : ∀ m ∈ M, kd.is s.heap m.1 m.2)
    (ld : w.params.followText "set-order" = true ∨ t.led = true) (lt : M.length < 64) {n N : Nat} (hN : SetTable.sizeAbove n - 1 = N) (ok : MaskOk N) (top : SetTable.sizeAbove n ≤ 128) (room : M.length * 5 < N * 3) {Q : Unit → Shared → Prop}
    (q : ∀ h' M' es' ep' t', Heap.SameBut a s.heap h' → StH kd h' a M' es' ep' t' → M'.Perm M → Q () { s with heap := h' }) : wpAny (model P w) A (setRelay a n) Q E s := by
  have len : es.size = M.length := by
    have := congrArg List.length he
    simpa using this
  have fit : t.fits es.size = true := by
    unfold SetTable.fits SetTable.fill
    rw [dm]
    simp only [Bool.and_eq_true, beq_iff_eq, decide_eq_true_eq]
    exact ⟨size, by show t.place.size + 0 ≤ t.mask; omega⟩
  obtain ⟨t', ord, e, po, T, em, el, epl, _⟩ := relaid_ok t (hs := es.map (·.1)) (wanted := n) hN ok (by rw [Array.size_map]; omega)
  rw [Array.size_map, len] at po
  obtain ⟨M2, r1, r2, r3⟩ := reord he po
  rw [← r3] at T
  have len2 : (ord.filterMap (es[·]?)).size = es.size := by
    have := congrArg List.length r1
    rw [Array.length_toList, List.length_map, r2.length_eq] at this
    omega
  rw [setRelay_eq]
  refine wpAny_bind (wpAny_setState_of ho hd fit ?_)
  dsimp only
  refine wp_if_neg (by rw [sizeLine_eq]; omega) ?_
  try refine wpAny_bind (wpAny_pure ?_)
  rw [e]
  dsimp only
  refine wpAny_bind (wp_if_neg (by rw [len2]; simp) ?_)
  try refine wpAny_bind (wpAny_pure ?_)
  refine wpAny_pure ?_
  dsimp only
  refine wpAny_storeSet_of ho hd ?_ (by rw [len2, len, sizeLine_eq]; omega)
  have sb : Heap.SameBut a s.heap (s.heap.update a (Obj.putSet (ord.filterMap (es[·]?)) t')) := Heap.SameBut.update ..
  exact q _ M2 _ (ep + 1) t' sb ⟨⟨_, store_at ho hd, ⟨hex.1, hex.2.1, hex.2.2⟩, rfl⟩, r1, T, (r2.map (·.1)).nodup_iff.mpr un, fun m hm => B.put (me m (r2.mem_iff.mp hm)) ho hd sb, by rw [el]; exact ld, by rw [r2.length_eq, em]; exact room, by rw [r2.length_eq]; exact lt⟩ r2
/-- the end of adding: the member is stored, the table laid anew if it is too full -/
theorem adds_end {o : Obj} {t1 : SetTable} {es1 : Array (Int × Value)} {M1 : List (κ × Addr)} (B : ByV kd) (S : StH kd s.heap a M es ep t) (hx : kd.is s.heap k x) (few : M.length + 1 < 64) {Q : Bool → Shared → Prop}
    (q : ∀ b h' M' es' ep' t', Heap.SameBut a s.heap h' → StH kd h' a M' es' ep' t' → ((k ∈ M.map (·.1) ∧ M' = M) ∨ (k ∉ M.map (·.1) ∧ M'.Perm ((k, x) :: M))) → Q b { s with heap := h' }) (no : k ∉ M.map (·.1)) (hin : es1.toList = rwOf kd M1) (pm : M1.Perm ((k, x) :: M)) (len1 : M1.length = M.length + 1) (un1 : (M1.map (·.1)).Nodup) (size1 : es1.size = M.length + 1)
    (two : t1.tooFull = true → (t.mask = 7 ∧ M.length = 4) ∨ (t.mask = 31 ∧ M.length = 18)) (size2 : t1.place.size = es1.size) (p3 : TabOk t1 (hsOf kd M1)) (p4 : t1.mask = t.mask) (p5 : t1.led = t.led) (full : t1.tooFull = decide ((M.length + 1) * 5 ≥ t1.mask * 3)) (ho : s.heap.get? a = some o) (hex : o.ExactSet) (hd : o.data = .set es ep t) :
    wpAny (model P w) A (do
      storeSet a es1 t1
      if (!false && t1.tooFull) = true then do
        setRelay a (SetTable.grown (es.size + 1))
        pure true
      else pure true) (fun b s' => Q b s') E s := by
  have len := S.es_len
  refine wpAny_bind (wpAny_storeSet_of ho hd ?_ (by rw [size1, sizeLine_eq]; omega))
  have sb : Heap.SameBut a s.heap (s.heap.update a (Obj.putSet es1 t1)) := Heap.SameBut.update ..
  have ho1 := store_at (es' := es1) (t' := t1) ho hd
  generalize s.heap.update a (Obj.putSet es1 t1) = h1 at sb ho1 ⊢
  have me1 : ∀ m ∈ M1, kd.is h1 m.1 m.2 := fun m hm => by
    rcases List.mem_cons.mp (pm.mem_iff.mp hm) with rfl | hm
    · exact B.put hx ho hd sb
    · exact B.put (S.mem m hm) ho hd sb
  have ld1 : w.params.followText "set-order" = true ∨ t1.led = true := by rw [p5]; exact S.ld
  by_cases hf : t1.tooFull = true
  · refine wp_if_pos (by simp [hf]) (wpAny_bind ?_)
    have two := two hf
    have next : ∀ N, SetTable.sizeAbove (SetTable.grown (M.length + 1)) - 1 = N → MaskOk N → SetTable.sizeAbove (SetTable.grown (M.length + 1)) ≤ 128 → (M.length + 1) * 5 < N * 3 →
        wpAny (model P w) A (setRelay a (SetTable.grown (M.length + 1))) (fun _ s' => wpAny (model P w) A (pure true) (fun b s' => Q b s') E s') E { s with heap := h1 } := fun N e1 e2 e3 e4 =>
      laid (s := { s with heap := h1 }) B ho1 ⟨hex.1, hex.2.1, hex.2.2⟩ rfl hin size2 p3.dm (by rw [size1, p4]; rcases two with ⟨e, e'⟩ | ⟨e, e'⟩ <;> omega) un1 me1 ld1 (by omega) e1 e2 e3 (by rw [len1]; exact e4) fun h2 M2 es2 ep2 t2 sb2 S2 pm2 =>
        wpAny_pure (q true h2 M2 es2 ep2 t2 (sb.trans sb2) S2 (.inr ⟨no, pm2.trans pm⟩))
    rw [len]
    rcases two with ⟨_, e⟩ | ⟨_, e⟩
    · exact next 31 (by rw [e, size_20]) (.inr (.inl rfl)) (by rw [e, size_20]; decide) (by omega)
    · exact next 127 (by rw [e, size_76]) (.inr (.inr rfl)) (by rw [e, size_76]; decide) (by omega)
  · refine wp_if_neg (by simp [hf]) ?_
    rw [full, decide_eq_true_iff] at hf
    exact wpAny_pure (q true h1 M1 es1 (ep + 1) t1 sb ⟨⟨_, ho1, ⟨hex.1, hex.2.1, hex.2.2⟩, rfl⟩, hin, p3, un1, me1, ld1, by omega, by omega⟩ (.inr ⟨no, pm⟩))
/-- a member is added -/
theorem adds (B : ByV kd) (S : StH kd s.heap a M es ep t) (hx : kd.is s.heap k x) (rm : kd.room A) (few : M.length + 1 < 64) {Q : Bool → Shared → Prop}
    (q : ∀ b h' M' es' ep' t', Heap.SameBut a s.heap h' → StH kd h' a M' es' ep' t' → ((k ∈ M.map (·.1) ∧ M' = M) ∨ (k ∉ M.map (·.1) ∧ M'.Perm ((k, x) :: M))) → Q b { s with heap := h' }) : wpAny (model P w) A (setAddHashed a (.ref x) (kd.hash k)) Q E s := by
  obtain ⟨o, ho, hex, hd⟩ := S.obj
  have len := S.es_len
  have fr := S.free
  unfold setAddHashed
  refine wpAny_holding ?_
  rw [show (100000 : Nat) = 99999 + 1 from rfl, setAddHashedIn_succ]
  refine wpAny_bind (wpAny_setState_of ho hd S.fit ?_)
  dsimp only
  refine wp_if_neg (by simp [byScan, Value.scannable]) ?_
  try refine wpAny_bind (wpAny_pure ?_)
  refine wpAny_bind (look B S hx rm (fun yes => ?_) fun z no out ins => ?_)
  · dsimp only
    exact wpAny_pure (q false s.heap M es ep t (Heap.SameBut.refl a s.heap) S (.inl ⟨yes, rfl⟩))
  dsimp only
  refine wpAny_bind (wpAny_setState_of ho hd S.fit ?_)
  dsimp only
  obtain ⟨p1, p2, p3, p4, p5, p6, _, _, p9⟩ := S.okT.put out ins
  generalize t.put (way t.mask (kd.hash k) z) = pt at p1 p3 p4 p5 p6 p9 ⊢
  obtain ⟨t1, j⟩ := pt
  dsimp only at p1 p3 p4 p5 p6 p9 ⊢
  subst p1
  generalize SetTable.below t.place (way t.mask (kd.hash k) z) = j at p2 p3 ⊢
  have hin : (SetTable.insertAt es j (kd.hash k, Value.ref x)).toList = rwOf kd (M.take j ++ (k, x) :: M.drop j) := by
    rw [SetTable.toList_insertAt, S.ents]
    unfold rwOf
    rw [List.map_append, List.map_cons, List.map_take, List.map_drop]
  have pm : (M.take j ++ (k, x) :: M.drop j).Perm ((k, x) :: M) := put_perm M j (k, x)
  have hh : hsOf kd (M.take j ++ (k, x) :: M.drop j) = (hsOf kd M).take j ++ kd.hash k :: (hsOf kd M).drop j := by
    unfold hsOf
    rw [List.map_append, List.map_cons, List.map_take, List.map_drop]
  rw [← hh] at p3
  generalize M.take j ++ (k, x) :: M.drop j = M1 at hin pm p3
  have len1 : M1.length = M.length + 1 := pm.length_eq
  have un1 : (M1.map (·.1)).Nodup := (pm.map (·.1)).nodup_iff.mpr (List.nodup_cons.mpr ⟨no, S.uniq⟩)
  have size1 : (SetTable.insertAt es j (kd.hash k, Value.ref x)).size = M.length + 1 := by
    have := congrArg List.length hin
    rw [Array.length_toList, List.length_map] at this
    omega
  generalize SetTable.insertAt es j (kd.hash k, Value.ref x) = es1 at hin size1 ⊢
  have full : t1.tooFull = decide ((M.length + 1) * 5 ≥ t1.mask * 3) := by
    unfold SetTable.tooFull
    rw [p9, List.length_map]
  have two : t1.tooFull = true → (t.mask = 7 ∧ M.length = 4) ∨ (t.mask = 31 ∧ M.length = 18) := fun hf => by
    rw [full, p4] at hf
    have hf := of_decide_eq_true hf
    rcases S.okT.mok with e | e | e
    · exact .inl ⟨e, by rw [e] at hf fr; omega⟩
    · exact .inr ⟨e, by rw [e] at hf fr; omega⟩
    · rw [e] at hf; omega
  have size2 : t1.place.size = es1.size := by
    have := p3.sz
    rw [List.length_map] at this
    omega
  by_cases hp : t1.plain = true
  · first
      | (refine wpAny_bind ?_; refine wp_if_pos hp ?_; refine B.val hx fun r => ?_)
      | refine wp_if_pos hp (wpAny_bind (B.val hx fun r => ?_))
    have t2ex : ∃ t2 : SetTable, t2 = (if r = true then t1 else { t1 with plain := false }) ∧ TabOk t2 (hsOf kd M1) ∧ t2.mask = t1.mask ∧ t2.led = t1.led ∧ t2.place.size = t1.place.size ∧ t2.tooFull = t1.tooFull ∧ t2.dummies = t1.dummies := by
      cases r
      · exact ⟨_, rfl, ⟨p3.ris, p3.dm, p3.sz, p3.mok, p3.bd, p3.reach⟩, rfl, rfl, rfl, rfl, rfl⟩
      · exact ⟨_, rfl, p3, rfl, rfl, rfl, rfl, rfl⟩
    obtain ⟨t2, e2, T2, m2, l2, z2, f2, d2⟩ := t2ex
    rw [← e2]
    clear e2
    exact adds_end B S hx few q no hin pm len1 un1 size1 (by rw [f2]; exact two) (z2.trans size2) T2 (m2.trans p4) (l2.trans p5) (by rw [f2, full, m2]) ho hex hd
  · first
      | (refine wpAny_bind ?_; refine wp_if_neg hp ?_; refine wpAny_pure ?_)
      | refine wp_if_neg hp (wpAny_bind (wpAny_pure ?_))
    simp only [if_true]
    exact adds_end B S hx few q no hin pm len1 un1 size1 two size2 p3 p4 p5 full ho hex hd
/-- a new set -/
theorem StH.new {h : Heap} (ho : h.get? a = some { cls := .type "set", dict := none, data := .set #[] 0 (.fresh 0 0 (!w.params.followText "set-order")) }) : StH kd h a [] #[] 0 (.fresh 0 0 (!w.params.followText "set-order")) :=
  ⟨⟨_, ho, ⟨rfl, rfl, rfl⟩, rfl⟩, rfl, ⟨.nil, rfl, rfl, .inl rfl, (fun _ z => nomatch z), fun i h j z => by simp at z⟩, List.nodup_nil, (fun _ z => nomatch z), by
    show _ ∨ (!w.params.followText "set-order") = true
    cases w.params.followText "set-order" <;> simp, by show 0 * 5 < 7 * 3; decide, by show 0 < 64; decide⟩
theorem StH.move (B : ByV kd) {h h' : Heap} (S : StH kd h a M es ep t) (g : ∀ c o, h.get? c = some o → h'.get? c = some o) : StH kd h' a M es ep t := by
  obtain ⟨o, ho, r⟩ := S.obj
  exact ⟨⟨o, g a o ho, r⟩, S.ents, S.okT, S.uniq, fun m hm => B.ext (S.mem m hm) g, S.ld, S.free, S.lt⟩
end
end G

/-! ### {x for x in ..}, the members tuples of texts and numbers; len of it -/
namespace G
open PySem PySem.Spec PyProof.Rows L2 PpSet
section
variable {P : Program} {w : World}
abbrev tkd (P : Program) (w : World) : HeapKind P w (List L2.Key) := tupleKind (mixKind P w)
theorem flat_items {k : List L2.Key} {vs : List Value} (h : ItemsAre (mixKind P w) k vs) : ∀ v ∈ vs, (∃ i t, v = Value.int i t) ∨ ∃ z t, v = Value.str z t := by
  induction h with
  | nil => exact fun v hv => nomatch hv
  | cons h1 _ ih =>
    intro v hv
    rcases List.mem_cons.mp hv with rfl | hv
    · rcases keyIs_shape h1 with ⟨i, t, _, e⟩ | ⟨z, t, _, e⟩
      · exact .inl ⟨i, t, e⟩
      · exact .inr ⟨z, t, e⟩
    · exact ih v hv
theorem cls_flat {n : Nat} {v : Value} (h : (∃ i t, v = Value.int i t) ∨ ∃ z t, v = Value.str z t) : ofAClassStatement n v = pure false := by
  rcases h with ⟨i, t, rfl⟩ | ⟨z, t, rfl⟩ <;> cases n <;> rfl
theorem val_flat {n : Nat} {v : Value} (h : (∃ i t, v = Value.int i t) ∨ ∃ z t, v = Value.str z t) : ∃ r, hashByValue n v = pure r := by
  rcases h with ⟨i, t, rfl⟩ | ⟨z, t, rfl⟩ <;> cases n <;> exact ⟨_, rfl⟩
theorem byv_t : ByV (tkd P w) where
  cls := fun {A E s k b Q} hk q => by
    have ty := IsTupleKey.typeIs hk
    obtain ⟨o, its, n, ho, _, hd, hi⟩ := hk
    have fl := flat_items hi
    unfold ofAClassStatement
    refine wpAny_bind (wpAny_typeOf ty ?_)
    dsimp only
    have yes : (("tuple" : String) == "tuple") = true := by decide
    simp only [yes, if_true, Bool.not_true, Bool.false_eq_true, if_false]
    try refine wpAny_bind (wpAny_pure ?_)
    try simp only [Bool.not_true, Bool.false_eq_true, if_false]
    show wpAny _ _ (seqItems? (.ref b) >>= _) _ _ s
    refine wpAny_bind (wpAny_seqItems ho hd ?_)
    dsimp only
    refine wpAny_bind ?_
    show wpAny _ _ (forIn its _ _) _ _ s
    rw [← Array.forIn_toList]
    refine wpAny_forIn_list _ (fun l r z => r.1 = none ∧ z = s ∧ ∀ v ∈ l, (∃ i t, v = Value.int i t) ∨ ∃ z t, v = Value.str z t) _ ?_ ?_ _ _ ⟨rfl, rfl, fl⟩
    · rintro v l r z ⟨_, rfl, al⟩
      rw [cls_flat (al v (List.mem_cons_self ..))]
      refine wpAny_bind (wpAny_pure ?_)
      simp only [Bool.false_eq_true, if_false]
      exact wpAny_pure ⟨rfl, rfl, fun y hy => al y (List.mem_cons_of_mem _ hy)⟩
    · rintro ⟨r1, r2⟩ z ⟨er, rfl, _⟩
      have er : r1 = none := er
      subst er
      exact wpAny_pure q
  val := fun {A E s k b Q} hk q => by
    have ty := IsTupleKey.typeIs hk
    obtain ⟨o, its, n, ho, _, hd, hi⟩ := hk
    have fl := flat_items hi
    unfold hashByValue
    refine wpAny_bind (wpAny_specialOf ty F.slot_tuple_hash.lookup ?_)
    show wpAny _ _ (seqItems? (.ref b) >>= _) _ _ s
    refine wpAny_bind (wpAny_seqItems ho hd ?_)
    refine wpAny_bind ?_
    show wpAny _ _ (forIn its _ _) _ _ s
    rw [← Array.forIn_toList]
    refine wpAny_forIn_list _ (fun l r z => r.1 = none ∧ z = s ∧ ∀ v ∈ l, (∃ i t, v = Value.int i t) ∨ ∃ z t, v = Value.str z t) _ ?_ ?_ _ _ ⟨rfl, rfl, fl⟩
    · rintro v l r z ⟨_, rfl, al⟩
      obtain ⟨b, eb⟩ := val_flat (n := 7) (al v (List.mem_cons_self ..))
      rw [eb]
      refine wpAny_bind (wpAny_pure ?_)
      cases b
      · simp only [Bool.not_false, if_true]
        exact wpAny_pure (wpAny_pure (q false))
      · simp only [Bool.not_true, Bool.false_eq_true, if_false]
        exact wpAny_pure ⟨rfl, rfl, fun y hy => al y (List.mem_cons_of_mem _ hy)⟩
    · rintro ⟨r1, r2⟩ z ⟨er, rfl, _⟩
      have er : r1 = none := er
      subst er
      exact wpAny_pure (q true)
  put := fun {h h' k a b o es ep t} hk ho hd sb => by
    obtain ⟨o2, its, n, ho2, hc, hd2, hi⟩ := hk
    refine ⟨o2, its, n, (sb.2 b fun e => ?_).trans ho2, hc, hd2, hi⟩
    rw [e, ho] at ho2
    cases ho2
    rw [hd] at hd2
    cases hd2
  ext := fun {h h' k b} hk g => by
    obtain ⟨o2, its, n, ho2, hc, hd2, hi⟩ := hk
    exact ⟨o2, its, n, g _ _ ho2, hc, hd2, hi⟩
/-- the set itself, whatever its members' tuples -/
def St0 (w : World) (h : Heap) (a : Addr) (M : List (List L2.Key × Addr)) : Prop := ∃ (P : Program) (es : Array (Int × Value)) (ep : Nat) (t : SetTable), (∃ o, h.get? a = some o ∧ o.ExactSet ∧ o.data = .set es ep t) ∧ es.toList = rwOf (tkd P w) M ∧ TabOk t (hsOf (tkd P w) M) ∧ (M.map (·.1)).Nodup ∧ (w.params.followText "set-order" = true ∨ t.led = true) ∧ M.length * 5 < t.mask * 3 ∧ M.length < 64
theorem StH.bare {h : Heap} {a : Addr} {M : List (List L2.Key × Addr)} {es : Array (Int × Value)} {ep : Nat} {t : SetTable} (S : StH (tkd P w) h a M es ep t) : St0 w h a M := ⟨P, es, ep, t, S.obj, S.ents, S.okT, S.uniq, S.ld, S.free, S.lt⟩
theorem St0.whole {h : Heap} {a : Addr} {M : List (List L2.Key × Addr)} (S : St0 w h a M) (m : ∀ x ∈ M, (tkd P w).is h x.1 x.2) : ∃ es ep t, StH (tkd P w) h a M es ep t := by
  obtain ⟨_, es, ep, t, h1, h2, h3, h4, h6, h7, h8⟩ := S
  exact ⟨es, ep, t, h1, h2, h3, h4, m, h6, h7, h8⟩
def StO (w : World) (a : Addr) (M : List (List L2.Key × Addr)) : HO := .ext fun h => St0 w h a M
theorem stO_new {H : Hp} {h : Heap} {a : Addr} {M : List (List L2.Key × Addr)} (S : St0 w h a M) : ObjOk P w H h a (StO w a M) := by
  have ⟨_, es, ep, t, ⟨o, ho, _⟩, _⟩ := S
  refine ⟨S, ⟨o, ho⟩, fun h1 h2 z st => ?_⟩
  have ⟨P', es, ep, t, ⟨o, ho, r⟩, q⟩ := z
  exact ⟨P', es, ep, t, ⟨o, st o ho, r⟩, q⟩
end
section
variable {X : Cx} {pins : List (Addr × Obj)} {σ : L2.St} {H : Hp} {s : Shared} {D b : Addr} {k : List L2.Key} {M : List (List L2.Key × Addr)} {E : Value → Shared → Prop}
theorem tk_is (I : Inv X pins σ H s) (h : SqT X.K H b (k.map kV)) : (tkd X.prog X.w).is s.heap k b := by
  obtain ⟨its, r, ⟨o, ho, hc, n, hd⟩, _⟩ := I.tuple h
  exact ⟨o, its.toArray, n, ho, hc, hd, by simpa using items_are r⟩
/-- what putting a tuple into the set asks -/
def PutS (K : PySem.W.Frag) (w : World) (D : Addr) (y : V) (H : Hp) (S : Hp → Prop) : Prop := ∃ M k b, y = .ref b ∧ SqT K H b (k.map kV) ∧ H D = some (StO w D M) ∧ (∀ m ∈ M, SqT K H m.2 (m.1.map kV)) ∧ M.length + 1 < 64 ∧ ∀ M', ((k ∈ M.map (·.1) ∧ M' = M) ∨ (k ∉ M.map (·.1) ∧ M'.Perm ((k, b) :: M))) → S (upd H D (StO w D M'))
theorem call_sadd (hu : X.A.units + 1 < cLine) (I : Inv X pins σ H s) {y : V} {u : Value} {S : Hp → Prop} (ry : RelV y u) (p : PutS X.K X.w D y H S) {Q : Value → Shared → Prop} (q : ∀ s' H', Inv X pins σ H' s' → S H' → Q .none s') : wpAny (model X.prog X.w) X.A (call (.builtin "set.add") [.ref D, u]) Q E s := by
  obtain ⟨M, k, b, rfl, hb, hD, hm, few, nx⟩ := p
  obtain rfl : u = Value.ref b := ry
  obtain ⟨es, ep, t, S0⟩ := St0.whole (P := X.prog) ((I.hok D _ hD).1) fun x hx => tk_is I (hm x hx)
  have kb := tk_is I hb
  have rm : (tkd X.prog X.w).room X.A.in1 := show X.A.units + 1 < cLine from hu
  have ty : s.TypeIs (.ref D) "set" := by
    obtain ⟨o, ho, hex, _⟩ := S0.obj
    exact ⟨o, ho, hex.1⟩
  refine wpAny_call_entry F.slot_set_add ty F.entry_set_add ?_ (F.args_set_add_2 _ _)
  unfold Builtin.«set.add» Builtin.Frozenset.oneOther
  simp only [List.isEmpty_nil, bind_assoc]
  unfold Builtin.Frozenset.addrOf setAdd
  refine wpAny_bind (wpAny_pure ?_)
  try dsimp only
  refine wpAny_bind (wpAny_pure ?_)
  try dsimp only
  refine wpAny_bind (wpAny_holding (wpAny_bind ((tkd X.prog X.w).pyHash rm kb ?_)))
  refine adds (s := { s with toks := s.toks + (tkd X.prog X.w).draws k }) byv_t S0 kb rm few fun r h' M' es' ep' t' sb S2 c => ?_
  show wpAny _ _ (ret Value.none) _ _ _
  refine wpAny_pure ⟨_, rfl, q _ _ (I.write (x := D) (e := D) (o := StO X.w D M') (h' := h') (t' := s.toks + (tkd X.prog X.w).draws k) (by rw [hD]; exact True.intro) (.inl rfl) (fun c u hc e => (sb.2 c hc).trans e) ?_ (stO_new S2.bare)) (nx M' c)⟩
  obtain ⟨o, ho, _⟩ := S2.obj
  exact ⟨o, ho⟩
/-- the loop of a set comprehension's for -/
theorem turn_s {elt t0 i0 : Expr} {f0 : List Expr} {scope : Scope} {pos : Pos} {it : Value} {D : Addr} {env : Env} :
    compTurn (.SetComp elt [⟨t0, i0, f0, 0⟩] scope pos) 0 it (.ref D) env = turnOf t0 i0.pos f0 (fun k => do (do let v ← eval elt env; standAt elt.pos; let _ ← call (.builtin "set.add") [.ref D, v]); k) (.compLoop (.SetComp elt [⟨t0, i0, f0, 0⟩] scope pos) 0 it (.ref D) env) it env := rfl
theorem em_s {elt : Expr} {te : TE} (hu : X.A.units + 1 < cLine) (hx : ∀ e s, X.xe e s → False) (he : PE X elt te) (pins : List (Addr × Obj)) (s : Shared) (σ : L2.St) (H : Hp) (Nx : Hp → Prop) (I : Inv X pins σ H s) (h : te σ H fun y H4 => PutS X.K X.w D y H4 Nx) (k : Sem Fin) (Q : Fin → Shared → Prop) (E : Value → Shared → Prop) (hn : ∀ s' H', Inv X pins (wipe σ []) H' s' → Nx H' → wpAny (model X.prog X.w) X.A k Q E s') :
    wpAny (model X.prog X.w) X.A (do (do let v ← eval elt X.env; standAt elt.pos; let _ ← call (.builtin "set.add") [.ref D, v]); k) Q E s := by
  refine wpAny_bind (wpAny_bind (wpAny_mono (he.run pins s σ H _ I h) (fun u s1 z => ?_) fun e s z => (hx e s z).elim))
  obtain ⟨y, H4, I4, r4, p⟩ := z
  refine wpAny_bind (wpAny_standAt (wpAny_bind (call_sadd hu I4 r4 p fun s' H' I' nx => ?_)))
  exact wpAny_pure (hn s' H' I' nx)
end
section
variable {Y : Cx} {pins : List (Addr × Obj)} {s : Shared} {σ : L2.St} {H1 : Hp} {tg elt : Expr} {gens : List Comprehension} {scope : Scope} {pos : Pos} {ifs : List Expr} {g : TG} {tt : TT} {BD : L2.St → Hp → (Hp → Prop) → Prop} {vs vE : List Nat} {Dn : Hp → Prop} {R : Result → Shared → Prop} {d : Nat} {acc : Value} {p : Pos} {EM : Sem Fin → Sem Fin} {it : Addr} {fp : List Addr} {tn : Nat → Heap → Prop} {J : It}
theorem loop_set (hc : Y.calm = true) (hx : ∀ e s, Y.xe e s → False) (hturn : compTurn (.SetComp elt gens scope pos) d (.ref it) acc Y.env = turnOf tg p ifs EM (.compLoop (.SetComp elt gens scope pos) d (.ref it) acc Y.env) (.ref it) Y.env) (hg : PG Y tg g) (ht : PTs Y ifs tt) (hv : ∀ i ∈ vE, i ∈ vs)
    (hEM : ∀ (pins : List (Addr × Obj)) (s : Shared) (σ : L2.St) (H : Hp) (Nx : Hp → Prop), Inv Y pins σ H s → BD σ H Nx → ∀ (k : Sem Fin) (Q : Fin → Shared → Prop) (E : Value → Shared → Prop), (∀ s' H', Inv Y pins (wipe σ vE) H' s' → Nx H' → wpAny (model Y.prog Y.w) Y.A k Q E s') → wpAny (model Y.prog Y.w) Y.A (EM k) Q E s)
    (I : Inv Y pins σ H1 s) (T : L2.Turn Y.prog Y.w Y.K tg J fp it tn) (st : tn 0 s.heap) (f : ∀ b ∈ fp, FpOk Y pins H1 b) (h : LpC J g tt BD σ vs H1 Dn)
    (hR : ∀ s' H', Inv Y pins (wipe σ vs) H' s' → Dn H' → R (.ok .next) s') : codeAny (model Y.prog Y.w) Y.A (.compLoop (.SetComp elt gens scope pos) d (.ref it) acc Y.env) R s := by
  obtain ⟨W, ⟨m0, w0⟩, turn⟩ := h
  refine codeAny_loop rfl (fun n s' => ∃ i H', Inv Y pins (wipe σ vs) H' s' ∧ tn i s'.heap ∧ (∀ b ∈ fp, H' b = none) ∧ W i n H') (fun n s5 hI => ?_) m0 ⟨0, H1, I.weak (wipe_length σ vs) (fun j v q => (wipe_some q).1), st, fun b hb => (f b hb).1, w0⟩
  obtain ⟨i, H5, I5, st5, n5, w5⟩ := hI
  have stat : ∀ {H' : Hp}, (∀ b ∈ fp, H' b = none) → ∀ b ∈ fp, FpOk Y pins H' b := fun hn b hb => ⟨hn b hb, (f b hb).2⟩
  show wpAny _ Y.A ((compTurn (.SetComp elt gens scope pos) d (.ref it) acc Y.env).onRaise fun x => do noteFrame x Y.env; theTreesLotGoes x) _ _ s5
  refine wpAny_noted ?_
  rw [hturn]
  unfold turnOf
  refine wpAny_bind (wpAny_standAt ?_)
  rcases turn i n H5 w5 with ⟨stop, dn⟩ | ⟨go, Nx, hNx, step⟩
  · refine wpAny_bind (thnF (T.done Y rfl rfl rfl hc i pins s5 _ H5 (fun _ _ => False) I5 (stat n5) st5 stop) fun r s6 ⟨er, I6⟩ => ?_)
    subst er
    exact wpAny_pure (hR s6 H5 I6 dn)
  · refine wpAny_bind (thnF (T.item Y rfl rfl rfl hc i pins s5 _ H5 (fun _ _ => False) I5 (stat n5) st5 go) fun r s6 ⟨u, er, h6⟩ => ?_)
    subst er
    refine wpAny_bind (thnF h6 fun _ s7 ⟨x, H7, I7, r7, y7, st7, n7⟩ => ?_)
    have I7p := I7.pinned (stat n7) (T.obj _ _ st7)
    refine wpAny_bind (wpAny_mono (hg.run _ s7 _ H7 x u _ I7p r7 (step x H7 y7)) (fun _ s8 q => ?_) fun e s z => (hx e s z).elim)
    obtain ⟨σ8, H8, I8, hw8, q8⟩ := q
    refine wpAny_bind (wpAny_mono (ht.run _ s8 σ8 H8 _ I8 q8) (fun b s9 q => ?_) fun e s z => (hx e s z).elim)
    obtain ⟨H9, I9, q9⟩ := q
    have fin : ∀ {s' : Shared} {H' : Hp} {vE : List Nat}, (∀ i ∈ vE, i ∈ vs) → Inv Y (pins ++ pinsAt fp s7.heap) (wipe σ8 vE) H' s' → Nx H' → ∃ m, m < n ∧ ∃ i H', Inv Y pins (wipe σ vs) H' s' ∧ tn i s'.heap ∧ (∀ b ∈ fp, H' b = none) ∧ W i m H' := fun {s' H' vE} hv I' nx => by
      obtain ⟨m', hm, w'⟩ := hNx H' nx
      have there : ∀ b ∈ fp, ∀ o, s7.heap.get? b = some o → s'.heap.get? b = some o ∧ H' b = none := fun b hb o q => by
        have z := I'.pin (b, o) (List.mem_append_right _ (List.mem_append_right _ (mem_pinsAt hb q)))
        exact ⟨z.1, z.2.1⟩
      have hl : (wipe σ vs).length = (wipe σ8 vE).length := by rw [wipe_length, wipe_length, ← wipe_length σ vs, ← hw8, wipe_length]
      refine ⟨m', hm, i + 1, H', I'.unpinned.weak hl (fun j v q => ?_), T.keep _ _ _ st7 fun b hb o q => (there b hb o q).1, fun b hb => ?_, w'⟩
      · rw [← hw8] at q
        obtain ⟨q1, q2⟩ := wipe_some q
        rw [wipe_out fun z => q2 (hv j z)]
        exact q1
      · obtain ⟨o, q, _⟩ := T.obj _ _ st7 b hb
        exact (there b hb o q).2
    cases b with
    | false =>
      simp only [Bool.false_eq_true, if_false] at q9 ⊢
      refine wpAny_pure ⟨rfl, ?_⟩
      exact fin (vE := []) (fun _ z => nomatch z) I9 q9
    | true =>
      simp only [if_true] at q9 ⊢
      refine hEM _ s9 σ8 H9 Nx I9 q9 _ _ _ fun s10 H10 I10 nx => wpAny_pure ⟨rfl, ?_⟩
      exact fin hv I10 nx
end
section
variable {X : Cx}
def BdS (K : PySem.W.Frag) (w : World) (te : TE) (D : Addr) : L2.St → Hp → (Hp → Prop) → Prop := fun σ H Nx => te σ H fun y H4 => PutS K w D y H4 Nx
/-- {x for ..} -/
def tSetT (K : PySem.W.Frag) (w : World) (wi : TI) (g : TG) (tt : TT) (te : TE) (vs : List Nat) : TE := fun σ H Q => wi σ H fun J H1 => ∀ D, H1 D = none → LpC J g tt (BdS K w te D) σ vs (upd H1 D (StO w D [])) (Q (.ref D))
theorem pe_setT {w : World} {elt tg iter : Expr} {ifs : List Expr} {scope : Scope} {own : List (Str × Nat)} {pos : Pos} {wi : TI} {g : TG} {tt : TT} {te : TE} (hw : X.w = w) (hu : X.A.units + 1 < cLine) (hc : X.calm = true) (hN : X.N.Nodup) (hi : L2.PI X tg iter wi) (ok : BlkOk X.N X.env.scope scope own)
    (hg : ∀ (s : Shared) (H : Hp) (C : Addr) (cl : List (Str × Addr)) (fp : List Addr), PG (X.blk s H scope (compEnvC scope cl C X.env) fp) tg g) (ht : ∀ (s : Shared) (H : Hp) (C : Addr) (cl : List (Str × Addr)) (fp : List Addr), PTs (X.blk s H scope (compEnvC scope cl C X.env) fp) ifs tt)
    (he : ∀ (s : Shared) (H : Hp) (C : Addr) (cl : List (Str × Addr)) (fp : List Addr), PE (X.blk s H scope (compEnvC scope cl C X.env) fp) elt te) (hs : ∀ x, foldedSetIterable iter X.env x = pure x := by intro _; rfl) :
    PE X (.SetComp elt [⟨tg, iter, ifs, 0⟩] scope pos) (tSetT X.K w wi g tt te (own.map (·.2))) := by
  subst hw
  refine ⟨fun pins s σ H Q I h => ?_⟩
  rw [arm_eval_SetComp]
  have seen : ∀ y ∈ scope.names, y.2 = .free → ∃ c, X.env.cells.lookup y.1 = some c := fun y hy e => (ok.free y hy e).elim (fun k => I.ok.has _ (.inl k)) fun k => I.ok.has _ (.inr k)
  refine wpAny_comprehension_free (use := none) rfl hs (closure_ok seen) ok.kind (fun y hy e => by rw [ok.uniq y hy, e]) (thn (hi.run pins s σ H _ I h) fun xv s1 hx => thn hx fun itv s2 h2 => ?_)
  obtain ⟨it, fp, tn, J, H2, e2, I2, T, st2, f2, q⟩ := h2
  subst e2
  refine newSet_ok (newEnv_comp ?_)
  generalize eD : s2.heap.objs.size = D
  have q1 := q D (I2.hok.fresh (Nat.le_of_eq eD))
  generalize e3 : ({ s2 with heap := s2.heap.push { cls := .type "set", dict := none, data := .set #[] 0 (.fresh 0 0 (!X.w.params.followText "set-order")) } } : Shared) = s3
  have I3 : Inv X pins σ (upd H2 D (StO X.w D [])) s3 := by
    subst e3
    refine I2.laid (t' := s2.toks) (fun b o e => Heap.get?_push_of_some _ e) (Nat.le_of_eq eD) ?_
    rw [← eD]
    exact stO_new (StH.new (kd := tkd X.prog X.w) (Heap.get?_push_size _ rfl)).bare
  have h3 : s3.heap = s2.heap.push { cls := .type "set", dict := none, data := .set #[] 0 (.fresh 0 0 (!X.w.params.followText "set-order")) } := by subst e3; rfl
  have f3 : ∀ b ∈ fp, FpOk X pins (upd H2 D (StO X.w D [])) b ∧ b < s3.heap.objs.size := fun b hb => by
    obtain ⟨o, e, _⟩ := T.obj _ _ st2 b hb
    have lt : b < s2.heap.objs.size := Heap.lt_size e
    exact ⟨⟨(upd_ne (by rw [← eD]; exact Nat.ne_of_lt lt)).trans (f2 b hb).1, (f2 b hb).2⟩, by rw [h3, Heap.size_push]; exact Nat.lt_succ_of_lt lt⟩
  have st3 : tn 0 s3.heap := T.keep _ _ _ st2 fun b _ o e => by rw [h3]; exact Heap.get?_push_of_some _ e
  have I4 := block_start I3 ok hN f3
  have pg := hg s3 (upd H2 D (StO X.w D [])) s3.heap.objs.size (cellsFrom (s3.heap.objs.size + 1) scope.names (cloFrom X.env.cells scope.names [])) fp
  have pt := ht s3 (upd H2 D (StO X.w D [])) s3.heap.objs.size (cellsFrom (s3.heap.objs.size + 1) scope.names (cloFrom X.env.cells scope.names [])) fp
  have pe := he s3 (upd H2 D (StO X.w D [])) s3.heap.objs.size (cellsFrom (s3.heap.objs.size + 1) scope.names (cloFrom X.env.cells scope.names [])) fp
  show codeAny _ _ (.compStart (.SetComp elt [⟨tg, iter, ifs, 0⟩] scope pos) 0 (.ref it) (.ref D) (compEnvC scope (cellsFrom (s3.heap.objs.size + 1) scope.names (cloFrom X.env.cells scope.names [])) s3.heap.objs.size X.env)) _ { s3 with heap := pushCells (s3.heap.push { cls := .type "dict", data := .dict #[] }) scope.names }
  generalize ece : compEnvC scope (cellsFrom (s3.heap.objs.size + 1) scope.names (cloFrom X.env.cells scope.names [])) s3.heap.objs.size X.env = ce at I4 pg pt pe ⊢
  have cL : ce.locals = s3.heap.objs.size := by subst ece; rfl
  generalize eH : upd H2 D (StO X.w D []) = H3 at I3 I4 pg pt pe q1 f3
  generalize e4 : ({ s3 with heap := pushCells (s3.heap.push { cls := .type "dict", data := .dict #[] }) scope.names } : Shared) = s4 at I4 ⊢
  have st4 : tn 0 s4.heap := T.keep _ _ _ st3 fun b _ o e => by subst e4; exact pushCells_keeps _ _ _ _ (Heap.get?_push_of_some _ e)
  have fb : ∀ b ∈ fp, FpOk (X.blk s3 H3 scope ce fp) [] H3 b := fun b hb => ⟨(f3 b hb).1.1, (I4.ok.exf b hb).1, I4.ok.exfs b hb, .inl hb, fun x c e => (I4.ok.exf b hb).2 x c e, fun p hp => absurd (show p ∈ ([] : List (Addr × Obj)) ++ [] from hp) (by simp)⟩
  refine codeAny_compStart_set ?_ (T.self X.A 0 _ _ _ st4 ?_)
  all_goals
    refine loop_set (Y := X.blk s3 H3 scope ce fp) (vE := []) (Dn := Q (.ref D)) (BD := BdS X.K X.w te D) hc (fun _ _ z => z) turn_s pg pt (fun _ z => nomatch z) (fun pins s9 σ9 H9 Nx I9 b9 k Qk Ek hk9 => em_s (X := X.blk s3 H3 scope ce fp) hu (fun _ _ z => z) pe pins s9 σ9 H9 Nx I9 b9 k Qk Ek hk9) I4 T st4 fb q1.wiped fun s6 H6 I6 dn => ?_
    have I7 : Inv X pins σ H6 s6 := I3.call' (ch := fp) I6.os I6.base I6.hok I6.bare fun b hb => ⟨(f3 b hb).1.2.2.2.1, (f3 b hb).1.2.1, (f3 b hb).1.2.2.2.2.1, (f3 b hb).1.2.2.2.2.2⟩
    have nC : H6 ce.locals = none := I6.free
    obtain ⟨m, (hn : s6.heap.Ns ce.locals m), _⟩ := I6.loc
    rw [cL] at nC hn
    obtain ⟨g0, g1, g2, g3, g4, g5⟩ := I3.fpOk (Nat.le_refl _) nC
    exact ⟨m, hn, fun h2 sb => ⟨.ref D, H6, I7.turned (t' := s6.toks) (fun b o hb e => (sb.2 b hb).trans e) g0 g1 g3 g4 g5, rfl, dn⟩⟩
/-- len(set) -/
def rLenS (w : World) : List V → Hp → VK → Prop := fun xs H Q => ∃ a M, xs = [.ref a] ∧ H a = some (StO w a M) ∧ Q (.int (M.length : Int)) H
theorem call_lenS {w : World} (hw : X.w = w) : CallR X (.builtin "len") (rLenS w) := by
  subst hw
  intro pins s σ H xs us Q I r h
  obtain ⟨a, M, rfl, ha, q⟩ := h
  rw [Vals.ref1 r]
  obtain ⟨_, es, ep, t, ⟨o, ho, hex, hd⟩, he, hT, _, _, fr, lt⟩ := (I.hok a _ ha).1
  have len : es.size = M.length := by
    have := congrArg List.length he
    simpa using this
  have sz := hT.sz
  rw [List.length_map] at sz
  refine call_len_set ho hex hd ?_ (by rw [len]; omega) ⟨.int M.length, H, I.tok _, ⟨_, by rw [len]⟩, q⟩
  unfold SetTable.fits SetTable.fill
  rw [hT.dm]
  simp only [Bool.and_eq_true, beq_iff_eq, decide_eq_true_eq]
  exact ⟨by omega, by show t.place.size + 0 ≤ t.mask; omega⟩
end
end G

namespace Lw
open PySem PySem.Spec PyProof.Rows L2 G
def top (i : Nat) : Stmt := PySem.Challenge.pw_oneheap_k54_rows_in_order.main.body.getD i (.Pass ⟨0, 0, 0, 0⟩)
abbrev s__law_cells : Stmt := top 21
abbrev s_Column_init : Stmt := inClass (top 8) 0
abbrev s_Table_init : Stmt := inClass (top 10) 0
abbrev s_StoreKey_init : Stmt := inClass (top 9) 0
abbrev s__law_tables : Stmt := top 24
abbrev s__law_draw : Stmt := top 22
abbrev s__law_places : Stmt := top 28
abbrev s__law_pick : Stmt := top 23
abbrev s__law_ref : Stmt := top 26
abbrev s__law_links : Stmt := top 25
abbrev s__law_cell_row : Stmt := top 27
abbrev s_cell_copy : Stmt := top 3
abbrev s_Row_init : Stmt := inClass (top 2) 0
abbrev s__law_rows : Stmt := top 29
abbrev s_Row_eq : Stmt := inClass (top 2) 1
abbrev s__law_plain : Stmt := top 36
abbrev s__law_marked : Stmt := top 35
abbrev s__law_sorted : Stmt := top 33
abbrev s__law_held : Stmt := top 30
abbrev s__law_referred : Stmt := top 31
abbrev s__law_key : Stmt := top 32
abbrev s__law_fault : Stmt := top 34
abbrev s_has_mark : Stmt := top 18
abbrev s_sorted_rows : Stmt := top 4
abbrev s_numbers_by_table : Stmt := top 13
abbrev s_table_named : Stmt := top 11
abbrev s_cell_numbers : Stmt := top 6
abbrev s_is_there : Stmt := top 14
abbrev s_first_missing : Stmt := top 15
abbrev s_key_value : Stmt := top 5
abbrev s_first_clash : Stmt := top 16
abbrev s_first_fault : Stmt := top 17
abbrev s_are_in_order : Stmt := top 19
abbrev s_Column_eq : Stmt := inClass (top 8) 1
abbrev s_StoreKey_eq : Stmt := inClass (top 9) 1
abbrev s_Table_eq : Stmt := inClass (top 10) 1
abbrev s_law : Stmt := top 37
/-- "mark" -/
def q_mark : List Nat := [109, 97, 114, 107]
theorem e_mark : ("mark" : Str) = ⟨q_mark.toArray⟩ := by decide +kernel
/-- "N" -/
def q_N : List Nat := [78]
theorem e_N : ("N" : Str) = ⟨q_N.toArray⟩ := by decide +kernel
/-- "M" -/
def q_M : List Nat := [77]
theorem e_M : ("M" : Str) = ⟨q_M.toArray⟩ := by decide +kernel
/-- "links" -/
def q_links : List Nat := [108, 105, 110, 107, 115]
theorem e_links : ("links" : Str) = ⟨q_links.toArray⟩ := by decide +kernel
/-- "s" -/
def q_s : List Nat := [115]
theorem e_s : ("s" : Str) = ⟨q_s.toArray⟩ := by decide +kernel
/-- "reference" -/
def q_reference : List Nat := [114, 101, 102, 101, 114, 101, 110, 99, 101]
theorem e_reference : ("reference" : Str) = ⟨q_reference.toArray⟩ := by decide +kernel
/-- "r" -/
def q_r : List Nat := [114]
theorem e_r : ("r" : Str) = ⟨q_r.toArray⟩ := by decide +kernel
/-- "value" -/
def q_value : List Nat := [118, 97, 108, 117, 101]
theorem e_value : ("value" : Str) = ⟨q_value.toArray⟩ := by decide +kernel
/-- "k" -/
def q_k : List Nat := [107]
theorem e_k : ("k" : Str) = ⟨q_k.toArray⟩ := by decide +kernel
/-- "v" -/
def q_v : List Nat := [118]
theorem e_v : ("v" : Str) = ⟨q_v.toArray⟩ := by decide +kernel
/-- "P" -/
def q_P : List Nat := [80]
theorem e_P : ("P" : Str) = ⟨q_P.toArray⟩ := by decide +kernel
/-- "key1" -/
def q_key1 : List Nat := [107, 101, 121, 49]
theorem e_key1 : ("key1" : Str) = ⟨q_key1.toArray⟩ := by decide +kernel
/-- "1" -/
def q_1 : List Nat := [49]
theorem e_1 : ("1" : Str) = ⟨q_1.toArray⟩ := by decide +kernel
/-- "x" -/
def q_x : List Nat := [120]
theorem e_x : ("x" : Str) = ⟨q_x.toArray⟩ := by decide +kernel
/-- "not there" -/
def q_not_there : List Nat := [110, 111, 116, 32, 116, 104, 101, 114, 101]
theorem e_not_there : ("not there" : Str) = ⟨q_not_there.toArray⟩ := by decide +kernel
/-- "same key" -/
def q_same_key : List Nat := [115, 97, 109, 101, 32, 107, 101, 121]
theorem e_same_key : ("same key" : Str) = ⟨q_same_key.toArray⟩ := by decide +kernel
def ts_MARK : List (List Nat) := [q_mark]
/-! ### readings -/
abbrev T_sorted_rows (K : PySem.W.Frag) : List (Addr × Str) := [((He.cT K ("sorted_rows", none)).2, (("sorted_rows" : Str) ++ ".<locals>.") ++ "<lambda>")]
theorem T_sorted_rows_u (K : PySem.W.Frag) : ∀ p ∈ T_sorted_rows K, p.1 = (He.cT K ("sorted_rows", none)).2 → p.2 = (("sorted_rows" : Str) ++ ".<locals>.") ++ "<lambda>" := fun p hp _ => by
  cases hp with
  | head => rfl
  | tail _ h => cases h
/-- _law_cells: 0 _law_script, 1 _law_count, 2 _law_cells_here, 3 _law_k, 4 _law_cell -/
def t__law_cells (K : PySem.W.Frag) : TS :=
  (tSeq (tAsg (tLst tNil) (gName 2)) (tSeq (tFor (iRng1 (tCons (tVar 1) tNil)) (gName 3) (tSeq (tAsg (tOp (rAddX K) (tOp rMulX (tC (.int 11)) (tVar 3)) (tC (.int 5))) (gName 4)) (C8.tCut (tIfS (tTest (tOp (rLtX K) (tVar 3) (tCB (rLen K) (tCons (tVar 0) tNil)))) (tSeq (tAsg (tCB rIntX (tCons (tOp (rIx K) (tVar 0) (tVar 3)) tNil)) (gName 4)) (tIfS (tTest (tOp (rLtX K) (tVar 4) (tC (.int 0)))) (tAsg (tOp rSubX (tC (.int 1)) (tOp rMulX (tC (.int 2)) (tVar 4))) (gName 4)) tNext)) tNext) (C8.tCut (tIfS (tTest (tOp (rLtX K) (tVar 4) (tC (.int 1000000000)))) (tSeq (tAsg (tOp rModX (tCB rIntX (tCons (tOp (rAddX K) (tOp (rAddX K) (tOp rMulX (tCB rIntX (tCons (tVar 4) tNil)) (tC (.int 48271))) (tOp rMulX (tC (.int 17)) (tVar 3))) (tC (.int 3))) tNil)) (tC (.int 2147483647))) (gName 4)) (tAsg (tOp rModX (tCB rIntX (tCons (tOp (rAddX K) (tOp rMulX (tCB rIntX (tCons (tVar 4) tNil)) (tC (.int 2862933555777941757))) (tC (.int 3037000493))) tNil)) (tC (.int 18446744073709551557))) (gName 4))) tNext) (tDrop (tBM K "list" rAppend (tVar 2) (tCons (tVar 4) tNil))))))) (tRet (tVar 2))))
def sp__law_cells (K : PySem.W.Frag) : Sp := fun vs H Q E => vs.length = 2 ∧ t__law_cells K ⟨fun _ H' => Q .non H', Q, fun _ _ => False, fun _ _ => False⟩ (start ["_law_script", "_law_count", "_law_cells_here", "_law_k", "_law_cell"] vs) H
/-- Column.__init__: 0 self, 1 name, 2 role, 3 targets -/
def t_Column_init (K : PySem.W.Frag) : TS :=
  (tSeq (sFld K (tVar 0) (tVar 1) ("name" : Str)) (tSeq (sFld K (tVar 0) (tVar 2) ("role" : Str)) (sFld K (tVar 0) (tCB (rListX K) (tCons (tVar 3) tNil)) ("targets" : Str))))
def sp_Column_init (K : PySem.W.Frag) : Sp := fun vs H Q E => vs.length = 4 ∧ t_Column_init K ⟨fun _ H' => Q .non H', Q, fun _ _ => False, fun _ _ => False⟩ (start ["self", "name", "role", "targets"] vs) H
/-- Table.__init__: 0 self, 1 name, 2 columns, 3 unique -/
def t_Table_init (K : PySem.W.Frag) : TS :=
  (tSeq (sFld K (tVar 0) (tVar 1) ("name" : Str)) (tSeq (sFld K (tVar 0) (tCB (rListX K) (tCons (tVar 2) tNil)) ("columns" : Str)) (sFld K (tVar 0) (tCB (rListX K) (tCons (tVar 3) tNil)) ("unique" : Str))))
def sp_Table_init (K : PySem.W.Frag) : Sp := fun vs H Q E => vs.length = 4 ∧ t_Table_init K ⟨fun _ H' => Q .non H', Q, fun _ _ => False, fun _ _ => False⟩ (start ["self", "name", "columns", "unique"] vs) H
/-- StoreKey.__init__: 0 self, 1 name, 2 places -/
def t_StoreKey_init (K : PySem.W.Frag) : TS :=
  (tSeq (sFld K (tVar 0) (tVar 1) ("name" : Str)) (sFld K (tVar 0) (tCB (rListX K) (tCons (tVar 2) tNil)) ("places" : Str)))
def sp_StoreKey_init (K : PySem.W.Frag) : Sp := fun vs H Q E => vs.length = 3 ∧ t_StoreKey_init K ⟨fun _ H' => Q .non H', Q, fun _ _ => False, fun _ _ => False⟩ (start ["self", "name", "places"] vs) H
/-- _law_tables: 0 _law_mains, 1 _law_first, 2 _law_second, 3 _law_third -/
def t__law_tables (K : PySem.W.Frag) : TS :=
  (tSeq (tAsg (tLst (tCons (tC (.str ⟨q_M.toArray⟩)) (tCons (tC (.str ⟨q_N.toArray⟩)) tNil))) (gName 0)) (tSeq (tAsg (tLst (tCons (tMake (He.ga K ("Column" : Str)) (sp_Column_init K) [(.ref (dfAt K ("Column", some "__init__") 0))] E0 (tCons (tC (.str ⟨q_v.toArray⟩)) (tCons (tC (.str ⟨q_value.toArray⟩)) tNil))) (tCons (tMake (He.ga K ("Column" : Str)) (sp_Column_init K) [(.ref (dfAt K ("Column", some "__init__") 0))] E0 (tCons (tC (.str ⟨q_k.toArray⟩)) (tCons (tC (.str ⟨q_value.toArray⟩)) tNil))) (tCons (tMake (He.ga K ("Column" : Str)) (sp_Column_init K) [] E0 (tCons (tC (.str ⟨q_r.toArray⟩)) (tCons (tC (.str ⟨q_reference.toArray⟩)) (tCons (tVar 0) tNil)))) (tCons (tMake (He.ga K ("Column" : Str)) (sp_Column_init K) [] E0 (tCons (tC (.str ⟨q_s.toArray⟩)) (tCons (tC (.str ⟨q_links.toArray⟩)) (tCons (tVar 0) tNil)))) tNil))))) (gName 1)) (tSeq (tAsg (tLst (tCons (tMake (He.ga K ("Column" : Str)) (sp_Column_init K) [(.ref (dfAt K ("Column", some "__init__") 0))] E0 (tCons (tC (.str ⟨q_k.toArray⟩)) (tCons (tC (.str ⟨q_value.toArray⟩)) tNil))) (tCons (tMake (He.ga K ("Column" : Str)) (sp_Column_init K) [] E0 (tCons (tC (.str ⟨q_r.toArray⟩)) (tCons (tC (.str ⟨q_reference.toArray⟩)) (tCons (tVar 0) tNil)))) tNil))) (gName 2)) (tSeq (tAsg (tLst (tCons (tMake (He.ga K ("Column" : Str)) (sp_Column_init K) [(.ref (dfAt K ("Column", some "__init__") 0))] E0 (tCons (tC (.str ⟨q_v.toArray⟩)) (tCons (tC (.str ⟨q_value.toArray⟩)) tNil))) (tCons (tMake (He.ga K ("Column" : Str)) (sp_Column_init K) [] E0 (tCons (tC (.str ⟨q_s.toArray⟩)) (tCons (tC (.str ⟨q_links.toArray⟩)) (tCons (tVar 0) tNil)))) tNil))) (gName 3)) (tRet (tLst (tCons (tMake (He.ga K ("Table" : Str)) (sp_Table_init K) [] E0 (tCons (tC (.str ⟨q_M.toArray⟩)) (tCons (tVar 1) (tCons (tLst (tCons (tMake (He.ga K ("StoreKey" : Str)) (sp_StoreKey_init K) [] E0 (tCons (tC (.str ⟨q_key1.toArray⟩)) (tCons (tLst (tCons (tC (.int 1)) tNil)) tNil))) tNil)) tNil)))) (tCons (tMake (He.ga K ("Table" : Str)) (sp_Table_init K) [] E0 (tCons (tC (.str ⟨q_N.toArray⟩)) (tCons (tVar 2) (tCons (tLst (tCons (tMake (He.ga K ("StoreKey" : Str)) (sp_StoreKey_init K) [] E0 (tCons (tC (.str ⟨q_key1.toArray⟩)) (tCons (tLst (tCons (tC (.int 0)) tNil)) tNil))) tNil)) tNil)))) (tCons (tMake (He.ga K ("Table" : Str)) (sp_Table_init K) [(.ref (dfAt K ("Table", some "__init__") 0))] E0 (tCons (tC (.str ⟨q_P.toArray⟩)) (tCons (tVar 3) tNil))) tNil)))))))))
def sp__law_tables (K : PySem.W.Frag) : Sp := fun vs H Q E => vs.length = 0 ∧ t__law_tables K ⟨fun _ H' => Q .non H', Q, fun _ _ => False, fun _ _ => False⟩ (start ["_law_mains", "_law_first", "_law_second", "_law_third"] vs) H
/-- _law_draw: 0 _law_draws, 1 _law_bound, 2 _law_amount -/
def t__law_draw (K : PySem.W.Frag) : TS :=
  (C8.tCut (tIfS (tAnd (tTest (tOp (rEqX K) (tOp (rIx K) (tVar 0) (tC (.int 0))) (tC (.int 0)))) (tTest (tOp rGtX (tCB (rLen K) (tCons (tVar 0) tNil)) (tC (.int 1))))) (tDrop (tBM K "list" (fun x vs H Q => rPop x vs H Q ∨ rPopAt x vs H Q) (tVar 0) (tCons (tC (.int 0)) tNil))) tNext) (tSeq (tAsg (tOp rModX (tCB rIntX (tCons (tOp (rIx K) (tVar 0) (tC (.int 0))) tNil)) (tVar 1)) (gName 2)) (tSeq (tAsg (tOp rDivX (tOp (rIx K) (tVar 0) (tC (.int 0))) (tVar 1)) (gSub (tVar 0) (tC (.int 0)) rSetL)) (tRet (tVar 2)))))
def sp__law_draw (K : PySem.W.Frag) : Sp := fun vs H Q E => vs.length = 2 ∧ t__law_draw K ⟨fun _ H' => Q .non H', Q, fun _ _ => False, fun _ _ => False⟩ (start ["_law_draws", "_law_bound", "_law_amount"] vs) H
/-- _law_places: 0 _law_draws, 1 _law_places_here, 2 _law_table, 3 _law_turn, 4 _law_place -/
def t__law_places (K : PySem.W.Frag) : TS :=
  (tSeq (tAsg (tLst tNil) (gName 1)) (tSeq (tFor (iAny K (tLst (tCons (tC (.str ⟨q_M.toArray⟩)) (tCons (tC (.str ⟨q_N.toArray⟩)) (tCons (tC (.str ⟨q_P.toArray⟩)) tNil))))) (gName 2) (tFor (iRng1 (tCons (tCallSD (sp__law_draw K) [] Ez (tCons (tVar 0) (tCons (tC (.int 5)) tNil))) tNil)) (gName 3) (tSeq (tAsg (tTup (tCons (tVar 2) (tCons (tOp (rAddX K) (tC (.int 1)) (tCallSD (sp__law_draw K) [] Ez (tCons (tVar 0) (tCons (tC (.int 6)) tNil)))) tNil))) (gName 4)) (tIfS (tTest (tOp (rNotInD K) (tVar 4) (tVar 1))) (tDrop (tBM K "list" rAppend (tVar 1) (tCons (tVar 4) tNil))) tNext)))) (tRet (tVar 1))))
def sp__law_places (K : PySem.W.Frag) : Sp := fun vs H Q E => vs.length = 1 ∧ t__law_places K ⟨fun _ H' => Q .non H', Q, fun _ _ => False, fun _ _ => False⟩ (start ["_law_draws", "_law_places_here", "_law_table", "_law_turn", "_law_place"] vs) H
/-- _law_pick: 0 _law_draws, 1 _law_row -/
def t__law_pick (K : PySem.W.Frag) : TS :=
  (tRet (tOp (rIx K) (tVar 1) (tCallSD (sp__law_draw K) [] Ez (tCons (tVar 0) (tCons (tCB (rLen K) (tCons (tVar 1) tNil)) tNil)))))
def sp__law_pick (K : PySem.W.Frag) : Sp := fun vs H Q E => vs.length = 2 ∧ t__law_pick K ⟨fun _ H' => Q .non H', Q, fun _ _ => False, fun _ _ => False⟩ (start ["_law_draws", "_law_row"] vs) H
/-- _law_ref: 0 _law_draws, 1 _law_numbers -/
def t__law_ref (K : PySem.W.Frag) : TS :=
  (tSeq (tIfS (tOr (tTest (tOp (rEqX K) (tCB (rLen K) (tCons (tVar 1) tNil)) (tC (.int 0)))) (tTest (tOp (rEqX K) (tCallSD (sp__law_draw K) [] Ez (tCons (tVar 0) (tCons (tC (.int 3)) tNil))) (tC (.int 0))))) (tRet (tC .non)) tNext) (tRet (tCallSD (sp__law_pick K) [] Ez (tCons (tVar 0) (tCons (tVar 1) tNil)))))
def sp__law_ref (K : PySem.W.Frag) : Sp := fun vs H Q E => vs.length = 2 ∧ t__law_ref K ⟨fun _ H' => Q .non H', Q, fun _ _ => False, fun _ _ => False⟩ (start ["_law_draws", "_law_numbers"] vs) H
/-- _law_links: 0 _law_draws, 1 _law_numbers, 2 _law_row, 3 _law_turn, 4 _law_number -/
def t__law_links (K : PySem.W.Frag) : TS :=
  (tSeq (tAsg (tLst tNil) (gName 2)) (tSeq (tFor (iRng1 (tCons (tCallSD (sp__law_draw K) [] Ez (tCons (tVar 0) (tCons (tC (.int 4)) tNil))) tNil)) (gName 3) (tIfS (tTest (tOp rGtX (tCB (rLen K) (tCons (tVar 1) tNil)) (tC (.int 0)))) (tSeq (tAsg (tCallSD (sp__law_pick K) [] Ez (tCons (tVar 0) (tCons (tVar 1) tNil))) (gName 4)) (tIfS (tTest (tOp (rNotInX K) (tVar 4) (tVar 2))) (tDrop (tBM K "list" rAppend (tVar 2) (tCons (tVar 4) tNil))) tNext)) tNext)) (tRet (tVar 2))))
def sp__law_links (K : PySem.W.Frag) : Sp := fun vs H Q E => vs.length = 2 ∧ t__law_links K ⟨fun _ H' => Q .non H', Q, fun _ _ => False, fun _ _ => False⟩ (start ["_law_draws", "_law_numbers", "_law_row", "_law_turn", "_law_number"] vs) H
/-- _law_cell_row: 0 _law_draws, 1 _law_table, 2 _law_numbers, 3 _law_key_here -/
def t__law_cell_row (K : PySem.W.Frag) : TS :=
  (tSeq (tAsg (tCallSD (sp__law_pick K) [] Ez (tCons (tVar 0) (tCons (tLst (tCons (tC .non) (tCons (tC .non) (tCons (tC (.int 0)) (tCons (tC (.int 1)) (tCons (tC (.int 2)) (tCons (tC (.str ⟨q_1.toArray⟩)) (tCons (tC (.int 3)) (tCons (tC (.int 4)) tNil))))))))) tNil))) (gName 3)) (tSeq (tIfS (tTest (tOp (rEqX K) (tVar 1) (tC (.str ⟨q_M.toArray⟩)))) (tRet (tLst (tCons (tCallSD (sp__law_draw K) [] Ez (tCons (tVar 0) (tCons (tC (.int 3)) tNil))) (tCons (tVar 3) (tCons (tCallSD (sp__law_ref K) [] Ez (tCons (tVar 0) (tCons (tVar 2) tNil))) (tCons (tCallSD (sp__law_links K) [] Ez (tCons (tVar 0) (tCons (tVar 2) tNil))) tNil)))))) tNext) (tSeq (tIfS (tTest (tOp (rEqX K) (tVar 1) (tC (.str ⟨q_N.toArray⟩)))) (tRet (tLst (tCons (tVar 3) (tCons (tCallSD (sp__law_ref K) [] Ez (tCons (tVar 0) (tCons (tVar 2) tNil))) tNil)))) tNext) (tRet (tLst (tCons (tCallSD (sp__law_pick K) [] Ez (tCons (tVar 0) (tCons (tLst (tCons (tC .non) (tCons (tC (.int 7)) (tCons (tC (.str ⟨q_x.toArray⟩)) tNil)))) tNil))) (tCons (tCallSD (sp__law_links K) [] Ez (tCons (tVar 0) (tCons (tVar 2) tNil))) tNil)))))))
def sp__law_cell_row (K : PySem.W.Frag) : Sp := fun vs H Q E => vs.length = 3 ∧ t__law_cell_row K ⟨fun _ H' => Q .non H', Q, fun _ _ => False, fun _ _ => False⟩ (start ["_law_draws", "_law_table", "_law_numbers", "_law_key_here"] vs) H
/-- cell_copy: 0 cell -/
def t_cell_copy (K : PySem.W.Frag) : TS :=
  (tSeq (tIfS (tTru K (tCB (rIsi K) (tCons (tVar 0) (tCons (tC (.ty "list")) tNil)))) (tRet (tCB (rListX K) (tCons (tVar 0) tNil))) tNext) (tRet (tVar 0)))
def sp_cell_copy (K : PySem.W.Frag) : Sp := fun vs H Q E => vs.length = 1 ∧ t_cell_copy K ⟨fun _ H' => Q .non H', Q, fun _ _ => False, fun _ _ => False⟩ (start ["cell"] vs) H
/-- Row.__init__: 0 self, 1 table, 2 number, 3 cells, 4 cell -/
def t_Row_init (K : PySem.W.Frag) : TS :=
  (tSeq (sFld K (tVar 0) (tVar 1) ("table" : Str)) (tSeq (sFld K (tVar 0) (tVar 2) ("number" : Str)) (sFld K (tVar 0) (tLc (iAny K (tVar 3)) (gName 4) tYes (tCallSD (sp_cell_copy K) [] Ez (tCons (tVar 4) tNil)) [4]) ("cells" : Str))))
def sp_Row_init (K : PySem.W.Frag) : Sp := fun vs H Q E => vs.length = 4 ∧ t_Row_init K ⟨fun _ H' => Q .non H', Q, fun _ _ => False, fun _ _ => False⟩ (start ["self", "table", "number", "cells", "cell"] vs) H
/-- _law_rows: 0 _law_draws, 1 _law_places_here, 2 _law_numbers, 3 _law_place, 4 _law_used, 5 _law_rows_here, 6 _law_table, 7 _law_number, 8 _law_cells_here, 9 _law_at -/
def t__law_rows (K : PySem.W.Frag) : TS :=
  (tSeq (tAsg (tCallSD (sp__law_places K) [] Ez (tCons (tVar 0) tNil)) (gName 1)) (tSeq (tAsg (tLc (iAny K (tVar 1)) (gName 3) (tTest (tOp (rNeX K) (tOp (rIx K) (tVar 3) (tC (.int 0))) (tC (.str ⟨q_P.toArray⟩)))) (tOp (rIx K) (tVar 3) (tC (.int 1))) [3]) (gName 2)) (tSeq (tAsg (tLst tNil) (gName 4)) (tSeq (tAsg (tLst tNil) (gName 5)) (tSeq (tFor (iAny K (tVar 1)) (gTup K 2 (gCons (gName 6) (gCons (gName 7) gNil))) (tSeq (tAsg (tCallSD (sp__law_cell_row K) [] Ez (tCons (tVar 0) (tCons (tVar 6) (tCons (tVar 2) tNil)))) (gName 8)) (tSeq (tAsg (tIf (tTest (tOp (rEqX K) (tVar 6) (tC (.str ⟨q_M.toArray⟩)))) (tC (.int 1)) (tC (.int 0))) (gName 9)) (C8.tCut (tIfS (tAnd (tTest (tOp (rNeX K) (tVar 6) (tC (.str ⟨q_P.toArray⟩)))) (tTest (tOp (rInX K) (tOp (rIx K) (tVar 8) (tVar 9)) (tVar 4)))) (tAsg (tC .non) (gSub (tVar 8) (tVar 9) rSetL)) tNext) (C8.tCut (tIfS (tAnd (tTest (tOp (rNeX K) (tVar 6) (tC (.str ⟨q_P.toArray⟩)))) (tTest (tOp rIsNotX (tOp (rIx K) (tVar 8) (tVar 9)) (tC .non)))) (tDrop (tBM K "list" rAppend (tVar 4) (tCons (tOp (rIx K) (tVar 8) (tVar 9)) tNil))) tNext) (tDrop (tBM K "list" rAppend (tVar 5) (tCons (tMake (He.ga K ("Row" : Str)) (sp_Row_init K) [] E0 (tCons (tVar 6) (tCons (tVar 7) (tCons (tVar 8) tNil)))) tNil)))))))) (tRet (tVar 5)))))))
def sp__law_rows (K : PySem.W.Frag) : Sp := fun vs H Q E => vs.length = 1 ∧ t__law_rows K ⟨fun _ H' => Q .non H', Q, fun _ _ => False, fun _ _ => False⟩ (start ["_law_draws", "_law_places_here", "_law_numbers", "_law_place", "_law_used", "_law_rows_here", "_law_table", "_law_number", "_law_cells_here", "_law_at"] vs) H
/-- Row.__eq__: 0 self, 1 other -/
def t_Row_eq (K : PySem.W.Frag) : TS :=
  (tSeq (tIfS (tNot (tTru K (tCB (rIsi K) (tCons (tVar 1) (tCons (tC (.ref (He.ga K ("Row" : Str)))) tNil))))) (tRet (tC (.bl false))) tNext) (tRet (tAndV (tOp (rEqX K) (tFld K (tVar 0) ("table" : Str)) (tFld K (tVar 1) ("table" : Str))) (tAndV (tOp (rEqX K) (tFld K (tVar 0) ("number" : Str)) (tFld K (tVar 1) ("number" : Str))) (tOp (rEqX K) (tFld K (tVar 0) ("cells" : Str)) (tFld K (tVar 1) ("cells" : Str)))))))
def sp_Row_eq (K : PySem.W.Frag) : Sp := fun vs H Q E => vs.length = 2 ∧ t_Row_eq K ⟨fun _ H' => Q .non H', Q, fun _ _ => False, fun _ _ => False⟩ (start ["self", "other"] vs) H
/-- _law_plain: 0 _law_rows_here, 1 _law_row -/
def t__law_plain (K : PySem.W.Frag) : TS :=
  (tRet (tLc (iAny K (tVar 0)) (gName 1) tYes (tTup (tCons (tFld K (tVar 1) ("table" : Str)) (tCons (tFld K (tVar 1) ("number" : Str)) (tCons (tCB (rListX K) (tCons (tFld K (tVar 1) ("cells" : Str)) tNil)) tNil)))) [1]))
def sp__law_plain (K : PySem.W.Frag) : Sp := fun vs H Q E => vs.length = 1 ∧ t__law_plain K ⟨fun _ H' => Q .non H', Q, fun _ _ => False, fun _ _ => False⟩ (start ["_law_rows_here", "_law_row"] vs) H
/-- _law_marked: 0 _law_rows_here, 1 _law_row -/
def t__law_marked (K : PySem.W.Frag) : TS :=
  (tRet (tOp rGtX (tCB (rLen K) (tCons (tLc (iAny K (tVar 0)) (gName 1) (tTest (tOp (rInD K) (tC (.ref (He.ga K ("MARK" : Str)))) (tOp (rIx K) (tVar 1) (tC (.int 2))))) (tVar 1) [1]) tNil)) (tC (.int 0))))
def sp__law_marked (K : PySem.W.Frag) : Sp := fun vs H Q E => vs.length = 1 ∧ t__law_marked K ⟨fun _ H' => Q .non H', Q, fun _ _ => False, fun _ _ => False⟩ (start ["_law_rows_here", "_law_row"] vs) H
/-- _law_sorted: 0 _law_rows_here, 1 _law_found, 2 _law_table, 3 _law_numbers, 4 _law_row, 5 _law_number -/
def t__law_sorted (K : PySem.W.Frag) : TS :=
  (tSeq (tAsg (tLst tNil) (gName 1)) (tSeq (tFor (iAny K (tLst (tCons (tC (.str ⟨q_M.toArray⟩)) (tCons (tC (.str ⟨q_N.toArray⟩)) (tCons (tC (.str ⟨q_P.toArray⟩)) tNil))))) (gName 2) (tSeq (tAsg (tCB (rSortedI K) (tCons (tLc (iAny K (tVar 0)) (gName 4) (tTest (tOp (rEqX K) (tOp (rIx K) (tVar 4) (tC (.int 0))) (tVar 2))) (tOp (rIx K) (tVar 4) (tC (.int 1))) [4]) tNil)) (gName 3)) (tFor (iAny K (tVar 3)) (gName 5) (tAsg (tOp (rAddX K) (tVar 1) (tLc (iAny K (tVar 0)) (gName 4) (tAnd (tTest (tOp (rEqX K) (tOp (rIx K) (tVar 4) (tC (.int 0))) (tVar 2))) (tTest (tOp (rEqX K) (tOp (rIx K) (tVar 4) (tC (.int 1))) (tVar 5)))) (tVar 4) [4])) (gName 1))))) (tRet (tVar 1))))
def sp__law_sorted (K : PySem.W.Frag) : Sp := fun vs H Q E => vs.length = 1 ∧ t__law_sorted K ⟨fun _ H' => Q .non H', Q, fun _ _ => False, fun _ _ => False⟩ (start ["_law_rows_here", "_law_found", "_law_table", "_law_numbers", "_law_row", "_law_number"] vs) H
/-- _law_held: 0 _law_cell -/
def t__law_held (K : PySem.W.Frag) : TS :=
  (tSeq (tIfS (tOr (tTest (tOp rIsX (tVar 0) (tC .non))) (tTest (tOp (rEqX K) (tVar 0) (tC (.ref (He.ga K ("MARK" : Str))))))) (tRet (tLst tNil)) tNext) (tSeq (tIfS (tTru K (tCB (rIsi K) (tCons (tVar 0) (tCons (tC (.ty "list")) tNil)))) (tRet (tVar 0)) tNext) (tRet (tLst (tCons (tVar 0) tNil)))))
def sp__law_held (K : PySem.W.Frag) : Sp := fun vs H Q E => vs.length = 1 ∧ t__law_held K ⟨fun _ H' => Q .non H', Q, fun _ _ => False, fun _ _ => False⟩ (start ["_law_cell"] vs) H
/-- _law_referred: 0 _law_table, 1 _law_cells_here -/
def t__law_referred (K : PySem.W.Frag) : TS :=
  (tSeq (tIfS (tTest (tOp (rEqX K) (tVar 0) (tC (.str ⟨q_M.toArray⟩)))) (tRet (tOp (rAddX K) (tCallSD (sp__law_held K) [] Ez (tCons (tOp (rIx K) (tVar 1) (tC (.int 2))) tNil)) (tCallSD (sp__law_held K) [] Ez (tCons (tOp (rIx K) (tVar 1) (tC (.int 3))) tNil)))) tNext) (tSeq (tIfS (tTest (tOp (rEqX K) (tVar 0) (tC (.str ⟨q_N.toArray⟩)))) (tRet (tCallSD (sp__law_held K) [] Ez (tCons (tOp (rIx K) (tVar 1) (tC (.int 1))) tNil))) tNext) (tRet (tCallSD (sp__law_held K) [] Ez (tCons (tOp (rIx K) (tVar 1) (tC (.int 1))) tNil)))))
def sp__law_referred (K : PySem.W.Frag) : Sp := fun vs H Q E => vs.length = 2 ∧ t__law_referred K ⟨fun _ H' => Q .non H', Q, fun _ _ => False, fun _ _ => False⟩ (start ["_law_table", "_law_cells_here"] vs) H
/-- _law_key: 0 _law_table, 1 _law_cells_here, 2 _law_cell -/
def t__law_key (K : PySem.W.Frag) : TS :=
  (tSeq (tIfS (tTest (tOp (rEqX K) (tVar 0) (tC (.str ⟨q_P.toArray⟩)))) (tRet (tC .non)) tNext) (tSeq (tAsg (tOp (rIx K) (tVar 1) (tIf (tTest (tOp (rEqX K) (tVar 0) (tC (.str ⟨q_M.toArray⟩)))) (tC (.int 1)) (tC (.int 0)))) (gName 2)) (tSeq (tIfS (tOr (tTest (tOp rIsX (tVar 2) (tC .non))) (tTest (tOp (rEqX K) (tVar 2) (tC (.ref (He.ga K ("MARK" : Str))))))) (tRet (tC .non)) tNext) (tRet (tCB (rRepr K) (tCons (tVar 2) tNil))))))
def sp__law_key (K : PySem.W.Frag) : Sp := fun vs H Q E => vs.length = 2 ∧ t__law_key K ⟨fun _ H' => Q .non H', Q, fun _ _ => False, fun _ _ => False⟩ (start ["_law_table", "_law_cells_here", "_law_cell"] vs) H
/-- _law_fault: 0 _law_rows_here, 1 _law_there, 2 _law_row, 3 _law_ordered, 4 _law_number, 5 _law_seen, 6 _law_key_here -/
def t__law_fault (K : PySem.W.Frag) : TS :=
  (tSeq (tAsg (tLc (iAny K (tVar 0)) (gName 2) (tTest (tOp (rNeX K) (tOp (rIx K) (tVar 2) (tC (.int 0))) (tC (.str ⟨q_P.toArray⟩)))) (tOp (rIx K) (tVar 2) (tC (.int 1))) [2]) (gName 1)) (tSeq (tAsg (tCallSD (sp__law_sorted K) [] Ez (tCons (tVar 0) tNil)) (gName 3)) (tSeq (tFor (iAny K (tVar 3)) (gName 2) (tFor (iAny K (tCallSD (sp__law_referred K) [] Ez (tCons (tOp (rIx K) (tVar 2) (tC (.int 0))) (tCons (tOp (rIx K) (tVar 2) (tC (.int 2))) tNil)))) (gName 4) (tIfS (tTest (tOp (rNotInX K) (tVar 4) (tVar 1))) (tRet (tTup (tCons (tC (.str ⟨q_not_there.toArray⟩)) (tCons (tVar 4) tNil)))) tNext))) (tSeq (tAsg (tLst tNil) (gName 5)) (tSeq (tFor (iAny K (tVar 3)) (gName 2) (tSeq (tAsg (tCallSD (sp__law_key K) [] Ez (tCons (tOp (rIx K) (tVar 2) (tC (.int 0))) (tCons (tOp (rIx K) (tVar 2) (tC (.int 2))) tNil))) (gName 6)) (tSeq (tIfS (tAnd (tTest (tOp rIsNotX (tVar 6) (tC .non))) (tTest (tOp (rInX K) (tVar 6) (tVar 5)))) (tRet (tTup (tCons (tC (.str ⟨q_same_key.toArray⟩)) (tCons (tOp (rIx K) (tVar 2) (tC (.int 1))) tNil)))) tNext) (tIfS (tTest (tOp rIsNotX (tVar 6) (tC .non))) (tDrop (tBM K "list" rAppend (tVar 5) (tCons (tVar 6) tNil))) tNext)))) (tRet (tC .non)))))))
def sp__law_fault (K : PySem.W.Frag) : Sp := fun vs H Q E => vs.length = 1 ∧ t__law_fault K ⟨fun _ H' => Q .non H', Q, fun _ _ => False, fun _ _ => False⟩ (start ["_law_rows_here", "_law_there", "_law_row", "_law_ordered", "_law_number", "_law_seen", "_law_key_here"] vs) H
/-- has_mark: 0 row, 1 cell -/
def t_has_mark (K : PySem.W.Frag) : TS :=
  (tRet (tCB (rAny K) (tCons (tLc (iAny K (tFld K (tVar 0) ("cells" : Str))) (gName 1) tYes (tOp (rEqX K) (tVar 1) (tC (.ref (He.ga K ("MARK" : Str))))) [1]) tNil)))
def sp_has_mark (K : PySem.W.Frag) : Sp := fun vs H Q E => vs.length = 1 ∧ t_has_mark K ⟨fun _ H' => Q .non H', Q, fun _ _ => False, fun _ _ => False⟩ (start ["row", "cell"] vs) H
/-- sorted_rows: 0 tables, 1 rows, 2 places, 3 place, 4 table -/
def t_sorted_rows (K : PySem.W.Frag) : TS :=
  (tSeq (tAsg tDNewK (gName 2)) (tSeq (tFor (iEnum K (tCons (tVar 0) tNil)) (gTup K 2 (gCons (gName 3) (gCons (gName 4) gNil))) (sDPut (tVar 2) (tFld K (tVar 4) ("name" : Str)) (tVar 3))) (tRet (tSortK K (T_sorted_rows K) [2] (tCons (tVar 1) tNil) (tTup (tCons (tDGet (tVar 1) (tFld K (tVar 0) ("table" : Str))) (tCons (tFld K (tVar 0) ("number" : Str)) tNil)))))))
def sp_sorted_rows (K : PySem.W.Frag) : Sp := fun vs H Q E => vs.length = 2 ∧ t_sorted_rows K ⟨fun _ H' => Q .non H', Q, fun _ _ => False, fun _ _ => False⟩ (start ["tables", "rows", "places", "place", "table"] vs) H
/-- numbers_by_table: 0 tables, 1 rows, 2 found, 3 table, 4 row -/
def t_numbers_by_table (K : PySem.W.Frag) : TS :=
  (tSeq (tAsg (tDc (iAny K (tVar 0)) (gName 3) tYes (tFld K (tVar 3) ("name" : Str)) tDNewK [3]) (gName 2)) (tSeq (tFor (iAny K (tVar 1)) (gName 4) (sDPut (tDGet (tVar 2) (tFld K (tVar 4) ("table" : Str))) (tFld K (tVar 4) ("number" : Str)) (tC (.bl true)))) (tRet (tVar 2))))
def sp_numbers_by_table (K : PySem.W.Frag) : Sp := fun vs H Q E => vs.length = 2 ∧ t_numbers_by_table K ⟨fun _ H' => Q .non H', Q, fun _ _ => False, fun _ _ => False⟩ (start ["tables", "rows", "found", "table", "row"] vs) H
/-- table_named: 0 tables, 1 name, 2 table -/
def t_table_named (K : PySem.W.Frag) : TS :=
  (tSeq (tFor (iAny K (tVar 0)) (gName 2) (tIfS (tTest (tOp (rEqX K) (tFld K (tVar 2) ("name" : Str)) (tVar 1))) (tRet (tVar 2)) tNext)) (tRet (tC .non)))
def sp_table_named (K : PySem.W.Frag) : Sp := fun vs H Q E => vs.length = 2 ∧ t_table_named K ⟨fun _ H' => Q .non H', Q, fun _ _ => False, fun _ _ => False⟩ (start ["tables", "name", "table"] vs) H
/-- cell_numbers: 0 column, 1 cell -/
def t_cell_numbers (K : PySem.W.Frag) : TS :=
  (tSeq (tIfS (tOr (tTest (tOp (rEqX K) (tFld K (tVar 0) ("role" : Str)) (tC (.str ⟨q_value.toArray⟩)))) (tOr (tTest (tOp rIsX (tVar 1) (tC .non))) (tTest (tOp (rEqX K) (tVar 1) (tC (.ref (He.ga K ("MARK" : Str)))))))) (tRet (tLst tNil)) tNext) (tSeq (tIfS (tTru K (tCB (rIsi K) (tCons (tVar 1) (tCons (tC (.ty "list")) tNil)))) (tRet (tCB (rListX K) (tCons (tVar 1) tNil))) tNext) (tRet (tLst (tCons (tVar 1) tNil)))))
def sp_cell_numbers (K : PySem.W.Frag) : Sp := fun vs H Q E => vs.length = 2 ∧ t_cell_numbers K ⟨fun _ H' => Q .non H', Q, fun _ _ => False, fun _ _ => False⟩ (start ["column", "cell"] vs) H
/-- is_there: 0 known, 1 column, 2 number, 3 target -/
def t_is_there (K : PySem.W.Frag) : TS :=
  (tRet (tCB (rAny K) (tCons (tLc (iAny K (tFld K (tVar 1) ("targets" : Str))) (gName 3) tYes (tDIn (tVar 2) (tDGet (tVar 0) (tVar 3))) [3]) tNil)))
def sp_is_there (K : PySem.W.Frag) : Sp := fun vs H Q E => vs.length = 3 ∧ t_is_there K ⟨fun _ H' => Q .non H', Q, fun _ _ => False, fun _ _ => False⟩ (start ["known", "column", "number", "target"] vs) H
/-- first_missing: 0 tables, 1 rows, 2 known, 3 row, 4 place, 5 column, 6 number -/
def t_first_missing (K : PySem.W.Frag) : TS :=
  (tSeq (tAsg (tCallSD (sp_numbers_by_table K) [] Ez (tCons (tVar 0) (tCons (tVar 1) tNil))) (gName 2)) (tSeq (tFor (iAny K (tVar 1)) (gName 3) (tFor (iEnum K (tCons (tFld K (tCallSD (sp_table_named K) [] Ez (tCons (tVar 0) (tCons (tFld K (tVar 3) ("table" : Str)) tNil))) ("columns" : Str)) tNil)) (gTup K 2 (gCons (gName 4) (gCons (gName 5) gNil))) (tFor (iAny K (tCallSD (sp_cell_numbers K) [] Ez (tCons (tVar 5) (tCons (tOp (rIx K) (tFld K (tVar 3) ("cells" : Str)) (tVar 4)) tNil)))) (gName 6) (tIfS (tNot (tTru K (tCallSD (sp_is_there K) [] Ez (tCons (tVar 2) (tCons (tVar 5) (tCons (tVar 6) tNil)))))) (tRet (tVar 6)) tNext)))) (tRet (tC .non))))
def sp_first_missing (K : PySem.W.Frag) : Sp := fun vs H Q E => vs.length = 2 ∧ t_first_missing K ⟨fun _ H' => Q .non H', Q, fun _ _ => False, fun _ _ => False⟩ (start ["tables", "rows", "known", "row", "place", "column", "number"] vs) H
/-- key_value: 0 table, 1 key, 2 cells, 3 found, 4 place, 5 cell -/
def t_key_value (K : PySem.W.Frag) : TS :=
  (tSeq (tAsg (tLst tNil) (gName 3)) (tSeq (tFor (iAny K (tFld K (tVar 1) ("places" : Str))) (gName 4) (tSeq (tAsg (tOp (rIx K) (tVar 2) (tVar 4)) (gName 5)) (tSeq (tIfS (tOr (tTest (tOp rIsX (tVar 5) (tC .non))) (tTest (tOp (rEqX K) (tVar 5) (tC (.ref (He.ga K ("MARK" : Str))))))) (tRet (tC .non)) tNext) (tDrop (tBM K "list" rAppend (tVar 3) (tCons (tTup (tCons (tFld K (tOp (rIx K) (tFld K (tVar 0) ("columns" : Str)) (tVar 4)) ("role" : Str)) (tCons (tVar 5) tNil))) tNil)))))) (tRet (tThen (tVar 3) (kTup K)))))
def sp_key_value (K : PySem.W.Frag) : Sp := fun vs H Q E => vs.length = 3 ∧ t_key_value K ⟨fun _ H' => Q .non H', Q, fun _ _ => False, fun _ _ => False⟩ (start ["table", "key", "cells", "found", "place", "cell"] vs) H
/-- first_clash: 0 tables, 1 rows, 2 seen, 3 row, 4 table, 5 key, 6 found -/
def t_first_clash (K : PySem.W.Frag) (w : World) : TS :=
  (tSeq (tAsg tDNewK (gName 2)) (tSeq (tFor (iAny K (tVar 1)) (gName 3) (tSeq (tAsg (tCallSD (sp_table_named K) [] Ez (tCons (tVar 0) (tCons (tFld K (tVar 3) ("table" : Str)) tNil))) (gName 4)) (tFor (iAny K (tFld K (tVar 4) ("unique" : Str))) (gName 5) (tSeq (tAsg (tCallSD (sp_key_value K) [] Ez (tCons (tVar 4) (tCons (tVar 5) (tCons (tFld K (tVar 3) ("cells" : Str)) tNil)))) (gName 6)) (tIfS (tTest (tOp rIsNotX (tVar 6) (tC .non))) (tSeq (tIfS (tTest (tOp (rNIn w) (tTup (tCons (tFld K (tVar 5) ("name" : Str)) (tCons (tVar 6) tNil))) (tVar 2))) (tRet (tFld K (tVar 3) ("number" : Str))) tNext) (sNPut w (tVar 2) (tTup (tCons (tFld K (tVar 5) ("name" : Str)) (tCons (tVar 6) tNil))) (tC (.bl true)))) tNext))))) (tRet (tC .non))))
def sp_first_clash (K : PySem.W.Frag) (w : World) : Sp := fun vs H Q E => vs.length = 2 ∧ t_first_clash K w ⟨fun _ H' => Q .non H', Q, fun _ _ => False, fun _ _ => False⟩ (start ["tables", "rows", "seen", "row", "table", "key", "found"] vs) H
/-- first_fault: 0 tables, 1 rows, 2 ordered, 3 number -/
def t_first_fault (K : PySem.W.Frag) (w : World) : TS :=
  (tSeq (tAsg (tCallSD (sp_sorted_rows K) [] Ez (tCons (tVar 0) (tCons (tVar 1) tNil))) (gName 2)) (tSeq (tAsg (tCallSD (sp_first_missing K) [] Ez (tCons (tVar 0) (tCons (tVar 2) tNil))) (gName 3)) (tSeq (tIfS (tTest (tOp rIsNotX (tVar 3) (tC .non))) (tRet (tTup (tCons (tC (.str ⟨q_not_there.toArray⟩)) (tCons (tVar 3) tNil)))) tNext) (tSeq (tAsg (tCallSD (sp_first_clash K w) [] Ez (tCons (tVar 0) (tCons (tVar 2) tNil))) (gName 3)) (tSeq (tIfS (tTest (tOp rIsNotX (tVar 3) (tC .non))) (tRet (tTup (tCons (tC (.str ⟨q_same_key.toArray⟩)) (tCons (tVar 3) tNil)))) tNext) (tRet (tC .non)))))))
def sp_first_fault (K : PySem.W.Frag) (w : World) : Sp := fun vs H Q E => vs.length = 2 ∧ t_first_fault K w ⟨fun _ H' => Q .non H', Q, fun _ _ => False, fun _ _ => False⟩ (start ["tables", "rows", "ordered", "number"] vs) H
/-- are_in_order: 0 tables, 1 rows, 2 row, 3 names, 4 name -/
def t_are_in_order (K : PySem.W.Frag) (w : World) : TS :=
  (tSeq (tIfS (tOr (tTru K (tCB (rAny K) (tCons (tLc (iAny K (tVar 1)) (gName 2) tYes (tCallSD (sp_has_mark K) [] Ez (tCons (tVar 2) tNil)) [2]) tNil))) (tTest (tOp rIsNotX (tCallSD (sp_first_fault K w) [] Ez (tCons (tVar 0) (tCons (tVar 1) tNil))) (tC .non)))) (tRet (tC (.bl false))) tNext) (tSeq (tAsg (tLc (iAny K (tVar 1)) (gName 2) tYes (tTup (tCons (tFld K (tVar 2) ("table" : Str)) (tCons (tFld K (tVar 2) ("number" : Str)) tNil))) [2]) (gName 3)) (tRet (tOp (rEqX K) (tCB (rLenS w) (tCons (tSetT K w (iAny K (tVar 3)) (gName 4) tYes (tVar 4) [4]) tNil)) (tCB (rLen K) (tCons (tVar 3) tNil))))))
def sp_are_in_order (K : PySem.W.Frag) (w : World) : Sp := fun vs H Q E => vs.length = 2 ∧ t_are_in_order K w ⟨fun _ H' => Q .non H', Q, fun _ _ => False, fun _ _ => False⟩ (start ["tables", "rows", "row", "names", "name"] vs) H
/-- Column.__eq__: 0 self, 1 other -/
def t_Column_eq (K : PySem.W.Frag) : TS :=
  (tSeq (tIfS (tNot (tTru K (tCB (rIsi K) (tCons (tVar 1) (tCons (tC (.ref (He.ga K ("Column" : Str)))) tNil))))) (tRet (tC (.bl false))) tNext) (tRet (tAndV (tOp (rEqX K) (tFld K (tVar 0) ("name" : Str)) (tFld K (tVar 1) ("name" : Str))) (tAndV (tOp (rEqX K) (tFld K (tVar 0) ("role" : Str)) (tFld K (tVar 1) ("role" : Str))) (tOp (rEqX K) (tFld K (tVar 0) ("targets" : Str)) (tFld K (tVar 1) ("targets" : Str)))))))
def sp_Column_eq (K : PySem.W.Frag) : Sp := fun vs H Q E => vs.length = 2 ∧ t_Column_eq K ⟨fun _ H' => Q .non H', Q, fun _ _ => False, fun _ _ => False⟩ (start ["self", "other"] vs) H
/-- StoreKey.__eq__: 0 self, 1 other -/
def t_StoreKey_eq (K : PySem.W.Frag) : TS :=
  (tSeq (tIfS (tNot (tTru K (tCB (rIsi K) (tCons (tVar 1) (tCons (tC (.ref (He.ga K ("StoreKey" : Str)))) tNil))))) (tRet (tC (.bl false))) tNext) (tRet (tAndV (tOp (rEqX K) (tFld K (tVar 0) ("name" : Str)) (tFld K (tVar 1) ("name" : Str))) (tOp (rEqX K) (tFld K (tVar 0) ("places" : Str)) (tFld K (tVar 1) ("places" : Str))))))
def sp_StoreKey_eq (K : PySem.W.Frag) : Sp := fun vs H Q E => vs.length = 2 ∧ t_StoreKey_eq K ⟨fun _ H' => Q .non H', Q, fun _ _ => False, fun _ _ => False⟩ (start ["self", "other"] vs) H
/-- Table.__eq__: 0 self, 1 other -/
def t_Table_eq (K : PySem.W.Frag) : TS :=
  (tSeq (tIfS (tNot (tTru K (tCB (rIsi K) (tCons (tVar 1) (tCons (tC (.ref (He.ga K ("Table" : Str)))) tNil))))) (tRet (tC (.bl false))) tNext) (tRet (tAndV (tOp (rEqX K) (tFld K (tVar 0) ("name" : Str)) (tFld K (tVar 1) ("name" : Str))) (tAndV (tOp (rOwnL false K (He.ga K ("Column" : Str)) (sp_Column_eq K)) (tFld K (tVar 0) ("columns" : Str)) (tFld K (tVar 1) ("columns" : Str))) (tOp (rOwnL false K (He.ga K ("StoreKey" : Str)) (sp_StoreKey_eq K)) (tFld K (tVar 0) ("unique" : Str)) (tFld K (tVar 1) ("unique" : Str)))))))
def sp_Table_eq (K : PySem.W.Frag) : Sp := fun vs H Q E => vs.length = 2 ∧ t_Table_eq K ⟨fun _ H' => Q .non H', Q, fun _ _ => False, fun _ _ => False⟩ (start ["self", "other"] vs) H
/-- law: 0 _law_script, 1 _law_draws, 2 _law_tables_here, 3 _law_rows_here, 4 _law_row, 5 _law_cells_here, 6 _law_other, 7 _law_plain_here, 8 _law_names, 9 _law_twice, 10 _law_at, 11 _law_due, 12 _law_found, 13 _law_columns, 14 _law_table -/
def t_law (K : PySem.W.Frag) (w : World) : TS :=
  (tSeq (tAsg (tCallSD (sp__law_cells K) [] Ez (tCons (tVar 0) (tCons (tC (.int 30)) tNil))) (gName 1)) (tSeq (tAsg (tCallSD (sp__law_tables K) [] Ez tNil) (gName 2)) (tSeq (tAsg (tCallSD (sp__law_rows K) [] Ez (tCons (tVar 1) tNil)) (gName 3)) (C8.tCut (tIfS (tAnd (tTest (tOp rGtX (tCB (rLen K) (tCons (tVar 3) tNil)) (tC (.int 0)))) (tTest (tOp (rEqX K) (tCallSD (sp__law_draw K) [] Ez (tCons (tVar 1) (tCons (tC (.int 2)) tNil))) (tC (.int 0))))) (tSeq (tAsg (tCallSD (sp__law_pick K) [] Ez (tCons (tVar 1) (tCons (tVar 3) tNil))) (gName 4)) (tSeq (tAsg (tCallSD (sp__law_cell_row K) [] Ez (tCons (tVar 1) (tCons (tFld K (tVar 4) ("table" : Str)) (tCons (tLst (tCons (tC (.int 1)) (tCons (tC (.int 2)) (tCons (tC (.int 3)) (tCons (tC (.int 4)) (tCons (tC (.int 5)) (tCons (tC (.int 6)) tNil))))))) tNil)))) (gName 5)) (C8.tCut (tIfS (tTest (tOp (rEqX K) (tCallSD (sp__law_draw K) [] Ez (tCons (tVar 1) (tCons (tC (.int 3)) tNil))) (tC (.int 0)))) (tAsg (tC (.ref (He.ga K ("MARK" : Str)))) (gSub (tVar 5) (tOp rSubX (tCB (rLen K) (tCons (tVar 5) tNil)) (tC (.int 1))) rSetL)) tNext) (C8.tCut (tIfS (tTest (tOp (rEqX K) (tCallSD (sp__law_draw K) [] Ez (tCons (tVar 1) (tCons (tC (.int 2)) tNil))) (tC (.int 0)))) (tAsg (tLc (iAny K (tVar 3)) (gName 6) (tTest (tOp (rOwnA true K (He.ga K ("Row" : Str)) (sp_Row_eq K)) (tVar 6) (tVar 4))) (tVar 6) [6]) (gName 3)) tNext) (tDrop (tBM K "list" rAppend (tVar 3) (tCons (tMake (He.ga K ("Row" : Str)) (sp_Row_init K) [] E0 (tCons (tFld K (tVar 4) ("table" : Str)) (tCons (tFld K (tVar 4) ("number" : Str)) (tCons (tVar 5) tNil)))) tNil))))))) tNext) (tSeq (tAsg (tCallSD (sp__law_plain K) [] Ez (tCons (tVar 3) tNil)) (gName 7)) (tSeq (tAsg (tLc (iAny K (tVar 7)) (gName 4) tYes (tTup (tCons (tOp (rIx K) (tVar 4) (tC (.int 0))) (tCons (tOp (rIx K) (tVar 4) (tC (.int 1))) tNil))) [4]) (gName 8)) (tSeq (tAsg (tOp rGtX (tCB (rLen K) (tCons (tLc (iRng1 (tCons (tCB (rLen K) (tCons (tVar 8) tNil)) tNil)) (gName 10) (tTest (tOp (rInD K) (tOp (rIx K) (tVar 8) (tVar 10)) (tSl (rSlX K) (tVar 8) tNoPart (tPart (tVar 10))))) (tVar 10) [10]) tNil)) (tC (.int 0))) (gName 9)) (tSeq (tAsg (tAndV (tNotV (tVar 9)) (tAndV (tNotV (tCallSD (sp__law_marked K) [] Ez (tCons (tVar 7) tNil))) (tOp rIsX (tCallSD (sp__law_fault K) [] Ez (tCons (tVar 7) tNil)) (tC .non)))) (gName 11)) (tSeq (tAsg (tCallSD (sp_are_in_order K w) [] Ez (tCons (tVar 2) (tCons (tVar 3) tNil))) (gName 12)) (tSeq (tIfS (tTest (tOp (rNeX K) (tCB (rRepr K) (tCons (tVar 12) tNil)) (tCB (rRepr K) (tCons (tVar 11) tNil)))) (tRet (tC (.bl false))) tNext) (tSeq (tAsg (tLst (tCons (tMake (He.ga K ("Column" : Str)) (sp_Column_init K) [(.ref (dfAt K ("Column", some "__init__") 0))] E0 (tCons (tC (.str ⟨q_v.toArray⟩)) (tCons (tC (.str ⟨q_value.toArray⟩)) tNil))) (tCons (tMake (He.ga K ("Column" : Str)) (sp_Column_init K) [] E0 (tCons (tC (.str ⟨q_r.toArray⟩)) (tCons (tC (.str ⟨q_reference.toArray⟩)) (tCons (tLst (tCons (tC (.str ⟨q_M.toArray⟩)) tNil)) tNil)))) tNil))) (gName 13)) (tSeq (tAsg (tMake (He.ga K ("Table" : Str)) (sp_Table_init K) [] E0 (tCons (tC (.str ⟨q_M.toArray⟩)) (tCons (tVar 13) (tCons (tLst (tCons (tMake (He.ga K ("StoreKey" : Str)) (sp_StoreKey_init K) [] E0 (tCons (tC (.str ⟨q_key1.toArray⟩)) (tCons (tLst (tCons (tC (.int 0)) tNil)) tNil))) tNil)) tNil)))) (gName 14)) (tSeq (tAsg (tMake (He.ga K ("Table" : Str)) (sp_Table_init K) [] E0 (tCons (tC (.str ⟨q_M.toArray⟩)) (tCons (tCB (rListX K) (tCons (tVar 13) tNil)) (tCons (tLst (tCons (tMake (He.ga K ("StoreKey" : Str)) (sp_StoreKey_init K) [] E0 (tCons (tC (.str ⟨q_key1.toArray⟩)) (tCons (tLst (tCons (tC (.int 0)) tNil)) tNil))) tNil)) tNil)))) (gName 6)) (tSeq (tIfS (tOr (tTest (tOp (rOwnA true K (He.ga K ("Table" : Str)) (sp_Table_eq K)) (tVar 14) (tVar 6))) (tOr (tTest (tOp (rOwnA false K (He.ga K ("Table" : Str)) (sp_Table_eq K)) (tVar 14) (tMake (He.ga K ("Table" : Str)) (sp_Table_init K) [(.ref (dfAt K ("Table", some "__init__") 0))] E0 (tCons (tC (.str ⟨q_M.toArray⟩)) (tCons (tVar 13) tNil))))) (tOr (tTest (tOp (rOwnA false K (He.ga K ("Table" : Str)) (sp_Table_eq K)) (tVar 14) (tC (.str ⟨q_M.toArray⟩)))) (tTest (tOp (rOwnA false K (He.ga K ("Column" : Str)) (sp_Column_eq K)) (tOp (rIx K) (tVar 13) (tC (.int 0))) (tOp (rIx K) (tVar 13) (tC (.int 1)))))))) (tRet (tC (.bl false))) tNext) (tSeq (tDrop (tBM K "list" rAppend (tVar 13) (tCons (tMake (He.ga K ("Column" : Str)) (sp_Column_init K) [(.ref (dfAt K ("Column", some "__init__") 0))] E0 (tCons (tC (.str ⟨q_x.toArray⟩)) (tCons (tC (.str ⟨q_value.toArray⟩)) tNil))) tNil))) (tSeq (tAsg (tLst (tCons (tC (.int 1)) (tCons (tLst (tCons (tC (.int 2)) (tCons (tC (.int 3)) tNil))) tNil))) (gName 5)) (tSeq (tAsg (tMake (He.ga K ("Row" : Str)) (sp_Row_init K) [] E0 (tCons (tC (.str ⟨q_M.toArray⟩)) (tCons (tC (.int 4)) (tCons (tVar 5) tNil)))) (gName 4)) (tSeq (tDrop (tBM K "list" rAppend (tOp (rIx K) (tVar 5) (tC (.int 1))) (tCons (tC (.int 5)) tNil))) (tSeq (tIfS (tOr (tTest (tOp (rNeX K) (tFld K (tVar 4) ("cells" : Str)) (tLst (tCons (tC (.int 1)) (tCons (tLst (tCons (tC (.int 2)) (tCons (tC (.int 3)) tNil))) tNil))))) (tOr (tTest (tOp (rOwnA false K (He.ga K ("Row" : Str)) (sp_Row_eq K)) (tVar 4) (tMake (He.ga K ("Row" : Str)) (sp_Row_init K) [] E0 (tCons (tC (.str ⟨q_M.toArray⟩)) (tCons (tC (.int 5)) (tCons (tLst (tCons (tC (.int 1)) (tCons (tLst (tCons (tC (.int 2)) (tCons (tC (.int 3)) tNil))) tNil))) tNil)))))) (tTest (tOp (rOwnA true K (He.ga K ("Row" : Str)) (sp_Row_eq K)) (tVar 4) (tMake (He.ga K ("Row" : Str)) (sp_Row_init K) [] E0 (tCons (tC (.str ⟨q_M.toArray⟩)) (tCons (tC (.int 4)) (tCons (tLst (tCons (tC (.int 1)) (tCons (tLst (tCons (tC (.int 2)) (tCons (tC (.int 3)) tNil))) tNil))) tNil)))))))) (tRet (tC (.bl false))) tNext) (tRet (tAndV (tOp (rOwnA false K (He.ga K ("Table" : Str)) (sp_Table_eq K)) (tVar 14) (tVar 6)) (tOp (rEqX K) (tCB (rLen K) (tCons (tFld K (tVar 14) ("columns" : Str)) tNil)) (tC (.int 2))))))))))))))))))))))))
def sp_law (K : PySem.W.Frag) (w : World) : Sp := fun vs H Q E => vs.length = 1 ∧ t_law K w ⟨fun _ H' => Q .non H', Q, fun _ _ => False, fun _ _ => False⟩ (start ["_law_script", "_law_draws", "_law_tables_here", "_law_rows_here", "_law_row", "_law_cells_here", "_law_other", "_law_plain_here", "_law_names", "_law_twice", "_law_at", "_law_due", "_law_found", "_law_columns", "_law_table"] vs) H
/-! ### the scopes -/
theorem sc__law_cells : FnScope ["_law_script", "_law_count", "_law_cells_here", "_law_k", "_law_cell"] ["_law_script", "_law_count"] (defScope s__law_cells) := ⟨rfl, rfl, rfl, by decide +kernel, rfl, by decide +kernel, by decide +kernel⟩
theorem sc_Column_init : FnScope ["self", "name", "role", "targets"] ["self", "name", "role", "targets"] (defScope s_Column_init) := ⟨rfl, rfl, rfl, by decide +kernel, rfl, by decide +kernel, by decide +kernel⟩
theorem sc_Table_init : FnScope ["self", "name", "columns", "unique"] ["self", "name", "columns", "unique"] (defScope s_Table_init) := ⟨rfl, rfl, rfl, by decide +kernel, rfl, by decide +kernel, by decide +kernel⟩
theorem sc_StoreKey_init : FnScope ["self", "name", "places"] ["self", "name", "places"] (defScope s_StoreKey_init) := ⟨rfl, rfl, rfl, by decide +kernel, rfl, by decide +kernel, by decide +kernel⟩
theorem sc__law_tables : FnScope ["_law_mains", "_law_first", "_law_second", "_law_third"] [] (defScope s__law_tables) := ⟨rfl, rfl, rfl, by decide +kernel, rfl, by decide +kernel, by decide +kernel⟩
theorem sc__law_draw : FnScope ["_law_draws", "_law_bound", "_law_amount"] ["_law_draws", "_law_bound"] (defScope s__law_draw) := ⟨rfl, rfl, rfl, by decide +kernel, rfl, by decide +kernel, by decide +kernel⟩
theorem sc__law_places : FnScope ["_law_draws", "_law_places_here", "_law_table", "_law_turn", "_law_place"] ["_law_draws"] (defScope s__law_places) := ⟨rfl, rfl, rfl, by decide +kernel, rfl, by decide +kernel, by decide +kernel⟩
theorem sc__law_pick : FnScope ["_law_draws", "_law_row"] ["_law_draws", "_law_row"] (defScope s__law_pick) := ⟨rfl, rfl, rfl, by decide +kernel, rfl, by decide +kernel, by decide +kernel⟩
theorem sc__law_ref : FnScope ["_law_draws", "_law_numbers"] ["_law_draws", "_law_numbers"] (defScope s__law_ref) := ⟨rfl, rfl, rfl, by decide +kernel, rfl, by decide +kernel, by decide +kernel⟩
theorem sc__law_links : FnScope ["_law_draws", "_law_numbers", "_law_row", "_law_turn", "_law_number"] ["_law_draws", "_law_numbers"] (defScope s__law_links) := ⟨rfl, rfl, rfl, by decide +kernel, rfl, by decide +kernel, by decide +kernel⟩
theorem sc__law_cell_row : FnScope ["_law_draws", "_law_table", "_law_numbers", "_law_key_here"] ["_law_draws", "_law_table", "_law_numbers"] (defScope s__law_cell_row) := ⟨rfl, rfl, rfl, by decide +kernel, rfl, by decide +kernel, by decide +kernel⟩
theorem sc_cell_copy : FnScope ["cell"] ["cell"] (defScope s_cell_copy) := ⟨rfl, rfl, rfl, by decide +kernel, rfl, by decide +kernel, by decide +kernel⟩
theorem sc_Row_init : FnScope ["self", "table", "number", "cells", "cell"] ["self", "table", "number", "cells"] (defScope s_Row_init) := ⟨rfl, rfl, rfl, by decide +kernel, rfl, by decide +kernel, by decide +kernel⟩
theorem sc__law_rows : FnScope ["_law_draws", "_law_places_here", "_law_numbers", "_law_place", "_law_used", "_law_rows_here", "_law_table", "_law_number", "_law_cells_here", "_law_at"] ["_law_draws"] (defScope s__law_rows) := ⟨rfl, rfl, rfl, by decide +kernel, rfl, by decide +kernel, by decide +kernel⟩
theorem sc_Row_eq : FnScope ["self", "other"] ["self", "other"] (defScope s_Row_eq) := ⟨rfl, rfl, rfl, by decide +kernel, rfl, by decide +kernel, by decide +kernel⟩
theorem sc__law_plain : FnScope ["_law_rows_here", "_law_row"] ["_law_rows_here"] (defScope s__law_plain) := ⟨rfl, rfl, rfl, by decide +kernel, rfl, by decide +kernel, by decide +kernel⟩
theorem sc__law_marked : FnScope ["_law_rows_here", "_law_row"] ["_law_rows_here"] (defScope s__law_marked) := ⟨rfl, rfl, rfl, by decide +kernel, rfl, by decide +kernel, by decide +kernel⟩
theorem sc__law_sorted : FnScope ["_law_rows_here", "_law_found", "_law_table", "_law_numbers", "_law_row", "_law_number"] ["_law_rows_here"] (defScope s__law_sorted) := ⟨rfl, rfl, rfl, by decide +kernel, rfl, by decide +kernel, by decide +kernel⟩
theorem sc__law_held : FnScope ["_law_cell"] ["_law_cell"] (defScope s__law_held) := ⟨rfl, rfl, rfl, by decide +kernel, rfl, by decide +kernel, by decide +kernel⟩
theorem sc__law_referred : FnScope ["_law_table", "_law_cells_here"] ["_law_table", "_law_cells_here"] (defScope s__law_referred) := ⟨rfl, rfl, rfl, by decide +kernel, rfl, by decide +kernel, by decide +kernel⟩
theorem sc__law_key : FnScope ["_law_table", "_law_cells_here", "_law_cell"] ["_law_table", "_law_cells_here"] (defScope s__law_key) := ⟨rfl, rfl, rfl, by decide +kernel, rfl, by decide +kernel, by decide +kernel⟩
theorem sc__law_fault : FnScope ["_law_rows_here", "_law_there", "_law_row", "_law_ordered", "_law_number", "_law_seen", "_law_key_here"] ["_law_rows_here"] (defScope s__law_fault) := ⟨rfl, rfl, rfl, by decide +kernel, rfl, by decide +kernel, by decide +kernel⟩
theorem sc_has_mark : FnScope ["row", "cell"] ["row"] (defScope s_has_mark) := ⟨rfl, rfl, rfl, by decide +kernel, rfl, by decide +kernel, by decide +kernel⟩
theorem sc_sorted_rows : FnScope ["tables", "rows", "places", "place", "table"] ["tables", "rows"] (defScope s_sorted_rows) := ⟨rfl, rfl, rfl, by decide +kernel, rfl, by decide +kernel, by decide +kernel⟩
theorem sc_numbers_by_table : FnScope ["tables", "rows", "found", "table", "row"] ["tables", "rows"] (defScope s_numbers_by_table) := ⟨rfl, rfl, rfl, by decide +kernel, rfl, by decide +kernel, by decide +kernel⟩
theorem sc_table_named : FnScope ["tables", "name", "table"] ["tables", "name"] (defScope s_table_named) := ⟨rfl, rfl, rfl, by decide +kernel, rfl, by decide +kernel, by decide +kernel⟩
theorem sc_cell_numbers : FnScope ["column", "cell"] ["column", "cell"] (defScope s_cell_numbers) := ⟨rfl, rfl, rfl, by decide +kernel, rfl, by decide +kernel, by decide +kernel⟩
theorem sc_is_there : FnScope ["known", "column", "number", "target"] ["known", "column", "number"] (defScope s_is_there) := ⟨rfl, rfl, rfl, by decide +kernel, rfl, by decide +kernel, by decide +kernel⟩
theorem sc_first_missing : FnScope ["tables", "rows", "known", "row", "place", "column", "number"] ["tables", "rows"] (defScope s_first_missing) := ⟨rfl, rfl, rfl, by decide +kernel, rfl, by decide +kernel, by decide +kernel⟩
theorem sc_key_value : FnScope ["table", "key", "cells", "found", "place", "cell"] ["table", "key", "cells"] (defScope s_key_value) := ⟨rfl, rfl, rfl, by decide +kernel, rfl, by decide +kernel, by decide +kernel⟩
theorem sc_first_clash : FnScope ["tables", "rows", "seen", "row", "table", "key", "found"] ["tables", "rows"] (defScope s_first_clash) := ⟨rfl, rfl, rfl, by decide +kernel, rfl, by decide +kernel, by decide +kernel⟩
theorem sc_first_fault : FnScope ["tables", "rows", "ordered", "number"] ["tables", "rows"] (defScope s_first_fault) := ⟨rfl, rfl, rfl, by decide +kernel, rfl, by decide +kernel, by decide +kernel⟩
theorem sc_are_in_order : FnScope ["tables", "rows", "row", "names", "name"] ["tables", "rows"] (defScope s_are_in_order) := ⟨rfl, rfl, rfl, by decide +kernel, rfl, by decide +kernel, by decide +kernel⟩
theorem sc_Column_eq : FnScope ["self", "other"] ["self", "other"] (defScope s_Column_eq) := ⟨rfl, rfl, rfl, by decide +kernel, rfl, by decide +kernel, by decide +kernel⟩
theorem sc_StoreKey_eq : FnScope ["self", "other"] ["self", "other"] (defScope s_StoreKey_eq) := ⟨rfl, rfl, rfl, by decide +kernel, rfl, by decide +kernel, by decide +kernel⟩
theorem sc_Table_eq : FnScope ["self", "other"] ["self", "other"] (defScope s_Table_eq) := ⟨rfl, rfl, rfl, by decide +kernel, rfl, by decide +kernel, by decide +kernel⟩
theorem sc_law : FnScope ["_law_script", "_law_draws", "_law_tables_here", "_law_rows_here", "_law_row", "_law_cells_here", "_law_other", "_law_plain_here", "_law_names", "_law_twice", "_law_at", "_law_due", "_law_found", "_law_columns", "_law_table"] ["_law_script"] (defScope s_law) := ⟨rfl, rfl, rfl, by decide +kernel, rfl, by decide +kernel, by decide +kernel⟩
/-! ### what the top left -/
structure Tx (K : PySem.W.Frag) (mg : Str → Option Value) : Prop where
  d__law_cells : ∃ fd, FunD K "_law_cells" "_law_cells" (defArgs s__law_cells) (defBody s__law_cells) (defScope s__law_cells) [] [] (He.fAd K ("_law_cells", none)) fd
  d_Column_init : ∃ fd, FunD K "__init__" "Column.__init__" (defArgs s_Column_init) (defBody s_Column_init) (defScope s_Column_init) [(.ref (dfAt K ("Column", some "__init__") 0))] [] (He.fAd K ("Column", some "__init__")) fd
  d_Table_init : ∃ fd, FunD K "__init__" "Table.__init__" (defArgs s_Table_init) (defBody s_Table_init) (defScope s_Table_init) [(.ref (dfAt K ("Table", some "__init__") 0))] [] (He.fAd K ("Table", some "__init__")) fd
  d_StoreKey_init : ∃ fd, FunD K "__init__" "StoreKey.__init__" (defArgs s_StoreKey_init) (defBody s_StoreKey_init) (defScope s_StoreKey_init) [] [] (He.fAd K ("StoreKey", some "__init__")) fd
  d__law_tables : ∃ fd, FunD K "_law_tables" "_law_tables" (defArgs s__law_tables) (defBody s__law_tables) (defScope s__law_tables) [] [] (He.fAd K ("_law_tables", none)) fd
  d__law_draw : ∃ fd, FunD K "_law_draw" "_law_draw" (defArgs s__law_draw) (defBody s__law_draw) (defScope s__law_draw) [] [] (He.fAd K ("_law_draw", none)) fd
  d__law_places : ∃ fd, FunD K "_law_places" "_law_places" (defArgs s__law_places) (defBody s__law_places) (defScope s__law_places) [] [] (He.fAd K ("_law_places", none)) fd
  d__law_pick : ∃ fd, FunD K "_law_pick" "_law_pick" (defArgs s__law_pick) (defBody s__law_pick) (defScope s__law_pick) [] [] (He.fAd K ("_law_pick", none)) fd
  d__law_ref : ∃ fd, FunD K "_law_ref" "_law_ref" (defArgs s__law_ref) (defBody s__law_ref) (defScope s__law_ref) [] [] (He.fAd K ("_law_ref", none)) fd
  d__law_links : ∃ fd, FunD K "_law_links" "_law_links" (defArgs s__law_links) (defBody s__law_links) (defScope s__law_links) [] [] (He.fAd K ("_law_links", none)) fd
  d__law_cell_row : ∃ fd, FunD K "_law_cell_row" "_law_cell_row" (defArgs s__law_cell_row) (defBody s__law_cell_row) (defScope s__law_cell_row) [] [] (He.fAd K ("_law_cell_row", none)) fd
  d_cell_copy : ∃ fd, FunD K "cell_copy" "cell_copy" (defArgs s_cell_copy) (defBody s_cell_copy) (defScope s_cell_copy) [] [] (He.fAd K ("cell_copy", none)) fd
  d_Row_init : ∃ fd, FunD K "__init__" "Row.__init__" (defArgs s_Row_init) (defBody s_Row_init) (defScope s_Row_init) [] [] (He.fAd K ("Row", some "__init__")) fd
  d__law_rows : ∃ fd, FunD K "_law_rows" "_law_rows" (defArgs s__law_rows) (defBody s__law_rows) (defScope s__law_rows) [] [] (He.fAd K ("_law_rows", none)) fd
  d_Row_eq : ∃ fd, FunD K "__eq__" "Row.__eq__" (defArgs s_Row_eq) (defBody s_Row_eq) (defScope s_Row_eq) [] [] (He.fAd K ("Row", some "__eq__")) fd
  d__law_plain : ∃ fd, FunD K "_law_plain" "_law_plain" (defArgs s__law_plain) (defBody s__law_plain) (defScope s__law_plain) [] [] (He.fAd K ("_law_plain", none)) fd
  d__law_marked : ∃ fd, FunD K "_law_marked" "_law_marked" (defArgs s__law_marked) (defBody s__law_marked) (defScope s__law_marked) [] [] (He.fAd K ("_law_marked", none)) fd
  d__law_sorted : ∃ fd, FunD K "_law_sorted" "_law_sorted" (defArgs s__law_sorted) (defBody s__law_sorted) (defScope s__law_sorted) [] [] (He.fAd K ("_law_sorted", none)) fd
  d__law_held : ∃ fd, FunD K "_law_held" "_law_held" (defArgs s__law_held) (defBody s__law_held) (defScope s__law_held) [] [] (He.fAd K ("_law_held", none)) fd
  d__law_referred : ∃ fd, FunD K "_law_referred" "_law_referred" (defArgs s__law_referred) (defBody s__law_referred) (defScope s__law_referred) [] [] (He.fAd K ("_law_referred", none)) fd
  d__law_key : ∃ fd, FunD K "_law_key" "_law_key" (defArgs s__law_key) (defBody s__law_key) (defScope s__law_key) [] [] (He.fAd K ("_law_key", none)) fd
  d__law_fault : ∃ fd, FunD K "_law_fault" "_law_fault" (defArgs s__law_fault) (defBody s__law_fault) (defScope s__law_fault) [] [] (He.fAd K ("_law_fault", none)) fd
  d_has_mark : ∃ fd, FunD K "has_mark" "has_mark" (defArgs s_has_mark) (defBody s_has_mark) (defScope s_has_mark) [] [] (He.fAd K ("has_mark", none)) fd
  d_sorted_rows : ∃ fd, FunD K "sorted_rows" "sorted_rows" (defArgs s_sorted_rows) (defBody s_sorted_rows) (defScope s_sorted_rows) [] [] (He.fAd K ("sorted_rows", none)) fd
  d_numbers_by_table : ∃ fd, FunD K "numbers_by_table" "numbers_by_table" (defArgs s_numbers_by_table) (defBody s_numbers_by_table) (defScope s_numbers_by_table) [] [] (He.fAd K ("numbers_by_table", none)) fd
  d_table_named : ∃ fd, FunD K "table_named" "table_named" (defArgs s_table_named) (defBody s_table_named) (defScope s_table_named) [] [] (He.fAd K ("table_named", none)) fd
  d_cell_numbers : ∃ fd, FunD K "cell_numbers" "cell_numbers" (defArgs s_cell_numbers) (defBody s_cell_numbers) (defScope s_cell_numbers) [] [] (He.fAd K ("cell_numbers", none)) fd
  d_is_there : ∃ fd, FunD K "is_there" "is_there" (defArgs s_is_there) (defBody s_is_there) (defScope s_is_there) [] [] (He.fAd K ("is_there", none)) fd
  d_first_missing : ∃ fd, FunD K "first_missing" "first_missing" (defArgs s_first_missing) (defBody s_first_missing) (defScope s_first_missing) [] [] (He.fAd K ("first_missing", none)) fd
  d_key_value : ∃ fd, FunD K "key_value" "key_value" (defArgs s_key_value) (defBody s_key_value) (defScope s_key_value) [] [] (He.fAd K ("key_value", none)) fd
  d_first_clash : ∃ fd, FunD K "first_clash" "first_clash" (defArgs s_first_clash) (defBody s_first_clash) (defScope s_first_clash) [] [] (He.fAd K ("first_clash", none)) fd
  d_first_fault : ∃ fd, FunD K "first_fault" "first_fault" (defArgs s_first_fault) (defBody s_first_fault) (defScope s_first_fault) [] [] (He.fAd K ("first_fault", none)) fd
  d_are_in_order : ∃ fd, FunD K "are_in_order" "are_in_order" (defArgs s_are_in_order) (defBody s_are_in_order) (defScope s_are_in_order) [] [] (He.fAd K ("are_in_order", none)) fd
  d_Column_eq : ∃ fd, FunD K "__eq__" "Column.__eq__" (defArgs s_Column_eq) (defBody s_Column_eq) (defScope s_Column_eq) [] [] (He.fAd K ("Column", some "__eq__")) fd
  d_StoreKey_eq : ∃ fd, FunD K "__eq__" "StoreKey.__eq__" (defArgs s_StoreKey_eq) (defBody s_StoreKey_eq) (defScope s_StoreKey_eq) [] [] (He.fAd K ("StoreKey", some "__eq__")) fd
  d_Table_eq : ∃ fd, FunD K "__eq__" "Table.__eq__" (defArgs s_Table_eq) (defBody s_Table_eq) (defScope s_Table_eq) [] [] (He.fAd K ("Table", some "__eq__")) fd
  d_law : ∃ fd, FunD K "law" "law" (defArgs s_law) (defBody s_law) (defScope s_law) [] [] (He.fAd K ("law", none)) fd
  g__law_cells : mg "_law_cells" = some (.ref (He.ga K "_law_cells"))
  g__law_tables : mg "_law_tables" = some (.ref (He.ga K "_law_tables"))
  g__law_draw : mg "_law_draw" = some (.ref (He.ga K "_law_draw"))
  g__law_places : mg "_law_places" = some (.ref (He.ga K "_law_places"))
  g__law_pick : mg "_law_pick" = some (.ref (He.ga K "_law_pick"))
  g__law_ref : mg "_law_ref" = some (.ref (He.ga K "_law_ref"))
  g__law_links : mg "_law_links" = some (.ref (He.ga K "_law_links"))
  g__law_cell_row : mg "_law_cell_row" = some (.ref (He.ga K "_law_cell_row"))
  g_cell_copy : mg "cell_copy" = some (.ref (He.ga K "cell_copy"))
  g__law_rows : mg "_law_rows" = some (.ref (He.ga K "_law_rows"))
  g__law_plain : mg "_law_plain" = some (.ref (He.ga K "_law_plain"))
  g__law_marked : mg "_law_marked" = some (.ref (He.ga K "_law_marked"))
  g__law_sorted : mg "_law_sorted" = some (.ref (He.ga K "_law_sorted"))
  g__law_held : mg "_law_held" = some (.ref (He.ga K "_law_held"))
  g__law_referred : mg "_law_referred" = some (.ref (He.ga K "_law_referred"))
  g__law_key : mg "_law_key" = some (.ref (He.ga K "_law_key"))
  g__law_fault : mg "_law_fault" = some (.ref (He.ga K "_law_fault"))
  g_has_mark : mg "has_mark" = some (.ref (He.ga K "has_mark"))
  g_sorted_rows : mg "sorted_rows" = some (.ref (He.ga K "sorted_rows"))
  g_numbers_by_table : mg "numbers_by_table" = some (.ref (He.ga K "numbers_by_table"))
  g_table_named : mg "table_named" = some (.ref (He.ga K "table_named"))
  g_cell_numbers : mg "cell_numbers" = some (.ref (He.ga K "cell_numbers"))
  g_is_there : mg "is_there" = some (.ref (He.ga K "is_there"))
  g_first_missing : mg "first_missing" = some (.ref (He.ga K "first_missing"))
  g_key_value : mg "key_value" = some (.ref (He.ga K "key_value"))
  g_first_clash : mg "first_clash" = some (.ref (He.ga K "first_clash"))
  g_first_fault : mg "first_fault" = some (.ref (He.ga K "first_fault"))
  g_are_in_order : mg "are_in_order" = some (.ref (He.ga K "are_in_order"))
  g_law : mg "law" = some (.ref (He.ga K "law"))
  b_any : mg "any" = none
  b_enumerate : mg "enumerate" = none
  b_int : mg "int" = none
  b_isinstance : mg "isinstance" = none
  b_len : mg "len" = none
  b_list : mg "list" = none
  b_range : mg "range" = none
  b_repr : mg "repr" = none
  b_sorted : mg "sorted" = none
  b_tuple : mg "tuple" = none
  gc_Row : mg "Row" = some (.ref (He.ga K "Row"))
  cl_Row : Cls K (He.ga K "Row")
  me_Row_eq : Meth K (He.ga K "Row") "__eq__" (He.fAd K ("Row", some "__eq__"))
  mk_Row : Mk K (He.ga K "Row") (He.fAd K ("Row", some "__init__"))
  no_Row_cells : NoAttr K (He.ga K "Row") "cells"
  no_Row_number : NoAttr K (He.ga K "Row") "number"
  no_Row_table : NoAttr K (He.ga K "Row") "table"
  gc_Column : mg "Column" = some (.ref (He.ga K "Column"))
  cl_Column : Cls K (He.ga K "Column")
  me_Column_eq : Meth K (He.ga K "Column") "__eq__" (He.fAd K ("Column", some "__eq__"))
  mk_Column : Mk K (He.ga K "Column") (He.fAd K ("Column", some "__init__"))
  no_Column_name : NoAttr K (He.ga K "Column") "name"
  no_Column_role : NoAttr K (He.ga K "Column") "role"
  no_Column_targets : NoAttr K (He.ga K "Column") "targets"
  gc_StoreKey : mg "StoreKey" = some (.ref (He.ga K "StoreKey"))
  cl_StoreKey : Cls K (He.ga K "StoreKey")
  me_StoreKey_eq : Meth K (He.ga K "StoreKey") "__eq__" (He.fAd K ("StoreKey", some "__eq__"))
  mk_StoreKey : Mk K (He.ga K "StoreKey") (He.fAd K ("StoreKey", some "__init__"))
  no_StoreKey_name : NoAttr K (He.ga K "StoreKey") "name"
  no_StoreKey_places : NoAttr K (He.ga K "StoreKey") "places"
  gc_Table : mg "Table" = some (.ref (He.ga K "Table"))
  cl_Table : Cls K (He.ga K "Table")
  me_Table_eq : Meth K (He.ga K "Table") "__eq__" (He.fAd K ("Table", some "__eq__"))
  mk_Table : Mk K (He.ga K "Table") (He.fAd K ("Table", some "__init__"))
  no_Table_columns : NoAttr K (He.ga K "Table") "columns"
  no_Table_name : NoAttr K (He.ga K "Table") "name"
  no_Table_unique : NoAttr K (He.ga K "Table") "unique"
  gc_MARK : mg "MARK" = some (.ref (He.ga K "MARK"))
  tu_MARK : ∀ H, SqT K H (He.ga K "MARK") (ts_MARK.map svv)
  if_Row : InsF K (He.ga K "Row")
  it_Row_list : PySem.W.kitOne K (.ref (He.ga K "Row")) (.type "list") = some false
  is_Row_Column : PySem.W.kitOne K (.ref (He.ga K "Row")) (.ref (He.ga K "Column")) = some false
  is_Row_Row : PySem.W.kitOne K (.ref (He.ga K "Row")) (.ref (He.ga K "Row")) = some true
  is_Row_StoreKey : PySem.W.kitOne K (.ref (He.ga K "Row")) (.ref (He.ga K "StoreKey")) = some false
  is_Row_Table : PySem.W.kitOne K (.ref (He.ga K "Row")) (.ref (He.ga K "Table")) = some false
  if_Column : InsF K (He.ga K "Column")
  it_Column_list : PySem.W.kitOne K (.ref (He.ga K "Column")) (.type "list") = some false
  is_Column_Column : PySem.W.kitOne K (.ref (He.ga K "Column")) (.ref (He.ga K "Column")) = some true
  is_Column_Row : PySem.W.kitOne K (.ref (He.ga K "Column")) (.ref (He.ga K "Row")) = some false
  is_Column_StoreKey : PySem.W.kitOne K (.ref (He.ga K "Column")) (.ref (He.ga K "StoreKey")) = some false
  is_Column_Table : PySem.W.kitOne K (.ref (He.ga K "Column")) (.ref (He.ga K "Table")) = some false
  if_StoreKey : InsF K (He.ga K "StoreKey")
  it_StoreKey_list : PySem.W.kitOne K (.ref (He.ga K "StoreKey")) (.type "list") = some false
  is_StoreKey_Column : PySem.W.kitOne K (.ref (He.ga K "StoreKey")) (.ref (He.ga K "Column")) = some false
  is_StoreKey_Row : PySem.W.kitOne K (.ref (He.ga K "StoreKey")) (.ref (He.ga K "Row")) = some false
  is_StoreKey_StoreKey : PySem.W.kitOne K (.ref (He.ga K "StoreKey")) (.ref (He.ga K "StoreKey")) = some true
  is_StoreKey_Table : PySem.W.kitOne K (.ref (He.ga K "StoreKey")) (.ref (He.ga K "Table")) = some false
  if_Table : InsF K (He.ga K "Table")
  it_Table_list : PySem.W.kitOne K (.ref (He.ga K "Table")) (.type "list") = some false
  is_Table_Column : PySem.W.kitOne K (.ref (He.ga K "Table")) (.ref (He.ga K "Column")) = some false
  is_Table_Row : PySem.W.kitOne K (.ref (He.ga K "Table")) (.ref (He.ga K "Row")) = some false
  is_Table_StoreKey : PySem.W.kitOne K (.ref (He.ga K "Table")) (.ref (He.ga K "StoreKey")) = some false
  is_Table_Table : PySem.W.kitOne K (.ref (He.ga K "Table")) (.ref (He.ga K "Table")) = some true
  ti_NoneType_Column : PySem.W.kitOne K (.type "NoneType") (.ref (He.ga K "Column")) = some false
  ti_bool_Column : PySem.W.kitOne K (.type "bool") (.ref (He.ga K "Column")) = some false
  ti_int_Column : PySem.W.kitOne K (.type "int") (.ref (He.ga K "Column")) = some false
  ti_str_Column : PySem.W.kitOne K (.type "str") (.ref (He.ga K "Column")) = some false
  ti_list_Column : PySem.W.kitOne K (.type "list") (.ref (He.ga K "Column")) = some false
  ti_tuple_Column : PySem.W.kitOne K (.type "tuple") (.ref (He.ga K "Column")) = some false
  ti_dict_Column : PySem.W.kitOne K (.type "dict") (.ref (He.ga K "Column")) = some false
  ti_NoneType_Row : PySem.W.kitOne K (.type "NoneType") (.ref (He.ga K "Row")) = some false
  ti_bool_Row : PySem.W.kitOne K (.type "bool") (.ref (He.ga K "Row")) = some false
  ti_int_Row : PySem.W.kitOne K (.type "int") (.ref (He.ga K "Row")) = some false
  ti_str_Row : PySem.W.kitOne K (.type "str") (.ref (He.ga K "Row")) = some false
  ti_list_Row : PySem.W.kitOne K (.type "list") (.ref (He.ga K "Row")) = some false
  ti_tuple_Row : PySem.W.kitOne K (.type "tuple") (.ref (He.ga K "Row")) = some false
  ti_dict_Row : PySem.W.kitOne K (.type "dict") (.ref (He.ga K "Row")) = some false
  ti_NoneType_StoreKey : PySem.W.kitOne K (.type "NoneType") (.ref (He.ga K "StoreKey")) = some false
  ti_bool_StoreKey : PySem.W.kitOne K (.type "bool") (.ref (He.ga K "StoreKey")) = some false
  ti_int_StoreKey : PySem.W.kitOne K (.type "int") (.ref (He.ga K "StoreKey")) = some false
  ti_str_StoreKey : PySem.W.kitOne K (.type "str") (.ref (He.ga K "StoreKey")) = some false
  ti_list_StoreKey : PySem.W.kitOne K (.type "list") (.ref (He.ga K "StoreKey")) = some false
  ti_tuple_StoreKey : PySem.W.kitOne K (.type "tuple") (.ref (He.ga K "StoreKey")) = some false
  ti_dict_StoreKey : PySem.W.kitOne K (.type "dict") (.ref (He.ga K "StoreKey")) = some false
  ti_NoneType_Table : PySem.W.kitOne K (.type "NoneType") (.ref (He.ga K "Table")) = some false
  ti_bool_Table : PySem.W.kitOne K (.type "bool") (.ref (He.ga K "Table")) = some false
  ti_int_Table : PySem.W.kitOne K (.type "int") (.ref (He.ga K "Table")) = some false
  ti_str_Table : PySem.W.kitOne K (.type "str") (.ref (He.ga K "Table")) = some false
  ti_list_Table : PySem.W.kitOne K (.type "list") (.ref (He.ga K "Table")) = some false
  ti_tuple_Table : PySem.W.kitOne K (.type "tuple") (.ref (He.ga K "Table")) = some false
  ti_dict_Table : PySem.W.kitOne K (.type "dict") (.ref (He.ga K "Table")) = some false
  nfa_Column : NfA K (He.ga K "Column")
  nfa_Row : NfA K (He.ga K "Row")
  nfa_StoreKey : NfA K (He.ga K "StoreKey")
  nfa_Table : NfA K (He.ga K "Table")
  em_Column_init_0 : ∀ H : Hp, SqT K H (dfAt K ("Column", some "__init__") 0) []
  em_Table_init_0 : ∀ H : Hp, SqT K H (dfAt K ("Table", some "__init__") 0) []
def tabs : List He.Defn := [("sorted_rows", none)]
def TBs (K : PySem.W.Frag) (mg : Str → Option Value) (base : Heap) : Prop := ∀ q ∈ tabs, LamX.TabB base mg (He.cT K q).1 (He.cT K q).2
theorem tmem {q : He.Defn} (i : Nat) (h : tabs[i]? = some q := by rfl) : q ∈ tabs := List.mem_of_getElem? h
/-! ### each def keeps its reading -/
section
variable {P : Program} {w : World} {K : PySem.W.Frag} {mg : Str → Option Value} {base : Heap}
theorem fn__law_cells (T : Tx K mg) {fd : FuncData} (F : FunD K "_law_cells" "_law_cells" (defArgs s__law_cells) (defBody s__law_cells) (defScope s__law_cells) [] [] (He.fAd K ("_law_cells", none)) fd) : FnOk P w K mg base (L2.CX P w) 1 (He.fAd K ("_law_cells", none)) fd ["_law_script", "_law_count"] (sp__law_cells K) := by
  refine F.ok sc__law_cells (fun vs H Q E h => h.1) (fun cdv A outer s H vs Q E hr h => ⟨_, ?_, h.2⟩)
  refine PSs.nox ?_
  exact (pss_cons (ps_set (i := 2) sc__law_cells.nd rfl (by first | exact Or.inl rfl | exact Or.inr rfl) (pe_lst pa_nil))
        (pss_cons (ps_for PassesOwn.never rfl (pi_range1 rfl T.b_range (pa_cons (pv 1) pa_nil)) (pg_name (i := 3) sc__law_cells.nd rfl (by first | exact Or.inl rfl | exact Or.inr rfl))
        (pss_cons (ps_set (i := 4) sc__law_cells.nd rfl (by first | exact Or.inl rfl | exact Or.inr rfl) (pe_op op_addX (pe_op op_mulX pe_int (pv 3)) pe_int))
        (C8.pss_cut (ps_if (pt_cmpR (op_ltX hr.units) (pv 3) (pe_callB call_len (by rfl) T.b_len boot_len (pa_cons (pv 0) pa_nil)) (nomark _))
        (pss_cons (ps_set (i := 4) sc__law_cells.nd rfl (by first | exact Or.inl rfl | exact Or.inr rfl) (pe_callTy (CallR.or call_int1 call_int_str) (by rfl) T.b_int (by decide +kernel) (pa_cons (pe_ix ix_seq (pv 0) (pv 3) fun _ _ => rfl) pa_nil)))
        (pss_one (ps_if (pt_cmpR (op_ltX hr.units) (pv 4) pe_int (nomark _))
        (pss_one (ps_set (i := 4) sc__law_cells.nd rfl (by first | exact Or.inl rfl | exact Or.inr rfl) (pe_op op_subX pe_int (pe_op op_mulX pe_int (pv 4)))))
        pss_nil)))
        pss_nil)
        (C8.pss_cut (ps_if (pt_cmpR (op_ltX hr.units) (pv 4) pe_int (nomark _))
        (pss_cons (ps_set (i := 4) sc__law_cells.nd rfl (by first | exact Or.inl rfl | exact Or.inr rfl) (pe_op op_modX (pe_callTy (CallR.or call_int1 call_int_str) (by rfl) T.b_int (by decide +kernel) (pa_cons (pe_op op_addX (pe_op op_addX (pe_op op_mulX (pe_callTy (CallR.or call_int1 call_int_str) (by rfl) T.b_int (by decide +kernel) (pa_cons (pv 4) pa_nil)) pe_int) (pe_op op_mulX pe_int (pv 3))) pe_int) pa_nil)) pe_int))
        (pss_one (ps_set (i := 4) sc__law_cells.nd rfl (by first | exact Or.inl rfl | exact Or.inr rfl) (pe_op op_modX (pe_callTy (CallR.or call_int1 call_int_str) (by rfl) T.b_int (by decide +kernel) (pa_cons (pe_op op_addX (pe_op op_mulX (pe_callTy (CallR.or call_int1 call_int_str) (by rfl) T.b_int (by decide +kernel) (pa_cons (pv 4) pa_nil)) pe_int) pe_int) pa_nil)) pe_int))))
        pss_nil)
        (pss_one (ps_expr (pe_bm PySem.F.plainAttrs_list PySem.F.slot_list_append PySem.F.type_list_append mt_append (pv 2) (pa_cons (pv 4) pa_nil))))))))
        (pss_one (ps_ret (pv 2)))))
theorem Tx.ok__law_cells (T : Tx K mg) : Cl P w K mg base 1 "_law_cells" (sp__law_cells K) [] := by
  obtain ⟨fd, F⟩ := T.d__law_cells
  have ok := fn__law_cells (P := P) (w := w) (base := base) T F
  exact ⟨_, fd, _, [], ok, T.g__law_cells, F.kp, (FunD.bindsN F fun _ _ _ _ _ _ us hl => match us, hl with | [_, _], _ => rfl), .nil⟩
theorem fn_Column_init (T : Tx K mg) {fd : FuncData} (F : FunD K "__init__" "Column.__init__" (defArgs s_Column_init) (defBody s_Column_init) (defScope s_Column_init) [(.ref (dfAt K ("Column", some "__init__") 0))] [] (He.fAd K ("Column", some "__init__")) fd) : FnOk P w K mg base (L2.CX P w) 1 (He.fAd K ("Column", some "__init__")) fd ["self", "name", "role", "targets"] (sp_Column_init K) := by
  refine F.ok sc_Column_init (fun vs H Q E h => h.1) (fun cdv A outer s H vs Q E hr h => ⟨_, ?_, h.2⟩)
  refine PSs.nox ?_
  exact (pss_cons (ps_fld (pv 0) (pv 1) rfl)
        (pss_cons (ps_fld (pv 0) (pv 2) rfl)
        (pss_one (ps_fld (pv 0) (pe_callTy (CallR.or call_list_of (call_list_dK rfl)) (by rfl) T.b_list (by decide +kernel) (pa_cons (pv 3) pa_nil)) rfl))))
theorem Tx.ok_Column_init (T : Tx K mg) : Mq P w K mg base 1 "Column" (He.ga K ("Column" : Str)) (sp_Column_init K) [] := by
  obtain ⟨fd, F⟩ := T.d_Column_init
  have ok := fn_Column_init (P := P) (w := w) (base := base) T F
  obtain ⟨ds, hv, b⟩ := FunD.binds1 (ps := ["self", "name", "role", "targets"]) F 4 1 (by simp) (by simp) fun T kV doc pm an cdv ct us its hu hi => match us, its, hu, hi with | [_, _, _, _], [_], _, _ => ⟨_, rfl, rfl⟩
  exact ⟨_, fd, _, ds, T.mk_Column, ok, T.gc_Column, b, hv⟩
theorem Tx.ok_Column_init_1 (T : Tx K mg) : Mq P w K mg base 1 "Column" (He.ga K ("Column" : Str)) (sp_Column_init K) [(.ref (dfAt K ("Column", some "__init__") 0))] := by
  obtain ⟨fd, F⟩ := T.d_Column_init
  have ok := fn_Column_init (P := P) (w := w) (base := base) T F
  obtain ⟨ds, hv, b⟩ := FunD.binds1 (ps := ["self", "name", "role", "targets"]) F 3 0 (by simp) (by simp) fun T kV doc pm an cdv ct us its hu hi => match us, its, hu, hi with | [_, _, _], [_], _, _ => ⟨_, rfl, rfl⟩
  exact ⟨_, fd, _, ds, T.mk_Column, ok, T.gc_Column, b, hv⟩
theorem fn_Table_init (T : Tx K mg) {fd : FuncData} (F : FunD K "__init__" "Table.__init__" (defArgs s_Table_init) (defBody s_Table_init) (defScope s_Table_init) [(.ref (dfAt K ("Table", some "__init__") 0))] [] (He.fAd K ("Table", some "__init__")) fd) : FnOk P w K mg base (L2.CX P w) 1 (He.fAd K ("Table", some "__init__")) fd ["self", "name", "columns", "unique"] (sp_Table_init K) := by
  refine F.ok sc_Table_init (fun vs H Q E h => h.1) (fun cdv A outer s H vs Q E hr h => ⟨_, ?_, h.2⟩)
  refine PSs.nox ?_
  exact (pss_cons (ps_fld (pv 0) (pv 1) rfl)
        (pss_cons (ps_fld (pv 0) (pe_callTy (CallR.or call_list_of (call_list_dK rfl)) (by rfl) T.b_list (by decide +kernel) (pa_cons (pv 2) pa_nil)) rfl)
        (pss_one (ps_fld (pv 0) (pe_callTy (CallR.or call_list_of (call_list_dK rfl)) (by rfl) T.b_list (by decide +kernel) (pa_cons (pv 3) pa_nil)) rfl))))
theorem Tx.ok_Table_init (T : Tx K mg) : Mq P w K mg base 1 "Table" (He.ga K ("Table" : Str)) (sp_Table_init K) [] := by
  obtain ⟨fd, F⟩ := T.d_Table_init
  have ok := fn_Table_init (P := P) (w := w) (base := base) T F
  obtain ⟨ds, hv, b⟩ := FunD.binds1 (ps := ["self", "name", "columns", "unique"]) F 4 1 (by simp) (by simp) fun T kV doc pm an cdv ct us its hu hi => match us, its, hu, hi with | [_, _, _, _], [_], _, _ => ⟨_, rfl, rfl⟩
  exact ⟨_, fd, _, ds, T.mk_Table, ok, T.gc_Table, b, hv⟩
theorem Tx.ok_Table_init_1 (T : Tx K mg) : Mq P w K mg base 1 "Table" (He.ga K ("Table" : Str)) (sp_Table_init K) [(.ref (dfAt K ("Table", some "__init__") 0))] := by
  obtain ⟨fd, F⟩ := T.d_Table_init
  have ok := fn_Table_init (P := P) (w := w) (base := base) T F
  obtain ⟨ds, hv, b⟩ := FunD.binds1 (ps := ["self", "name", "columns", "unique"]) F 3 0 (by simp) (by simp) fun T kV doc pm an cdv ct us its hu hi => match us, its, hu, hi with | [_, _, _], [_], _, _ => ⟨_, rfl, rfl⟩
  exact ⟨_, fd, _, ds, T.mk_Table, ok, T.gc_Table, b, hv⟩
theorem fn_StoreKey_init (T : Tx K mg) {fd : FuncData} (F : FunD K "__init__" "StoreKey.__init__" (defArgs s_StoreKey_init) (defBody s_StoreKey_init) (defScope s_StoreKey_init) [] [] (He.fAd K ("StoreKey", some "__init__")) fd) : FnOk P w K mg base (L2.CX P w) 1 (He.fAd K ("StoreKey", some "__init__")) fd ["self", "name", "places"] (sp_StoreKey_init K) := by
  refine F.ok sc_StoreKey_init (fun vs H Q E h => h.1) (fun cdv A outer s H vs Q E hr h => ⟨_, ?_, h.2⟩)
  refine PSs.nox ?_
  exact (pss_cons (ps_fld (pv 0) (pv 1) rfl)
        (pss_one (ps_fld (pv 0) (pe_callTy (CallR.or call_list_of (call_list_dK rfl)) (by rfl) T.b_list (by decide +kernel) (pa_cons (pv 2) pa_nil)) rfl)))
theorem Tx.ok_StoreKey_init (T : Tx K mg) : Mq P w K mg base 1 "StoreKey" (He.ga K ("StoreKey" : Str)) (sp_StoreKey_init K) [] := by
  obtain ⟨fd, F⟩ := T.d_StoreKey_init
  have ok := fn_StoreKey_init (P := P) (w := w) (base := base) T F
  exact ⟨_, fd, _, [], T.mk_StoreKey, ok, T.gc_StoreKey, (FunD.bindsN F fun _ _ _ _ _ _ us hl => match us, hl with | [_, _, _], _ => rfl), .nil⟩
theorem fn__law_tables (T : Tx K mg) {fd : FuncData} (F : FunD K "_law_tables" "_law_tables" (defArgs s__law_tables) (defBody s__law_tables) (defScope s__law_tables) [] [] (He.fAd K ("_law_tables", none)) fd) : FnOk P w K mg base (L2.CX P w) 3 (He.fAd K ("_law_tables", none)) fd [] (sp__law_tables K) := by
  refine F.ok sc__law_tables (fun vs H Q E h => h.1) (fun cdv A outer s H vs Q E hr h => ⟨_, ?_, h.2⟩)
  refine PSs.nox ?_
  exact (pss_cons (ps_set (i := 0) sc__law_tables.nd rfl (by first | exact Or.inl rfl | exact Or.inr rfl) (pe_lst (pa_cons (pe_strE e_M) (pa_cons (pe_strE e_N) pa_nil))))
        (pss_cons (ps_set (i := 1) sc__law_tables.nd rfl (by first | exact Or.inl rfl | exact Or.inr rfl) (pe_lst (pa_cons (pe_mq (T.ok_Column_init_1) hr (by decide) rfl (pa_cons (pe_strE e_v) (pa_cons (pe_strE e_value) pa_nil))) (pa_cons (pe_mq (T.ok_Column_init_1) hr (by decide) rfl (pa_cons (pe_strE e_k) (pa_cons (pe_strE e_value) pa_nil))) (pa_cons (pe_mq (T.ok_Column_init) hr (by decide) rfl (pa_cons (pe_strE e_r) (pa_cons (pe_strE e_reference) (pa_cons (pv 0) pa_nil)))) (pa_cons (pe_mq (T.ok_Column_init) hr (by decide) rfl (pa_cons (pe_strE e_s) (pa_cons (pe_strE e_links) (pa_cons (pv 0) pa_nil)))) pa_nil))))))
        (pss_cons (ps_set (i := 2) sc__law_tables.nd rfl (by first | exact Or.inl rfl | exact Or.inr rfl) (pe_lst (pa_cons (pe_mq (T.ok_Column_init_1) hr (by decide) rfl (pa_cons (pe_strE e_k) (pa_cons (pe_strE e_value) pa_nil))) (pa_cons (pe_mq (T.ok_Column_init) hr (by decide) rfl (pa_cons (pe_strE e_r) (pa_cons (pe_strE e_reference) (pa_cons (pv 0) pa_nil)))) pa_nil))))
        (pss_cons (ps_set (i := 3) sc__law_tables.nd rfl (by first | exact Or.inl rfl | exact Or.inr rfl) (pe_lst (pa_cons (pe_mq (T.ok_Column_init_1) hr (by decide) rfl (pa_cons (pe_strE e_v) (pa_cons (pe_strE e_value) pa_nil))) (pa_cons (pe_mq (T.ok_Column_init) hr (by decide) rfl (pa_cons (pe_strE e_s) (pa_cons (pe_strE e_links) (pa_cons (pv 0) pa_nil)))) pa_nil))))
        (pss_one (ps_ret (pe_lst (pa_cons (pe_mq (T.ok_Table_init) hr (by decide) rfl (pa_cons (pe_strE e_M) (pa_cons (pv 1) (pa_cons (pe_lst (pa_cons (pe_mq (T.ok_StoreKey_init) hr (by decide) rfl (pa_cons (pe_strE e_key1) (pa_cons (pe_lst (pa_cons pe_int pa_nil)) pa_nil))) pa_nil)) pa_nil)))) (pa_cons (pe_mq (T.ok_Table_init) hr (by decide) rfl (pa_cons (pe_strE e_N) (pa_cons (pv 2) (pa_cons (pe_lst (pa_cons (pe_mq (T.ok_StoreKey_init) hr (by decide) rfl (pa_cons (pe_strE e_key1) (pa_cons (pe_lst (pa_cons pe_int pa_nil)) pa_nil))) pa_nil)) pa_nil)))) (pa_cons (pe_mq (T.ok_Table_init_1) hr (by decide) rfl (pa_cons (pe_strE e_P) (pa_cons (pv 3) pa_nil))) pa_nil))))))))))
theorem Tx.ok__law_tables (T : Tx K mg) : Cl P w K mg base 3 "_law_tables" (sp__law_tables K) [] := by
  obtain ⟨fd, F⟩ := T.d__law_tables
  have ok := fn__law_tables (P := P) (w := w) (base := base) T F
  exact ⟨_, fd, _, [], ok, T.g__law_tables, F.kp, (FunD.bindsN F fun _ _ _ _ _ _ us hl => match us, hl with | [], _ => rfl), .nil⟩
theorem fn__law_draw (T : Tx K mg) {fd : FuncData} (F : FunD K "_law_draw" "_law_draw" (defArgs s__law_draw) (defBody s__law_draw) (defScope s__law_draw) [] [] (He.fAd K ("_law_draw", none)) fd) : FnOk P w K mg base (L2.CX P w) 1 (He.fAd K ("_law_draw", none)) fd ["_law_draws", "_law_bound"] (sp__law_draw K) := by
  refine F.ok sc__law_draw (fun vs H Q E h => h.1) (fun cdv A outer s H vs Q E hr h => ⟨_, ?_, h.2⟩)
  refine PSs.nox ?_
  exact (C8.pss_cut (ps_if (PW.pt (pw_and (pt_cmpR (op_eqX hr.units) (pe_ix ix_seq (pv 0) pe_int fun _ _ => rfl) pe_int (nomark _)) (pw_and1 (pt_cmpR op_gtX (pe_callB call_len (by rfl) T.b_len boot_len (pa_cons (pv 0) pa_nil)) pe_int (nomark _)))))
        (pss_one (ps_expr (pe_bm PySem.F.plainAttrs_list PySem.F.slot_list_pop PySem.F.type_list_pop (MtR.or mt_pop mt_popAt) (pv 0) (pa_cons pe_int pa_nil))))
        pss_nil)
        (pss_cons (ps_set (i := 2) sc__law_draw.nd rfl (by first | exact Or.inl rfl | exact Or.inr rfl) (pe_op op_modX (pe_callTy (CallR.or call_int1 call_int_str) (by rfl) T.b_int (by decide +kernel) (pa_cons (pe_ix ix_seq (pv 0) pe_int fun _ _ => rfl) pa_nil)) (pv 1)))
        (pss_cons (ps_asg (pe_op op_divX (pe_ix ix_seq (pv 0) pe_int fun _ _ => rfl) (pv 1)) (pg_sub (pv 0) pe_int set_list))
        (pss_one (ps_ret (pv 2))))))
theorem Tx.ok__law_draw (T : Tx K mg) : Cl P w K mg base 1 "_law_draw" (sp__law_draw K) [] := by
  obtain ⟨fd, F⟩ := T.d__law_draw
  have ok := fn__law_draw (P := P) (w := w) (base := base) T F
  exact ⟨_, fd, _, [], ok, T.g__law_draw, F.kp, (FunD.bindsN F fun _ _ _ _ _ _ us hl => match us, hl with | [_, _], _ => rfl), .nil⟩
theorem fn__law_places (T : Tx K mg) {fd : FuncData} (F : FunD K "_law_places" "_law_places" (defArgs s__law_places) (defBody s__law_places) (defScope s__law_places) [] [] (He.fAd K ("_law_places", none)) fd) : FnOk P w K mg base (L2.CX P w) 2 (He.fAd K ("_law_places", none)) fd ["_law_draws"] (sp__law_places K) := by
  refine F.ok sc__law_places (fun vs H Q E h => h.1) (fun cdv A outer s H vs Q E hr h => ⟨_, ?_, h.2⟩)
  refine PSs.nox ?_
  exact (pss_cons (ps_set (i := 1) sc__law_places.nd rfl (by first | exact Or.inl rfl | exact Or.inr rfl) (pe_lst pa_nil))
        (pss_cons (ps_for PassesOwn.never rfl (pi_any (pe_lst (pa_cons (pe_strE e_M) (pa_cons (pe_strE e_N) (pa_cons (pe_strE e_P) pa_nil))))) (pg_name (i := 2) sc__law_places.nd rfl (by first | exact Or.inl rfl | exact Or.inr rfl))
        (pss_one (ps_for PassesOwn.never rfl (pi_range1 rfl T.b_range (pa_cons (pe_cl (T.ok__law_draw) hr (by decide) (fun _ => pz) rfl (pa_cons (pv 0) (pa_cons pe_int pa_nil))) pa_nil)) (pg_name (i := 3) sc__law_places.nd rfl (by first | exact Or.inl rfl | exact Or.inr rfl))
        (pss_cons (ps_set (i := 4) sc__law_places.nd rfl (by first | exact Or.inl rfl | exact Or.inr rfl) (pe_tup (pa_cons (pv 2) (pa_cons (pe_op op_addX pe_int (pe_cl (T.ok__law_draw) hr (by decide) (fun _ => pz) rfl (pa_cons (pv 0) (pa_cons pe_int pa_nil)))) pa_nil))))
        (pss_one (ps_if (pt_cmpR (op_notInD (u65 hr)) (pv 4) (pv 1) (by rfl))
        (pss_one (ps_expr (pe_bm PySem.F.plainAttrs_list PySem.F.slot_list_append PySem.F.type_list_append mt_append (pv 1) (pa_cons (pv 4) pa_nil))))
        pss_nil))))))
        (pss_one (ps_ret (pv 1)))))
theorem Tx.ok__law_places (T : Tx K mg) : Cl P w K mg base 2 "_law_places" (sp__law_places K) [] := by
  obtain ⟨fd, F⟩ := T.d__law_places
  have ok := fn__law_places (P := P) (w := w) (base := base) T F
  exact ⟨_, fd, _, [], ok, T.g__law_places, F.kp, (FunD.bindsN F fun _ _ _ _ _ _ us hl => match us, hl with | [_], _ => rfl), .nil⟩
theorem fn__law_pick (T : Tx K mg) {fd : FuncData} (F : FunD K "_law_pick" "_law_pick" (defArgs s__law_pick) (defBody s__law_pick) (defScope s__law_pick) [] [] (He.fAd K ("_law_pick", none)) fd) : FnOk P w K mg base (L2.CX P w) 2 (He.fAd K ("_law_pick", none)) fd ["_law_draws", "_law_row"] (sp__law_pick K) := by
  refine F.ok sc__law_pick (fun vs H Q E h => h.1) (fun cdv A outer s H vs Q E hr h => ⟨_, ?_, h.2⟩)
  refine PSs.nox ?_
  exact (pss_one (ps_ret (pe_ix ix_seq (pv 1) (pe_cl (T.ok__law_draw) hr (by decide) (fun _ => pz) rfl (pa_cons (pv 0) (pa_cons (pe_callB call_len (by rfl) T.b_len boot_len (pa_cons (pv 1) pa_nil)) pa_nil))) fun _ _ => rfl)))
theorem Tx.ok__law_pick (T : Tx K mg) : Cl P w K mg base 2 "_law_pick" (sp__law_pick K) [] := by
  obtain ⟨fd, F⟩ := T.d__law_pick
  have ok := fn__law_pick (P := P) (w := w) (base := base) T F
  exact ⟨_, fd, _, [], ok, T.g__law_pick, F.kp, (FunD.bindsN F fun _ _ _ _ _ _ us hl => match us, hl with | [_, _], _ => rfl), .nil⟩
theorem fn__law_ref (T : Tx K mg) {fd : FuncData} (F : FunD K "_law_ref" "_law_ref" (defArgs s__law_ref) (defBody s__law_ref) (defScope s__law_ref) [] [] (He.fAd K ("_law_ref", none)) fd) : FnOk P w K mg base (L2.CX P w) 3 (He.fAd K ("_law_ref", none)) fd ["_law_draws", "_law_numbers"] (sp__law_ref K) := by
  refine F.ok sc__law_ref (fun vs H Q E h => h.1) (fun cdv A outer s H vs Q E hr h => ⟨_, ?_, h.2⟩)
  refine PSs.nox ?_
  exact (pss_cons (ps_if (PW.pt (pw_or (pt_cmpR (op_eqX hr.units) (pe_callB call_len (by rfl) T.b_len boot_len (pa_cons (pv 1) pa_nil)) pe_int (nomark _)) (pw_or1 (pt_cmpR (op_eqX hr.units) (pe_cl (T.ok__law_draw) hr (by decide) (fun _ => pz) rfl (pa_cons (pv 0) (pa_cons pe_int pa_nil))) pe_int (nomark _)))))
        (pss_one (ps_ret pe_non))
        pss_nil)
        (pss_one (ps_ret (pe_cl (T.ok__law_pick) hr (by decide) (fun _ => pz) rfl (pa_cons (pv 0) (pa_cons (pv 1) pa_nil))))))
theorem Tx.ok__law_ref (T : Tx K mg) : Cl P w K mg base 3 "_law_ref" (sp__law_ref K) [] := by
  obtain ⟨fd, F⟩ := T.d__law_ref
  have ok := fn__law_ref (P := P) (w := w) (base := base) T F
  exact ⟨_, fd, _, [], ok, T.g__law_ref, F.kp, (FunD.bindsN F fun _ _ _ _ _ _ us hl => match us, hl with | [_, _], _ => rfl), .nil⟩
theorem fn__law_links (T : Tx K mg) {fd : FuncData} (F : FunD K "_law_links" "_law_links" (defArgs s__law_links) (defBody s__law_links) (defScope s__law_links) [] [] (He.fAd K ("_law_links", none)) fd) : FnOk P w K mg base (L2.CX P w) 3 (He.fAd K ("_law_links", none)) fd ["_law_draws", "_law_numbers"] (sp__law_links K) := by
  refine F.ok sc__law_links (fun vs H Q E h => h.1) (fun cdv A outer s H vs Q E hr h => ⟨_, ?_, h.2⟩)
  refine PSs.nox ?_
  exact (pss_cons (ps_set (i := 2) sc__law_links.nd rfl (by first | exact Or.inl rfl | exact Or.inr rfl) (pe_lst pa_nil))
        (pss_cons (ps_for PassesOwn.never rfl (pi_range1 rfl T.b_range (pa_cons (pe_cl (T.ok__law_draw) hr (by decide) (fun _ => pz) rfl (pa_cons (pv 0) (pa_cons pe_int pa_nil))) pa_nil)) (pg_name (i := 3) sc__law_links.nd rfl (by first | exact Or.inl rfl | exact Or.inr rfl))
        (pss_one (ps_if (pt_cmpR op_gtX (pe_callB call_len (by rfl) T.b_len boot_len (pa_cons (pv 1) pa_nil)) pe_int (nomark _))
        (pss_cons (ps_set (i := 4) sc__law_links.nd rfl (by first | exact Or.inl rfl | exact Or.inr rfl) (pe_cl (T.ok__law_pick) hr (by decide) (fun _ => pz) rfl (pa_cons (pv 0) (pa_cons (pv 1) pa_nil))))
        (pss_one (ps_if (pt_cmpR op_notInX (pv 4) (pv 2) (by rfl))
        (pss_one (ps_expr (pe_bm PySem.F.plainAttrs_list PySem.F.slot_list_append PySem.F.type_list_append mt_append (pv 2) (pa_cons (pv 4) pa_nil))))
        pss_nil)))
        pss_nil)))
        (pss_one (ps_ret (pv 2)))))
theorem Tx.ok__law_links (T : Tx K mg) : Cl P w K mg base 3 "_law_links" (sp__law_links K) [] := by
  obtain ⟨fd, F⟩ := T.d__law_links
  have ok := fn__law_links (P := P) (w := w) (base := base) T F
  exact ⟨_, fd, _, [], ok, T.g__law_links, F.kp, (FunD.bindsN F fun _ _ _ _ _ _ us hl => match us, hl with | [_, _], _ => rfl), .nil⟩
theorem fn__law_cell_row (T : Tx K mg) {fd : FuncData} (F : FunD K "_law_cell_row" "_law_cell_row" (defArgs s__law_cell_row) (defBody s__law_cell_row) (defScope s__law_cell_row) [] [] (He.fAd K ("_law_cell_row", none)) fd) : FnOk P w K mg base (L2.CX P w) 4 (He.fAd K ("_law_cell_row", none)) fd ["_law_draws", "_law_table", "_law_numbers"] (sp__law_cell_row K) := by
  refine F.ok sc__law_cell_row (fun vs H Q E h => h.1) (fun cdv A outer s H vs Q E hr h => ⟨_, ?_, h.2⟩)
  refine PSs.nox ?_
  exact (pss_cons (ps_set (i := 3) sc__law_cell_row.nd rfl (by first | exact Or.inl rfl | exact Or.inr rfl) (pe_cl (T.ok__law_pick) hr (by decide) (fun _ => pz) rfl (pa_cons (pv 0) (pa_cons (pe_lst (pa_cons pe_non (pa_cons pe_non (pa_cons pe_int (pa_cons pe_int (pa_cons pe_int (pa_cons (pe_strE e_1) (pa_cons pe_int (pa_cons pe_int pa_nil))))))))) pa_nil))))
        (pss_cons (ps_if (pt_cmpR (op_eqX hr.units) (pv 1) (pe_strE e_M) (nomark _))
        (pss_one (ps_ret (pe_lst (pa_cons (pe_cl (T.ok__law_draw) hr (by decide) (fun _ => pz) rfl (pa_cons (pv 0) (pa_cons pe_int pa_nil))) (pa_cons (pv 3) (pa_cons (pe_cl (T.ok__law_ref) hr (by decide) (fun _ => pz) rfl (pa_cons (pv 0) (pa_cons (pv 2) pa_nil))) (pa_cons (pe_cl (T.ok__law_links) hr (by decide) (fun _ => pz) rfl (pa_cons (pv 0) (pa_cons (pv 2) pa_nil))) pa_nil)))))))
        pss_nil)
        (pss_cons (ps_if (pt_cmpR (op_eqX hr.units) (pv 1) (pe_strE e_N) (nomark _))
        (pss_one (ps_ret (pe_lst (pa_cons (pv 3) (pa_cons (pe_cl (T.ok__law_ref) hr (by decide) (fun _ => pz) rfl (pa_cons (pv 0) (pa_cons (pv 2) pa_nil))) pa_nil)))))
        pss_nil)
        (pss_one (ps_ret (pe_lst (pa_cons (pe_cl (T.ok__law_pick) hr (by decide) (fun _ => pz) rfl (pa_cons (pv 0) (pa_cons (pe_lst (pa_cons pe_non (pa_cons pe_int (pa_cons (pe_strE e_x) pa_nil)))) pa_nil))) (pa_cons (pe_cl (T.ok__law_links) hr (by decide) (fun _ => pz) rfl (pa_cons (pv 0) (pa_cons (pv 2) pa_nil))) pa_nil))))))))
theorem Tx.ok__law_cell_row (T : Tx K mg) : Cl P w K mg base 4 "_law_cell_row" (sp__law_cell_row K) [] := by
  obtain ⟨fd, F⟩ := T.d__law_cell_row
  have ok := fn__law_cell_row (P := P) (w := w) (base := base) T F
  exact ⟨_, fd, _, [], ok, T.g__law_cell_row, F.kp, (FunD.bindsN F fun _ _ _ _ _ _ us hl => match us, hl with | [_, _, _], _ => rfl), .nil⟩
theorem fn_cell_copy (T : Tx K mg) {fd : FuncData} (F : FunD K "cell_copy" "cell_copy" (defArgs s_cell_copy) (defBody s_cell_copy) (defScope s_cell_copy) [] [] (He.fAd K ("cell_copy", none)) fd) : FnOk P w K mg base (L2.CX P w) 1 (He.fAd K ("cell_copy", none)) fd ["cell"] (sp_cell_copy K) := by
  refine F.ok sc_cell_copy (fun vs H Q E h => h.1) (fun cdv A outer s H vs Q E hr h => ⟨_, ?_, h.2⟩)
  refine PSs.nox ?_
  exact (pss_cons (ps_if (pt_truth (pe_callB call_isi (by rfl) T.b_isinstance (by decide +kernel) (pa_cons (pv 0) (pa_cons (pe_bltn (by rfl) T.b_list (by decide +kernel) rfl) pa_nil))) fun _ => rfl)
        (pss_one (ps_ret (pe_callTy (CallR.or call_list_of (call_list_dK rfl)) (by rfl) T.b_list (by decide +kernel) (pa_cons (pv 0) pa_nil))))
        pss_nil)
        (pss_one (ps_ret (pv 0))))
theorem Tx.ok_cell_copy (T : Tx K mg) : Cl P w K mg base 1 "cell_copy" (sp_cell_copy K) [] := by
  obtain ⟨fd, F⟩ := T.d_cell_copy
  have ok := fn_cell_copy (P := P) (w := w) (base := base) T F
  exact ⟨_, fd, _, [], ok, T.g_cell_copy, F.kp, (FunD.bindsN F fun _ _ _ _ _ _ us hl => match us, hl with | [_], _ => rfl), .nil⟩
theorem fn_Row_init (T : Tx K mg) {fd : FuncData} (F : FunD K "__init__" "Row.__init__" (defArgs s_Row_init) (defBody s_Row_init) (defScope s_Row_init) [] [] (He.fAd K ("Row", some "__init__")) fd) : FnOk P w K mg base (L2.CX P w) 2 (He.fAd K ("Row", some "__init__")) fd ["self", "table", "number", "cells"] (sp_Row_init K) := by
  refine F.ok sc_Row_init (fun vs H Q E h => h.1) (fun cdv A outer s H vs Q E hr h => ⟨_, ?_, h.2⟩)
  refine PSs.nox ?_
  exact (pss_cons (ps_fld (pv 0) (pv 1) rfl)
        (pss_cons (ps_fld (pv 0) (pv 2) rfl)
        (pss_one (ps_fld (pv 0) (pe_lc (own := [("cell", 4)]) rfl sc_Row_init.nd (pi_any (pv 3)) (blkOk_by (N := ["self", "table", "number", "cells", "cell"]) (sc := defScope s_Row_init) (own := [("cell", 4)]) (by decide +kernel)) (fun _ _ _ _ _ => (pg_name (i := 4) sc_Row_init.nd rfl (by first | exact Or.inl rfl | exact Or.inr rfl))) (fun _ _ _ _ _ => pts_nil) (fun _ _ _ _ _ => (pe_cl (T.ok_cell_copy) hr (by decide) (fun _ => pz) rfl (pa_cons (pv 4) pa_nil)))) rfl))))
theorem Tx.ok_Row_init (T : Tx K mg) : Mq P w K mg base 2 "Row" (He.ga K ("Row" : Str)) (sp_Row_init K) [] := by
  obtain ⟨fd, F⟩ := T.d_Row_init
  have ok := fn_Row_init (P := P) (w := w) (base := base) T F
  exact ⟨_, fd, _, [], T.mk_Row, ok, T.gc_Row, (FunD.bindsN F fun _ _ _ _ _ _ us hl => match us, hl with | [_, _, _, _], _ => rfl), .nil⟩
theorem fn__law_rows (T : Tx K mg) {fd : FuncData} (F : FunD K "_law_rows" "_law_rows" (defArgs s__law_rows) (defBody s__law_rows) (defScope s__law_rows) [] [] (He.fAd K ("_law_rows", none)) fd) : FnOk P w K mg base (L2.CX P w) 5 (He.fAd K ("_law_rows", none)) fd ["_law_draws"] (sp__law_rows K) := by
  refine F.ok sc__law_rows (fun vs H Q E h => h.1) (fun cdv A outer s H vs Q E hr h => ⟨_, ?_, h.2⟩)
  refine PSs.nox ?_
  exact (pss_cons (ps_set (i := 1) sc__law_rows.nd rfl (by first | exact Or.inl rfl | exact Or.inr rfl) (pe_cl (T.ok__law_places) hr (by decide) (fun _ => pz) rfl (pa_cons (pv 0) pa_nil)))
        (pss_cons (ps_setLc (i := 2) (own := [("_law_place", 3)]) rfl sc__law_rows.nd rfl rfl (sw_true rfl rfl rfl (by decide +kernel)) (pi_any (pv 1)) (blkOk_by (N := ["_law_draws", "_law_places_here", "_law_numbers", "_law_place", "_law_used", "_law_rows_here", "_law_table", "_law_number", "_law_cells_here", "_law_at"]) (sc := defScope s__law_rows) (own := [("_law_place", 3)]) (by decide +kernel)) (fun _ _ _ _ _ => (pg_name (i := 3) sc__law_rows.nd rfl (by first | exact Or.inl rfl | exact Or.inr rfl))) (fun _ _ _ _ _ => pts_one (pt_cmpR (op_neX hr.units) (pe_ix ix_seq (pv 3) pe_int fun _ _ => rfl) (pe_strE e_P) (nomark _))) (fun _ _ _ _ _ => (pe_ix ix_seq (pv 3) pe_int fun _ _ => rfl)))
        (pss_cons (ps_set (i := 4) sc__law_rows.nd rfl (by first | exact Or.inl rfl | exact Or.inr rfl) (pe_lst pa_nil))
        (pss_cons (ps_set (i := 5) sc__law_rows.nd rfl (by first | exact Or.inl rfl | exact Or.inr rfl) (pe_lst pa_nil))
        (pss_cons (ps_for PassesOwn.never rfl (pi_any (pv 1)) (pg_tup rfl (pgs_cons (pg_name (i := 6) sc__law_rows.nd rfl (by first | exact Or.inl rfl | exact Or.inr rfl)) (pgs_cons (pg_name (i := 7) sc__law_rows.nd rfl (by first | exact Or.inl rfl | exact Or.inr rfl)) pgs_nil)))
        (pss_cons (ps_set (i := 8) sc__law_rows.nd rfl (by first | exact Or.inl rfl | exact Or.inr rfl) (pe_cl (T.ok__law_cell_row) hr (by decide) (fun _ => pz) rfl (pa_cons (pv 0) (pa_cons (pv 6) (pa_cons (pv 2) pa_nil)))))
        (pss_cons (ps_set (i := 9) sc__law_rows.nd rfl (by first | exact Or.inl rfl | exact Or.inr rfl) (pe_ifExp (pt_cmpR (op_eqX hr.units) (pv 6) (pe_strE e_M) (nomark _)) pe_int pe_int))
        (C8.pss_cut (ps_if (PW.pt (pw_and (pt_cmpR (op_neX hr.units) (pv 6) (pe_strE e_P) (nomark _)) (pw_and1 (pt_cmpR op_inX (pe_ix ix_seq (pv 8) (pv 9) fun _ _ => rfl) (pv 4) (by rfl)))))
        (pss_one (ps_asg pe_non (pg_sub (pv 8) (pv 9) set_list)))
        pss_nil)
        (C8.pss_cut (ps_if (PW.pt (pw_and (pt_cmpR (op_neX hr.units) (pv 6) (pe_strE e_P) (nomark _)) (pw_and1 (pt_cmpR op_isNotX (pe_ix ix_seq (pv 8) (pv 9) fun _ _ => rfl) pe_non (nomark _)))))
        (pss_one (ps_expr (pe_bm PySem.F.plainAttrs_list PySem.F.slot_list_append PySem.F.type_list_append mt_append (pv 4) (pa_cons (pe_ix ix_seq (pv 8) (pv 9) fun _ _ => rfl) pa_nil))))
        pss_nil)
        (pss_one (ps_expr (pe_bm PySem.F.plainAttrs_list PySem.F.slot_list_append PySem.F.type_list_append mt_append (pv 5) (pa_cons (pe_mq (T.ok_Row_init) hr (by decide) rfl (pa_cons (pv 6) (pa_cons (pv 7) (pa_cons (pv 8) pa_nil)))) pa_nil)))))))))
        (pss_one (ps_ret (pv 5))))))))
theorem Tx.ok__law_rows (T : Tx K mg) : Cl P w K mg base 5 "_law_rows" (sp__law_rows K) [] := by
  obtain ⟨fd, F⟩ := T.d__law_rows
  have ok := fn__law_rows (P := P) (w := w) (base := base) T F
  exact ⟨_, fd, _, [], ok, T.g__law_rows, F.kp, (FunD.bindsN F fun _ _ _ _ _ _ us hl => match us, hl with | [_], _ => rfl), .nil⟩
theorem fn_Row_eq (T : Tx K mg) {fd : FuncData} (F : FunD K "__eq__" "Row.__eq__" (defArgs s_Row_eq) (defBody s_Row_eq) (defScope s_Row_eq) [] [] (He.fAd K ("Row", some "__eq__")) fd) : FnOk P w K mg base (L2.CX P w) 1 (He.fAd K ("Row", some "__eq__")) fd ["self", "other"] (sp_Row_eq K) := by
  refine F.ok sc_Row_eq (fun vs H Q E h => h.1) (fun cdv A outer s H vs Q E hr h => ⟨_, ?_, h.2⟩)
  refine PSs.nox ?_
  exact (pss_cons (ps_if (pt_not (pt_truth (pe_callB call_isi (by rfl) T.b_isinstance (by decide +kernel) (pa_cons (pv 1) (pa_cons (pe_glob rfl T.gc_Row rfl) pa_nil))) fun _ => rfl))
        (pss_one (ps_ret pe_bl))
        pss_nil)
        (pss_one (ps_ret (pe_and (pe_cmpR (op_eqX hr.units) (pe_fld (pv 0) rfl) (pe_fld (pv 1) rfl) (nomark _)) (pe_and (pe_cmpR (op_eqX hr.units) (pe_fld (pv 0) rfl) (pe_fld (pv 1) rfl) (nomark _)) (pe_one (pe_cmpR (op_eqX hr.units) (pe_fld (pv 0) rfl) (pe_fld (pv 1) rfl) (nomark _))))))))
theorem Tx.ok_Row_eq (T : Tx K mg) : Mt P w K mg base 1 (He.ga K ("Row" : Str)) "__eq__" (sp_Row_eq K) [] := by
  obtain ⟨fd, F⟩ := T.d_Row_eq
  have ok := fn_Row_eq (P := P) (w := w) (base := base) T F
  exact ⟨_, fd, _, [], T.cl_Row, T.me_Row_eq, ok, (FunD.bindsN F fun _ _ _ _ _ _ us hl => match us, hl with | [_, _], _ => rfl), .nil⟩
theorem fn__law_plain (T : Tx K mg) {fd : FuncData} (F : FunD K "_law_plain" "_law_plain" (defArgs s__law_plain) (defBody s__law_plain) (defScope s__law_plain) [] [] (He.fAd K ("_law_plain", none)) fd) : FnOk P w K mg base (L2.CX P w) 1 (He.fAd K ("_law_plain", none)) fd ["_law_rows_here"] (sp__law_plain K) := by
  refine F.ok sc__law_plain (fun vs H Q E h => h.1) (fun cdv A outer s H vs Q E hr h => ⟨_, ?_, h.2⟩)
  refine PSs.nox ?_
  exact (pss_one (ps_ret (pe_lc (own := [("_law_row", 1)]) rfl sc__law_plain.nd (pi_any (pv 0)) (blkOk_by (N := ["_law_rows_here", "_law_row"]) (sc := defScope s__law_plain) (own := [("_law_row", 1)]) (by decide +kernel)) (fun _ _ _ _ _ => (pg_name (i := 1) sc__law_plain.nd rfl (by first | exact Or.inl rfl | exact Or.inr rfl))) (fun _ _ _ _ _ => pts_nil) (fun _ _ _ _ _ => (pe_tup (pa_cons (pe_fld (pv 1) rfl) (pa_cons (pe_fld (pv 1) rfl) (pa_cons (pe_callTy (CallR.or call_list_of (call_list_dK rfl)) (by rfl) T.b_list (by decide +kernel) (pa_cons (pe_fld (pv 1) rfl) pa_nil)) pa_nil))))))))
theorem Tx.ok__law_plain (T : Tx K mg) : Cl P w K mg base 1 "_law_plain" (sp__law_plain K) [] := by
  obtain ⟨fd, F⟩ := T.d__law_plain
  have ok := fn__law_plain (P := P) (w := w) (base := base) T F
  exact ⟨_, fd, _, [], ok, T.g__law_plain, F.kp, (FunD.bindsN F fun _ _ _ _ _ _ us hl => match us, hl with | [_], _ => rfl), .nil⟩
theorem fn__law_marked (T : Tx K mg) {fd : FuncData} (F : FunD K "_law_marked" "_law_marked" (defArgs s__law_marked) (defBody s__law_marked) (defScope s__law_marked) [] [] (He.fAd K ("_law_marked", none)) fd) : FnOk P w K mg base (L2.CX P w) 1 (He.fAd K ("_law_marked", none)) fd ["_law_rows_here"] (sp__law_marked K) := by
  refine F.ok sc__law_marked (fun vs H Q E h => h.1) (fun cdv A outer s H vs Q E hr h => ⟨_, ?_, h.2⟩)
  refine PSs.nox ?_
  exact (pss_one (ps_ret (pe_cmpR op_gtX (pe_callB call_len (by rfl) T.b_len boot_len (pa_cons (pe_lc (own := [("_law_row", 1)]) rfl sc__law_marked.nd (pi_any (pv 0)) (blkOk_by (N := ["_law_rows_here", "_law_row"]) (sc := defScope s__law_marked) (own := [("_law_row", 1)]) (by decide +kernel)) (fun _ _ _ _ _ => (pg_name (i := 1) sc__law_marked.nd rfl (by first | exact Or.inl rfl | exact Or.inr rfl))) (fun _ _ _ _ _ => pts_one (pt_cmpR (op_inD (u65 hr)) (pe_glob rfl T.gc_MARK rfl) (pe_ix ix_seq (pv 1) pe_int fun _ _ => rfl) (by rfl))) (fun _ _ _ _ _ => (pv 1))) pa_nil)) pe_int (nomark _))))
theorem Tx.ok__law_marked (T : Tx K mg) : Cl P w K mg base 1 "_law_marked" (sp__law_marked K) [] := by
  obtain ⟨fd, F⟩ := T.d__law_marked
  have ok := fn__law_marked (P := P) (w := w) (base := base) T F
  exact ⟨_, fd, _, [], ok, T.g__law_marked, F.kp, (FunD.bindsN F fun _ _ _ _ _ _ us hl => match us, hl with | [_], _ => rfl), .nil⟩
theorem fn__law_sorted (T : Tx K mg) {fd : FuncData} (F : FunD K "_law_sorted" "_law_sorted" (defArgs s__law_sorted) (defBody s__law_sorted) (defScope s__law_sorted) [] [] (He.fAd K ("_law_sorted", none)) fd) : FnOk P w K mg base (L2.CX P w) 1 (He.fAd K ("_law_sorted", none)) fd ["_law_rows_here"] (sp__law_sorted K) := by
  refine F.ok sc__law_sorted (fun vs H Q E h => h.1) (fun cdv A outer s H vs Q E hr h => ⟨_, ?_, h.2⟩)
  refine PSs.nox ?_
  exact (pss_cons (ps_set (i := 1) sc__law_sorted.nd rfl (by first | exact Or.inl rfl | exact Or.inr rfl) (pe_lst pa_nil))
        (pss_cons (ps_for PassesOwn.never rfl (pi_any (pe_lst (pa_cons (pe_strE e_M) (pa_cons (pe_strE e_N) (pa_cons (pe_strE e_P) pa_nil))))) (pg_name (i := 2) sc__law_sorted.nd rfl (by first | exact Or.inl rfl | exact Or.inr rfl))
        (pss_cons (ps_set (i := 3) sc__law_sorted.nd rfl (by first | exact Or.inl rfl | exact Or.inr rfl) (pe_callB cr_sortedI (by rfl) T.b_sorted (by decide +kernel) (pa_cons (pe_lc (own := [("_law_row", 4)]) rfl sc__law_sorted.nd (pi_any (pv 0)) (blkOk_by (N := ["_law_rows_here", "_law_found", "_law_table", "_law_numbers", "_law_row", "_law_number"]) (sc := defScope s__law_sorted) (own := [("_law_row", 4)]) (by decide +kernel)) (fun _ _ _ _ _ => (pg_name (i := 4) sc__law_sorted.nd rfl (by first | exact Or.inl rfl | exact Or.inr rfl))) (fun _ _ _ _ _ => pts_one (pt_cmpR (op_eqX hr.units) (pe_ix ix_seq (pv 4) pe_int fun _ _ => rfl) (pv 2) (nomark _))) (fun _ _ _ _ _ => (pe_ix ix_seq (pv 4) pe_int fun _ _ => rfl))) pa_nil)))
        (pss_one (ps_for PassesOwn.never rfl (pi_any (pv 3)) (pg_name (i := 5) sc__law_sorted.nd rfl (by first | exact Or.inl rfl | exact Or.inr rfl))
        (pss_one (ps_set (i := 1) sc__law_sorted.nd rfl (by first | exact Or.inl rfl | exact Or.inr rfl) (pe_op op_addX (pv 1) (pe_lc (own := [("_law_row", 4)]) rfl sc__law_sorted.nd (pi_any (pv 0)) (blkOk_by (N := ["_law_rows_here", "_law_found", "_law_table", "_law_numbers", "_law_row", "_law_number"]) (sc := defScope s__law_sorted) (own := [("_law_row", 4)]) (by decide +kernel)) (fun _ _ _ _ _ => (pg_name (i := 4) sc__law_sorted.nd rfl (by first | exact Or.inl rfl | exact Or.inr rfl))) (fun _ _ _ _ _ => pts_one (PW.pt (pw_and (pt_cmpR (op_eqX hr.units) (pe_ix ix_seq (pv 4) pe_int fun _ _ => rfl) (pv 2) (nomark _)) (pw_and1 (pt_cmpR (op_eqX hr.units) (pe_ix ix_seq (pv 4) pe_int fun _ _ => rfl) (pv 5) (nomark _)))))) (fun _ _ _ _ _ => (pv 4))))))))))
        (pss_one (ps_ret (pv 1)))))
theorem Tx.ok__law_sorted (T : Tx K mg) : Cl P w K mg base 1 "_law_sorted" (sp__law_sorted K) [] := by
  obtain ⟨fd, F⟩ := T.d__law_sorted
  have ok := fn__law_sorted (P := P) (w := w) (base := base) T F
  exact ⟨_, fd, _, [], ok, T.g__law_sorted, F.kp, (FunD.bindsN F fun _ _ _ _ _ _ us hl => match us, hl with | [_], _ => rfl), .nil⟩
theorem fn__law_held (T : Tx K mg) {fd : FuncData} (F : FunD K "_law_held" "_law_held" (defArgs s__law_held) (defBody s__law_held) (defScope s__law_held) [] [] (He.fAd K ("_law_held", none)) fd) : FnOk P w K mg base (L2.CX P w) 1 (He.fAd K ("_law_held", none)) fd ["_law_cell"] (sp__law_held K) := by
  refine F.ok sc__law_held (fun vs H Q E h => h.1) (fun cdv A outer s H vs Q E hr h => ⟨_, ?_, h.2⟩)
  refine PSs.nox ?_
  exact (pss_cons (ps_if (PW.pt (pw_or (pt_cmpR op_isX (pv 0) pe_non (nomark _)) (pw_or1 (pt_cmpR (op_eqX hr.units) (pv 0) (pe_glob rfl T.gc_MARK rfl) (nomark _)))))
        (pss_one (ps_ret (pe_lst pa_nil)))
        pss_nil)
        (pss_cons (ps_if (pt_truth (pe_callB call_isi (by rfl) T.b_isinstance (by decide +kernel) (pa_cons (pv 0) (pa_cons (pe_bltn (by rfl) T.b_list (by decide +kernel) rfl) pa_nil))) fun _ => rfl)
        (pss_one (ps_ret (pv 0)))
        pss_nil)
        (pss_one (ps_ret (pe_lst (pa_cons (pv 0) pa_nil))))))
theorem Tx.ok__law_held (T : Tx K mg) : Cl P w K mg base 1 "_law_held" (sp__law_held K) [] := by
  obtain ⟨fd, F⟩ := T.d__law_held
  have ok := fn__law_held (P := P) (w := w) (base := base) T F
  exact ⟨_, fd, _, [], ok, T.g__law_held, F.kp, (FunD.bindsN F fun _ _ _ _ _ _ us hl => match us, hl with | [_], _ => rfl), .nil⟩
theorem fn__law_referred (T : Tx K mg) {fd : FuncData} (F : FunD K "_law_referred" "_law_referred" (defArgs s__law_referred) (defBody s__law_referred) (defScope s__law_referred) [] [] (He.fAd K ("_law_referred", none)) fd) : FnOk P w K mg base (L2.CX P w) 2 (He.fAd K ("_law_referred", none)) fd ["_law_table", "_law_cells_here"] (sp__law_referred K) := by
  refine F.ok sc__law_referred (fun vs H Q E h => h.1) (fun cdv A outer s H vs Q E hr h => ⟨_, ?_, h.2⟩)
  refine PSs.nox ?_
  exact (pss_cons (ps_if (pt_cmpR (op_eqX hr.units) (pv 0) (pe_strE e_M) (nomark _))
        (pss_one (ps_ret (pe_op op_addX (pe_cl (T.ok__law_held) hr (by decide) (fun _ => pz) rfl (pa_cons (pe_ix ix_seq (pv 1) pe_int fun _ _ => rfl) pa_nil)) (pe_cl (T.ok__law_held) hr (by decide) (fun _ => pz) rfl (pa_cons (pe_ix ix_seq (pv 1) pe_int fun _ _ => rfl) pa_nil)))))
        pss_nil)
        (pss_cons (ps_if (pt_cmpR (op_eqX hr.units) (pv 0) (pe_strE e_N) (nomark _))
        (pss_one (ps_ret (pe_cl (T.ok__law_held) hr (by decide) (fun _ => pz) rfl (pa_cons (pe_ix ix_seq (pv 1) pe_int fun _ _ => rfl) pa_nil))))
        pss_nil)
        (pss_one (ps_ret (pe_cl (T.ok__law_held) hr (by decide) (fun _ => pz) rfl (pa_cons (pe_ix ix_seq (pv 1) pe_int fun _ _ => rfl) pa_nil))))))
theorem Tx.ok__law_referred (T : Tx K mg) : Cl P w K mg base 2 "_law_referred" (sp__law_referred K) [] := by
  obtain ⟨fd, F⟩ := T.d__law_referred
  have ok := fn__law_referred (P := P) (w := w) (base := base) T F
  exact ⟨_, fd, _, [], ok, T.g__law_referred, F.kp, (FunD.bindsN F fun _ _ _ _ _ _ us hl => match us, hl with | [_, _], _ => rfl), .nil⟩
theorem fn__law_key (T : Tx K mg) {fd : FuncData} (F : FunD K "_law_key" "_law_key" (defArgs s__law_key) (defBody s__law_key) (defScope s__law_key) [] [] (He.fAd K ("_law_key", none)) fd) : FnG P w K mg base 1 (He.fAd K ("_law_key", none)) fd ["_law_table", "_law_cells_here"] (sp__law_key K) := by
  refine fnG F sc__law_key (fun vs H Q E h => h.1) (fun cdv A outer s H vs Q E gd hr h => ⟨_, ?_, h.2⟩)
  refine PSs.nox ?_
  exact (pss_cons (ps_if (pt_cmpR (op_eqX hr.units) (pv 0) (pe_strE e_P) (nomark _))
        (pss_one (ps_ret pe_non))
        pss_nil)
        (pss_cons (ps_set (i := 2) sc__law_key.nd rfl (by first | exact Or.inl rfl | exact Or.inr rfl) (pe_ix ix_seq (pv 1) (pe_ifExp (pt_cmpR (op_eqX hr.units) (pv 0) (pe_strE e_M) (nomark _)) pe_int pe_int) fun _ _ => rfl))
        (pss_cons (ps_if (PW.pt (pw_or (pt_cmpR op_isX (pv 2) pe_non (nomark _)) (pw_or1 (pt_cmpR (op_eqX hr.units) (pv 2) (pe_glob rfl T.gc_MARK rfl) (nomark _)))))
        (pss_one (ps_ret pe_non))
        pss_nil)
        (pss_one (ps_ret (pe_callB (call_repr gd hr.units) (by rfl) T.b_repr (by decide +kernel) (pa_cons (pv 2) pa_nil)))))))
theorem Tx.ok__law_key (T : Tx K mg) : ClG P w K mg base 1 "_law_key" (sp__law_key K) [] := by
  obtain ⟨fd, F⟩ := T.d__law_key
  have ok := fn__law_key (P := P) (w := w) (base := base) T F
  exact ⟨_, fd, _, [], ok, T.g__law_key, F.kp, (FunD.bindsN F fun _ _ _ _ _ _ us hl => match us, hl with | [_, _], _ => rfl), .nil⟩
theorem fn__law_fault (T : Tx K mg) {fd : FuncData} (F : FunD K "_law_fault" "_law_fault" (defArgs s__law_fault) (defBody s__law_fault) (defScope s__law_fault) [] [] (He.fAd K ("_law_fault", none)) fd) : FnG P w K mg base 3 (He.fAd K ("_law_fault", none)) fd ["_law_rows_here"] (sp__law_fault K) := by
  refine fnG F sc__law_fault (fun vs H Q E h => h.1) (fun cdv A outer s H vs Q E gd hr h => ⟨_, ?_, h.2⟩)
  refine PSs.nox ?_
  exact (pss_cons (ps_setLc (i := 1) (own := [("_law_row", 2)]) rfl sc__law_fault.nd rfl rfl (sw_true rfl rfl rfl (by decide +kernel)) (pi_any (pv 0)) (blkOk_by (N := ["_law_rows_here", "_law_there", "_law_row", "_law_ordered", "_law_number", "_law_seen", "_law_key_here"]) (sc := defScope s__law_fault) (own := [("_law_row", 2)]) (by decide +kernel)) (fun _ _ _ _ _ => (pg_name (i := 2) sc__law_fault.nd rfl (by first | exact Or.inl rfl | exact Or.inr rfl))) (fun _ _ _ _ _ => pts_one (pt_cmpR (op_neX hr.units) (pe_ix ix_seq (pv 2) pe_int fun _ _ => rfl) (pe_strE e_P) (nomark _))) (fun _ _ _ _ _ => (pe_ix ix_seq (pv 2) pe_int fun _ _ => rfl)))
        (pss_cons (ps_set (i := 3) sc__law_fault.nd rfl (by first | exact Or.inl rfl | exact Or.inr rfl) (pe_cl (T.ok__law_sorted) hr (by decide) (fun _ => pz) rfl (pa_cons (pv 0) pa_nil)))
        (pss_cons (ps_for PassesOwn.never rfl (pi_any (pv 3)) (pg_name (i := 2) sc__law_fault.nd rfl (by first | exact Or.inl rfl | exact Or.inr rfl))
        (pss_one (ps_for PassesOwn.never rfl (pi_any (pe_cl (T.ok__law_referred) hr (by decide) (fun _ => pz) rfl (pa_cons (pe_ix ix_seq (pv 2) pe_int fun _ _ => rfl) (pa_cons (pe_ix ix_seq (pv 2) pe_int fun _ _ => rfl) pa_nil)))) (pg_name (i := 4) sc__law_fault.nd rfl (by first | exact Or.inl rfl | exact Or.inr rfl))
        (pss_one (ps_if (pt_cmpR op_notInX (pv 4) (pv 1) (by rfl))
        (pss_one (ps_ret (pe_tup (pa_cons (pe_strE e_not_there) (pa_cons (pv 4) pa_nil)))))
        pss_nil)))))
        (pss_cons (ps_set (i := 5) sc__law_fault.nd rfl (by first | exact Or.inl rfl | exact Or.inr rfl) (pe_lst pa_nil))
        (pss_cons (ps_for PassesOwn.never rfl (pi_any (pv 3)) (pg_name (i := 2) sc__law_fault.nd rfl (by first | exact Or.inl rfl | exact Or.inr rfl))
        (pss_cons (ps_set (i := 6) sc__law_fault.nd rfl (by first | exact Or.inl rfl | exact Or.inr rfl) (pe_clg (T.ok__law_key) gd hr (by decide) (fun _ => pz) rfl (pa_cons (pe_ix ix_seq (pv 2) pe_int fun _ _ => rfl) (pa_cons (pe_ix ix_seq (pv 2) pe_int fun _ _ => rfl) pa_nil))))
        (pss_cons (ps_if (PW.pt (pw_and (pt_cmpR op_isNotX (pv 6) pe_non (nomark _)) (pw_and1 (pt_cmpR op_inX (pv 6) (pv 5) (by rfl)))))
        (pss_one (ps_ret (pe_tup (pa_cons (pe_strE e_same_key) (pa_cons (pe_ix ix_seq (pv 2) pe_int fun _ _ => rfl) pa_nil)))))
        pss_nil)
        (pss_one (ps_if (pt_cmpR op_isNotX (pv 6) pe_non (nomark _))
        (pss_one (ps_expr (pe_bm PySem.F.plainAttrs_list PySem.F.slot_list_append PySem.F.type_list_append mt_append (pv 5) (pa_cons (pv 6) pa_nil))))
        pss_nil)))))
        (pss_one (ps_ret pe_non)))))))
theorem Tx.ok__law_fault (T : Tx K mg) : ClG P w K mg base 3 "_law_fault" (sp__law_fault K) [] := by
  obtain ⟨fd, F⟩ := T.d__law_fault
  have ok := fn__law_fault (P := P) (w := w) (base := base) T F
  exact ⟨_, fd, _, [], ok, T.g__law_fault, F.kp, (FunD.bindsN F fun _ _ _ _ _ _ us hl => match us, hl with | [_], _ => rfl), .nil⟩
theorem fn_has_mark (T : Tx K mg) {fd : FuncData} (F : FunD K "has_mark" "has_mark" (defArgs s_has_mark) (defBody s_has_mark) (defScope s_has_mark) [] [] (He.fAd K ("has_mark", none)) fd) : FnOk P w K mg base (L2.CX P w) 1 (He.fAd K ("has_mark", none)) fd ["row"] (sp_has_mark K) := by
  refine F.ok sc_has_mark (fun vs H Q E h => h.1) (fun cdv A outer s H vs Q E hr h => ⟨_, ?_, h.2⟩)
  refine PSs.nox ?_
  exact (pss_one (ps_ret (pe_callB (cr_any rfl) (by rfl) T.b_any (by decide +kernel) (pa_cons (pe_lc (own := [("cell", 1)]) rfl sc_has_mark.nd (pi_any (pe_fld (pv 0) rfl)) (blkOk_by (N := ["row", "cell"]) (sc := defScope s_has_mark) (own := [("cell", 1)]) (by decide +kernel)) (fun _ _ _ _ _ => (pg_name (i := 1) sc_has_mark.nd rfl (by first | exact Or.inl rfl | exact Or.inr rfl))) (fun _ _ _ _ _ => pts_nil) (fun _ _ _ _ _ => (pe_cmpR (op_eqX hr.units) (pv 1) (pe_glob rfl T.gc_MARK rfl) (nomark _)))) pa_nil))))
theorem Tx.ok_has_mark (T : Tx K mg) : Cl P w K mg base 1 "has_mark" (sp_has_mark K) [] := by
  obtain ⟨fd, F⟩ := T.d_has_mark
  have ok := fn_has_mark (P := P) (w := w) (base := base) T F
  exact ⟨_, fd, _, [], ok, T.g_has_mark, F.kp, (FunD.bindsN F fun _ _ _ _ _ _ us hl => match us, hl with | [_], _ => rfl), .nil⟩
theorem fn_sorted_rows (T : Tx K mg) (TB : TBs K mg base) {fd : FuncData} (F : FunD K "sorted_rows" "sorted_rows" (defArgs s_sorted_rows) (defBody s_sorted_rows) (defScope s_sorted_rows) [] [] (He.fAd K ("sorted_rows", none)) fd) : FnG P w K mg base 5 (He.fAd K ("sorted_rows", none)) fd ["tables", "rows"] (sp_sorted_rows K) := by
  refine fnGT F sc_sorted_rows (fun vs H Q E h => h.1) (fun A outer s H vs Q E gd hr h => ⟨_, ?_, h.2⟩)
  refine PSs.nox ?_
  exact (pss_cons (ps_set (i := 2) sc_sorted_rows.nd rfl (by first | exact Or.inl rfl | exact Or.inr rfl) pe_dnewK)
        (pss_cons (ps_for PassesOwn.never rfl (pi_enum (by rfl) T.b_enumerate (pa_cons (pv 0) pa_nil)) (pg_tup rfl (pgs_cons (pg_name (i := 3) sc_sorted_rows.nd rfl (by first | exact Or.inl rfl | exact Or.inr rfl)) (pgs_cons (pg_name (i := 4) sc_sorted_rows.nd rfl (by first | exact Or.inl rfl | exact Or.inr rfl)) pgs_nil)))
        (pss_one (ps_dput (u1 hr) (pv 2) (pe_fld (pv 4) rfl) (pv 3) rfl)))
        (pss_one (ps_ret (pe_sortLam (T := T_sorted_rows K) (pn := "row") (NL := ["row", "places"]) (js := [2]) (by rfl) T.b_sorted (pa_cons (pv 1) pa_nil) (TB _ (tmem 0)) rfl (List.mem_cons_self ..) (T_sorted_rows_u K) hr (lamP_by (sc := defScope s_sorted_rows) (by decide +kernel)) (show capB ["tables", "rows", "places", "place", "table"] _ "row" [2] ["row", "places"] = true from by decide +kernel) rfl (fun _ _ _ _ _ _ => rfl) (fun A outer s H E f c' hr => (pe_tup (pa_cons (pe_dget (u1 hr) (pv 1) (pe_fld (pv 0) rfl) fun _ _ => rfl) (pa_cons (pe_fld (pv 0) rfl) pa_nil)))))))))
theorem Tx.ok_sorted_rows (T : Tx K mg) (TB : TBs K mg base) : ClG P w K mg base 5 "sorted_rows" (sp_sorted_rows K) [] := by
  obtain ⟨fd, F⟩ := T.d_sorted_rows
  have ok := fn_sorted_rows (P := P) (w := w) (base := base) T TB F
  exact ⟨_, fd, _, [], ok, T.g_sorted_rows, F.kp, (FunD.bindsN F fun _ _ _ _ _ _ us hl => match us, hl with | [_, _], _ => rfl), .nil⟩
theorem fn_numbers_by_table (T : Tx K mg) {fd : FuncData} (F : FunD K "numbers_by_table" "numbers_by_table" (defArgs s_numbers_by_table) (defBody s_numbers_by_table) (defScope s_numbers_by_table) [] [] (He.fAd K ("numbers_by_table", none)) fd) : FnOk P w K mg base (L2.CX P w) 1 (He.fAd K ("numbers_by_table", none)) fd ["tables", "rows"] (sp_numbers_by_table K) := by
  refine F.ok sc_numbers_by_table (fun vs H Q E h => h.1) (fun cdv A outer s H vs Q E hr h => ⟨_, ?_, h.2⟩)
  refine PSs.nox ?_
  exact (pss_cons (ps_setDc (i := 2) (own := [("table", 3)]) rfl sc_numbers_by_table.nd rfl rfl (sw_trueD rfl rfl rfl (by decide +kernel)) (pi_any (pv 0)) (blkOk_by (N := ["tables", "rows", "found", "table", "row"]) (sc := defScope s_numbers_by_table) (own := [("table", 3)]) (by decide +kernel)) (fun _ _ _ _ _ => (pg_name (i := 3) sc_numbers_by_table.nd rfl (by first | exact Or.inl rfl | exact Or.inr rfl))) (fun _ _ _ _ _ => pts_nil) (fun _ _ _ _ _ => (pe_fld (pv 3) rfl)) (fun _ _ _ _ _ => pe_dnewK))
        (pss_cons (ps_for PassesOwn.never rfl (pi_any (pv 1)) (pg_name (i := 4) sc_numbers_by_table.nd rfl (by first | exact Or.inl rfl | exact Or.inr rfl))
        (pss_one (ps_dput (u1 hr) (pe_dget (u1 hr) (pv 2) (pe_fld (pv 4) rfl) fun _ _ => rfl) (pe_fld (pv 4) rfl) pe_bl rfl)))
        (pss_one (ps_ret (pv 2)))))
theorem Tx.ok_numbers_by_table (T : Tx K mg) : Cl P w K mg base 1 "numbers_by_table" (sp_numbers_by_table K) [] := by
  obtain ⟨fd, F⟩ := T.d_numbers_by_table
  have ok := fn_numbers_by_table (P := P) (w := w) (base := base) T F
  exact ⟨_, fd, _, [], ok, T.g_numbers_by_table, F.kp, (FunD.bindsN F fun _ _ _ _ _ _ us hl => match us, hl with | [_, _], _ => rfl), .nil⟩
theorem fn_table_named (T : Tx K mg) {fd : FuncData} (F : FunD K "table_named" "table_named" (defArgs s_table_named) (defBody s_table_named) (defScope s_table_named) [] [] (He.fAd K ("table_named", none)) fd) : FnOk P w K mg base (L2.CX P w) 1 (He.fAd K ("table_named", none)) fd ["tables", "name"] (sp_table_named K) := by
  refine F.ok sc_table_named (fun vs H Q E h => h.1) (fun cdv A outer s H vs Q E hr h => ⟨_, ?_, h.2⟩)
  refine PSs.nox ?_
  exact (pss_cons (ps_for PassesOwn.never rfl (pi_any (pv 0)) (pg_name (i := 2) sc_table_named.nd rfl (by first | exact Or.inl rfl | exact Or.inr rfl))
        (pss_one (ps_if (pt_cmpR (op_eqX hr.units) (pe_fld (pv 2) rfl) (pv 1) (nomark _))
        (pss_one (ps_ret (pv 2)))
        pss_nil)))
        (pss_one (ps_ret pe_non)))
theorem Tx.ok_table_named (T : Tx K mg) : Cl P w K mg base 1 "table_named" (sp_table_named K) [] := by
  obtain ⟨fd, F⟩ := T.d_table_named
  have ok := fn_table_named (P := P) (w := w) (base := base) T F
  exact ⟨_, fd, _, [], ok, T.g_table_named, F.kp, (FunD.bindsN F fun _ _ _ _ _ _ us hl => match us, hl with | [_, _], _ => rfl), .nil⟩
theorem fn_cell_numbers (T : Tx K mg) {fd : FuncData} (F : FunD K "cell_numbers" "cell_numbers" (defArgs s_cell_numbers) (defBody s_cell_numbers) (defScope s_cell_numbers) [] [] (He.fAd K ("cell_numbers", none)) fd) : FnOk P w K mg base (L2.CX P w) 1 (He.fAd K ("cell_numbers", none)) fd ["column", "cell"] (sp_cell_numbers K) := by
  refine F.ok sc_cell_numbers (fun vs H Q E h => h.1) (fun cdv A outer s H vs Q E hr h => ⟨_, ?_, h.2⟩)
  refine PSs.nox ?_
  exact (pss_cons (ps_if (PW.pt (pw_or (pt_cmpR (op_eqX hr.units) (pe_fld (pv 0) rfl) (pe_strE e_value) (nomark _)) (pw_or (pt_cmpR op_isX (pv 1) pe_non (nomark _)) (pw_or1 (pt_cmpR (op_eqX hr.units) (pv 1) (pe_glob rfl T.gc_MARK rfl) (nomark _))))))
        (pss_one (ps_ret (pe_lst pa_nil)))
        pss_nil)
        (pss_cons (ps_if (pt_truth (pe_callB call_isi (by rfl) T.b_isinstance (by decide +kernel) (pa_cons (pv 1) (pa_cons (pe_bltn (by rfl) T.b_list (by decide +kernel) rfl) pa_nil))) fun _ => rfl)
        (pss_one (ps_ret (pe_callTy (CallR.or call_list_of (call_list_dK rfl)) (by rfl) T.b_list (by decide +kernel) (pa_cons (pv 1) pa_nil))))
        pss_nil)
        (pss_one (ps_ret (pe_lst (pa_cons (pv 1) pa_nil))))))
theorem Tx.ok_cell_numbers (T : Tx K mg) : Cl P w K mg base 1 "cell_numbers" (sp_cell_numbers K) [] := by
  obtain ⟨fd, F⟩ := T.d_cell_numbers
  have ok := fn_cell_numbers (P := P) (w := w) (base := base) T F
  exact ⟨_, fd, _, [], ok, T.g_cell_numbers, F.kp, (FunD.bindsN F fun _ _ _ _ _ _ us hl => match us, hl with | [_, _], _ => rfl), .nil⟩
theorem fn_is_there (T : Tx K mg) {fd : FuncData} (F : FunD K "is_there" "is_there" (defArgs s_is_there) (defBody s_is_there) (defScope s_is_there) [] [] (He.fAd K ("is_there", none)) fd) : FnOk P w K mg base (L2.CX P w) 1 (He.fAd K ("is_there", none)) fd ["known", "column", "number"] (sp_is_there K) := by
  refine F.ok sc_is_there (fun vs H Q E h => h.1) (fun cdv A outer s H vs Q E hr h => ⟨_, ?_, h.2⟩)
  refine PSs.nox ?_
  exact (pss_one (ps_ret (pe_callB (cr_any rfl) (by rfl) T.b_any (by decide +kernel) (pa_cons (pe_lc (own := [("target", 3)]) rfl sc_is_there.nd (pi_any (pe_fld (pv 1) rfl)) (blkOk_by (N := ["known", "column", "number", "target"]) (sc := defScope s_is_there) (own := [("target", 3)]) (by decide +kernel)) (fun _ _ _ _ _ => (pg_name (i := 3) sc_is_there.nd rfl (by first | exact Or.inl rfl | exact Or.inr rfl))) (fun _ _ _ _ _ => pts_nil) (fun _ _ _ _ _ => (pe_cmp (pc_din (u1 hr) (pv 2) (pe_dget (u1 hr) (pv 0) (pv 3) fun _ _ => rfl))))) pa_nil))))
theorem Tx.ok_is_there (T : Tx K mg) : Cl P w K mg base 1 "is_there" (sp_is_there K) [] := by
  obtain ⟨fd, F⟩ := T.d_is_there
  have ok := fn_is_there (P := P) (w := w) (base := base) T F
  exact ⟨_, fd, _, [], ok, T.g_is_there, F.kp, (FunD.bindsN F fun _ _ _ _ _ _ us hl => match us, hl with | [_, _, _], _ => rfl), .nil⟩
theorem fn_first_missing (T : Tx K mg) {fd : FuncData} (F : FunD K "first_missing" "first_missing" (defArgs s_first_missing) (defBody s_first_missing) (defScope s_first_missing) [] [] (He.fAd K ("first_missing", none)) fd) : FnOk P w K mg base (L2.CX P w) 2 (He.fAd K ("first_missing", none)) fd ["tables", "rows"] (sp_first_missing K) := by
  refine F.ok sc_first_missing (fun vs H Q E h => h.1) (fun cdv A outer s H vs Q E hr h => ⟨_, ?_, h.2⟩)
  refine PSs.nox ?_
  exact (pss_cons (ps_set (i := 2) sc_first_missing.nd rfl (by first | exact Or.inl rfl | exact Or.inr rfl) (pe_cl (T.ok_numbers_by_table) hr (by decide) (fun _ => pz) rfl (pa_cons (pv 0) (pa_cons (pv 1) pa_nil))))
        (pss_cons (ps_for PassesOwn.never rfl (pi_any (pv 1)) (pg_name (i := 3) sc_first_missing.nd rfl (by first | exact Or.inl rfl | exact Or.inr rfl))
        (pss_one (ps_for PassesOwn.never rfl (pi_enum (by rfl) T.b_enumerate (pa_cons (pe_fld (pe_cl (T.ok_table_named) hr (by decide) (fun _ => pz) rfl (pa_cons (pv 0) (pa_cons (pe_fld (pv 3) rfl) pa_nil))) rfl) pa_nil)) (pg_tup rfl (pgs_cons (pg_name (i := 4) sc_first_missing.nd rfl (by first | exact Or.inl rfl | exact Or.inr rfl)) (pgs_cons (pg_name (i := 5) sc_first_missing.nd rfl (by first | exact Or.inl rfl | exact Or.inr rfl)) pgs_nil)))
        (pss_one (ps_for PassesOwn.never rfl (pi_any (pe_cl (T.ok_cell_numbers) hr (by decide) (fun _ => pz) rfl (pa_cons (pv 5) (pa_cons (pe_ix ix_seq (pe_fld (pv 3) rfl) (pv 4) fun _ _ => rfl) pa_nil)))) (pg_name (i := 6) sc_first_missing.nd rfl (by first | exact Or.inl rfl | exact Or.inr rfl))
        (pss_one (ps_if (pt_not (pt_truth (pe_cl (T.ok_is_there) hr (by decide) (fun _ => pz) rfl (pa_cons (pv 2) (pa_cons (pv 5) (pa_cons (pv 6) pa_nil)))) fun _ => rfl))
        (pss_one (ps_ret (pv 6)))
        pss_nil)))))))
        (pss_one (ps_ret pe_non))))
theorem Tx.ok_first_missing (T : Tx K mg) : Cl P w K mg base 2 "first_missing" (sp_first_missing K) [] := by
  obtain ⟨fd, F⟩ := T.d_first_missing
  have ok := fn_first_missing (P := P) (w := w) (base := base) T F
  exact ⟨_, fd, _, [], ok, T.g_first_missing, F.kp, (FunD.bindsN F fun _ _ _ _ _ _ us hl => match us, hl with | [_, _], _ => rfl), .nil⟩
theorem fn_key_value (T : Tx K mg) {fd : FuncData} (F : FunD K "key_value" "key_value" (defArgs s_key_value) (defBody s_key_value) (defScope s_key_value) [] [] (He.fAd K ("key_value", none)) fd) : FnOk P w K mg base (L2.CX P w) 1 (He.fAd K ("key_value", none)) fd ["table", "key", "cells"] (sp_key_value K) := by
  refine F.ok sc_key_value (fun vs H Q E h => h.1) (fun cdv A outer s H vs Q E hr h => ⟨_, ?_, h.2⟩)
  refine PSs.nox ?_
  exact (pss_cons (ps_set (i := 3) sc_key_value.nd rfl (by first | exact Or.inl rfl | exact Or.inr rfl) (pe_lst pa_nil))
        (pss_cons (ps_for PassesOwn.never rfl (pi_any (pe_fld (pv 1) rfl)) (pg_name (i := 4) sc_key_value.nd rfl (by first | exact Or.inl rfl | exact Or.inr rfl))
        (pss_cons (ps_set (i := 5) sc_key_value.nd rfl (by first | exact Or.inl rfl | exact Or.inr rfl) (pe_ix ix_seq (pv 2) (pv 4) fun _ _ => rfl))
        (pss_cons (ps_if (PW.pt (pw_or (pt_cmpR op_isX (pv 5) pe_non (nomark _)) (pw_or1 (pt_cmpR (op_eqX hr.units) (pv 5) (pe_glob rfl T.gc_MARK rfl) (nomark _)))))
        (pss_one (ps_ret pe_non))
        pss_nil)
        (pss_one (ps_expr (pe_bm PySem.F.plainAttrs_list PySem.F.slot_list_append PySem.F.type_list_append mt_append (pv 3) (pa_cons (pe_tup (pa_cons (pe_fld (pe_ix ix_seq (pe_fld (pv 0) rfl) (pv 4) fun _ _ => rfl) rfl) (pa_cons (pv 5) pa_nil))) pa_nil)))))))
        (pss_one (ps_ret (pe_tupleOf (by rfl) T.b_tuple (pv 3))))))
theorem Tx.ok_key_value (T : Tx K mg) : Cl P w K mg base 1 "key_value" (sp_key_value K) [] := by
  obtain ⟨fd, F⟩ := T.d_key_value
  have ok := fn_key_value (P := P) (w := w) (base := base) T F
  exact ⟨_, fd, _, [], ok, T.g_key_value, F.kp, (FunD.bindsN F fun _ _ _ _ _ _ us hl => match us, hl with | [_, _, _], _ => rfl), .nil⟩
theorem fn_first_clash (T : Tx K mg) {fd : FuncData} (F : FunD K "first_clash" "first_clash" (defArgs s_first_clash) (defBody s_first_clash) (defScope s_first_clash) [] [] (He.fAd K ("first_clash", none)) fd) : FnOk P w K mg base (L2.CX P w) 2 (He.fAd K ("first_clash", none)) fd ["tables", "rows"] (sp_first_clash K w) := by
  refine F.ok sc_first_clash (fun vs H Q E h => h.1) (fun cdv A outer s H vs Q E hr h => ⟨_, ?_, h.2⟩)
  refine PSs.nox ?_
  exact (pss_cons (ps_set (i := 2) sc_first_clash.nd rfl (by first | exact Or.inl rfl | exact Or.inr rfl) pe_dnewK)
        (pss_cons (ps_for PassesOwn.never rfl (pi_any (pv 1)) (pg_name (i := 3) sc_first_clash.nd rfl (by first | exact Or.inl rfl | exact Or.inr rfl))
        (pss_cons (ps_set (i := 4) sc_first_clash.nd rfl (by first | exact Or.inl rfl | exact Or.inr rfl) (pe_cl (T.ok_table_named) hr (by decide) (fun _ => pz) rfl (pa_cons (pv 0) (pa_cons (pe_fld (pv 3) rfl) pa_nil))))
        (pss_one (ps_for PassesOwn.never rfl (pi_any (pe_fld (pv 4) rfl)) (pg_name (i := 5) sc_first_clash.nd rfl (by first | exact Or.inl rfl | exact Or.inr rfl))
        (pss_cons (ps_set (i := 6) sc_first_clash.nd rfl (by first | exact Or.inl rfl | exact Or.inr rfl) (pe_cl (T.ok_key_value) hr (by decide) (fun _ => pz) rfl (pa_cons (pv 4) (pa_cons (pv 5) (pa_cons (pe_fld (pv 3) rfl) pa_nil)))))
        (pss_one (ps_if (pt_cmpR op_isNotX (pv 6) pe_non (nomark _))
        (pss_cons (ps_if (pt_cmpR (op_nin rfl (u16 hr)) (pe_tup (pa_cons (pe_fld (pv 5) rfl) (pa_cons (pv 6) pa_nil))) (pv 2) (by rfl))
        (pss_one (ps_ret (pe_fld (pv 3) rfl)))
        pss_nil)
        (pss_one (ps_nput rfl (u16 hr) (pv 2) (pe_tup (pa_cons (pe_fld (pv 5) rfl) (pa_cons (pv 6) pa_nil))) pe_bl rfl)))
        pss_nil)))))))
        (pss_one (ps_ret pe_non))))
theorem Tx.ok_first_clash (T : Tx K mg) : Cl P w K mg base 2 "first_clash" (sp_first_clash K w) [] := by
  obtain ⟨fd, F⟩ := T.d_first_clash
  have ok := fn_first_clash (P := P) (w := w) (base := base) T F
  exact ⟨_, fd, _, [], ok, T.g_first_clash, F.kp, (FunD.bindsN F fun _ _ _ _ _ _ us hl => match us, hl with | [_, _], _ => rfl), .nil⟩
theorem fn_first_fault (T : Tx K mg) (TB : TBs K mg base) {fd : FuncData} (F : FunD K "first_fault" "first_fault" (defArgs s_first_fault) (defBody s_first_fault) (defScope s_first_fault) [] [] (He.fAd K ("first_fault", none)) fd) : FnG P w K mg base 6 (He.fAd K ("first_fault", none)) fd ["tables", "rows"] (sp_first_fault K w) := by
  refine fnG F sc_first_fault (fun vs H Q E h => h.1) (fun cdv A outer s H vs Q E gd hr h => ⟨_, ?_, h.2⟩)
  refine PSs.nox ?_
  exact (pss_cons (ps_set (i := 2) sc_first_fault.nd rfl (by first | exact Or.inl rfl | exact Or.inr rfl) (pe_clg (T.ok_sorted_rows TB) gd hr (by decide) (fun _ => pz) rfl (pa_cons (pv 0) (pa_cons (pv 1) pa_nil))))
        (pss_cons (ps_set (i := 3) sc_first_fault.nd rfl (by first | exact Or.inl rfl | exact Or.inr rfl) (pe_cl (T.ok_first_missing) hr (by decide) (fun _ => pz) rfl (pa_cons (pv 0) (pa_cons (pv 2) pa_nil))))
        (pss_cons (ps_if (pt_cmpR op_isNotX (pv 3) pe_non (nomark _))
        (pss_one (ps_ret (pe_tup (pa_cons (pe_strE e_not_there) (pa_cons (pv 3) pa_nil)))))
        pss_nil)
        (pss_cons (ps_set (i := 3) sc_first_fault.nd rfl (by first | exact Or.inl rfl | exact Or.inr rfl) (pe_cl (T.ok_first_clash) hr (by decide) (fun _ => pz) rfl (pa_cons (pv 0) (pa_cons (pv 2) pa_nil))))
        (pss_cons (ps_if (pt_cmpR op_isNotX (pv 3) pe_non (nomark _))
        (pss_one (ps_ret (pe_tup (pa_cons (pe_strE e_same_key) (pa_cons (pv 3) pa_nil)))))
        pss_nil)
        (pss_one (ps_ret pe_non)))))))
theorem Tx.ok_first_fault (T : Tx K mg) (TB : TBs K mg base) : ClG P w K mg base 6 "first_fault" (sp_first_fault K w) [] := by
  obtain ⟨fd, F⟩ := T.d_first_fault
  have ok := fn_first_fault (P := P) (w := w) (base := base) T TB F
  exact ⟨_, fd, _, [], ok, T.g_first_fault, F.kp, (FunD.bindsN F fun _ _ _ _ _ _ us hl => match us, hl with | [_, _], _ => rfl), .nil⟩
theorem fn_are_in_order (T : Tx K mg) (TB : TBs K mg base) {fd : FuncData} (F : FunD K "are_in_order" "are_in_order" (defArgs s_are_in_order) (defBody s_are_in_order) (defScope s_are_in_order) [] [] (He.fAd K ("are_in_order", none)) fd) : FnG P w K mg base 7 (He.fAd K ("are_in_order", none)) fd ["tables", "rows"] (sp_are_in_order K w) := by
  refine fnG F sc_are_in_order (fun vs H Q E h => h.1) (fun cdv A outer s H vs Q E gd hr h => ⟨_, ?_, h.2⟩)
  refine PSs.nox ?_
  exact (pss_cons (ps_if (PW.pt (pw_or (pt_truth (pe_callB (cr_any rfl) (by rfl) T.b_any (by decide +kernel) (pa_cons (pe_lc (own := [("row", 2)]) rfl sc_are_in_order.nd (pi_any (pv 1)) (blkOk_by (N := ["tables", "rows", "row", "names", "name"]) (sc := defScope s_are_in_order) (own := [("row", 2)]) (by decide +kernel)) (fun _ _ _ _ _ => (pg_name (i := 2) sc_are_in_order.nd rfl (by first | exact Or.inl rfl | exact Or.inr rfl))) (fun _ _ _ _ _ => pts_nil) (fun _ _ _ _ _ => (pe_cl (T.ok_has_mark) hr (by decide) (fun _ => pz) rfl (pa_cons (pv 2) pa_nil)))) pa_nil)) fun _ => rfl) (pw_or1 (pt_cmpR op_isNotX (pe_clg (T.ok_first_fault TB) gd hr (by decide) (fun _ => pz) rfl (pa_cons (pv 0) (pa_cons (pv 1) pa_nil))) pe_non (nomark _)))))
        (pss_one (ps_ret pe_bl))
        pss_nil)
        (pss_cons (ps_setLc (i := 3) (own := [("row", 2)]) rfl sc_are_in_order.nd rfl rfl (sw_true rfl rfl rfl (by decide +kernel)) (pi_any (pv 1)) (blkOk_by (N := ["tables", "rows", "row", "names", "name"]) (sc := defScope s_are_in_order) (own := [("row", 2)]) (by decide +kernel)) (fun _ _ _ _ _ => (pg_name (i := 2) sc_are_in_order.nd rfl (by first | exact Or.inl rfl | exact Or.inr rfl))) (fun _ _ _ _ _ => pts_nil) (fun _ _ _ _ _ => (pe_tup (pa_cons (pe_fld (pv 2) rfl) (pa_cons (pe_fld (pv 2) rfl) pa_nil)))))
        (pss_one (ps_ret (pe_cmpR (op_eqX hr.units) (pe_callB (call_lenS rfl) (by rfl) T.b_len (by decide +kernel) (pa_cons (pe_setT (own := [("name", 4)]) rfl (u1 hr) rfl sc_are_in_order.nd (pi_any (pv 3)) (blkOk_by (N := ["tables", "rows", "row", "names", "name"]) (sc := defScope s_are_in_order) (own := [("name", 4)]) (by decide +kernel)) (fun _ _ _ _ _ => (pg_name (i := 4) sc_are_in_order.nd rfl (by first | exact Or.inl rfl | exact Or.inr rfl))) (fun _ _ _ _ _ => pts_nil) (fun _ _ _ _ _ => (pv 4))) pa_nil)) (pe_callB call_len (by rfl) T.b_len boot_len (pa_cons (pv 3) pa_nil)) (nomark _))))))
theorem Tx.ok_are_in_order (T : Tx K mg) (TB : TBs K mg base) : ClG P w K mg base 7 "are_in_order" (sp_are_in_order K w) [] := by
  obtain ⟨fd, F⟩ := T.d_are_in_order
  have ok := fn_are_in_order (P := P) (w := w) (base := base) T TB F
  exact ⟨_, fd, _, [], ok, T.g_are_in_order, F.kp, (FunD.bindsN F fun _ _ _ _ _ _ us hl => match us, hl with | [_, _], _ => rfl), .nil⟩
theorem fn_Column_eq (T : Tx K mg) {fd : FuncData} (F : FunD K "__eq__" "Column.__eq__" (defArgs s_Column_eq) (defBody s_Column_eq) (defScope s_Column_eq) [] [] (He.fAd K ("Column", some "__eq__")) fd) : FnOk P w K mg base (L2.CX P w) 1 (He.fAd K ("Column", some "__eq__")) fd ["self", "other"] (sp_Column_eq K) := by
  refine F.ok sc_Column_eq (fun vs H Q E h => h.1) (fun cdv A outer s H vs Q E hr h => ⟨_, ?_, h.2⟩)
  refine PSs.nox ?_
  exact (pss_cons (ps_if (pt_not (pt_truth (pe_callB call_isi (by rfl) T.b_isinstance (by decide +kernel) (pa_cons (pv 1) (pa_cons (pe_glob rfl T.gc_Column rfl) pa_nil))) fun _ => rfl))
        (pss_one (ps_ret pe_bl))
        pss_nil)
        (pss_one (ps_ret (pe_and (pe_cmpR (op_eqX hr.units) (pe_fld (pv 0) rfl) (pe_fld (pv 1) rfl) (nomark _)) (pe_and (pe_cmpR (op_eqX hr.units) (pe_fld (pv 0) rfl) (pe_fld (pv 1) rfl) (nomark _)) (pe_one (pe_cmpR (op_eqX hr.units) (pe_fld (pv 0) rfl) (pe_fld (pv 1) rfl) (nomark _))))))))
theorem Tx.ok_Column_eq (T : Tx K mg) : Mt P w K mg base 1 (He.ga K ("Column" : Str)) "__eq__" (sp_Column_eq K) [] := by
  obtain ⟨fd, F⟩ := T.d_Column_eq
  have ok := fn_Column_eq (P := P) (w := w) (base := base) T F
  exact ⟨_, fd, _, [], T.cl_Column, T.me_Column_eq, ok, (FunD.bindsN F fun _ _ _ _ _ _ us hl => match us, hl with | [_, _], _ => rfl), .nil⟩
theorem fn_StoreKey_eq (T : Tx K mg) {fd : FuncData} (F : FunD K "__eq__" "StoreKey.__eq__" (defArgs s_StoreKey_eq) (defBody s_StoreKey_eq) (defScope s_StoreKey_eq) [] [] (He.fAd K ("StoreKey", some "__eq__")) fd) : FnOk P w K mg base (L2.CX P w) 1 (He.fAd K ("StoreKey", some "__eq__")) fd ["self", "other"] (sp_StoreKey_eq K) := by
  refine F.ok sc_StoreKey_eq (fun vs H Q E h => h.1) (fun cdv A outer s H vs Q E hr h => ⟨_, ?_, h.2⟩)
  refine PSs.nox ?_
  exact (pss_cons (ps_if (pt_not (pt_truth (pe_callB call_isi (by rfl) T.b_isinstance (by decide +kernel) (pa_cons (pv 1) (pa_cons (pe_glob rfl T.gc_StoreKey rfl) pa_nil))) fun _ => rfl))
        (pss_one (ps_ret pe_bl))
        pss_nil)
        (pss_one (ps_ret (pe_and (pe_cmpR (op_eqX hr.units) (pe_fld (pv 0) rfl) (pe_fld (pv 1) rfl) (nomark _)) (pe_one (pe_cmpR (op_eqX hr.units) (pe_fld (pv 0) rfl) (pe_fld (pv 1) rfl) (nomark _)))))))
theorem Tx.ok_StoreKey_eq (T : Tx K mg) : Mt P w K mg base 1 (He.ga K ("StoreKey" : Str)) "__eq__" (sp_StoreKey_eq K) [] := by
  obtain ⟨fd, F⟩ := T.d_StoreKey_eq
  have ok := fn_StoreKey_eq (P := P) (w := w) (base := base) T F
  exact ⟨_, fd, _, [], T.cl_StoreKey, T.me_StoreKey_eq, ok, (FunD.bindsN F fun _ _ _ _ _ _ us hl => match us, hl with | [_, _], _ => rfl), .nil⟩
theorem fn_Table_eq (T : Tx K mg) {fd : FuncData} (F : FunD K "__eq__" "Table.__eq__" (defArgs s_Table_eq) (defBody s_Table_eq) (defScope s_Table_eq) [] [] (He.fAd K ("Table", some "__eq__")) fd) : FnOk P w K mg base (L2.CX P w) 4 (He.fAd K ("Table", some "__eq__")) fd ["self", "other"] (sp_Table_eq K) := by
  refine F.ok sc_Table_eq (fun vs H Q E h => h.1) (fun cdv A outer s H vs Q E hr h => ⟨_, ?_, h.2⟩)
  refine PSs.nox ?_
  exact (pss_cons (ps_if (pt_not (pt_truth (pe_callB call_isi (by rfl) T.b_isinstance (by decide +kernel) (pa_cons (pv 1) (pa_cons (pe_glob rfl T.gc_Table rfl) pa_nil))) fun _ => rfl))
        (pss_one (ps_ret pe_bl))
        pss_nil)
        (pss_one (ps_ret (pe_and (pe_cmpR (op_eqX hr.units) (pe_fld (pv 0) rfl) (pe_fld (pv 1) rfl) (nomark _)) (pe_and (pe_cmpR (op_ownL (.inl ⟨rfl, rfl⟩) (T.ok_Column_eq) T.nfa_Column hr (by decide)) (pe_fld (pv 0) rfl) (pe_fld (pv 1) rfl) (nomark _)) (pe_one (pe_cmpR (op_ownL (.inl ⟨rfl, rfl⟩) (T.ok_StoreKey_eq) T.nfa_StoreKey hr (by decide)) (pe_fld (pv 0) rfl) (pe_fld (pv 1) rfl) (nomark _))))))))
theorem Tx.ok_Table_eq (T : Tx K mg) : Mt P w K mg base 4 (He.ga K ("Table" : Str)) "__eq__" (sp_Table_eq K) [] := by
  obtain ⟨fd, F⟩ := T.d_Table_eq
  have ok := fn_Table_eq (P := P) (w := w) (base := base) T F
  exact ⟨_, fd, _, [], T.cl_Table, T.me_Table_eq, ok, (FunD.bindsN F fun _ _ _ _ _ _ us hl => match us, hl with | [_, _], _ => rfl), .nil⟩
theorem fn_law (T : Tx K mg) (TB : TBs K mg base) {fd : FuncData} (F : FunD K "law" "law" (defArgs s_law) (defBody s_law) (defScope s_law) [] [] (He.fAd K ("law", none)) fd) : FnG P w K mg base 8 (He.fAd K ("law", none)) fd ["_law_script"] (sp_law K w) := by
  refine fnG F sc_law (fun vs H Q E h => h.1) (fun cdv A outer s H vs Q E gd hr h => ⟨_, ?_, h.2⟩)
  refine PSs.nox ?_
  exact (pss_cons (ps_set (i := 1) sc_law.nd rfl (by first | exact Or.inl rfl | exact Or.inr rfl) (pe_cl (T.ok__law_cells) hr (by decide) (fun _ => pz) rfl (pa_cons (pv 0) (pa_cons pe_int pa_nil))))
        (pss_cons (ps_set (i := 2) sc_law.nd rfl (by first | exact Or.inl rfl | exact Or.inr rfl) (pe_cl0 (T.ok__law_tables) hr (by decide) (fun _ => pz) rfl))
        (pss_cons (ps_set (i := 3) sc_law.nd rfl (by first | exact Or.inl rfl | exact Or.inr rfl) (pe_cl (T.ok__law_rows) hr (by decide) (fun _ => pz) rfl (pa_cons (pv 1) pa_nil)))
        (C8.pss_cut (ps_if (PW.pt (pw_and (pt_cmpR op_gtX (pe_callB call_len (by rfl) T.b_len boot_len (pa_cons (pv 3) pa_nil)) pe_int (nomark _)) (pw_and1 (pt_cmpR (op_eqX hr.units) (pe_cl (T.ok__law_draw) hr (by decide) (fun _ => pz) rfl (pa_cons (pv 1) (pa_cons pe_int pa_nil))) pe_int (nomark _)))))
        (pss_cons (ps_set (i := 4) sc_law.nd rfl (by first | exact Or.inl rfl | exact Or.inr rfl) (pe_cl (T.ok__law_pick) hr (by decide) (fun _ => pz) rfl (pa_cons (pv 1) (pa_cons (pv 3) pa_nil))))
        (pss_cons (ps_set (i := 5) sc_law.nd rfl (by first | exact Or.inl rfl | exact Or.inr rfl) (pe_cl (T.ok__law_cell_row) hr (by decide) (fun _ => pz) rfl (pa_cons (pv 1) (pa_cons (pe_fld (pv 4) rfl) (pa_cons (pe_lst (pa_cons pe_int (pa_cons pe_int (pa_cons pe_int (pa_cons pe_int (pa_cons pe_int (pa_cons pe_int pa_nil))))))) pa_nil)))))
        (C8.pss_cut (ps_if (pt_cmpR (op_eqX hr.units) (pe_cl (T.ok__law_draw) hr (by decide) (fun _ => pz) rfl (pa_cons (pv 1) (pa_cons pe_int pa_nil))) pe_int (nomark _))
        (pss_one (ps_asg (pe_glob rfl T.gc_MARK rfl) (pg_sub (pv 5) (pe_op op_subX (pe_callB call_len (by rfl) T.b_len boot_len (pa_cons (pv 5) pa_nil)) pe_int) set_list)))
        pss_nil)
        (C8.pss_cut (ps_if (pt_cmpR (op_eqX hr.units) (pe_cl (T.ok__law_draw) hr (by decide) (fun _ => pz) rfl (pa_cons (pv 1) (pa_cons pe_int pa_nil))) pe_int (nomark _))
        (pss_one (ps_setLc (i := 3) (own := [("_law_other", 6)]) rfl sc_law.nd rfl rfl (sw_true rfl rfl rfl (by decide +kernel)) (pi_any (pv 3)) (blkOk_by (N := ["_law_script", "_law_draws", "_law_tables_here", "_law_rows_here", "_law_row", "_law_cells_here", "_law_other", "_law_plain_here", "_law_names", "_law_twice", "_law_at", "_law_due", "_law_found", "_law_columns", "_law_table"]) (sc := defScope s_law) (own := [("_law_other", 6)]) (by decide +kernel)) (fun _ _ _ _ _ => (pg_name (i := 6) sc_law.nd rfl (by first | exact Or.inl rfl | exact Or.inr rfl))) (fun _ _ _ _ _ => pts_one (pt_cmpR (op_ownA (.inr ⟨rfl, rfl⟩) (T.ok_Row_eq) T.nfa_Row hr (by decide)) (pv 6) (pv 4) (nomark _))) (fun _ _ _ _ _ => (pv 6))))
        pss_nil)
        (pss_one (ps_expr (pe_bm PySem.F.plainAttrs_list PySem.F.slot_list_append PySem.F.type_list_append mt_append (pv 3) (pa_cons (pe_mq (T.ok_Row_init) hr (by decide) rfl (pa_cons (pe_fld (pv 4) rfl) (pa_cons (pe_fld (pv 4) rfl) (pa_cons (pv 5) pa_nil)))) pa_nil))))))))
        pss_nil)
        (pss_cons (ps_set (i := 7) sc_law.nd rfl (by first | exact Or.inl rfl | exact Or.inr rfl) (pe_cl (T.ok__law_plain) hr (by decide) (fun _ => pz) rfl (pa_cons (pv 3) pa_nil)))
        (pss_cons (ps_set (i := 8) sc_law.nd rfl (by first | exact Or.inl rfl | exact Or.inr rfl) (pe_lc (own := [("_law_row", 4)]) rfl sc_law.nd (pi_any (pv 7)) (blkOk_by (N := ["_law_script", "_law_draws", "_law_tables_here", "_law_rows_here", "_law_row", "_law_cells_here", "_law_other", "_law_plain_here", "_law_names", "_law_twice", "_law_at", "_law_due", "_law_found", "_law_columns", "_law_table"]) (sc := defScope s_law) (own := [("_law_row", 4)]) (by decide +kernel)) (fun _ _ _ _ _ => (pg_name (i := 4) sc_law.nd rfl (by first | exact Or.inl rfl | exact Or.inr rfl))) (fun _ _ _ _ _ => pts_nil) (fun _ _ _ _ _ => (pe_tup (pa_cons (pe_ix ix_seq (pv 4) pe_int fun _ _ => rfl) (pa_cons (pe_ix ix_seq (pv 4) pe_int fun _ _ => rfl) pa_nil))))))
        (pss_cons (ps_set (i := 9) sc_law.nd rfl (by first | exact Or.inl rfl | exact Or.inr rfl) (pe_cmpR op_gtX (pe_callB call_len (by rfl) T.b_len boot_len (pa_cons (pe_lc (own := [("_law_at", 10)]) rfl sc_law.nd (pi_range1 rfl T.b_range (pa_cons (pe_callB call_len (by rfl) T.b_len boot_len (pa_cons (pv 8) pa_nil)) pa_nil)) (blkOk_by (N := ["_law_script", "_law_draws", "_law_tables_here", "_law_rows_here", "_law_row", "_law_cells_here", "_law_other", "_law_plain_here", "_law_names", "_law_twice", "_law_at", "_law_due", "_law_found", "_law_columns", "_law_table"]) (sc := defScope s_law) (own := [("_law_at", 10)]) (by decide +kernel)) (fun _ _ _ _ _ => (pg_name (i := 10) sc_law.nd rfl (by first | exact Or.inl rfl | exact Or.inr rfl))) (fun _ _ _ _ _ => pts_one (pt_cmpR (op_inD (u65 hr)) (pe_ix ix_seq (pv 8) (pv 10) fun _ _ => rfl) (pe_slice sl_X (pv 8) po_none (po_some (pv 10))) (by rfl))) (fun _ _ _ _ _ => (pv 10))) pa_nil)) pe_int (nomark _)))
        (pss_cons (ps_set (i := 11) sc_law.nd rfl (by first | exact Or.inl rfl | exact Or.inr rfl) (pe_and (pe_not (pv 9)) (pe_and (pe_not (pe_cl (T.ok__law_marked) hr (by decide) (fun _ => pz) rfl (pa_cons (pv 7) pa_nil))) (pe_one (pe_cmpR op_isX (pe_clg (T.ok__law_fault) gd hr (by decide) (fun _ => pz) rfl (pa_cons (pv 7) pa_nil)) pe_non (nomark _))))))
        (pss_cons (ps_set (i := 12) sc_law.nd rfl (by first | exact Or.inl rfl | exact Or.inr rfl) (pe_clg (T.ok_are_in_order TB) gd hr (by decide) (fun _ => pz) rfl (pa_cons (pv 2) (pa_cons (pv 3) pa_nil))))
        (pss_cons (ps_if (pt_cmpR (op_neX hr.units) (pe_callB (call_repr gd hr.units) (by rfl) T.b_repr (by decide +kernel) (pa_cons (pv 12) pa_nil)) (pe_callB (call_repr gd hr.units) (by rfl) T.b_repr (by decide +kernel) (pa_cons (pv 11) pa_nil)) (nomark _))
        (pss_one (ps_ret pe_bl))
        pss_nil)
        (pss_cons (ps_set (i := 13) sc_law.nd rfl (by first | exact Or.inl rfl | exact Or.inr rfl) (pe_lst (pa_cons (pe_mq (T.ok_Column_init_1) hr (by decide) rfl (pa_cons (pe_strE e_v) (pa_cons (pe_strE e_value) pa_nil))) (pa_cons (pe_mq (T.ok_Column_init) hr (by decide) rfl (pa_cons (pe_strE e_r) (pa_cons (pe_strE e_reference) (pa_cons (pe_lst (pa_cons (pe_strE e_M) pa_nil)) pa_nil)))) pa_nil))))
        (pss_cons (ps_set (i := 14) sc_law.nd rfl (by first | exact Or.inl rfl | exact Or.inr rfl) (pe_mq (T.ok_Table_init) hr (by decide) rfl (pa_cons (pe_strE e_M) (pa_cons (pv 13) (pa_cons (pe_lst (pa_cons (pe_mq (T.ok_StoreKey_init) hr (by decide) rfl (pa_cons (pe_strE e_key1) (pa_cons (pe_lst (pa_cons pe_int pa_nil)) pa_nil))) pa_nil)) pa_nil)))))
        (pss_cons (ps_set (i := 6) sc_law.nd rfl (by first | exact Or.inl rfl | exact Or.inr rfl) (pe_mq (T.ok_Table_init) hr (by decide) rfl (pa_cons (pe_strE e_M) (pa_cons (pe_callTy (CallR.or call_list_of (call_list_dK rfl)) (by rfl) T.b_list (by decide +kernel) (pa_cons (pv 13) pa_nil)) (pa_cons (pe_lst (pa_cons (pe_mq (T.ok_StoreKey_init) hr (by decide) rfl (pa_cons (pe_strE e_key1) (pa_cons (pe_lst (pa_cons pe_int pa_nil)) pa_nil))) pa_nil)) pa_nil)))))
        (pss_cons (ps_if (PW.pt (pw_or (pt_cmpR (op_ownA (.inr ⟨rfl, rfl⟩) (T.ok_Table_eq) T.nfa_Table hr (by decide)) (pv 14) (pv 6) (nomark _)) (pw_or (pt_cmpR (op_ownA (.inl ⟨rfl, rfl⟩) (T.ok_Table_eq) T.nfa_Table hr (by decide)) (pv 14) (pe_mq (T.ok_Table_init_1) hr (by decide) rfl (pa_cons (pe_strE e_M) (pa_cons (pv 13) pa_nil))) (nomark _)) (pw_or (pt_cmpR (op_ownA (.inl ⟨rfl, rfl⟩) (T.ok_Table_eq) T.nfa_Table hr (by decide)) (pv 14) (pe_strE e_M) (nomark _)) (pw_or1 (pt_cmpR (op_ownA (.inl ⟨rfl, rfl⟩) (T.ok_Column_eq) T.nfa_Column hr (by decide)) (pe_ix ix_seq (pv 13) pe_int fun _ _ => rfl) (pe_ix ix_seq (pv 13) pe_int fun _ _ => rfl) (nomark _)))))))
        (pss_one (ps_ret pe_bl))
        pss_nil)
        (pss_cons (ps_expr (pe_bm PySem.F.plainAttrs_list PySem.F.slot_list_append PySem.F.type_list_append mt_append (pv 13) (pa_cons (pe_mq (T.ok_Column_init_1) hr (by decide) rfl (pa_cons (pe_strE e_x) (pa_cons (pe_strE e_value) pa_nil))) pa_nil)))
        (pss_cons (ps_set (i := 5) sc_law.nd rfl (by first | exact Or.inl rfl | exact Or.inr rfl) (pe_lst (pa_cons pe_int (pa_cons (pe_lst (pa_cons pe_int (pa_cons pe_int pa_nil))) pa_nil))))
        (pss_cons (ps_set (i := 4) sc_law.nd rfl (by first | exact Or.inl rfl | exact Or.inr rfl) (pe_mq (T.ok_Row_init) hr (by decide) rfl (pa_cons (pe_strE e_M) (pa_cons pe_int (pa_cons (pv 5) pa_nil)))))
        (pss_cons (ps_expr (pe_bm PySem.F.plainAttrs_list PySem.F.slot_list_append PySem.F.type_list_append mt_append (pe_ix ix_seq (pv 5) pe_int fun _ _ => rfl) (pa_cons pe_int pa_nil)))
        (pss_cons (ps_if (PW.pt (pw_or (pt_cmpR (op_neX hr.units) (pe_fld (pv 4) rfl) (pe_lst (pa_cons pe_int (pa_cons (pe_lst (pa_cons pe_int (pa_cons pe_int pa_nil))) pa_nil))) (nomark _)) (pw_or (pt_cmpR (op_ownA (.inl ⟨rfl, rfl⟩) (T.ok_Row_eq) T.nfa_Row hr (by decide)) (pv 4) (pe_mq (T.ok_Row_init) hr (by decide) rfl (pa_cons (pe_strE e_M) (pa_cons pe_int (pa_cons (pe_lst (pa_cons pe_int (pa_cons (pe_lst (pa_cons pe_int (pa_cons pe_int pa_nil))) pa_nil))) pa_nil)))) (nomark _)) (pw_or1 (pt_cmpR (op_ownA (.inr ⟨rfl, rfl⟩) (T.ok_Row_eq) T.nfa_Row hr (by decide)) (pv 4) (pe_mq (T.ok_Row_init) hr (by decide) rfl (pa_cons (pe_strE e_M) (pa_cons pe_int (pa_cons (pe_lst (pa_cons pe_int (pa_cons (pe_lst (pa_cons pe_int (pa_cons pe_int pa_nil))) pa_nil))) pa_nil)))) (nomark _))))))
        (pss_one (ps_ret pe_bl))
        pss_nil)
        (pss_one (ps_ret (pe_and (pe_cmpR (op_ownA (.inl ⟨rfl, rfl⟩) (T.ok_Table_eq) T.nfa_Table hr (by decide)) (pv 14) (pv 6) (nomark _)) (pe_one (pe_cmpR (op_eqX hr.units) (pe_callB call_len (by rfl) T.b_len boot_len (pa_cons (pe_fld (pv 14) rfl) pa_nil)) pe_int (nomark _)))))))))))))))))))))))))
theorem Tx.law (T : Tx K mg) : ∃ fd : FuncData, (∀ (s : Shared) (u : Value), BindsTo s fd ⟨[u], []⟩ [("_law_script", u)]) ∧ ∀ base : Heap, TBs K mg base → FnG P w K mg base 8 (He.ga K "law") fd ["_law_script"] (sp_law K w) := by
  obtain ⟨fd, F⟩ := T.d_law
  have b := FunD.bindsA (ps := ["_law_script"]) F fun _ _ _ _ _ _ us hl => match us, hl with | [_], _ => rfl
  exact ⟨fd, fun s v => b s [v] rfl, fun base TB => fn_law T TB F⟩
end
end Lw

namespace Lw
open PySem PySem.W PySem.Calls PySem.Spec PyProof.Rows L2 G
def dd__law_cells : He.DefD := ⟨("_law_cells", none), "_law_cells", "_law_cells", defArgs s__law_cells, defBody s__law_cells, defScope s__law_cells, [], []⟩
def dd_Column_init : He.DefD := ⟨("Column", some "__init__"), "__init__", "Column.__init__", defArgs s_Column_init, defBody s_Column_init, defScope s_Column_init, [(.adr fun K => dfAt K ("Column", some "__init__") 0)], []⟩
def dd_Table_init : He.DefD := ⟨("Table", some "__init__"), "__init__", "Table.__init__", defArgs s_Table_init, defBody s_Table_init, defScope s_Table_init, [(.adr fun K => dfAt K ("Table", some "__init__") 0)], []⟩
def dd_StoreKey_init : He.DefD := ⟨("StoreKey", some "__init__"), "__init__", "StoreKey.__init__", defArgs s_StoreKey_init, defBody s_StoreKey_init, defScope s_StoreKey_init, [], []⟩
def dd__law_tables : He.DefD := ⟨("_law_tables", none), "_law_tables", "_law_tables", defArgs s__law_tables, defBody s__law_tables, defScope s__law_tables, [], []⟩
def dd__law_draw : He.DefD := ⟨("_law_draw", none), "_law_draw", "_law_draw", defArgs s__law_draw, defBody s__law_draw, defScope s__law_draw, [], []⟩
def dd__law_places : He.DefD := ⟨("_law_places", none), "_law_places", "_law_places", defArgs s__law_places, defBody s__law_places, defScope s__law_places, [], []⟩
def dd__law_pick : He.DefD := ⟨("_law_pick", none), "_law_pick", "_law_pick", defArgs s__law_pick, defBody s__law_pick, defScope s__law_pick, [], []⟩
def dd__law_ref : He.DefD := ⟨("_law_ref", none), "_law_ref", "_law_ref", defArgs s__law_ref, defBody s__law_ref, defScope s__law_ref, [], []⟩
def dd__law_links : He.DefD := ⟨("_law_links", none), "_law_links", "_law_links", defArgs s__law_links, defBody s__law_links, defScope s__law_links, [], []⟩
def dd__law_cell_row : He.DefD := ⟨("_law_cell_row", none), "_law_cell_row", "_law_cell_row", defArgs s__law_cell_row, defBody s__law_cell_row, defScope s__law_cell_row, [], []⟩
def dd_cell_copy : He.DefD := ⟨("cell_copy", none), "cell_copy", "cell_copy", defArgs s_cell_copy, defBody s_cell_copy, defScope s_cell_copy, [], []⟩
def dd_Row_init : He.DefD := ⟨("Row", some "__init__"), "__init__", "Row.__init__", defArgs s_Row_init, defBody s_Row_init, defScope s_Row_init, [], []⟩
def dd__law_rows : He.DefD := ⟨("_law_rows", none), "_law_rows", "_law_rows", defArgs s__law_rows, defBody s__law_rows, defScope s__law_rows, [], []⟩
def dd_Row_eq : He.DefD := ⟨("Row", some "__eq__"), "__eq__", "Row.__eq__", defArgs s_Row_eq, defBody s_Row_eq, defScope s_Row_eq, [], []⟩
def dd__law_plain : He.DefD := ⟨("_law_plain", none), "_law_plain", "_law_plain", defArgs s__law_plain, defBody s__law_plain, defScope s__law_plain, [], []⟩
def dd__law_marked : He.DefD := ⟨("_law_marked", none), "_law_marked", "_law_marked", defArgs s__law_marked, defBody s__law_marked, defScope s__law_marked, [], []⟩
def dd__law_sorted : He.DefD := ⟨("_law_sorted", none), "_law_sorted", "_law_sorted", defArgs s__law_sorted, defBody s__law_sorted, defScope s__law_sorted, [], []⟩
def dd__law_held : He.DefD := ⟨("_law_held", none), "_law_held", "_law_held", defArgs s__law_held, defBody s__law_held, defScope s__law_held, [], []⟩
def dd__law_referred : He.DefD := ⟨("_law_referred", none), "_law_referred", "_law_referred", defArgs s__law_referred, defBody s__law_referred, defScope s__law_referred, [], []⟩
def dd__law_key : He.DefD := ⟨("_law_key", none), "_law_key", "_law_key", defArgs s__law_key, defBody s__law_key, defScope s__law_key, [], []⟩
def dd__law_fault : He.DefD := ⟨("_law_fault", none), "_law_fault", "_law_fault", defArgs s__law_fault, defBody s__law_fault, defScope s__law_fault, [], []⟩
def dd_has_mark : He.DefD := ⟨("has_mark", none), "has_mark", "has_mark", defArgs s_has_mark, defBody s_has_mark, defScope s_has_mark, [], []⟩
def dd_sorted_rows : He.DefD := ⟨("sorted_rows", none), "sorted_rows", "sorted_rows", defArgs s_sorted_rows, defBody s_sorted_rows, defScope s_sorted_rows, [], []⟩
def dd_numbers_by_table : He.DefD := ⟨("numbers_by_table", none), "numbers_by_table", "numbers_by_table", defArgs s_numbers_by_table, defBody s_numbers_by_table, defScope s_numbers_by_table, [], []⟩
def dd_table_named : He.DefD := ⟨("table_named", none), "table_named", "table_named", defArgs s_table_named, defBody s_table_named, defScope s_table_named, [], []⟩
def dd_cell_numbers : He.DefD := ⟨("cell_numbers", none), "cell_numbers", "cell_numbers", defArgs s_cell_numbers, defBody s_cell_numbers, defScope s_cell_numbers, [], []⟩
def dd_is_there : He.DefD := ⟨("is_there", none), "is_there", "is_there", defArgs s_is_there, defBody s_is_there, defScope s_is_there, [], []⟩
def dd_first_missing : He.DefD := ⟨("first_missing", none), "first_missing", "first_missing", defArgs s_first_missing, defBody s_first_missing, defScope s_first_missing, [], []⟩
def dd_key_value : He.DefD := ⟨("key_value", none), "key_value", "key_value", defArgs s_key_value, defBody s_key_value, defScope s_key_value, [], []⟩
def dd_first_clash : He.DefD := ⟨("first_clash", none), "first_clash", "first_clash", defArgs s_first_clash, defBody s_first_clash, defScope s_first_clash, [], []⟩
def dd_first_fault : He.DefD := ⟨("first_fault", none), "first_fault", "first_fault", defArgs s_first_fault, defBody s_first_fault, defScope s_first_fault, [], []⟩
def dd_are_in_order : He.DefD := ⟨("are_in_order", none), "are_in_order", "are_in_order", defArgs s_are_in_order, defBody s_are_in_order, defScope s_are_in_order, [], []⟩
def dd_Column_eq : He.DefD := ⟨("Column", some "__eq__"), "__eq__", "Column.__eq__", defArgs s_Column_eq, defBody s_Column_eq, defScope s_Column_eq, [], []⟩
def dd_StoreKey_eq : He.DefD := ⟨("StoreKey", some "__eq__"), "__eq__", "StoreKey.__eq__", defArgs s_StoreKey_eq, defBody s_StoreKey_eq, defScope s_StoreKey_eq, [], []⟩
def dd_Table_eq : He.DefD := ⟨("Table", some "__eq__"), "__eq__", "Table.__eq__", defArgs s_Table_eq, defBody s_Table_eq, defScope s_Table_eq, [], []⟩
def dd_law : He.DefD := ⟨("law", none), "law", "law", defArgs s_law, defBody s_law, defScope s_law, [], []⟩
def gs : List DefP := []
def fn : List He.DefD := [dd__law_cells, dd_Column_init, dd_Table_init, dd_StoreKey_init, dd__law_tables, dd__law_draw, dd__law_places, dd__law_pick, dd__law_ref, dd__law_links, dd__law_cell_row, dd_cell_copy, dd_Row_init, dd__law_rows, dd_Row_eq, dd__law_plain, dd__law_marked, dd__law_sorted, dd__law_held, dd__law_referred, dd__law_key, dd__law_fault, dd_has_mark, dd_sorted_rows, dd_numbers_by_table, dd_table_named, dd_cell_numbers, dd_is_there, dd_first_missing, dd_key_value, dd_first_clash, dd_first_fault, dd_are_in_order, dd_Column_eq, dd_StoreKey_eq, dd_Table_eq, dd_law]
def fa : List He.Fa := [.glo "_law_cells", .glo "_law_tables", .glo "_law_draw", .glo "_law_places", .glo "_law_pick", .glo "_law_ref", .glo "_law_links", .glo "_law_cell_row", .glo "cell_copy", .glo "_law_rows", .glo "_law_plain", .glo "_law_marked", .glo "_law_sorted", .glo "_law_held", .glo "_law_referred", .glo "_law_key", .glo "_law_fault", .glo "has_mark", .glo "sorted_rows", .glo "numbers_by_table", .glo "table_named", .glo "cell_numbers", .glo "is_there", .glo "first_missing", .glo "key_value", .glo "first_clash", .glo "first_fault", .glo "are_in_order", .glo "law", .free "any", .free "enumerate", .free "int", .free "isinstance", .free "len", .free "list", .free "range", .free "repr", .free "sorted", .free "tuple", .glo "Row", .cls "Row", .meth "Row" "__eq__", .mkr "Row", .noat "Row" "cells", .noat "Row" "number", .noat "Row" "table", .glo "Column", .cls "Column", .meth "Column" "__eq__", .mkr "Column", .noat "Column" "name", .noat "Column" "role", .noat "Column" "targets", .glo "StoreKey", .cls "StoreKey", .meth "StoreKey" "__eq__", .mkr "StoreKey", .noat "StoreKey" "name", .noat "StoreKey" "places", .glo "Table", .cls "Table", .meth "Table" "__eq__", .mkr "Table", .noat "Table" "columns", .noat "Table" "name", .noat "Table" "unique", .glo "MARK"]
theorem kstr {K : PySem.W.Frag} {h : Heap} {mg : Str → Option Value} (X : K.In h) (G : h.Ns mainGlobals mg) {x z z' : Str} (ez : z = z') (c : (He.Fa.str x z).ok K = true) : ∃ u, mg x = some u ∧ RelV (.str z') u := by
  obtain ⟨t, e⟩ := He.str_ok X G c
  subst ez
  exact ⟨_, e, _, rfl⟩
theorem kint {K : PySem.W.Frag} {h : Heap} {mg : Str → Option Value} (X : K.In h) (G : h.Ns mainGlobals mg) {x : Str} {z : Int} (c : (He.Fa.int x z).ok K = true) : ∃ u, mg x = some u ∧ RelV (.int z) u := by
  obtain ⟨t, e⟩ := He.int_ok X G c
  exact ⟨_, e, _, rfl⟩
def exs : List (PySem.W.Frag → Bool) := [fun K => He.tupB K "MARK" [.str "mark"], fIn "Row", fIsT "Row" "list" false, fIs "Row" "Column" false, fIs "Row" "Row" true, fIs "Row" "StoreKey" false, fIs "Row" "Table" false, fIn "Column", fIsT "Column" "list" false, fIs "Column" "Column" true, fIs "Column" "Row" false, fIs "Column" "StoreKey" false, fIs "Column" "Table" false, fIn "StoreKey", fIsT "StoreKey" "list" false, fIs "StoreKey" "Column" false, fIs "StoreKey" "Row" false, fIs "StoreKey" "StoreKey" true, fIs "StoreKey" "Table" false, fIn "Table", fIsT "Table" "list" false, fIs "Table" "Column" false, fIs "Table" "Row" false, fIs "Table" "StoreKey" false, fIs "Table" "Table" true, fTIs "NoneType" "Column" false, fTIs "bool" "Column" false, fTIs "int" "Column" false, fTIs "str" "Column" false, fTIs "list" "Column" false, fTIs "tuple" "Column" false, fTIs "dict" "Column" false, fTIs "NoneType" "Row" false, fTIs "bool" "Row" false, fTIs "int" "Row" false, fTIs "str" "Row" false, fTIs "list" "Row" false, fTIs "tuple" "Row" false, fTIs "dict" "Row" false, fTIs "NoneType" "StoreKey" false, fTIs "bool" "StoreKey" false, fTIs "int" "StoreKey" false, fTIs "str" "StoreKey" false, fTIs "list" "StoreKey" false, fTIs "tuple" "StoreKey" false, fTIs "dict" "StoreKey" false, fTIs "NoneType" "Table" false, fTIs "bool" "Table" false, fTIs "int" "Table" false, fTIs "str" "Table" false, fTIs "list" "Table" false, fTIs "tuple" "Table" false, fTIs "dict" "Table" false, nfAB "Column", nfAB "Row", nfAB "StoreKey", nfAB "Table", mtB ("Column", some "__init__") 0, mtB ("Table", some "__init__") 0]
theorem tx {K : PySem.W.Frag} {h : Heap} {mg : Str → Option Value} (X : K.In h) (G : h.Ns mainGlobals mg) (c : He.SaysD fa fn K) (x : allB exs K = true) (p : SaysP gs K) : Tx K mg where
  d__law_cells := c.def_ 0 (d := dd__law_cells) rfl
  d_Column_init := c.def_ 1 (d := dd_Column_init) rfl
  d_Table_init := c.def_ 2 (d := dd_Table_init) rfl
  d_StoreKey_init := c.def_ 3 (d := dd_StoreKey_init) rfl
  d__law_tables := c.def_ 4 (d := dd__law_tables) rfl
  d__law_draw := c.def_ 5 (d := dd__law_draw) rfl
  d__law_places := c.def_ 6 (d := dd__law_places) rfl
  d__law_pick := c.def_ 7 (d := dd__law_pick) rfl
  d__law_ref := c.def_ 8 (d := dd__law_ref) rfl
  d__law_links := c.def_ 9 (d := dd__law_links) rfl
  d__law_cell_row := c.def_ 10 (d := dd__law_cell_row) rfl
  d_cell_copy := c.def_ 11 (d := dd_cell_copy) rfl
  d_Row_init := c.def_ 12 (d := dd_Row_init) rfl
  d__law_rows := c.def_ 13 (d := dd__law_rows) rfl
  d_Row_eq := c.def_ 14 (d := dd_Row_eq) rfl
  d__law_plain := c.def_ 15 (d := dd__law_plain) rfl
  d__law_marked := c.def_ 16 (d := dd__law_marked) rfl
  d__law_sorted := c.def_ 17 (d := dd__law_sorted) rfl
  d__law_held := c.def_ 18 (d := dd__law_held) rfl
  d__law_referred := c.def_ 19 (d := dd__law_referred) rfl
  d__law_key := c.def_ 20 (d := dd__law_key) rfl
  d__law_fault := c.def_ 21 (d := dd__law_fault) rfl
  d_has_mark := c.def_ 22 (d := dd_has_mark) rfl
  d_sorted_rows := c.def_ 23 (d := dd_sorted_rows) rfl
  d_numbers_by_table := c.def_ 24 (d := dd_numbers_by_table) rfl
  d_table_named := c.def_ 25 (d := dd_table_named) rfl
  d_cell_numbers := c.def_ 26 (d := dd_cell_numbers) rfl
  d_is_there := c.def_ 27 (d := dd_is_there) rfl
  d_first_missing := c.def_ 28 (d := dd_first_missing) rfl
  d_key_value := c.def_ 29 (d := dd_key_value) rfl
  d_first_clash := c.def_ 30 (d := dd_first_clash) rfl
  d_first_fault := c.def_ 31 (d := dd_first_fault) rfl
  d_are_in_order := c.def_ 32 (d := dd_are_in_order) rfl
  d_Column_eq := c.def_ 33 (d := dd_Column_eq) rfl
  d_StoreKey_eq := c.def_ 34 (d := dd_StoreKey_eq) rfl
  d_Table_eq := c.def_ 35 (d := dd_Table_eq) rfl
  d_law := c.def_ 36 (d := dd_law) rfl
  g__law_cells := He.glo_ok X G (c.fact 0 (f := .glo "_law_cells") rfl)
  g__law_tables := He.glo_ok X G (c.fact 1 (f := .glo "_law_tables") rfl)
  g__law_draw := He.glo_ok X G (c.fact 2 (f := .glo "_law_draw") rfl)
  g__law_places := He.glo_ok X G (c.fact 3 (f := .glo "_law_places") rfl)
  g__law_pick := He.glo_ok X G (c.fact 4 (f := .glo "_law_pick") rfl)
  g__law_ref := He.glo_ok X G (c.fact 5 (f := .glo "_law_ref") rfl)
  g__law_links := He.glo_ok X G (c.fact 6 (f := .glo "_law_links") rfl)
  g__law_cell_row := He.glo_ok X G (c.fact 7 (f := .glo "_law_cell_row") rfl)
  g_cell_copy := He.glo_ok X G (c.fact 8 (f := .glo "cell_copy") rfl)
  g__law_rows := He.glo_ok X G (c.fact 9 (f := .glo "_law_rows") rfl)
  g__law_plain := He.glo_ok X G (c.fact 10 (f := .glo "_law_plain") rfl)
  g__law_marked := He.glo_ok X G (c.fact 11 (f := .glo "_law_marked") rfl)
  g__law_sorted := He.glo_ok X G (c.fact 12 (f := .glo "_law_sorted") rfl)
  g__law_held := He.glo_ok X G (c.fact 13 (f := .glo "_law_held") rfl)
  g__law_referred := He.glo_ok X G (c.fact 14 (f := .glo "_law_referred") rfl)
  g__law_key := He.glo_ok X G (c.fact 15 (f := .glo "_law_key") rfl)
  g__law_fault := He.glo_ok X G (c.fact 16 (f := .glo "_law_fault") rfl)
  g_has_mark := He.glo_ok X G (c.fact 17 (f := .glo "has_mark") rfl)
  g_sorted_rows := He.glo_ok X G (c.fact 18 (f := .glo "sorted_rows") rfl)
  g_numbers_by_table := He.glo_ok X G (c.fact 19 (f := .glo "numbers_by_table") rfl)
  g_table_named := He.glo_ok X G (c.fact 20 (f := .glo "table_named") rfl)
  g_cell_numbers := He.glo_ok X G (c.fact 21 (f := .glo "cell_numbers") rfl)
  g_is_there := He.glo_ok X G (c.fact 22 (f := .glo "is_there") rfl)
  g_first_missing := He.glo_ok X G (c.fact 23 (f := .glo "first_missing") rfl)
  g_key_value := He.glo_ok X G (c.fact 24 (f := .glo "key_value") rfl)
  g_first_clash := He.glo_ok X G (c.fact 25 (f := .glo "first_clash") rfl)
  g_first_fault := He.glo_ok X G (c.fact 26 (f := .glo "first_fault") rfl)
  g_are_in_order := He.glo_ok X G (c.fact 27 (f := .glo "are_in_order") rfl)
  g_law := He.glo_ok X G (c.fact 28 (f := .glo "law") rfl)
  b_any := He.free_ok X G (c.fact 29 (f := .free "any") rfl)
  b_enumerate := He.free_ok X G (c.fact 30 (f := .free "enumerate") rfl)
  b_int := He.free_ok X G (c.fact 31 (f := .free "int") rfl)
  b_isinstance := He.free_ok X G (c.fact 32 (f := .free "isinstance") rfl)
  b_len := He.free_ok X G (c.fact 33 (f := .free "len") rfl)
  b_list := He.free_ok X G (c.fact 34 (f := .free "list") rfl)
  b_range := He.free_ok X G (c.fact 35 (f := .free "range") rfl)
  b_repr := He.free_ok X G (c.fact 36 (f := .free "repr") rfl)
  b_sorted := He.free_ok X G (c.fact 37 (f := .free "sorted") rfl)
  b_tuple := He.free_ok X G (c.fact 38 (f := .free "tuple") rfl)
  gc_Row := He.glo_ok X G (c.fact 39 (f := .glo "Row") rfl)
  cl_Row := He.cls_ok (c.fact 40 (f := .cls "Row") rfl)
  me_Row_eq := He.meth_ok (c.fact 41 (f := .meth "Row" "__eq__") rfl)
  mk_Row := He.mkr_ok (c.fact 42 (f := .mkr "Row") rfl)
  no_Row_cells := He.noat_ok (c.fact 43 (f := .noat "Row" "cells") rfl)
  no_Row_number := He.noat_ok (c.fact 44 (f := .noat "Row" "number") rfl)
  no_Row_table := He.noat_ok (c.fact 45 (f := .noat "Row" "table") rfl)
  gc_Column := He.glo_ok X G (c.fact 46 (f := .glo "Column") rfl)
  cl_Column := He.cls_ok (c.fact 47 (f := .cls "Column") rfl)
  me_Column_eq := He.meth_ok (c.fact 48 (f := .meth "Column" "__eq__") rfl)
  mk_Column := He.mkr_ok (c.fact 49 (f := .mkr "Column") rfl)
  no_Column_name := He.noat_ok (c.fact 50 (f := .noat "Column" "name") rfl)
  no_Column_role := He.noat_ok (c.fact 51 (f := .noat "Column" "role") rfl)
  no_Column_targets := He.noat_ok (c.fact 52 (f := .noat "Column" "targets") rfl)
  gc_StoreKey := He.glo_ok X G (c.fact 53 (f := .glo "StoreKey") rfl)
  cl_StoreKey := He.cls_ok (c.fact 54 (f := .cls "StoreKey") rfl)
  me_StoreKey_eq := He.meth_ok (c.fact 55 (f := .meth "StoreKey" "__eq__") rfl)
  mk_StoreKey := He.mkr_ok (c.fact 56 (f := .mkr "StoreKey") rfl)
  no_StoreKey_name := He.noat_ok (c.fact 57 (f := .noat "StoreKey" "name") rfl)
  no_StoreKey_places := He.noat_ok (c.fact 58 (f := .noat "StoreKey" "places") rfl)
  gc_Table := He.glo_ok X G (c.fact 59 (f := .glo "Table") rfl)
  cl_Table := He.cls_ok (c.fact 60 (f := .cls "Table") rfl)
  me_Table_eq := He.meth_ok (c.fact 61 (f := .meth "Table" "__eq__") rfl)
  mk_Table := He.mkr_ok (c.fact 62 (f := .mkr "Table") rfl)
  no_Table_columns := He.noat_ok (c.fact 63 (f := .noat "Table" "columns") rfl)
  no_Table_name := He.noat_ok (c.fact 64 (f := .noat "Table" "name") rfl)
  no_Table_unique := He.noat_ok (c.fact 65 (f := .noat "Table" "unique") rfl)
  gc_MARK := He.glo_ok X G (c.fact 66 (f := .glo "MARK") rfl)
  tu_MARK := tupE (by simp only [ts_MARK, List.map_cons, List.map_nil, He.Dv.v, svv, ← e_mark]) (allB_at x 0 (f := fun K => He.tupB K "MARK" [.str "mark"]) rfl)
  if_Row := fIn_ok (allB_at x 1 (f := fIn "Row") rfl)
  it_Row_list := fIsT_ok (allB_at x 2 (f := fIsT "Row" "list" false) rfl)
  is_Row_Column := fIs_ok (allB_at x 3 (f := fIs "Row" "Column" false) rfl)
  is_Row_Row := fIs_ok (allB_at x 4 (f := fIs "Row" "Row" true) rfl)
  is_Row_StoreKey := fIs_ok (allB_at x 5 (f := fIs "Row" "StoreKey" false) rfl)
  is_Row_Table := fIs_ok (allB_at x 6 (f := fIs "Row" "Table" false) rfl)
  if_Column := fIn_ok (allB_at x 7 (f := fIn "Column") rfl)
  it_Column_list := fIsT_ok (allB_at x 8 (f := fIsT "Column" "list" false) rfl)
  is_Column_Column := fIs_ok (allB_at x 9 (f := fIs "Column" "Column" true) rfl)
  is_Column_Row := fIs_ok (allB_at x 10 (f := fIs "Column" "Row" false) rfl)
  is_Column_StoreKey := fIs_ok (allB_at x 11 (f := fIs "Column" "StoreKey" false) rfl)
  is_Column_Table := fIs_ok (allB_at x 12 (f := fIs "Column" "Table" false) rfl)
  if_StoreKey := fIn_ok (allB_at x 13 (f := fIn "StoreKey") rfl)
  it_StoreKey_list := fIsT_ok (allB_at x 14 (f := fIsT "StoreKey" "list" false) rfl)
  is_StoreKey_Column := fIs_ok (allB_at x 15 (f := fIs "StoreKey" "Column" false) rfl)
  is_StoreKey_Row := fIs_ok (allB_at x 16 (f := fIs "StoreKey" "Row" false) rfl)
  is_StoreKey_StoreKey := fIs_ok (allB_at x 17 (f := fIs "StoreKey" "StoreKey" true) rfl)
  is_StoreKey_Table := fIs_ok (allB_at x 18 (f := fIs "StoreKey" "Table" false) rfl)
  if_Table := fIn_ok (allB_at x 19 (f := fIn "Table") rfl)
  it_Table_list := fIsT_ok (allB_at x 20 (f := fIsT "Table" "list" false) rfl)
  is_Table_Column := fIs_ok (allB_at x 21 (f := fIs "Table" "Column" false) rfl)
  is_Table_Row := fIs_ok (allB_at x 22 (f := fIs "Table" "Row" false) rfl)
  is_Table_StoreKey := fIs_ok (allB_at x 23 (f := fIs "Table" "StoreKey" false) rfl)
  is_Table_Table := fIs_ok (allB_at x 24 (f := fIs "Table" "Table" true) rfl)
  ti_NoneType_Column := fTIs_ok (allB_at x 25 (f := fTIs "NoneType" "Column" false) rfl)
  ti_bool_Column := fTIs_ok (allB_at x 26 (f := fTIs "bool" "Column" false) rfl)
  ti_int_Column := fTIs_ok (allB_at x 27 (f := fTIs "int" "Column" false) rfl)
  ti_str_Column := fTIs_ok (allB_at x 28 (f := fTIs "str" "Column" false) rfl)
  ti_list_Column := fTIs_ok (allB_at x 29 (f := fTIs "list" "Column" false) rfl)
  ti_tuple_Column := fTIs_ok (allB_at x 30 (f := fTIs "tuple" "Column" false) rfl)
  ti_dict_Column := fTIs_ok (allB_at x 31 (f := fTIs "dict" "Column" false) rfl)
  ti_NoneType_Row := fTIs_ok (allB_at x 32 (f := fTIs "NoneType" "Row" false) rfl)
  ti_bool_Row := fTIs_ok (allB_at x 33 (f := fTIs "bool" "Row" false) rfl)
  ti_int_Row := fTIs_ok (allB_at x 34 (f := fTIs "int" "Row" false) rfl)
  ti_str_Row := fTIs_ok (allB_at x 35 (f := fTIs "str" "Row" false) rfl)
  ti_list_Row := fTIs_ok (allB_at x 36 (f := fTIs "list" "Row" false) rfl)
  ti_tuple_Row := fTIs_ok (allB_at x 37 (f := fTIs "tuple" "Row" false) rfl)
  ti_dict_Row := fTIs_ok (allB_at x 38 (f := fTIs "dict" "Row" false) rfl)
  ti_NoneType_StoreKey := fTIs_ok (allB_at x 39 (f := fTIs "NoneType" "StoreKey" false) rfl)
  ti_bool_StoreKey := fTIs_ok (allB_at x 40 (f := fTIs "bool" "StoreKey" false) rfl)
  ti_int_StoreKey := fTIs_ok (allB_at x 41 (f := fTIs "int" "StoreKey" false) rfl)
  ti_str_StoreKey := fTIs_ok (allB_at x 42 (f := fTIs "str" "StoreKey" false) rfl)
  ti_list_StoreKey := fTIs_ok (allB_at x 43 (f := fTIs "list" "StoreKey" false) rfl)
  ti_tuple_StoreKey := fTIs_ok (allB_at x 44 (f := fTIs "tuple" "StoreKey" false) rfl)
  ti_dict_StoreKey := fTIs_ok (allB_at x 45 (f := fTIs "dict" "StoreKey" false) rfl)
  ti_NoneType_Table := fTIs_ok (allB_at x 46 (f := fTIs "NoneType" "Table" false) rfl)
  ti_bool_Table := fTIs_ok (allB_at x 47 (f := fTIs "bool" "Table" false) rfl)
  ti_int_Table := fTIs_ok (allB_at x 48 (f := fTIs "int" "Table" false) rfl)
  ti_str_Table := fTIs_ok (allB_at x 49 (f := fTIs "str" "Table" false) rfl)
  ti_list_Table := fTIs_ok (allB_at x 50 (f := fTIs "list" "Table" false) rfl)
  ti_tuple_Table := fTIs_ok (allB_at x 51 (f := fTIs "tuple" "Table" false) rfl)
  ti_dict_Table := fTIs_ok (allB_at x 52 (f := fTIs "dict" "Table" false) rfl)
  nfa_Column := nfA_ok (allB_at x 53 (f := nfAB "Column") rfl)
  nfa_Row := nfA_ok (allB_at x 54 (f := nfAB "Row") rfl)
  nfa_StoreKey := nfA_ok (allB_at x 55 (f := nfAB "StoreKey") rfl)
  nfa_Table := nfA_ok (allB_at x 56 (f := nfAB "Table") rfl)
  em_Column_init_0 := mtB_ok (allB_at x 57 (f := mtB ("Column", some "__init__") 0) rfl)
  em_Table_init_0 := mtB_ok (allB_at x 58 (f := mtB ("Table", some "__init__") 0) rfl)
abbrev R : PySem.W.OpenRow := PySem.W.OpenLaw.row PySem.Challenge.rw_oneheap_k54_rows_in_order
abbrev hk : PySem.W.Hook := G.hookT 5 fa fn gs (allB exs) (fun _ => none) none (fun _ => true) tabs
def ob (s : PySem.W.SharedT) : G.AlT := G.obsT 5 fa fn gs (allB exs) (fun _ => none) (fun _ => true) tabs (HandSHeadRun.getT s)
theorem ob_eq (s : PySem.W.SharedT) : ob s = hk.obs s.abs := G.obsT_eq (HandSHeadRun.getT_eq s)
def nm : List Str := [("Row" : Str), ("cell_copy" : Str), ("sorted_rows" : Str), ("key_value" : Str), ("cell_numbers" : Str), ("Column" : Str), ("StoreKey" : Str), ("Table" : Str), ("table_named" : Str), ("numbers_by_table" : Str), ("is_there" : Str), ("first_missing" : Str), ("first_clash" : Str), ("first_fault" : Str), ("has_mark" : Str), ("are_in_order" : Str), ("_law_cells" : Str), ("_law_draw" : Str), ("_law_pick" : Str), ("_law_tables" : Str), ("_law_links" : Str), ("_law_ref" : Str), ("_law_cell_row" : Str), ("_law_places" : Str), ("_law_rows" : Str), ("_law_held" : Str), ("_law_referred" : Str), ("_law_key" : Str), ("_law_sorted" : Str), ("_law_fault" : Str), ("_law_marked" : Str), ("_law_plain" : Str), ("MARK" : Str)]
end Lw
namespace HC
open PySem PySem.W HandSHeadRun
abbrev R : PySem.W.OpenRow := PySem.W.OpenLaw.row PySem.Challenge.rw_oneheap_k54_rows_in_order
noncomputable def P : PySem.Program := R.prog
/-! ### the top's run, cut in parts: so many steps lead from state to state (the states are printed by wip/hcut.py) -/
def goS (st : SharedT → Thread → Option (SharedT × Thread)) (n0 : Nat) (ann : Option Value) : Nat → SharedT → Thread → Option (SharedT × Thread)
  | 0, s, t => some (s, t)
  | m + 1, s, t => match through t with | true => none | false => (match stepOk n0 ann t with | false => none | true => (match st s t with | some (s', t') => frS s' fun s' => goS st n0 ann m s' t' | none => none))
theorem goS_goF {st : SharedT → Thread → Option (SharedT × Thread)} {n0 : Nat} {ann : Option Value} {s' : SharedT} {t' : Thread} {k : Nat} : ∀ {m : Nat} {s : SharedT} {t : Thread}, goS st n0 ann m s t = some (s', t') → goF st n0 ann (k + m) s t = goF st n0 ann k s' t'
  | 0, s, t, h => by cases h; rfl
  | m + 1, s, t, h => by
    have h1 : (match through t with | true => none | false => (match stepOk n0 ann t with | false => none | true => (match st s t with | some (s', t') => frS s' fun s' => goS st n0 ann m s' t' | none => none))) = some (s', t') := h
    show (match through t with | true => some s | false => (match stepOk n0 ann t with | false => none | true => (match st s t with | some (s', t') => frS s' fun s' => goF st n0 ann (k + m) s' t' | none => none))) = _
    cases ht : through t with
    | true => rw [ht] at h1; cases h1
    | false =>
      rw [ht] at h1
      cases hk : stepOk n0 ann t with
      | false => rw [hk] at h1; cases h1
      | true =>
        rw [hk] at h1
        have h2 : (match st s t with | some (s', t') => frS s' fun s' => goS st n0 ann m s' t' | none => none) = some (s', t') := h1
        show (match st s t with | some (s', t') => frS s' fun s' => goF st n0 ann (k + m) s' t' | none => none) = _
        cases hs : st s t with
        | none => rw [hs] at h2; cases h2
        | some r =>
          obtain ⟨s2, t2⟩ := r
          rw [hs] at h2
          have h3 : (frS s2 fun s' => goS st n0 ann m s' t2) = some (s', t') := h2
          show (frS s2 fun s' => goF st n0 ann (k + m) s' t2) = _
          rw [frS_eq] at h3 ⊢
          exact goS_goF h3
noncomputable def tp (i : Nat) : Stmt := P.main.body.getD i (.Pass ⟨0, 0, 0, 0⟩)
noncomputable def dr (i : Nat) : List Stmt := P.main.body.drop i
noncomputable def bo (w : World) (i : Nat) : Obj := ((boot_heap w.params).objs.toList[i]?).getD default
noncomputable def putL (T : BT) : List (Nat × Obj) → BT
  | [] => T
  | (a, o) :: l => putL (T.ins a o) l
noncomputable def vs (z : String) (t : Nat) : Value := .str (Str.ofString z) t
noncomputable def vi (n : Nat) (t : Nat) : Value := .int (Int.ofNat n) t
noncomputable def vr (a : Nat) : Value := .ref a
noncomputable def vt (z : String) : Value := .type z
noncomputable def ob (c : Value) (d : Data) : Obj := ⟨c, none, d, #[]⟩
noncomputable def de (w : World) (z : String) (t : Nat) (v : Value) : DictEntry := ⟨PyData.keyHash w.params (Str.ofString z), .str (Str.ofString z) t, v⟩
noncomputable def ST (w : World) : SharedT → Thread → Option (SharedT × Thread) := stepQ (denQ tabQ) P w
abbrev N0 : Nat := 11
noncomputable def B0 (w : World) : BT := match putAll (boot_heap w.params).objs.toList .nil 0 with | some (t, _) => t | none => .nil
theorem b0 (w : World) : putAll (boot_heap w.params).objs.toList .nil 0 = some (B0 w, N0) := by kernel_rfl
noncomputable def stk (w : World) (os : OsState) : List Frame := match goS (ST w) N0 (bootAnn w) 12 (bootT w os (B0 w, N0)) (topStub P) with | some (_, t) => t.stack | none => []
noncomputable def env0 : Env := (Env.mk (@PySem.Module.scope (@PySem.Program.main @HC.P)) 3 3 [] (Str.ofString "") Option.none (vr 13) (Option.some 14) 0)
noncomputable def L1_0 (w : World) : List (Nat × Obj) := [(3, (ob (vt "dict") (Data.dict (Array.mk [(de w "__name__" 165 (vs "oneheap.store.tables" 267)), (de w "__doc__" 166 Value.none), (de w "__package__" 167 Value.none), (de w "__loader__" 168 (Value.builtin "__main__.__loader__#opaque")), (de w "__spec__" 169 Value.none), (de w "__annotations__" 170 (vr 6)), (de w "__builtins__" 171 (vr 4)), (de w "__file__" 173 (vs "/claim/cut.py" 172)), (de w "__cached__" 174 Value.none), (de w "MARK" 190 (vr 15)), (de w "Row" 228 (vr 37)), (de w "cell_copy" 235 (vr 48)), (de w "sorted_rows" 246 (vr 55)), (de w "key_value" 258 (vr 62)), (de w "cell_numbers" 266 (vr 69)), (de w "Column" 310 (vr 95)), (de w "StoreKey" 350 (vr 123))]) 17))), (11, (ob (vt "tuple") (Data.seq (Array.mk []) 0))), (12, (ob Value.none (Data.fields (Array.mk [(vi 3 0), (vi 0 0), (vr 21), (vi 14 0), (vi 0 0), (vr 47), (vi 18 0), (vi 0 0), (vr 54), (vi 23 0), (vi 0 0), (vr 61), (vi 31 0), (vi 0 0), (vr 68), (vi 38 0), (vi 0 0), (vr 75), (vi 49 0), (vi 0 0), (vr 105)])))), (13, (ob (vt "code") (Data.fields (Array.mk [(vs "<module>" 182), (vs "<module>" 183), (vs "/claim/cut.py" 184), (vi 1 0), (vi 0 0), (vi 0 0), (vi 0 0), (vi 0 0), (vr 11), (Value.bool Bool.false), (vi 181 0), (vr 12), Value.none, Value.none, Value.none, Value.none, (vi 185 0), (vi 1 0), (vs "/claim/cut.py" 186)])))), (14, (Obj.mk (vt "frame") Option.none Data.plain (Array.mk [(Option.some (vr 13)), (Option.some (vr 3)), (Option.some (vr 3)), Option.none, (Option.some (vs "__main__" 164)), Option.none, (Option.some (vr 0))]))), (15, (ob (vt SL.s2766695959194262286x5) (Data.seq (Array.mk [(vs "mark" 189)]) 0))), (16, (ob (vt SL.s2766695959194262286x5) (Data.seq (Array.mk []) 0))), (17, (ob (vt SL.s11030030927630378310x26) (Data.fields (Array.mk [(Value.builtin (@HAppend.hAppend.{0, 0, 0} @String @String @String (@instHAppendOfAppend.{0} @String @PySem.W.Fast.tw9309626314029892736) (@HAppend.hAppend.{0, 0, 0} @String @String @String (@instHAppendOfAppend.{0} @String @PySem.W.Fast.tw9309626314029892736) (@ToString.toString.{0} @String @instToStringString @PySem.W.SL.s17162191345867700912x4) (@ToString.toString.{0} @String @instToStringString ".")) (@ToString.toString.{0} @String @instToStringString (@PySem.W.Fast.tw16320311567567194475 (@PySem.Str.mk (@Array.mk.{0} @Nat (@List.cons.{0} @Nat (nat_lit 95) (@List.cons.{0} @Nat (nat_lit 95) (@List.cons.{0} @Nat (nat_lit 112) (@List.cons.{0} @Nat (nat_lit 114) (@List.cons.{0} @Nat (nat_lit 101) (@List.cons.{0} @Nat (nat_lit 112) (@List.cons.{0} @Nat (nat_lit 97) (@List.cons.{0} @Nat (nat_lit 114) (@List.cons.{0} @Nat (nat_lit 101) (@List.cons.{0} @Nat (nat_lit 95) (@List.cons.{0} @Nat (nat_lit 95) (@List.nil.{0} @Nat)))))))))))))))))), (vt SL.s17162191345867700912x4)])))), (18, (ob (vt SL.s14018661285674007319x4) (Data.dict (Array.mk [(de w "__module__" 198 (vs "oneheap.store.rows" 187)), (de w "__qualname__" 200 (vs "Row" 199)), (de w "__firstlineno__" 202 (vi 3 201)), (de w "__init__" 208 (vr 27)), (de w "__eq__" 216 (vr 34)), (de w "__static_attributes__" 220 (vr 35))]) 6))), (19, (ob (vt SL.s2766695959194262286x5) (Data.seq (Array.mk []) 0))), (20, (ob Value.none (Data.fields (Array.mk [(vi 5 0), (vi 4 0), (vr 26), (vi 10 0), (vi 4 0), (vr 33)])))), (21, (ob (vt SL.s5856160107412720595x4) (Data.fields (Array.mk [(vs "Row" 193), (vs "Row" 194), (vs "/claim/cut.py" 195), (vi 3 0), (vi 0 0), (vi 0 0), (vi 0 0), (vi 0 0), (vr 19), (Value.bool Bool.false), (vi 181 0), (vr 20), Value.none, Value.none, Value.none, Value.none, (vi 196 0), (vi 3 0), (vs "/claim/cut.py" 197)])))), (22, (Obj.mk (vt SL.s658472552662922059x5) Option.none Data.plain (Array.mk [(Option.some (vr 21)), (Option.some (vr 3)), (Option.some (vr 18)), Option.none, (Option.some (vs "oneheap.store.rows" 187)), Option.none, (Option.some (vr 0))]))), (23, (ob (vt SL.s2766695959194262286x5) (Data.seq (Array.mk []) 0))), (24, (ob Value.none (Data.fields (Array.mk [])))), (25, (ob Value.none (Data.func (FuncData.mk (Str.ofString "__init__") (Str.ofString "Row.__init__") (L2.defArgs (L2.inClass (tp 2) 0)) (FuncBody.stmts (L2.defBody (L2.inClass (tp 2) 0))) (L2.defScope (L2.inClass (tp 2) 0)) 0 [] Value.none Value.none Value.none Value.none Option.none Value.none Value.none 0)))), (26, (ob (vt SL.s5856160107412720595x4) (Data.fields (Array.mk [(vs "__init__" 203), (vs "Row.__init__" 204), (vs "/claim/cut.py" 205), (vi 5 0), (vi 4 0), (vi 0 0), (vi 0 0), (vi 3 0), (vr 23), (Value.bool Bool.true), (vi 181 0), (vr 24), Value.none, Value.none, Value.none, (vr 25), (vi 206 0), (vi 5 0), (vs "/claim/cut.py" 207)])))), (27, (ob (vt SL.s7174869446012820540x8) (Data.func (FuncData.mk (Str.ofString "__init__") (Str.ofString "Row.__init__") (L2.defArgs (L2.inClass (tp 2) 0)) (FuncBody.stmts (L2.defBody (L2.inClass (tp 2) 0))) (L2.defScope (L2.inClass (tp 2) 0)) 3 [] Value.none Value.none Value.none (vs "oneheap.store.rows" 187) Option.none (vr 26) Value.none 0)))), (28, (ob (vt SL.s2766695959194262286x5) (Data.seq (Array.mk []) 0))), (29, (ob Value.none (Data.fields (Array.mk [])))), (30, (ob (vt SL.s2766695959194262286x5) (Data.seq (Array.mk [(vs "self" 212), (vs "other" 213)]) 0))), (31, (ob (vt SL.s2766695959194262286x5) (Data.seq (Array.mk []) 0))), (32, (ob Value.none (Data.func (FuncData.mk (Str.ofString "__eq__") (Str.ofString "Row.__eq__") (L2.defArgs (L2.inClass (tp 2) 1)) (FuncBody.stmts (L2.defBody (L2.inClass (tp 2) 1))) (L2.defScope (L2.inClass (tp 2) 1)) 0 [] Value.none Value.none Value.none Value.none Option.none Value.none Value.none 0)))), (33, (ob (vt SL.s5856160107412720595x4) (Data.fields (Array.mk [(vs "__eq__" 209), (vs "Row.__eq__" 210), (vs "/claim/cut.py" 211), (vi 10 0), (vi 2 0), (vi 0 0), (vi 0 0), (vi 3 0), (vr 28), (Value.bool Bool.true), (vi 181 0), (vr 29), Value.none, (vr 30), (vr 31), (vr 32), (vi 214 0), (vi 10 0), (vs "/claim/cut.py" 215)])))), (34, (ob (vt SL.s7174869446012820540x8) (Data.func (FuncData.mk (Str.ofString "__eq__") (Str.ofString "Row.__eq__") (L2.defArgs (L2.inClass (tp 2) 1)) (FuncBody.stmts (L2.defBody (L2.inClass (tp 2) 1))) (L2.defScope (L2.inClass (tp 2) 1)) 3 [] Value.none Value.none Value.none (vs "oneheap.store.rows" 187) Option.none (vr 33) Value.none 0)))), (35, (ob (vt SL.s2766695959194262286x5) (Data.seq (Array.mk [(vs "cells" 217), (vs "number" 218), (vs "table" 219)]) 0))), (36, (ob (vt SL.s14018661285674007319x4) (Data.dict (Array.mk [(de w "__module__" 198 (vs "oneheap.store.rows" 187)), (de w "__firstlineno__" 202 (vi 3 201)), (de w "__init__" 208 (vr 27)), (de w "__eq__" 216 (vr 34)), (de w "__static_attributes__" 220 (vr 35)), (de w "__dict__" 222 (vr 38)), (de w "__weakref__" 224 (vr 39)), (de w "__doc__" 225 Value.none), (de w "__hash__" 226 Value.none)]) 5))), (37, (Obj.mk (vt SL.s17162191345867700912x4) Option.none (Data.cls (ClassData.mk (Str.ofString "Row") [(vt SL.s2742458400755230247x6)] [(vr 37), (vt SL.s2742458400755230247x6)] 36 (Str.ofString "Row") Bool.true [] [] Bool.false Option.none Bool.false)) (Array.mk [Option.none, Option.none, (Option.some (vs "Row" 191)), (Option.some (vs "Row" 199)), (Option.some (Value.builtin (@HAppend.hAppend.{0, 0, 0} @String @String @String (@instHAppendOfAppend.{0} @String @PySem.W.Fast.tw9309626314029892736) (@HAppend.hAppend.{0, 0, 0} @String @String @String (@instHAppendOfAppend.{0} @String @PySem.W.Fast.tw9309626314029892736) (@ToString.toString.{0} @String @instToStringString @PySem.W.SL.s2742458400755230247x6) (@ToString.toString.{0} @String @instToStringString ".")) (@ToString.toString.{0} @String @instToStringString (@PySem.W.Fast.tw16320311567567194475 (@PySem.Str.mk (@Array.mk.{0} @Nat (@List.cons.{0} @Nat (nat_lit 95) (@List.cons.{0} @Nat (nat_lit 95) (@List.cons.{0} @Nat (nat_lit 110) (@List.cons.{0} @Nat (nat_lit 101) (@List.cons.{0} @Nat (nat_lit 119) (@List.cons.{0} @Nat (nat_lit 95) (@List.cons.{0} @Nat (nat_lit 95) (@List.nil.{0} @Nat))))))))))))))), (Option.some (Value.bool Bool.true))]))), (38, (ob (vt SL.s14755015743595814543x17) (Data.fields (Array.mk [(vs "__dict__" 221), (vr 37), (Value.builtin SL.s6511155373996960695x17), (Value.builtin SL.s12411053484034534018x21)])))), (39, (ob (vt SL.s14755015743595814543x17) (Data.fields (Array.mk [(vs "__weakref__" 223), (vr 37), (Value.builtin SL.s10220274742760427390x26), Value.none]))))]
noncomputable def L1_1 (w : World) : List (Nat × Obj) := [(40, (ob (vt SL.s4290257624100764138x5) (Data.fields (Array.mk [(vr 37), (vr 37), (vr 37)])))), (41, (ob (vt SL.s11030030927630378310x26) (Data.fields (Array.mk [(Value.builtin (@HAppend.hAppend.{0, 0, 0} @String @String @String (@instHAppendOfAppend.{0} @String @PySem.W.Fast.tw9309626314029892736) (@HAppend.hAppend.{0, 0, 0} @String @String @String (@instHAppendOfAppend.{0} @String @PySem.W.Fast.tw9309626314029892736) (@ToString.toString.{0} @String @instToStringString @PySem.W.SL.s2742458400755230247x6) (@ToString.toString.{0} @String @instToStringString ".")) (@ToString.toString.{0} @String @instToStringString (@PySem.W.Fast.tw16320311567567194475 (@PySem.Str.mk (@Array.mk.{0} @Nat (@List.cons.{0} @Nat (nat_lit 95) (@List.cons.{0} @Nat (nat_lit 95) (@List.cons.{0} @Nat (nat_lit 105) (@List.cons.{0} @Nat (nat_lit 110) (@List.cons.{0} @Nat (nat_lit 105) (@List.cons.{0} @Nat (nat_lit 116) (@List.cons.{0} @Nat (nat_lit 95) (@List.cons.{0} @Nat (nat_lit 115) (@List.cons.{0} @Nat (nat_lit 117) (@List.cons.{0} @Nat (nat_lit 98) (@List.cons.{0} @Nat (nat_lit 99) (@List.cons.{0} @Nat (nat_lit 108) (@List.cons.{0} @Nat (nat_lit 97) (@List.cons.{0} @Nat (nat_lit 115) (@List.cons.{0} @Nat (nat_lit 115) (@List.cons.{0} @Nat (nat_lit 95) (@List.cons.{0} @Nat (nat_lit 95) (@List.nil.{0} @Nat)))))))))))))))))))))))), (vr 37)])))), (42, (ob (vt SL.s2766695959194262286x5) (Data.seq (Array.mk []) 0))), (43, (ob Value.none (Data.fields (Array.mk [])))), (44, (ob (vt SL.s2766695959194262286x5) (Data.seq (Array.mk [(vs "cell" 232)]) 0))), (45, (ob (vt SL.s2766695959194262286x5) (Data.seq (Array.mk []) 0))), (46, (ob Value.none (Data.func (FuncData.mk (Str.ofString "cell_copy") (Str.ofString "cell_copy") (L2.defArgs (tp 3)) (FuncBody.stmts (L2.defBody (tp 3))) (L2.defScope (tp 3)) 0 [] Value.none Value.none Value.none Value.none Option.none Value.none Value.none 0)))), (47, (ob (vt SL.s5856160107412720595x4) (Data.fields (Array.mk [(vs "cell_copy" 229), (vs "cell_copy" 230), (vs "/claim/cut.py" 231), (vi 14 0), (vi 1 0), (vi 0 0), (vi 0 0), (vi 3 0), (vr 42), (Value.bool Bool.true), (vi 181 0), (vr 43), Value.none, (vr 44), (vr 45), (vr 46), (vi 233 0), (vi 14 0), (vs "/claim/cut.py" 234)])))), (48, (ob (vt SL.s7174869446012820540x8) (Data.func (FuncData.mk (Str.ofString "cell_copy") (Str.ofString "cell_copy") (L2.defArgs (tp 3)) (FuncBody.stmts (L2.defBody (tp 3))) (L2.defScope (tp 3)) 3 [] Value.none Value.none Value.none (vs "oneheap.store.rows" 187) Option.none (vr 47) Value.none 0)))), (49, (ob (vt SL.s2766695959194262286x5) (Data.seq (Array.mk []) 0))), (50, (ob Value.none (Data.fields (Array.mk [])))), (51, (ob (vt SL.s2766695959194262286x5) (Data.seq (Array.mk [(vs "tables" 239), (vs "rows" 240), (vs "place" 241), (vs "table" 242)]) 0))), (52, (ob (vt SL.s2766695959194262286x5) (Data.seq (Array.mk [(vs "places" 243)]) 0))), (53, (ob Value.none (Data.func (FuncData.mk (Str.ofString "sorted_rows") (Str.ofString "sorted_rows") (L2.defArgs (tp 4)) (FuncBody.stmts (L2.defBody (tp 4))) (L2.defScope (tp 4)) 0 [] Value.none Value.none Value.none Value.none Option.none Value.none Value.none 0)))), (54, (ob (vt SL.s5856160107412720595x4) (Data.fields (Array.mk [(vs "sorted_rows" 236), (vs "sorted_rows" 237), (vs "/claim/cut.py" 238), (vi 18 0), (vi 2 0), (vi 0 0), (vi 0 0), (vi 3 0), (vr 49), (Value.bool Bool.true), (vi 181 0), (vr 50), Value.none, (vr 51), (vr 52), (vr 53), (vi 244 0), (vi 18 0), (vs "/claim/cut.py" 245)])))), (55, (ob (vt SL.s7174869446012820540x8) (Data.func (FuncData.mk (Str.ofString "sorted_rows") (Str.ofString "sorted_rows") (L2.defArgs (tp 4)) (FuncBody.stmts (L2.defBody (tp 4))) (L2.defScope (tp 4)) 3 [] Value.none Value.none Value.none (vs "oneheap.store.rows" 187) Option.none (vr 54) Value.none 0)))), (56, (ob (vt SL.s2766695959194262286x5) (Data.seq (Array.mk []) 0))), (57, (ob Value.none (Data.fields (Array.mk [])))), (58, (ob (vt SL.s2766695959194262286x5) (Data.seq (Array.mk [(vs "table" 250), (vs "key" 251), (vs "cells" 252), (vs "found" 253), (vs "place" 254), (vs "cell" 255)]) 0))), (59, (ob (vt SL.s2766695959194262286x5) (Data.seq (Array.mk []) 0))), (60, (ob Value.none (Data.func (FuncData.mk (Str.ofString "key_value") (Str.ofString "key_value") (L2.defArgs (tp 5)) (FuncBody.stmts (L2.defBody (tp 5))) (L2.defScope (tp 5)) 0 [] Value.none Value.none Value.none Value.none Option.none Value.none Value.none 0)))), (61, (ob (vt SL.s5856160107412720595x4) (Data.fields (Array.mk [(vs "key_value" 247), (vs "key_value" 248), (vs "/claim/cut.py" 249), (vi 23 0), (vi 3 0), (vi 0 0), (vi 0 0), (vi 3 0), (vr 56), (Value.bool Bool.true), (vi 181 0), (vr 57), Value.none, (vr 58), (vr 59), (vr 60), (vi 256 0), (vi 23 0), (vs "/claim/cut.py" 257)])))), (62, (ob (vt SL.s7174869446012820540x8) (Data.func (FuncData.mk (Str.ofString "key_value") (Str.ofString "key_value") (L2.defArgs (tp 5)) (FuncBody.stmts (L2.defBody (tp 5))) (L2.defScope (tp 5)) 3 [] Value.none Value.none Value.none (vs "oneheap.store.rows" 187) Option.none (vr 61) Value.none 0)))), (63, (ob (vt SL.s2766695959194262286x5) (Data.seq (Array.mk []) 0))), (64, (ob Value.none (Data.fields (Array.mk [])))), (65, (ob (vt SL.s2766695959194262286x5) (Data.seq (Array.mk [(vs "column" 262), (vs "cell" 263)]) 0))), (66, (ob (vt SL.s2766695959194262286x5) (Data.seq (Array.mk []) 0))), (67, (ob Value.none (Data.func (FuncData.mk (Str.ofString "cell_numbers") (Str.ofString "cell_numbers") (L2.defArgs (tp 6)) (FuncBody.stmts (L2.defBody (tp 6))) (L2.defScope (tp 6)) 0 [] Value.none Value.none Value.none Value.none Option.none Value.none Value.none 0)))), (68, (ob (vt SL.s5856160107412720595x4) (Data.fields (Array.mk [(vs "cell_numbers" 259), (vs "cell_numbers" 260), (vs "/claim/cut.py" 261), (vi 31 0), (vi 2 0), (vi 0 0), (vi 0 0), (vi 3 0), (vr 63), (Value.bool Bool.true), (vi 181 0), (vr 64), Value.none, (vr 65), (vr 66), (vr 67), (vi 264 0), (vi 31 0), (vs "/claim/cut.py" 265)])))), (69, (ob (vt SL.s7174869446012820540x8) (Data.func (FuncData.mk (Str.ofString "cell_numbers") (Str.ofString "cell_numbers") (L2.defArgs (tp 6)) (FuncBody.stmts (L2.defBody (tp 6))) (L2.defScope (tp 6)) 3 [] Value.none Value.none Value.none (vs "oneheap.store.rows" 187) Option.none (vr 68) Value.none 0))))]
noncomputable def L1_2 (w : World) : List (Nat × Obj) := [(70, (ob (vt SL.s2766695959194262286x5) (Data.seq (Array.mk []) 0))), (71, (ob (vt SL.s11030030927630378310x26) (Data.fields (Array.mk [(Value.builtin (@HAppend.hAppend.{0, 0, 0} @String @String @String (@instHAppendOfAppend.{0} @String @PySem.W.Fast.tw9309626314029892736) (@HAppend.hAppend.{0, 0, 0} @String @String @String (@instHAppendOfAppend.{0} @String @PySem.W.Fast.tw9309626314029892736) (@ToString.toString.{0} @String @instToStringString @PySem.W.SL.s17162191345867700912x4) (@ToString.toString.{0} @String @instToStringString ".")) (@ToString.toString.{0} @String @instToStringString (@PySem.W.Fast.tw16320311567567194475 (@PySem.Str.mk (@Array.mk.{0} @Nat (@List.cons.{0} @Nat (nat_lit 95) (@List.cons.{0} @Nat (nat_lit 95) (@List.cons.{0} @Nat (nat_lit 112) (@List.cons.{0} @Nat (nat_lit 114) (@List.cons.{0} @Nat (nat_lit 101) (@List.cons.{0} @Nat (nat_lit 112) (@List.cons.{0} @Nat (nat_lit 97) (@List.cons.{0} @Nat (nat_lit 114) (@List.cons.{0} @Nat (nat_lit 101) (@List.cons.{0} @Nat (nat_lit 95) (@List.cons.{0} @Nat (nat_lit 95) (@List.nil.{0} @Nat)))))))))))))))))), (vt SL.s17162191345867700912x4)])))), (72, (ob (vt SL.s14018661285674007319x4) (Data.dict (Array.mk [(de w "__module__" 276 (vs "oneheap.store.tables" 267)), (de w "__qualname__" 278 (vs "Column" 277)), (de w "__firstlineno__" 280 (vi 38 279)), (de w "__init__" 290 (vr 85)), (de w "__eq__" 298 (vr 92)), (de w "__static_attributes__" 302 (vr 93))]) 6))), (73, (ob (vt SL.s2766695959194262286x5) (Data.seq (Array.mk []) 0))), (74, (ob Value.none (Data.fields (Array.mk [(vi 40 0), (vi 4 0), (vr 84), (vi 45 0), (vi 4 0), (vr 91)])))), (75, (ob (vt SL.s5856160107412720595x4) (Data.fields (Array.mk [(vs "Column" 271), (vs "Column" 272), (vs "/claim/cut.py" 273), (vi 38 0), (vi 0 0), (vi 0 0), (vi 0 0), (vi 0 0), (vr 73), (Value.bool Bool.false), (vi 181 0), (vr 74), Value.none, Value.none, Value.none, Value.none, (vi 274 0), (vi 38 0), (vs "/claim/cut.py" 275)])))), (76, (Obj.mk (vt SL.s658472552662922059x5) Option.none Data.plain (Array.mk [(Option.some (vr 75)), (Option.some (vr 3)), (Option.some (vr 72)), Option.none, (Option.some (vs "oneheap.store.tables" 267)), Option.none, (Option.some (vr 0))]))), (77, (ob (vt SL.s2766695959194262286x5) (Data.seq (Array.mk []) 0))), (78, (ob (vt SL.s2766695959194262286x5) (Data.seq (Array.mk [(vr 77)]) 0))), (79, (ob (vt SL.s2766695959194262286x5) (Data.seq (Array.mk []) 0))), (80, (ob Value.none (Data.fields (Array.mk [])))), (81, (ob (vt SL.s2766695959194262286x5) (Data.seq (Array.mk [(vs "self" 284), (vs "name" 285), (vs "role" 286), (vs "targets" 287)]) 0))), (82, (ob (vt SL.s2766695959194262286x5) (Data.seq (Array.mk []) 0))), (83, (ob Value.none (Data.func (FuncData.mk (Str.ofString "__init__") (Str.ofString "Column.__init__") (L2.defArgs (L2.inClass (tp 8) 0)) (FuncBody.stmts (L2.defBody (L2.inClass (tp 8) 0))) (L2.defScope (L2.inClass (tp 8) 0)) 0 [] Value.none Value.none Value.none Value.none Option.none Value.none Value.none 0)))), (84, (ob (vt SL.s5856160107412720595x4) (Data.fields (Array.mk [(vs "__init__" 281), (vs "Column.__init__" 282), (vs "/claim/cut.py" 283), (vi 40 0), (vi 4 0), (vi 0 0), (vi 0 0), (vi 3 0), (vr 79), (Value.bool Bool.true), (vi 181 0), (vr 80), Value.none, (vr 81), (vr 82), (vr 83), (vi 288 0), (vi 40 0), (vs "/claim/cut.py" 289)])))), (85, (ob (vt SL.s7174869446012820540x8) (Data.func (FuncData.mk (Str.ofString "__init__") (Str.ofString "Column.__init__") (L2.defArgs (L2.inClass (tp 8) 0)) (FuncBody.stmts (L2.defBody (L2.inClass (tp 8) 0))) (L2.defScope (L2.inClass (tp 8) 0)) 3 [] (vr 78) Value.none Value.none (vs "oneheap.store.tables" 267) Option.none (vr 84) Value.none 0)))), (86, (ob (vt SL.s2766695959194262286x5) (Data.seq (Array.mk []) 0))), (87, (ob Value.none (Data.fields (Array.mk [])))), (88, (ob (vt SL.s2766695959194262286x5) (Data.seq (Array.mk [(vs "self" 294), (vs "other" 295)]) 0))), (89, (ob (vt SL.s2766695959194262286x5) (Data.seq (Array.mk []) 0))), (90, (ob Value.none (Data.func (FuncData.mk (Str.ofString "__eq__") (Str.ofString "Column.__eq__") (L2.defArgs (L2.inClass (tp 8) 1)) (FuncBody.stmts (L2.defBody (L2.inClass (tp 8) 1))) (L2.defScope (L2.inClass (tp 8) 1)) 0 [] Value.none Value.none Value.none Value.none Option.none Value.none Value.none 0)))), (91, (ob (vt SL.s5856160107412720595x4) (Data.fields (Array.mk [(vs "__eq__" 291), (vs "Column.__eq__" 292), (vs "/claim/cut.py" 293), (vi 45 0), (vi 2 0), (vi 0 0), (vi 0 0), (vi 3 0), (vr 86), (Value.bool Bool.true), (vi 181 0), (vr 87), Value.none, (vr 88), (vr 89), (vr 90), (vi 296 0), (vi 45 0), (vs "/claim/cut.py" 297)])))), (92, (ob (vt SL.s7174869446012820540x8) (Data.func (FuncData.mk (Str.ofString "__eq__") (Str.ofString "Column.__eq__") (L2.defArgs (L2.inClass (tp 8) 1)) (FuncBody.stmts (L2.defBody (L2.inClass (tp 8) 1))) (L2.defScope (L2.inClass (tp 8) 1)) 3 [] Value.none Value.none Value.none (vs "oneheap.store.tables" 267) Option.none (vr 91) Value.none 0)))), (93, (ob (vt SL.s2766695959194262286x5) (Data.seq (Array.mk [(vs "name" 299), (vs "role" 300), (vs "targets" 301)]) 0))), (94, (ob (vt SL.s14018661285674007319x4) (Data.dict (Array.mk [(de w "__module__" 276 (vs "oneheap.store.tables" 267)), (de w "__firstlineno__" 280 (vi 38 279)), (de w "__init__" 290 (vr 85)), (de w "__eq__" 298 (vr 92)), (de w "__static_attributes__" 302 (vr 93)), (de w "__dict__" 304 (vr 96)), (de w "__weakref__" 306 (vr 97)), (de w "__doc__" 307 Value.none), (de w "__hash__" 308 Value.none)]) 5))), (95, (Obj.mk (vt SL.s17162191345867700912x4) Option.none (Data.cls (ClassData.mk (Str.ofString "Column") [(vt SL.s2742458400755230247x6)] [(vr 95), (vt SL.s2742458400755230247x6)] 94 (Str.ofString "Column") Bool.true [] [] Bool.false Option.none Bool.false)) (Array.mk [Option.none, Option.none, (Option.some (vs "Column" 269)), (Option.some (vs "Column" 277)), (Option.some (Value.builtin (@HAppend.hAppend.{0, 0, 0} @String @String @String (@instHAppendOfAppend.{0} @String @PySem.W.Fast.tw9309626314029892736) (@HAppend.hAppend.{0, 0, 0} @String @String @String (@instHAppendOfAppend.{0} @String @PySem.W.Fast.tw9309626314029892736) (@ToString.toString.{0} @String @instToStringString @PySem.W.SL.s2742458400755230247x6) (@ToString.toString.{0} @String @instToStringString ".")) (@ToString.toString.{0} @String @instToStringString (@PySem.W.Fast.tw16320311567567194475 (@PySem.Str.mk (@Array.mk.{0} @Nat (@List.cons.{0} @Nat (nat_lit 95) (@List.cons.{0} @Nat (nat_lit 95) (@List.cons.{0} @Nat (nat_lit 110) (@List.cons.{0} @Nat (nat_lit 101) (@List.cons.{0} @Nat (nat_lit 119) (@List.cons.{0} @Nat (nat_lit 95) (@List.cons.{0} @Nat (nat_lit 95) (@List.nil.{0} @Nat))))))))))))))), (Option.some (Value.bool Bool.true))]))), (96, (ob (vt SL.s14755015743595814543x17) (Data.fields (Array.mk [(vs "__dict__" 303), (vr 95), (Value.builtin SL.s6511155373996960695x17), (Value.builtin SL.s12411053484034534018x21)])))), (97, (ob (vt SL.s14755015743595814543x17) (Data.fields (Array.mk [(vs "__weakref__" 305), (vr 95), (Value.builtin SL.s10220274742760427390x26), Value.none])))), (98, (ob (vt SL.s4290257624100764138x5) (Data.fields (Array.mk [(vr 95), (vr 95), (vr 95)])))), (99, (ob (vt SL.s11030030927630378310x26) (Data.fields (Array.mk [(Value.builtin (@HAppend.hAppend.{0, 0, 0} @String @String @String (@instHAppendOfAppend.{0} @String @PySem.W.Fast.tw9309626314029892736) (@HAppend.hAppend.{0, 0, 0} @String @String @String (@instHAppendOfAppend.{0} @String @PySem.W.Fast.tw9309626314029892736) (@ToString.toString.{0} @String @instToStringString @PySem.W.SL.s2742458400755230247x6) (@ToString.toString.{0} @String @instToStringString ".")) (@ToString.toString.{0} @String @instToStringString (@PySem.W.Fast.tw16320311567567194475 (@PySem.Str.mk (@Array.mk.{0} @Nat (@List.cons.{0} @Nat (nat_lit 95) (@List.cons.{0} @Nat (nat_lit 95) (@List.cons.{0} @Nat (nat_lit 105) (@List.cons.{0} @Nat (nat_lit 110) (@List.cons.{0} @Nat (nat_lit 105) (@List.cons.{0} @Nat (nat_lit 116) (@List.cons.{0} @Nat (nat_lit 95) (@List.cons.{0} @Nat (nat_lit 115) (@List.cons.{0} @Nat (nat_lit 117) (@List.cons.{0} @Nat (nat_lit 98) (@List.cons.{0} @Nat (nat_lit 99) (@List.cons.{0} @Nat (nat_lit 108) (@List.cons.{0} @Nat (nat_lit 97) (@List.cons.{0} @Nat (nat_lit 115) (@List.cons.{0} @Nat (nat_lit 115) (@List.cons.{0} @Nat (nat_lit 95) (@List.cons.{0} @Nat (nat_lit 95) (@List.nil.{0} @Nat)))))))))))))))))))))))), (vr 95)]))))]
noncomputable def L1_3 (w : World) : List (Nat × Obj) := [(100, (ob (vt SL.s2766695959194262286x5) (Data.seq (Array.mk []) 0))), (101, (ob (vt SL.s11030030927630378310x26) (Data.fields (Array.mk [(Value.builtin (@HAppend.hAppend.{0, 0, 0} @String @String @String (@instHAppendOfAppend.{0} @String @PySem.W.Fast.tw9309626314029892736) (@HAppend.hAppend.{0, 0, 0} @String @String @String (@instHAppendOfAppend.{0} @String @PySem.W.Fast.tw9309626314029892736) (@ToString.toString.{0} @String @instToStringString @PySem.W.SL.s17162191345867700912x4) (@ToString.toString.{0} @String @instToStringString ".")) (@ToString.toString.{0} @String @instToStringString (@PySem.W.Fast.tw16320311567567194475 (@PySem.Str.mk (@Array.mk.{0} @Nat (@List.cons.{0} @Nat (nat_lit 95) (@List.cons.{0} @Nat (nat_lit 95) (@List.cons.{0} @Nat (nat_lit 112) (@List.cons.{0} @Nat (nat_lit 114) (@List.cons.{0} @Nat (nat_lit 101) (@List.cons.{0} @Nat (nat_lit 112) (@List.cons.{0} @Nat (nat_lit 97) (@List.cons.{0} @Nat (nat_lit 114) (@List.cons.{0} @Nat (nat_lit 101) (@List.cons.{0} @Nat (nat_lit 95) (@List.cons.{0} @Nat (nat_lit 95) (@List.nil.{0} @Nat)))))))))))))))))), (vt SL.s17162191345867700912x4)])))), (102, (ob (vt SL.s14018661285674007319x4) (Data.dict (Array.mk [(de w "__module__" 318 (vs "oneheap.store.tables" 267)), (de w "__qualname__" 320 (vs "StoreKey" 319)), (de w "__firstlineno__" 322 (vi 49 321)), (de w "__init__" 331 (vr 113)), (de w "__eq__" 339 (vr 120)), (de w "__static_attributes__" 342 (vr 121))]) 6))), (103, (ob (vt SL.s2766695959194262286x5) (Data.seq (Array.mk []) 0))), (104, (ob Value.none (Data.fields (Array.mk [(vi 51 0), (vi 4 0), (vr 112), (vi 55 0), (vi 4 0), (vr 119)])))), (105, (ob (vt SL.s5856160107412720595x4) (Data.fields (Array.mk [(vs "StoreKey" 313), (vs "StoreKey" 314), (vs "/claim/cut.py" 315), (vi 49 0), (vi 0 0), (vi 0 0), (vi 0 0), (vi 0 0), (vr 103), (Value.bool Bool.false), (vi 181 0), (vr 104), Value.none, Value.none, Value.none, Value.none, (vi 316 0), (vi 49 0), (vs "/claim/cut.py" 317)])))), (106, (Obj.mk (vt SL.s658472552662922059x5) Option.none Data.plain (Array.mk [(Option.some (vr 105)), (Option.some (vr 3)), (Option.some (vr 102)), Option.none, (Option.some (vs "oneheap.store.tables" 267)), Option.none, (Option.some (vr 0))]))), (107, (ob (vt SL.s2766695959194262286x5) (Data.seq (Array.mk []) 0))), (108, (ob Value.none (Data.fields (Array.mk [])))), (109, (ob (vt SL.s2766695959194262286x5) (Data.seq (Array.mk [(vs "self" 326), (vs "name" 327), (vs "places" 328)]) 0))), (110, (ob (vt SL.s2766695959194262286x5) (Data.seq (Array.mk []) 0))), (111, (ob Value.none (Data.func (FuncData.mk (Str.ofString "__init__") (Str.ofString "StoreKey.__init__") (L2.defArgs (L2.inClass (tp 9) 0)) (FuncBody.stmts (L2.defBody (L2.inClass (tp 9) 0))) (L2.defScope (L2.inClass (tp 9) 0)) 0 [] Value.none Value.none Value.none Value.none Option.none Value.none Value.none 0)))), (112, (ob (vt SL.s5856160107412720595x4) (Data.fields (Array.mk [(vs "__init__" 323), (vs "StoreKey.__init__" 324), (vs "/claim/cut.py" 325), (vi 51 0), (vi 3 0), (vi 0 0), (vi 0 0), (vi 3 0), (vr 107), (Value.bool Bool.true), (vi 181 0), (vr 108), Value.none, (vr 109), (vr 110), (vr 111), (vi 329 0), (vi 51 0), (vs "/claim/cut.py" 330)])))), (113, (ob (vt SL.s7174869446012820540x8) (Data.func (FuncData.mk (Str.ofString "__init__") (Str.ofString "StoreKey.__init__") (L2.defArgs (L2.inClass (tp 9) 0)) (FuncBody.stmts (L2.defBody (L2.inClass (tp 9) 0))) (L2.defScope (L2.inClass (tp 9) 0)) 3 [] Value.none Value.none Value.none (vs "oneheap.store.tables" 267) Option.none (vr 112) Value.none 0)))), (114, (ob (vt SL.s2766695959194262286x5) (Data.seq (Array.mk []) 0))), (115, (ob Value.none (Data.fields (Array.mk [])))), (116, (ob (vt SL.s2766695959194262286x5) (Data.seq (Array.mk [(vs "self" 335), (vs "other" 336)]) 0))), (117, (ob (vt SL.s2766695959194262286x5) (Data.seq (Array.mk []) 0))), (118, (ob Value.none (Data.func (FuncData.mk (Str.ofString "__eq__") (Str.ofString "StoreKey.__eq__") (L2.defArgs (L2.inClass (tp 9) 1)) (FuncBody.stmts (L2.defBody (L2.inClass (tp 9) 1))) (L2.defScope (L2.inClass (tp 9) 1)) 0 [] Value.none Value.none Value.none Value.none Option.none Value.none Value.none 0)))), (119, (ob (vt SL.s5856160107412720595x4) (Data.fields (Array.mk [(vs "__eq__" 332), (vs "StoreKey.__eq__" 333), (vs "/claim/cut.py" 334), (vi 55 0), (vi 2 0), (vi 0 0), (vi 0 0), (vi 3 0), (vr 114), (Value.bool Bool.true), (vi 181 0), (vr 115), Value.none, (vr 116), (vr 117), (vr 118), (vi 337 0), (vi 55 0), (vs "/claim/cut.py" 338)])))), (120, (ob (vt SL.s7174869446012820540x8) (Data.func (FuncData.mk (Str.ofString "__eq__") (Str.ofString "StoreKey.__eq__") (L2.defArgs (L2.inClass (tp 9) 1)) (FuncBody.stmts (L2.defBody (L2.inClass (tp 9) 1))) (L2.defScope (L2.inClass (tp 9) 1)) 3 [] Value.none Value.none Value.none (vs "oneheap.store.tables" 267) Option.none (vr 119) Value.none 0)))), (121, (ob (vt SL.s2766695959194262286x5) (Data.seq (Array.mk [(vs "name" 340), (vs "places" 341)]) 0))), (122, (ob (vt SL.s14018661285674007319x4) (Data.dict (Array.mk [(de w "__module__" 318 (vs "oneheap.store.tables" 267)), (de w "__firstlineno__" 322 (vi 49 321)), (de w "__init__" 331 (vr 113)), (de w "__eq__" 339 (vr 120)), (de w "__static_attributes__" 342 (vr 121)), (de w "__dict__" 344 (vr 124)), (de w "__weakref__" 346 (vr 125)), (de w "__doc__" 347 Value.none), (de w "__hash__" 348 Value.none)]) 5))), (123, (Obj.mk (vt SL.s17162191345867700912x4) Option.none (Data.cls (ClassData.mk (Str.ofString "StoreKey") [(vt SL.s2742458400755230247x6)] [(vr 123), (vt SL.s2742458400755230247x6)] 122 (Str.ofString "StoreKey") Bool.true [] [] Bool.false Option.none Bool.false)) (Array.mk [Option.none, Option.none, (Option.some (vs "StoreKey" 311)), (Option.some (vs "StoreKey" 319)), (Option.some (Value.builtin (@HAppend.hAppend.{0, 0, 0} @String @String @String (@instHAppendOfAppend.{0} @String @PySem.W.Fast.tw9309626314029892736) (@HAppend.hAppend.{0, 0, 0} @String @String @String (@instHAppendOfAppend.{0} @String @PySem.W.Fast.tw9309626314029892736) (@ToString.toString.{0} @String @instToStringString @PySem.W.SL.s2742458400755230247x6) (@ToString.toString.{0} @String @instToStringString ".")) (@ToString.toString.{0} @String @instToStringString (@PySem.W.Fast.tw16320311567567194475 (@PySem.Str.mk (@Array.mk.{0} @Nat (@List.cons.{0} @Nat (nat_lit 95) (@List.cons.{0} @Nat (nat_lit 95) (@List.cons.{0} @Nat (nat_lit 110) (@List.cons.{0} @Nat (nat_lit 101) (@List.cons.{0} @Nat (nat_lit 119) (@List.cons.{0} @Nat (nat_lit 95) (@List.cons.{0} @Nat (nat_lit 95) (@List.nil.{0} @Nat))))))))))))))), (Option.some (Value.bool Bool.true))]))), (124, (ob (vt SL.s14755015743595814543x17) (Data.fields (Array.mk [(vs "__dict__" 343), (vr 123), (Value.builtin SL.s6511155373996960695x17), (Value.builtin SL.s12411053484034534018x21)])))), (125, (ob (vt SL.s14755015743595814543x17) (Data.fields (Array.mk [(vs "__weakref__" 345), (vr 123), (Value.builtin SL.s10220274742760427390x26), Value.none])))), (126, (ob (vt SL.s4290257624100764138x5) (Data.fields (Array.mk [(vr 123), (vr 123), (vr 123)])))), (127, (ob (vt SL.s11030030927630378310x26) (Data.fields (Array.mk [(Value.builtin (@HAppend.hAppend.{0, 0, 0} @String @String @String (@instHAppendOfAppend.{0} @String @PySem.W.Fast.tw9309626314029892736) (@HAppend.hAppend.{0, 0, 0} @String @String @String (@instHAppendOfAppend.{0} @String @PySem.W.Fast.tw9309626314029892736) (@ToString.toString.{0} @String @instToStringString @PySem.W.SL.s2742458400755230247x6) (@ToString.toString.{0} @String @instToStringString ".")) (@ToString.toString.{0} @String @instToStringString (@PySem.W.Fast.tw16320311567567194475 (@PySem.Str.mk (@Array.mk.{0} @Nat (@List.cons.{0} @Nat (nat_lit 95) (@List.cons.{0} @Nat (nat_lit 95) (@List.cons.{0} @Nat (nat_lit 105) (@List.cons.{0} @Nat (nat_lit 110) (@List.cons.{0} @Nat (nat_lit 105) (@List.cons.{0} @Nat (nat_lit 116) (@List.cons.{0} @Nat (nat_lit 95) (@List.cons.{0} @Nat (nat_lit 115) (@List.cons.{0} @Nat (nat_lit 117) (@List.cons.{0} @Nat (nat_lit 98) (@List.cons.{0} @Nat (nat_lit 99) (@List.cons.{0} @Nat (nat_lit 108) (@List.cons.{0} @Nat (nat_lit 97) (@List.cons.{0} @Nat (nat_lit 115) (@List.cons.{0} @Nat (nat_lit 115) (@List.cons.{0} @Nat (nat_lit 95) (@List.cons.{0} @Nat (nat_lit 95) (@List.nil.{0} @Nat)))))))))))))))))))))))), (vr 123)]))))]
noncomputable def B1 (w : World) : BT := putL (putL (putL (putL (B0 w) (L1_0 w)) (L1_1 w)) (L1_2 w)) (L1_3 w)
noncomputable def S1 (w : World) (os : OsState) : SharedT := ⟨B1 w, 128 , (Life.mk [] [] [] 0 [] [] Bool.false (Array.mk []) [] 0 Bool.false Bool.false Bool.false (Int.ofNat 0) [(Int.ofNat 2000), (Int.ofNat 10), (Int.ofNat 10)] Bool.false 0 Bool.true [] [] 0 Bool.false) , (Array.mk []) , (Drawn.mk 0 0 0 0) , 351, os⟩
noncomputable def T1 (w : World) (os : OsState) : Thread := ⟨denQ tabQ (.body (dr 10) env0), .body (behindTheImports P) env0, (Pos.mk 49 0 58 70), stk w os⟩
theorem c1 (w : World) (os : OsState) : goS (ST w) N0 (bootAnn w) 954 (bootT w os (B0 w, N0)) (topStub P) = some (S1 w os, T1 w os) := by kernel_rfl
noncomputable def L2_0 (w : World) : List (Nat × Obj) := [(3, (ob (vt "dict") (Data.dict (Array.mk [(de w "__name__" 165 (vs "law_oneheap_k54_rows_in_order" 464)), (de w "__doc__" 166 Value.none), (de w "__package__" 167 Value.none), (de w "__loader__" 168 (Value.builtin "__main__.__loader__#opaque")), (de w "__spec__" 169 Value.none), (de w "__annotations__" 170 (vr 6)), (de w "__builtins__" 171 (vr 4)), (de w "__file__" 173 (vs "/claim/cut.py" 172)), (de w "__cached__" 174 Value.none), (de w "MARK" 190 (vr 15)), (de w "Row" 228 (vr 37)), (de w "cell_copy" 235 (vr 48)), (de w "sorted_rows" 246 (vr 55)), (de w "key_value" 258 (vr 62)), (de w "cell_numbers" 266 (vr 69)), (de w "Column" 310 (vr 95)), (de w "StoreKey" 350 (vr 123)), (de w "Table" 392 (vr 153)), (de w "table_named" 401 (vr 164)), (de w "numbers_by_table" 409 (vr 169)), (de w "is_there" 415 (vr 174)), (de w "first_missing" 428 (vr 181)), (de w "first_clash" 441 (vr 188)), (de w "first_fault" 451 (vr 195)), (de w "has_mark" 457 (vr 200)), (de w "are_in_order" 463 (vr 205)), (de w "_law_cells" 476 (vr 212)), (de w "_law_draw" 485 (vr 219)), (de w "_law_pick" 493 (vr 226)), (de w "_law_tables" 503 (vr 233)), (de w "_law_links" 514 (vr 240)), (de w "_law_ref" 522 (vr 247))]) 32))), (12, (ob Value.none (Data.fields (Array.mk [(vi 3 0), (vi 0 0), (vr 21), (vi 14 0), (vi 0 0), (vr 47), (vi 18 0), (vi 0 0), (vr 54), (vi 23 0), (vi 0 0), (vr 61), (vi 31 0), (vi 0 0), (vr 68), (vi 38 0), (vi 0 0), (vr 75), (vi 49 0), (vi 0 0), (vr 105), (vi 59 0), (vi 0 0), (vr 133), (vi 70 0), (vi 0 0), (vr 163), (vi 76 0), (vi 0 0), (vr 168), (vi 81 0), (vi 0 0), (vr 173), (vi 83 0), (vi 0 0), (vr 180), (vi 91 0), (vi 0 0), (vr 187), (vi 102 0), (vi 0 0), (vr 194), (vi 111 0), (vi 0 0), (vr 199), (vi 113 0), (vi 0 0), (vr 204), (vi 119 0), (vi 0 0), (vr 211), (vi 132 0), (vi 0 0), (vr 218), (vi 138 0), (vi 0 0), (vr 225), (vi 140 0), (vi 0 0), (vr 232), (vi 146 0), (vi 0 0), (vr 239), (vi 154 0), (vi 0 0), (vr 246)])))), (128, (ob (vt SL.s2766695959194262286x5) (Data.seq (Array.mk []) 0))), (129, (ob (vt SL.s11030030927630378310x26) (Data.fields (Array.mk [(Value.builtin (@HAppend.hAppend.{0, 0, 0} @String @String @String (@instHAppendOfAppend.{0} @String @PySem.W.Fast.tw9309626314029892736) (@HAppend.hAppend.{0, 0, 0} @String @String @String (@instHAppendOfAppend.{0} @String @PySem.W.Fast.tw9309626314029892736) (@ToString.toString.{0} @String @instToStringString @PySem.W.SL.s17162191345867700912x4) (@ToString.toString.{0} @String @instToStringString ".")) (@ToString.toString.{0} @String @instToStringString (@PySem.W.Fast.tw16320311567567194475 (@PySem.Str.mk (@Array.mk.{0} @Nat (@List.cons.{0} @Nat (nat_lit 95) (@List.cons.{0} @Nat (nat_lit 95) (@List.cons.{0} @Nat (nat_lit 112) (@List.cons.{0} @Nat (nat_lit 114) (@List.cons.{0} @Nat (nat_lit 101) (@List.cons.{0} @Nat (nat_lit 112) (@List.cons.{0} @Nat (nat_lit 97) (@List.cons.{0} @Nat (nat_lit 114) (@List.cons.{0} @Nat (nat_lit 101) (@List.cons.{0} @Nat (nat_lit 95) (@List.cons.{0} @Nat (nat_lit 95) (@List.nil.{0} @Nat)))))))))))))))))), (vt SL.s17162191345867700912x4)])))), (130, (ob (vt SL.s14018661285674007319x4) (Data.dict (Array.mk [(de w "__module__" 358 (vs "oneheap.store.tables" 267)), (de w "__qualname__" 360 (vs "Table" 359)), (de w "__firstlineno__" 362 (vi 59 361)), (de w "__init__" 372 (vr 143)), (de w "__eq__" 380 (vr 150)), (de w "__static_attributes__" 384 (vr 151))]) 6))), (131, (ob (vt SL.s2766695959194262286x5) (Data.seq (Array.mk []) 0))), (132, (ob Value.none (Data.fields (Array.mk [(vi 61 0), (vi 4 0), (vr 142), (vi 66 0), (vi 4 0), (vr 149)])))), (133, (ob (vt SL.s5856160107412720595x4) (Data.fields (Array.mk [(vs "Table" 353), (vs "Table" 354), (vs "/claim/cut.py" 355), (vi 59 0), (vi 0 0), (vi 0 0), (vi 0 0), (vi 0 0), (vr 131), (Value.bool Bool.false), (vi 181 0), (vr 132), Value.none, Value.none, Value.none, Value.none, (vi 356 0), (vi 59 0), (vs "/claim/cut.py" 357)])))), (134, (Obj.mk (vt SL.s658472552662922059x5) Option.none Data.plain (Array.mk [(Option.some (vr 133)), (Option.some (vr 3)), (Option.some (vr 130)), Option.none, (Option.some (vs "oneheap.store.tables" 267)), Option.none, (Option.some (vr 0))]))), (135, (ob (vt SL.s2766695959194262286x5) (Data.seq (Array.mk []) 0))), (136, (ob (vt SL.s2766695959194262286x5) (Data.seq (Array.mk [(vr 135)]) 0))), (137, (ob (vt SL.s2766695959194262286x5) (Data.seq (Array.mk []) 0))), (138, (ob Value.none (Data.fields (Array.mk [])))), (139, (ob (vt SL.s2766695959194262286x5) (Data.seq (Array.mk [(vs "self" 366), (vs "name" 367), (vs "columns" 368), (vs "unique" 369)]) 0))), (140, (ob (vt SL.s2766695959194262286x5) (Data.seq (Array.mk []) 0))), (141, (ob Value.none (Data.func (FuncData.mk (Str.ofString "__init__") (Str.ofString "Table.__init__") (L2.defArgs (L2.inClass (tp 10) 0)) (FuncBody.stmts (L2.defBody (L2.inClass (tp 10) 0))) (L2.defScope (L2.inClass (tp 10) 0)) 0 [] Value.none Value.none Value.none Value.none Option.none Value.none Value.none 0)))), (142, (ob (vt SL.s5856160107412720595x4) (Data.fields (Array.mk [(vs "__init__" 363), (vs "Table.__init__" 364), (vs "/claim/cut.py" 365), (vi 61 0), (vi 4 0), (vi 0 0), (vi 0 0), (vi 3 0), (vr 137), (Value.bool Bool.true), (vi 181 0), (vr 138), Value.none, (vr 139), (vr 140), (vr 141), (vi 370 0), (vi 61 0), (vs "/claim/cut.py" 371)])))), (143, (ob (vt SL.s7174869446012820540x8) (Data.func (FuncData.mk (Str.ofString "__init__") (Str.ofString "Table.__init__") (L2.defArgs (L2.inClass (tp 10) 0)) (FuncBody.stmts (L2.defBody (L2.inClass (tp 10) 0))) (L2.defScope (L2.inClass (tp 10) 0)) 3 [] (vr 136) Value.none Value.none (vs "oneheap.store.tables" 267) Option.none (vr 142) Value.none 0)))), (144, (ob (vt SL.s2766695959194262286x5) (Data.seq (Array.mk []) 0))), (145, (ob Value.none (Data.fields (Array.mk [])))), (146, (ob (vt SL.s2766695959194262286x5) (Data.seq (Array.mk [(vs "self" 376), (vs "other" 377)]) 0))), (147, (ob (vt SL.s2766695959194262286x5) (Data.seq (Array.mk []) 0))), (148, (ob Value.none (Data.func (FuncData.mk (Str.ofString "__eq__") (Str.ofString "Table.__eq__") (L2.defArgs (L2.inClass (tp 10) 1)) (FuncBody.stmts (L2.defBody (L2.inClass (tp 10) 1))) (L2.defScope (L2.inClass (tp 10) 1)) 0 [] Value.none Value.none Value.none Value.none Option.none Value.none Value.none 0)))), (149, (ob (vt SL.s5856160107412720595x4) (Data.fields (Array.mk [(vs "__eq__" 373), (vs "Table.__eq__" 374), (vs "/claim/cut.py" 375), (vi 66 0), (vi 2 0), (vi 0 0), (vi 0 0), (vi 3 0), (vr 144), (Value.bool Bool.true), (vi 181 0), (vr 145), Value.none, (vr 146), (vr 147), (vr 148), (vi 378 0), (vi 66 0), (vs "/claim/cut.py" 379)])))), (150, (ob (vt SL.s7174869446012820540x8) (Data.func (FuncData.mk (Str.ofString "__eq__") (Str.ofString "Table.__eq__") (L2.defArgs (L2.inClass (tp 10) 1)) (FuncBody.stmts (L2.defBody (L2.inClass (tp 10) 1))) (L2.defScope (L2.inClass (tp 10) 1)) 3 [] Value.none Value.none Value.none (vs "oneheap.store.tables" 267) Option.none (vr 149) Value.none 0)))), (151, (ob (vt SL.s2766695959194262286x5) (Data.seq (Array.mk [(vs "columns" 381), (vs "name" 382), (vs "unique" 383)]) 0))), (152, (ob (vt SL.s14018661285674007319x4) (Data.dict (Array.mk [(de w "__module__" 358 (vs "oneheap.store.tables" 267)), (de w "__firstlineno__" 362 (vi 59 361)), (de w "__init__" 372 (vr 143)), (de w "__eq__" 380 (vr 150)), (de w "__static_attributes__" 384 (vr 151)), (de w "__dict__" 386 (vr 154)), (de w "__weakref__" 388 (vr 155)), (de w "__doc__" 389 Value.none), (de w "__hash__" 390 Value.none)]) 5))), (153, (Obj.mk (vt SL.s17162191345867700912x4) Option.none (Data.cls (ClassData.mk (Str.ofString "Table") [(vt SL.s2742458400755230247x6)] [(vr 153), (vt SL.s2742458400755230247x6)] 152 (Str.ofString "Table") Bool.true [] [] Bool.false Option.none Bool.false)) (Array.mk [Option.none, Option.none, (Option.some (vs "Table" 351)), (Option.some (vs "Table" 359)), (Option.some (Value.builtin (@HAppend.hAppend.{0, 0, 0} @String @String @String (@instHAppendOfAppend.{0} @String @PySem.W.Fast.tw9309626314029892736) (@HAppend.hAppend.{0, 0, 0} @String @String @String (@instHAppendOfAppend.{0} @String @PySem.W.Fast.tw9309626314029892736) (@ToString.toString.{0} @String @instToStringString @PySem.W.SL.s2742458400755230247x6) (@ToString.toString.{0} @String @instToStringString ".")) (@ToString.toString.{0} @String @instToStringString (@PySem.W.Fast.tw16320311567567194475 (@PySem.Str.mk (@Array.mk.{0} @Nat (@List.cons.{0} @Nat (nat_lit 95) (@List.cons.{0} @Nat (nat_lit 95) (@List.cons.{0} @Nat (nat_lit 110) (@List.cons.{0} @Nat (nat_lit 101) (@List.cons.{0} @Nat (nat_lit 119) (@List.cons.{0} @Nat (nat_lit 95) (@List.cons.{0} @Nat (nat_lit 95) (@List.nil.{0} @Nat))))))))))))))), (Option.some (Value.bool Bool.true))]))), (154, (ob (vt SL.s14755015743595814543x17) (Data.fields (Array.mk [(vs "__dict__" 385), (vr 153), (Value.builtin SL.s6511155373996960695x17), (Value.builtin SL.s12411053484034534018x21)])))), (155, (ob (vt SL.s14755015743595814543x17) (Data.fields (Array.mk [(vs "__weakref__" 387), (vr 153), (Value.builtin SL.s10220274742760427390x26), Value.none]))))]
noncomputable def L2_1 (w : World) : List (Nat × Obj) := [(156, (ob (vt SL.s4290257624100764138x5) (Data.fields (Array.mk [(vr 153), (vr 153), (vr 153)])))), (157, (ob (vt SL.s11030030927630378310x26) (Data.fields (Array.mk [(Value.builtin (@HAppend.hAppend.{0, 0, 0} @String @String @String (@instHAppendOfAppend.{0} @String @PySem.W.Fast.tw9309626314029892736) (@HAppend.hAppend.{0, 0, 0} @String @String @String (@instHAppendOfAppend.{0} @String @PySem.W.Fast.tw9309626314029892736) (@ToString.toString.{0} @String @instToStringString @PySem.W.SL.s2742458400755230247x6) (@ToString.toString.{0} @String @instToStringString ".")) (@ToString.toString.{0} @String @instToStringString (@PySem.W.Fast.tw16320311567567194475 (@PySem.Str.mk (@Array.mk.{0} @Nat (@List.cons.{0} @Nat (nat_lit 95) (@List.cons.{0} @Nat (nat_lit 95) (@List.cons.{0} @Nat (nat_lit 105) (@List.cons.{0} @Nat (nat_lit 110) (@List.cons.{0} @Nat (nat_lit 105) (@List.cons.{0} @Nat (nat_lit 116) (@List.cons.{0} @Nat (nat_lit 95) (@List.cons.{0} @Nat (nat_lit 115) (@List.cons.{0} @Nat (nat_lit 117) (@List.cons.{0} @Nat (nat_lit 98) (@List.cons.{0} @Nat (nat_lit 99) (@List.cons.{0} @Nat (nat_lit 108) (@List.cons.{0} @Nat (nat_lit 97) (@List.cons.{0} @Nat (nat_lit 115) (@List.cons.{0} @Nat (nat_lit 115) (@List.cons.{0} @Nat (nat_lit 95) (@List.cons.{0} @Nat (nat_lit 95) (@List.nil.{0} @Nat)))))))))))))))))))))))), (vr 153)])))), (158, (ob (vt SL.s2766695959194262286x5) (Data.seq (Array.mk []) 0))), (159, (ob Value.none (Data.fields (Array.mk [])))), (160, (ob (vt SL.s2766695959194262286x5) (Data.seq (Array.mk [(vs "tables" 396), (vs "name" 397), (vs "table" 398)]) 0))), (161, (ob (vt SL.s2766695959194262286x5) (Data.seq (Array.mk []) 0))), (162, (ob Value.none (Data.func (FuncData.mk (Str.ofString "table_named") (Str.ofString "table_named") (L2.defArgs (tp 11)) (FuncBody.stmts (L2.defBody (tp 11))) (L2.defScope (tp 11)) 0 [] Value.none Value.none Value.none Value.none Option.none Value.none Value.none 0)))), (163, (ob (vt SL.s5856160107412720595x4) (Data.fields (Array.mk [(vs "table_named" 393), (vs "table_named" 394), (vs "/claim/cut.py" 395), (vi 70 0), (vi 2 0), (vi 0 0), (vi 0 0), (vi 3 0), (vr 158), (Value.bool Bool.true), (vi 181 0), (vr 159), Value.none, (vr 160), (vr 161), (vr 162), (vi 399 0), (vi 70 0), (vs "/claim/cut.py" 400)])))), (164, (ob (vt SL.s7174869446012820540x8) (Data.func (FuncData.mk (Str.ofString "table_named") (Str.ofString "table_named") (L2.defArgs (tp 11)) (FuncBody.stmts (L2.defBody (tp 11))) (L2.defScope (tp 11)) 3 [] Value.none Value.none Value.none (vs "oneheap.store.tables" 267) Option.none (vr 163) Value.none 0)))), (165, (ob (vt SL.s2766695959194262286x5) (Data.seq (Array.mk []) 0))), (166, (ob Value.none (Data.fields (Array.mk [])))), (167, (ob Value.none (Data.func (FuncData.mk (Str.ofString "numbers_by_table") (Str.ofString "numbers_by_table") (L2.defArgs (tp 13)) (FuncBody.stmts (L2.defBody (tp 13))) (L2.defScope (tp 13)) 0 [] Value.none Value.none Value.none Value.none Option.none Value.none Value.none 0)))), (168, (ob (vt SL.s5856160107412720595x4) (Data.fields (Array.mk [(vs "numbers_by_table" 404), (vs "numbers_by_table" 405), (vs "/claim/cut.py" 406), (vi 76 0), (vi 2 0), (vi 0 0), (vi 0 0), (vi 3 0), (vr 165), (Value.bool Bool.true), (vi 181 0), (vr 166), Value.none, Value.none, Value.none, (vr 167), (vi 407 0), (vi 76 0), (vs "/claim/cut.py" 408)])))), (169, (ob (vt SL.s7174869446012820540x8) (Data.func (FuncData.mk (Str.ofString "numbers_by_table") (Str.ofString "numbers_by_table") (L2.defArgs (tp 13)) (FuncBody.stmts (L2.defBody (tp 13))) (L2.defScope (tp 13)) 3 [] Value.none Value.none Value.none (vs "oneheap.store.transactions" 402) Option.none (vr 168) Value.none 0)))), (170, (ob (vt SL.s2766695959194262286x5) (Data.seq (Array.mk []) 0))), (171, (ob Value.none (Data.fields (Array.mk [])))), (172, (ob Value.none (Data.func (FuncData.mk (Str.ofString "is_there") (Str.ofString "is_there") (L2.defArgs (tp 14)) (FuncBody.stmts (L2.defBody (tp 14))) (L2.defScope (tp 14)) 0 [] Value.none Value.none Value.none Value.none Option.none Value.none Value.none 0)))), (173, (ob (vt SL.s5856160107412720595x4) (Data.fields (Array.mk [(vs "is_there" 410), (vs "is_there" 411), (vs "/claim/cut.py" 412), (vi 81 0), (vi 3 0), (vi 0 0), (vi 0 0), (vi 3 0), (vr 170), (Value.bool Bool.true), (vi 181 0), (vr 171), Value.none, Value.none, Value.none, (vr 172), (vi 413 0), (vi 81 0), (vs "/claim/cut.py" 414)])))), (174, (ob (vt SL.s7174869446012820540x8) (Data.func (FuncData.mk (Str.ofString "is_there") (Str.ofString "is_there") (L2.defArgs (tp 14)) (FuncBody.stmts (L2.defBody (tp 14))) (L2.defScope (tp 14)) 3 [] Value.none Value.none Value.none (vs "oneheap.store.transactions" 402) Option.none (vr 173) Value.none 0)))), (175, (ob (vt SL.s2766695959194262286x5) (Data.seq (Array.mk []) 0))), (176, (ob Value.none (Data.fields (Array.mk [])))), (177, (ob (vt SL.s2766695959194262286x5) (Data.seq (Array.mk [(vs "tables" 419), (vs "rows" 420), (vs "known" 421), (vs "row" 422), (vs "place" 423), (vs "column" 424), (vs "number" 425)]) 0))), (178, (ob (vt SL.s2766695959194262286x5) (Data.seq (Array.mk []) 0))), (179, (ob Value.none (Data.func (FuncData.mk (Str.ofString "first_missing") (Str.ofString "first_missing") (L2.defArgs (tp 15)) (FuncBody.stmts (L2.defBody (tp 15))) (L2.defScope (tp 15)) 0 [] Value.none Value.none Value.none Value.none Option.none Value.none Value.none 0)))), (180, (ob (vt SL.s5856160107412720595x4) (Data.fields (Array.mk [(vs "first_missing" 416), (vs "first_missing" 417), (vs "/claim/cut.py" 418), (vi 83 0), (vi 2 0), (vi 0 0), (vi 0 0), (vi 3 0), (vr 175), (Value.bool Bool.true), (vi 181 0), (vr 176), Value.none, (vr 177), (vr 178), (vr 179), (vi 426 0), (vi 83 0), (vs "/claim/cut.py" 427)])))), (181, (ob (vt SL.s7174869446012820540x8) (Data.func (FuncData.mk (Str.ofString "first_missing") (Str.ofString "first_missing") (L2.defArgs (tp 15)) (FuncBody.stmts (L2.defBody (tp 15))) (L2.defScope (tp 15)) 3 [] Value.none Value.none Value.none (vs "oneheap.store.transactions" 402) Option.none (vr 180) Value.none 0)))), (182, (ob (vt SL.s2766695959194262286x5) (Data.seq (Array.mk []) 0))), (183, (ob Value.none (Data.fields (Array.mk [])))), (184, (ob (vt SL.s2766695959194262286x5) (Data.seq (Array.mk [(vs "tables" 432), (vs "rows" 433), (vs "seen" 434), (vs "row" 435), (vs "table" 436), (vs "key" 437), (vs "found" 438)]) 0))), (185, (ob (vt SL.s2766695959194262286x5) (Data.seq (Array.mk []) 0)))]
noncomputable def L2_2 (w : World) : List (Nat × Obj) := [(186, (ob Value.none (Data.func (FuncData.mk (Str.ofString "first_clash") (Str.ofString "first_clash") (L2.defArgs (tp 16)) (FuncBody.stmts (L2.defBody (tp 16))) (L2.defScope (tp 16)) 0 [] Value.none Value.none Value.none Value.none Option.none Value.none Value.none 0)))), (187, (ob (vt SL.s5856160107412720595x4) (Data.fields (Array.mk [(vs "first_clash" 429), (vs "first_clash" 430), (vs "/claim/cut.py" 431), (vi 91 0), (vi 2 0), (vi 0 0), (vi 0 0), (vi 3 0), (vr 182), (Value.bool Bool.true), (vi 181 0), (vr 183), Value.none, (vr 184), (vr 185), (vr 186), (vi 439 0), (vi 91 0), (vs "/claim/cut.py" 440)])))), (188, (ob (vt SL.s7174869446012820540x8) (Data.func (FuncData.mk (Str.ofString "first_clash") (Str.ofString "first_clash") (L2.defArgs (tp 16)) (FuncBody.stmts (L2.defBody (tp 16))) (L2.defScope (tp 16)) 3 [] Value.none Value.none Value.none (vs "oneheap.store.transactions" 402) Option.none (vr 187) Value.none 0)))), (189, (ob (vt SL.s2766695959194262286x5) (Data.seq (Array.mk []) 0))), (190, (ob Value.none (Data.fields (Array.mk [])))), (191, (ob (vt SL.s2766695959194262286x5) (Data.seq (Array.mk [(vs "tables" 445), (vs "rows" 446), (vs "ordered" 447), (vs "number" 448)]) 0))), (192, (ob (vt SL.s2766695959194262286x5) (Data.seq (Array.mk []) 0))), (193, (ob Value.none (Data.func (FuncData.mk (Str.ofString "first_fault") (Str.ofString "first_fault") (L2.defArgs (tp 17)) (FuncBody.stmts (L2.defBody (tp 17))) (L2.defScope (tp 17)) 0 [] Value.none Value.none Value.none Value.none Option.none Value.none Value.none 0)))), (194, (ob (vt SL.s5856160107412720595x4) (Data.fields (Array.mk [(vs "first_fault" 442), (vs "first_fault" 443), (vs "/claim/cut.py" 444), (vi 102 0), (vi 2 0), (vi 0 0), (vi 0 0), (vi 3 0), (vr 189), (Value.bool Bool.true), (vi 181 0), (vr 190), Value.none, (vr 191), (vr 192), (vr 193), (vi 449 0), (vi 102 0), (vs "/claim/cut.py" 450)])))), (195, (ob (vt SL.s7174869446012820540x8) (Data.func (FuncData.mk (Str.ofString "first_fault") (Str.ofString "first_fault") (L2.defArgs (tp 17)) (FuncBody.stmts (L2.defBody (tp 17))) (L2.defScope (tp 17)) 3 [] Value.none Value.none Value.none (vs "oneheap.store.transactions" 402) Option.none (vr 194) Value.none 0)))), (196, (ob (vt SL.s2766695959194262286x5) (Data.seq (Array.mk []) 0))), (197, (ob Value.none (Data.fields (Array.mk [])))), (198, (ob Value.none (Data.func (FuncData.mk (Str.ofString "has_mark") (Str.ofString "has_mark") (L2.defArgs (tp 18)) (FuncBody.stmts (L2.defBody (tp 18))) (L2.defScope (tp 18)) 0 [] Value.none Value.none Value.none Value.none Option.none Value.none Value.none 0)))), (199, (ob (vt SL.s5856160107412720595x4) (Data.fields (Array.mk [(vs "has_mark" 452), (vs "has_mark" 453), (vs "/claim/cut.py" 454), (vi 111 0), (vi 1 0), (vi 0 0), (vi 0 0), (vi 3 0), (vr 196), (Value.bool Bool.true), (vi 181 0), (vr 197), Value.none, Value.none, Value.none, (vr 198), (vi 455 0), (vi 111 0), (vs "/claim/cut.py" 456)])))), (200, (ob (vt SL.s7174869446012820540x8) (Data.func (FuncData.mk (Str.ofString "has_mark") (Str.ofString "has_mark") (L2.defArgs (tp 18)) (FuncBody.stmts (L2.defBody (tp 18))) (L2.defScope (tp 18)) 3 [] Value.none Value.none Value.none (vs "oneheap.store.transactions" 402) Option.none (vr 199) Value.none 0)))), (201, (ob (vt SL.s2766695959194262286x5) (Data.seq (Array.mk []) 0))), (202, (ob Value.none (Data.fields (Array.mk [])))), (203, (ob Value.none (Data.func (FuncData.mk (Str.ofString "are_in_order") (Str.ofString "are_in_order") (L2.defArgs (tp 19)) (FuncBody.stmts (L2.defBody (tp 19))) (L2.defScope (tp 19)) 0 [] Value.none Value.none Value.none Value.none Option.none Value.none Value.none 0)))), (204, (ob (vt SL.s5856160107412720595x4) (Data.fields (Array.mk [(vs "are_in_order" 458), (vs "are_in_order" 459), (vs "/claim/cut.py" 460), (vi 113 0), (vi 2 0), (vi 0 0), (vi 0 0), (vi 3 0), (vr 201), (Value.bool Bool.true), (vi 181 0), (vr 202), Value.none, Value.none, Value.none, (vr 203), (vi 461 0), (vi 113 0), (vs "/claim/cut.py" 462)])))), (205, (ob (vt SL.s7174869446012820540x8) (Data.func (FuncData.mk (Str.ofString "are_in_order") (Str.ofString "are_in_order") (L2.defArgs (tp 19)) (FuncBody.stmts (L2.defBody (tp 19))) (L2.defScope (tp 19)) 3 [] Value.none Value.none Value.none (vs "oneheap.store.transactions" 402) Option.none (vr 204) Value.none 0)))), (206, (ob (vt SL.s2766695959194262286x5) (Data.seq (Array.mk []) 0))), (207, (ob Value.none (Data.fields (Array.mk [])))), (208, (ob (vt SL.s2766695959194262286x5) (Data.seq (Array.mk [(vs "_law_script" 469), (vs "_law_count" 470), (vs "_law_cells_here" 471), (vs "_law_k" 472), (vs "_law_cell" 473)]) 0))), (209, (ob (vt SL.s2766695959194262286x5) (Data.seq (Array.mk []) 0))), (210, (ob Value.none (Data.func (FuncData.mk (Str.ofString "_law_cells") (Str.ofString "_law_cells") (L2.defArgs (tp 21)) (FuncBody.stmts (L2.defBody (tp 21))) (L2.defScope (tp 21)) 0 [] Value.none Value.none Value.none Value.none Option.none Value.none Value.none 0)))), (211, (ob (vt SL.s5856160107412720595x4) (Data.fields (Array.mk [(vs "_law_cells" 466), (vs "_law_cells" 467), (vs "/claim/cut.py" 468), (vi 119 0), (vi 2 0), (vi 0 0), (vi 0 0), (vi 3 0), (vr 206), (Value.bool Bool.true), (vi 181 0), (vr 207), Value.none, (vr 208), (vr 209), (vr 210), (vi 474 0), (vi 119 0), (vs "/claim/cut.py" 475)])))), (212, (ob (vt SL.s7174869446012820540x8) (Data.func (FuncData.mk (Str.ofString "_law_cells") (Str.ofString "_law_cells") (L2.defArgs (tp 21)) (FuncBody.stmts (L2.defBody (tp 21))) (L2.defScope (tp 21)) 3 [] Value.none Value.none Value.none (vs "law_oneheap_k54_rows_in_order" 464) Option.none (vr 211) Value.none 0)))), (213, (ob (vt SL.s2766695959194262286x5) (Data.seq (Array.mk []) 0))), (214, (ob Value.none (Data.fields (Array.mk [])))), (215, (ob (vt SL.s2766695959194262286x5) (Data.seq (Array.mk [(vs "_law_draws" 480), (vs "_law_bound" 481), (vs "_law_amount" 482)]) 0)))]
noncomputable def L2_3 (w : World) : List (Nat × Obj) := [(216, (ob (vt SL.s2766695959194262286x5) (Data.seq (Array.mk []) 0))), (217, (ob Value.none (Data.func (FuncData.mk (Str.ofString "_law_draw") (Str.ofString "_law_draw") (L2.defArgs (tp 22)) (FuncBody.stmts (L2.defBody (tp 22))) (L2.defScope (tp 22)) 0 [] Value.none Value.none Value.none Value.none Option.none Value.none Value.none 0)))), (218, (ob (vt SL.s5856160107412720595x4) (Data.fields (Array.mk [(vs "_law_draw" 477), (vs "_law_draw" 478), (vs "/claim/cut.py" 479), (vi 132 0), (vi 2 0), (vi 0 0), (vi 0 0), (vi 3 0), (vr 213), (Value.bool Bool.true), (vi 181 0), (vr 214), Value.none, (vr 215), (vr 216), (vr 217), (vi 483 0), (vi 132 0), (vs "/claim/cut.py" 484)])))), (219, (ob (vt SL.s7174869446012820540x8) (Data.func (FuncData.mk (Str.ofString "_law_draw") (Str.ofString "_law_draw") (L2.defArgs (tp 22)) (FuncBody.stmts (L2.defBody (tp 22))) (L2.defScope (tp 22)) 3 [] Value.none Value.none Value.none (vs "law_oneheap_k54_rows_in_order" 464) Option.none (vr 218) Value.none 0)))), (220, (ob (vt SL.s2766695959194262286x5) (Data.seq (Array.mk []) 0))), (221, (ob Value.none (Data.fields (Array.mk [])))), (222, (ob (vt SL.s2766695959194262286x5) (Data.seq (Array.mk [(vs "_law_draws" 489), (vs "_law_row" 490)]) 0))), (223, (ob (vt SL.s2766695959194262286x5) (Data.seq (Array.mk []) 0))), (224, (ob Value.none (Data.func (FuncData.mk (Str.ofString "_law_pick") (Str.ofString "_law_pick") (L2.defArgs (tp 23)) (FuncBody.stmts (L2.defBody (tp 23))) (L2.defScope (tp 23)) 0 [] Value.none Value.none Value.none Value.none Option.none Value.none Value.none 0)))), (225, (ob (vt SL.s5856160107412720595x4) (Data.fields (Array.mk [(vs "_law_pick" 486), (vs "_law_pick" 487), (vs "/claim/cut.py" 488), (vi 138 0), (vi 2 0), (vi 0 0), (vi 0 0), (vi 3 0), (vr 220), (Value.bool Bool.true), (vi 181 0), (vr 221), Value.none, (vr 222), (vr 223), (vr 224), (vi 491 0), (vi 138 0), (vs "/claim/cut.py" 492)])))), (226, (ob (vt SL.s7174869446012820540x8) (Data.func (FuncData.mk (Str.ofString "_law_pick") (Str.ofString "_law_pick") (L2.defArgs (tp 23)) (FuncBody.stmts (L2.defBody (tp 23))) (L2.defScope (tp 23)) 3 [] Value.none Value.none Value.none (vs "law_oneheap_k54_rows_in_order" 464) Option.none (vr 225) Value.none 0)))), (227, (ob (vt SL.s2766695959194262286x5) (Data.seq (Array.mk []) 0))), (228, (ob Value.none (Data.fields (Array.mk [])))), (229, (ob (vt SL.s2766695959194262286x5) (Data.seq (Array.mk [(vs "_law_mains" 497), (vs "_law_first" 498), (vs "_law_second" 499), (vs "_law_third" 500)]) 0))), (230, (ob (vt SL.s2766695959194262286x5) (Data.seq (Array.mk []) 0))), (231, (ob Value.none (Data.func (FuncData.mk (Str.ofString "_law_tables") (Str.ofString "_law_tables") (L2.defArgs (tp 24)) (FuncBody.stmts (L2.defBody (tp 24))) (L2.defScope (tp 24)) 0 [] Value.none Value.none Value.none Value.none Option.none Value.none Value.none 0)))), (232, (ob (vt SL.s5856160107412720595x4) (Data.fields (Array.mk [(vs "_law_tables" 494), (vs "_law_tables" 495), (vs "/claim/cut.py" 496), (vi 140 0), (vi 0 0), (vi 0 0), (vi 0 0), (vi 3 0), (vr 227), (Value.bool Bool.true), (vi 181 0), (vr 228), Value.none, (vr 229), (vr 230), (vr 231), (vi 501 0), (vi 140 0), (vs "/claim/cut.py" 502)])))), (233, (ob (vt SL.s7174869446012820540x8) (Data.func (FuncData.mk (Str.ofString "_law_tables") (Str.ofString "_law_tables") (L2.defArgs (tp 24)) (FuncBody.stmts (L2.defBody (tp 24))) (L2.defScope (tp 24)) 3 [] Value.none Value.none Value.none (vs "law_oneheap_k54_rows_in_order" 464) Option.none (vr 232) Value.none 0)))), (234, (ob (vt SL.s2766695959194262286x5) (Data.seq (Array.mk []) 0))), (235, (ob Value.none (Data.fields (Array.mk [])))), (236, (ob (vt SL.s2766695959194262286x5) (Data.seq (Array.mk [(vs "_law_draws" 507), (vs "_law_numbers" 508), (vs "_law_row" 509), (vs "_law_turn" 510), (vs "_law_number" 511)]) 0))), (237, (ob (vt SL.s2766695959194262286x5) (Data.seq (Array.mk []) 0))), (238, (ob Value.none (Data.func (FuncData.mk (Str.ofString "_law_links") (Str.ofString "_law_links") (L2.defArgs (tp 25)) (FuncBody.stmts (L2.defBody (tp 25))) (L2.defScope (tp 25)) 0 [] Value.none Value.none Value.none Value.none Option.none Value.none Value.none 0)))), (239, (ob (vt SL.s5856160107412720595x4) (Data.fields (Array.mk [(vs "_law_links" 504), (vs "_law_links" 505), (vs "/claim/cut.py" 506), (vi 146 0), (vi 2 0), (vi 0 0), (vi 0 0), (vi 3 0), (vr 234), (Value.bool Bool.true), (vi 181 0), (vr 235), Value.none, (vr 236), (vr 237), (vr 238), (vi 512 0), (vi 146 0), (vs "/claim/cut.py" 513)])))), (240, (ob (vt SL.s7174869446012820540x8) (Data.func (FuncData.mk (Str.ofString "_law_links") (Str.ofString "_law_links") (L2.defArgs (tp 25)) (FuncBody.stmts (L2.defBody (tp 25))) (L2.defScope (tp 25)) 3 [] Value.none Value.none Value.none (vs "law_oneheap_k54_rows_in_order" 464) Option.none (vr 239) Value.none 0)))), (241, (ob (vt SL.s2766695959194262286x5) (Data.seq (Array.mk []) 0))), (242, (ob Value.none (Data.fields (Array.mk [])))), (243, (ob (vt SL.s2766695959194262286x5) (Data.seq (Array.mk [(vs "_law_draws" 518), (vs "_law_numbers" 519)]) 0))), (244, (ob (vt SL.s2766695959194262286x5) (Data.seq (Array.mk []) 0))), (245, (ob Value.none (Data.func (FuncData.mk (Str.ofString "_law_ref") (Str.ofString "_law_ref") (L2.defArgs (tp 26)) (FuncBody.stmts (L2.defBody (tp 26))) (L2.defScope (tp 26)) 0 [] Value.none Value.none Value.none Value.none Option.none Value.none Value.none 0))))]
noncomputable def L2_4 (w : World) : List (Nat × Obj) := [(246, (ob (vt SL.s5856160107412720595x4) (Data.fields (Array.mk [(vs "_law_ref" 515), (vs "_law_ref" 516), (vs "/claim/cut.py" 517), (vi 154 0), (vi 2 0), (vi 0 0), (vi 0 0), (vi 3 0), (vr 241), (Value.bool Bool.true), (vi 181 0), (vr 242), Value.none, (vr 243), (vr 244), (vr 245), (vi 520 0), (vi 154 0), (vs "/claim/cut.py" 521)])))), (247, (ob (vt SL.s7174869446012820540x8) (Data.func (FuncData.mk (Str.ofString "_law_ref") (Str.ofString "_law_ref") (L2.defArgs (tp 26)) (FuncBody.stmts (L2.defBody (tp 26))) (L2.defScope (tp 26)) 3 [] Value.none Value.none Value.none (vs "law_oneheap_k54_rows_in_order" 464) Option.none (vr 246) Value.none 0))))]
noncomputable def B2 (w : World) : BT := putL (putL (putL (putL (putL (B1 w) (L2_0 w)) (L2_1 w)) (L2_2 w)) (L2_3 w)) (L2_4 w)
noncomputable def S2 (w : World) (os : OsState) : SharedT := ⟨B2 w, 248 , (Life.mk [] [] [] 0 [] [] Bool.false (Array.mk []) [] 0 Bool.false Bool.false Bool.false (Int.ofNat 0) [(Int.ofNat 2000), (Int.ofNat 10), (Int.ofNat 10)] Bool.false 0 Bool.true [] [] 0 Bool.false) , (Array.mk []) , (Drawn.mk 0 0 0 0) , 523, os⟩
noncomputable def T2 (w : World) (os : OsState) : Thread := ⟨denQ tabQ (.body (dr 27) env0), .body (behindTheImports P) env0, (Pos.mk 154 0 157 46), stk w os⟩
theorem c2 (w : World) (os : OsState) : goS (ST w) N0 (bootAnn w) 711 (S1 w os) (T1 w os) = some (S2 w os, T2 w os) := by kernel_rfl
noncomputable def L3_0 (w : World) : List (Nat × Obj) := [(3, (ob (vt "dict") (Data.dict (Array.mk [(de w "__name__" 165 (vs "law_oneheap_k54_rows_in_order" 464)), (de w "__doc__" 166 Value.none), (de w "__package__" 167 Value.none), (de w "__loader__" 168 (Value.builtin "__main__.__loader__#opaque")), (de w "__spec__" 169 Value.none), (de w "__annotations__" 170 (vr 6)), (de w "__builtins__" 171 (vr 4)), (de w "__file__" 173 (vs "/claim/cut.py" 172)), (de w "__cached__" 174 Value.none), (de w "MARK" 190 (vr 15)), (de w "Row" 228 (vr 37)), (de w "cell_copy" 235 (vr 48)), (de w "sorted_rows" 246 (vr 55)), (de w "key_value" 258 (vr 62)), (de w "cell_numbers" 266 (vr 69)), (de w "Column" 310 (vr 95)), (de w "StoreKey" 350 (vr 123)), (de w "Table" 392 (vr 153)), (de w "table_named" 401 (vr 164)), (de w "numbers_by_table" 409 (vr 169)), (de w "is_there" 415 (vr 174)), (de w "first_missing" 428 (vr 181)), (de w "first_clash" 441 (vr 188)), (de w "first_fault" 451 (vr 195)), (de w "has_mark" 457 (vr 200)), (de w "are_in_order" 463 (vr 205)), (de w "_law_cells" 476 (vr 212)), (de w "_law_draw" 485 (vr 219)), (de w "_law_pick" 493 (vr 226)), (de w "_law_tables" 503 (vr 233)), (de w "_law_links" 514 (vr 240)), (de w "_law_ref" 522 (vr 247)), (de w "_law_cell_row" 532 (vr 254)), (de w "_law_places" 543 (vr 261)), (de w "_law_rows" 549 (vr 266)), (de w "_law_held" 556 (vr 273)), (de w "_law_referred" 564 (vr 280)), (de w "_law_key" 573 (vr 287)), (de w "_law_sorted" 579 (vr 292)), (de w "_law_fault" 585 (vr 297)), (de w "_law_marked" 591 (vr 302)), (de w "_law_plain" 597 (vr 307)), (de w "law" 603 (vr 312))]) 43))), (12, (ob Value.none (Data.fields (Array.mk [(vi 3 0), (vi 0 0), (vr 21), (vi 14 0), (vi 0 0), (vr 47), (vi 18 0), (vi 0 0), (vr 54), (vi 23 0), (vi 0 0), (vr 61), (vi 31 0), (vi 0 0), (vr 68), (vi 38 0), (vi 0 0), (vr 75), (vi 49 0), (vi 0 0), (vr 105), (vi 59 0), (vi 0 0), (vr 133), (vi 70 0), (vi 0 0), (vr 163), (vi 76 0), (vi 0 0), (vr 168), (vi 81 0), (vi 0 0), (vr 173), (vi 83 0), (vi 0 0), (vr 180), (vi 91 0), (vi 0 0), (vr 187), (vi 102 0), (vi 0 0), (vr 194), (vi 111 0), (vi 0 0), (vr 199), (vi 113 0), (vi 0 0), (vr 204), (vi 119 0), (vi 0 0), (vr 211), (vi 132 0), (vi 0 0), (vr 218), (vi 138 0), (vi 0 0), (vr 225), (vi 140 0), (vi 0 0), (vr 232), (vi 146 0), (vi 0 0), (vr 239), (vi 154 0), (vi 0 0), (vr 246), (vi 158 0), (vi 0 0), (vr 253), (vi 165 0), (vi 0 0), (vr 260), (vi 173 0), (vi 0 0), (vr 265), (vi 187 0), (vi 0 0), (vr 272), (vi 193 0), (vi 0 0), (vr 279), (vi 199 0), (vi 0 0), (vr 286), (vi 206 0), (vi 0 0), (vr 291), (vi 213 0), (vi 0 0), (vr 296), (vi 228 0), (vi 0 0), (vr 301), (vi 230 0), (vi 0 0), (vr 306), (vi 232 0), (vi 0 0), (vr 311)])))), (248, (ob (vt SL.s2766695959194262286x5) (Data.seq (Array.mk []) 0))), (249, (ob Value.none (Data.fields (Array.mk [])))), (250, (ob (vt SL.s2766695959194262286x5) (Data.seq (Array.mk [(vs "_law_draws" 526), (vs "_law_table" 527), (vs "_law_numbers" 528), (vs "_law_key_here" 529)]) 0))), (251, (ob (vt SL.s2766695959194262286x5) (Data.seq (Array.mk []) 0))), (252, (ob Value.none (Data.func (FuncData.mk (Str.ofString "_law_cell_row") (Str.ofString "_law_cell_row") (L2.defArgs (tp 27)) (FuncBody.stmts (L2.defBody (tp 27))) (L2.defScope (tp 27)) 0 [] Value.none Value.none Value.none Value.none Option.none Value.none Value.none 0)))), (253, (ob (vt SL.s5856160107412720595x4) (Data.fields (Array.mk [(vs "_law_cell_row" 523), (vs "_law_cell_row" 524), (vs "/claim/cut.py" 525), (vi 158 0), (vi 3 0), (vi 0 0), (vi 0 0), (vi 3 0), (vr 248), (Value.bool Bool.true), (vi 181 0), (vr 249), Value.none, (vr 250), (vr 251), (vr 252), (vi 530 0), (vi 158 0), (vs "/claim/cut.py" 531)])))), (254, (ob (vt SL.s7174869446012820540x8) (Data.func (FuncData.mk (Str.ofString "_law_cell_row") (Str.ofString "_law_cell_row") (L2.defArgs (tp 27)) (FuncBody.stmts (L2.defBody (tp 27))) (L2.defScope (tp 27)) 3 [] Value.none Value.none Value.none (vs "law_oneheap_k54_rows_in_order" 464) Option.none (vr 253) Value.none 0)))), (255, (ob (vt SL.s2766695959194262286x5) (Data.seq (Array.mk []) 0))), (256, (ob Value.none (Data.fields (Array.mk [])))), (257, (ob (vt SL.s2766695959194262286x5) (Data.seq (Array.mk [(vs "_law_draws" 536), (vs "_law_places_here" 537), (vs "_law_table" 538), (vs "_law_turn" 539), (vs "_law_place" 540)]) 0))), (258, (ob (vt SL.s2766695959194262286x5) (Data.seq (Array.mk []) 0))), (259, (ob Value.none (Data.func (FuncData.mk (Str.ofString "_law_places") (Str.ofString "_law_places") (L2.defArgs (tp 28)) (FuncBody.stmts (L2.defBody (tp 28))) (L2.defScope (tp 28)) 0 [] Value.none Value.none Value.none Value.none Option.none Value.none Value.none 0)))), (260, (ob (vt SL.s5856160107412720595x4) (Data.fields (Array.mk [(vs "_law_places" 533), (vs "_law_places" 534), (vs "/claim/cut.py" 535), (vi 165 0), (vi 1 0), (vi 0 0), (vi 0 0), (vi 3 0), (vr 255), (Value.bool Bool.true), (vi 181 0), (vr 256), Value.none, (vr 257), (vr 258), (vr 259), (vi 541 0), (vi 165 0), (vs "/claim/cut.py" 542)])))), (261, (ob (vt SL.s7174869446012820540x8) (Data.func (FuncData.mk (Str.ofString "_law_places") (Str.ofString "_law_places") (L2.defArgs (tp 28)) (FuncBody.stmts (L2.defBody (tp 28))) (L2.defScope (tp 28)) 3 [] Value.none Value.none Value.none (vs "law_oneheap_k54_rows_in_order" 464) Option.none (vr 260) Value.none 0)))), (262, (ob (vt SL.s2766695959194262286x5) (Data.seq (Array.mk []) 0))), (263, (ob Value.none (Data.fields (Array.mk [])))), (264, (ob Value.none (Data.func (FuncData.mk (Str.ofString "_law_rows") (Str.ofString "_law_rows") (L2.defArgs (tp 29)) (FuncBody.stmts (L2.defBody (tp 29))) (L2.defScope (tp 29)) 0 [] Value.none Value.none Value.none Value.none Option.none Value.none Value.none 0)))), (265, (ob (vt SL.s5856160107412720595x4) (Data.fields (Array.mk [(vs "_law_rows" 544), (vs "_law_rows" 545), (vs "/claim/cut.py" 546), (vi 173 0), (vi 1 0), (vi 0 0), (vi 0 0), (vi 3 0), (vr 262), (Value.bool Bool.true), (vi 181 0), (vr 263), Value.none, Value.none, Value.none, (vr 264), (vi 547 0), (vi 173 0), (vs "/claim/cut.py" 548)])))), (266, (ob (vt SL.s7174869446012820540x8) (Data.func (FuncData.mk (Str.ofString "_law_rows") (Str.ofString "_law_rows") (L2.defArgs (tp 29)) (FuncBody.stmts (L2.defBody (tp 29))) (L2.defScope (tp 29)) 3 [] Value.none Value.none Value.none (vs "law_oneheap_k54_rows_in_order" 464) Option.none (vr 265) Value.none 0)))), (267, (ob (vt SL.s2766695959194262286x5) (Data.seq (Array.mk []) 0))), (268, (ob Value.none (Data.fields (Array.mk [])))), (269, (ob (vt SL.s2766695959194262286x5) (Data.seq (Array.mk [(vs "_law_cell" 553)]) 0))), (270, (ob (vt SL.s2766695959194262286x5) (Data.seq (Array.mk []) 0))), (271, (ob Value.none (Data.func (FuncData.mk (Str.ofString "_law_held") (Str.ofString "_law_held") (L2.defArgs (tp 30)) (FuncBody.stmts (L2.defBody (tp 30))) (L2.defScope (tp 30)) 0 [] Value.none Value.none Value.none Value.none Option.none Value.none Value.none 0)))), (272, (ob (vt SL.s5856160107412720595x4) (Data.fields (Array.mk [(vs "_law_held" 550), (vs "_law_held" 551), (vs "/claim/cut.py" 552), (vi 187 0), (vi 1 0), (vi 0 0), (vi 0 0), (vi 3 0), (vr 267), (Value.bool Bool.true), (vi 181 0), (vr 268), Value.none, (vr 269), (vr 270), (vr 271), (vi 554 0), (vi 187 0), (vs "/claim/cut.py" 555)])))), (273, (ob (vt SL.s7174869446012820540x8) (Data.func (FuncData.mk (Str.ofString "_law_held") (Str.ofString "_law_held") (L2.defArgs (tp 30)) (FuncBody.stmts (L2.defBody (tp 30))) (L2.defScope (tp 30)) 3 [] Value.none Value.none Value.none (vs "law_oneheap_k54_rows_in_order" 464) Option.none (vr 272) Value.none 0)))), (274, (ob (vt SL.s2766695959194262286x5) (Data.seq (Array.mk []) 0))), (275, (ob Value.none (Data.fields (Array.mk []))))]
noncomputable def L3_1 (w : World) : List (Nat × Obj) := [(276, (ob (vt SL.s2766695959194262286x5) (Data.seq (Array.mk [(vs "_law_table" 560), (vs "_law_cells_here" 561)]) 0))), (277, (ob (vt SL.s2766695959194262286x5) (Data.seq (Array.mk []) 0))), (278, (ob Value.none (Data.func (FuncData.mk (Str.ofString "_law_referred") (Str.ofString "_law_referred") (L2.defArgs (tp 31)) (FuncBody.stmts (L2.defBody (tp 31))) (L2.defScope (tp 31)) 0 [] Value.none Value.none Value.none Value.none Option.none Value.none Value.none 0)))), (279, (ob (vt SL.s5856160107412720595x4) (Data.fields (Array.mk [(vs "_law_referred" 557), (vs "_law_referred" 558), (vs "/claim/cut.py" 559), (vi 193 0), (vi 2 0), (vi 0 0), (vi 0 0), (vi 3 0), (vr 274), (Value.bool Bool.true), (vi 181 0), (vr 275), Value.none, (vr 276), (vr 277), (vr 278), (vi 562 0), (vi 193 0), (vs "/claim/cut.py" 563)])))), (280, (ob (vt SL.s7174869446012820540x8) (Data.func (FuncData.mk (Str.ofString "_law_referred") (Str.ofString "_law_referred") (L2.defArgs (tp 31)) (FuncBody.stmts (L2.defBody (tp 31))) (L2.defScope (tp 31)) 3 [] Value.none Value.none Value.none (vs "law_oneheap_k54_rows_in_order" 464) Option.none (vr 279) Value.none 0)))), (281, (ob (vt SL.s2766695959194262286x5) (Data.seq (Array.mk []) 0))), (282, (ob Value.none (Data.fields (Array.mk [])))), (283, (ob (vt SL.s2766695959194262286x5) (Data.seq (Array.mk [(vs "_law_table" 568), (vs "_law_cells_here" 569), (vs "_law_cell" 570)]) 0))), (284, (ob (vt SL.s2766695959194262286x5) (Data.seq (Array.mk []) 0))), (285, (ob Value.none (Data.func (FuncData.mk (Str.ofString "_law_key") (Str.ofString "_law_key") (L2.defArgs (tp 32)) (FuncBody.stmts (L2.defBody (tp 32))) (L2.defScope (tp 32)) 0 [] Value.none Value.none Value.none Value.none Option.none Value.none Value.none 0)))), (286, (ob (vt SL.s5856160107412720595x4) (Data.fields (Array.mk [(vs "_law_key" 565), (vs "_law_key" 566), (vs "/claim/cut.py" 567), (vi 199 0), (vi 2 0), (vi 0 0), (vi 0 0), (vi 3 0), (vr 281), (Value.bool Bool.true), (vi 181 0), (vr 282), Value.none, (vr 283), (vr 284), (vr 285), (vi 571 0), (vi 199 0), (vs "/claim/cut.py" 572)])))), (287, (ob (vt SL.s7174869446012820540x8) (Data.func (FuncData.mk (Str.ofString "_law_key") (Str.ofString "_law_key") (L2.defArgs (tp 32)) (FuncBody.stmts (L2.defBody (tp 32))) (L2.defScope (tp 32)) 3 [] Value.none Value.none Value.none (vs "law_oneheap_k54_rows_in_order" 464) Option.none (vr 286) Value.none 0)))), (288, (ob (vt SL.s2766695959194262286x5) (Data.seq (Array.mk []) 0))), (289, (ob Value.none (Data.fields (Array.mk [])))), (290, (ob Value.none (Data.func (FuncData.mk (Str.ofString "_law_sorted") (Str.ofString "_law_sorted") (L2.defArgs (tp 33)) (FuncBody.stmts (L2.defBody (tp 33))) (L2.defScope (tp 33)) 0 [] Value.none Value.none Value.none Value.none Option.none Value.none Value.none 0)))), (291, (ob (vt SL.s5856160107412720595x4) (Data.fields (Array.mk [(vs "_law_sorted" 574), (vs "_law_sorted" 575), (vs "/claim/cut.py" 576), (vi 206 0), (vi 1 0), (vi 0 0), (vi 0 0), (vi 3 0), (vr 288), (Value.bool Bool.true), (vi 181 0), (vr 289), Value.none, Value.none, Value.none, (vr 290), (vi 577 0), (vi 206 0), (vs "/claim/cut.py" 578)])))), (292, (ob (vt SL.s7174869446012820540x8) (Data.func (FuncData.mk (Str.ofString "_law_sorted") (Str.ofString "_law_sorted") (L2.defArgs (tp 33)) (FuncBody.stmts (L2.defBody (tp 33))) (L2.defScope (tp 33)) 3 [] Value.none Value.none Value.none (vs "law_oneheap_k54_rows_in_order" 464) Option.none (vr 291) Value.none 0)))), (293, (ob (vt SL.s2766695959194262286x5) (Data.seq (Array.mk []) 0))), (294, (ob Value.none (Data.fields (Array.mk [])))), (295, (ob Value.none (Data.func (FuncData.mk (Str.ofString "_law_fault") (Str.ofString "_law_fault") (L2.defArgs (tp 34)) (FuncBody.stmts (L2.defBody (tp 34))) (L2.defScope (tp 34)) 0 [] Value.none Value.none Value.none Value.none Option.none Value.none Value.none 0)))), (296, (ob (vt SL.s5856160107412720595x4) (Data.fields (Array.mk [(vs "_law_fault" 580), (vs "_law_fault" 581), (vs "/claim/cut.py" 582), (vi 213 0), (vi 1 0), (vi 0 0), (vi 0 0), (vi 3 0), (vr 293), (Value.bool Bool.true), (vi 181 0), (vr 294), Value.none, Value.none, Value.none, (vr 295), (vi 583 0), (vi 213 0), (vs "/claim/cut.py" 584)])))), (297, (ob (vt SL.s7174869446012820540x8) (Data.func (FuncData.mk (Str.ofString "_law_fault") (Str.ofString "_law_fault") (L2.defArgs (tp 34)) (FuncBody.stmts (L2.defBody (tp 34))) (L2.defScope (tp 34)) 3 [] Value.none Value.none Value.none (vs "law_oneheap_k54_rows_in_order" 464) Option.none (vr 296) Value.none 0)))), (298, (ob (vt SL.s2766695959194262286x5) (Data.seq (Array.mk []) 0))), (299, (ob Value.none (Data.fields (Array.mk [])))), (300, (ob Value.none (Data.func (FuncData.mk (Str.ofString "_law_marked") (Str.ofString "_law_marked") (L2.defArgs (tp 35)) (FuncBody.stmts (L2.defBody (tp 35))) (L2.defScope (tp 35)) 0 [] Value.none Value.none Value.none Value.none Option.none Value.none Value.none 0)))), (301, (ob (vt SL.s5856160107412720595x4) (Data.fields (Array.mk [(vs "_law_marked" 586), (vs "_law_marked" 587), (vs "/claim/cut.py" 588), (vi 228 0), (vi 1 0), (vi 0 0), (vi 0 0), (vi 3 0), (vr 298), (Value.bool Bool.true), (vi 181 0), (vr 299), Value.none, Value.none, Value.none, (vr 300), (vi 589 0), (vi 228 0), (vs "/claim/cut.py" 590)])))), (302, (ob (vt SL.s7174869446012820540x8) (Data.func (FuncData.mk (Str.ofString "_law_marked") (Str.ofString "_law_marked") (L2.defArgs (tp 35)) (FuncBody.stmts (L2.defBody (tp 35))) (L2.defScope (tp 35)) 3 [] Value.none Value.none Value.none (vs "law_oneheap_k54_rows_in_order" 464) Option.none (vr 301) Value.none 0)))), (303, (ob (vt SL.s2766695959194262286x5) (Data.seq (Array.mk []) 0))), (304, (ob Value.none (Data.fields (Array.mk [])))), (305, (ob Value.none (Data.func (FuncData.mk (Str.ofString "_law_plain") (Str.ofString "_law_plain") (L2.defArgs (tp 36)) (FuncBody.stmts (L2.defBody (tp 36))) (L2.defScope (tp 36)) 0 [] Value.none Value.none Value.none Value.none Option.none Value.none Value.none 0))))]
noncomputable def L3_2 (w : World) : List (Nat × Obj) := [(306, (ob (vt SL.s5856160107412720595x4) (Data.fields (Array.mk [(vs "_law_plain" 592), (vs "_law_plain" 593), (vs "/claim/cut.py" 594), (vi 230 0), (vi 1 0), (vi 0 0), (vi 0 0), (vi 3 0), (vr 303), (Value.bool Bool.true), (vi 181 0), (vr 304), Value.none, Value.none, Value.none, (vr 305), (vi 595 0), (vi 230 0), (vs "/claim/cut.py" 596)])))), (307, (ob (vt SL.s7174869446012820540x8) (Data.func (FuncData.mk (Str.ofString "_law_plain") (Str.ofString "_law_plain") (L2.defArgs (tp 36)) (FuncBody.stmts (L2.defBody (tp 36))) (L2.defScope (tp 36)) 3 [] Value.none Value.none Value.none (vs "law_oneheap_k54_rows_in_order" 464) Option.none (vr 306) Value.none 0)))), (308, (ob (vt SL.s2766695959194262286x5) (Data.seq (Array.mk []) 0))), (309, (ob Value.none (Data.fields (Array.mk [])))), (310, (ob Value.none (Data.func (FuncData.mk (Str.ofString "law") (Str.ofString "law") (L2.defArgs (tp 37)) (FuncBody.stmts (L2.defBody (tp 37))) (L2.defScope (tp 37)) 0 [] Value.none Value.none Value.none Value.none Option.none Value.none Value.none 0)))), (311, (ob (vt SL.s5856160107412720595x4) (Data.fields (Array.mk [(vs "law" 598), (vs "law" 599), (vs "/claim/cut.py" 600), (vi 232 0), (vi 1 0), (vi 0 0), (vi 0 0), (vi 3 0), (vr 308), (Value.bool Bool.true), (vi 181 0), (vr 309), Value.none, Value.none, Value.none, (vr 310), (vi 601 0), (vi 232 0), (vs "/claim/cut.py" 602)])))), (312, (ob (vt SL.s7174869446012820540x8) (Data.func (FuncData.mk (Str.ofString "law") (Str.ofString "law") (L2.defArgs (tp 37)) (FuncBody.stmts (L2.defBody (tp 37))) (L2.defScope (tp 37)) 3 [] Value.none Value.none Value.none (vs "law_oneheap_k54_rows_in_order" 464) Option.none (vr 311) Value.none 0))))]
noncomputable def B3 (w : World) : BT := putL (putL (putL (B2 w) (L3_0 w)) (L3_1 w)) (L3_2 w)
noncomputable def S3 (w : World) (os : OsState) : SharedT := ⟨B3 w, 313 , (Life.mk [] [] [] 0 [] [] Bool.false (Array.mk []) [] 0 Bool.false Bool.false Bool.false (Int.ofNat 0) [(Int.ofNat 2000), (Int.ofNat 10), (Int.ofNat 10)] Bool.false 0 Bool.true [] [] 0 Bool.false) , (Array.mk []) , (Drawn.mk 0 0 0 0) , 604, os⟩
theorem c3 (w : World) (os : OsState) : goF (ST w) N0 (bootAnn w) 314 (S2 w os) (T2 w os) = some (S3 w os) := by kernel_rfl
theorem goF_all (w : World) (os : OsState) : goF (ST w) N0 (bootAnn w) 1979 (bootT w os (B0 w, N0)) (topStub P) = some (S3 w os) := (goS_goF (k := 1025) (c1 w os)).trans ((goS_goF (k := 314) (c2 w os)).trans (c3 w os))
theorem endF_all (w : World) (os : OsState) : endF (ST w) 1979 P w os = some (S3 w os) := by
  unfold endF
  rw [b0]
  show (frNat N0 fun n0 => goF (ST w) n0 (bootAnn w) 1979 (bootT w os (B0 w, n0)) (topStub P)) = _
  rw [frNat_eq]
  exact goF_all w os
theorem mapE {α β : Type} {o : Option α} {a : α} {f : α → β} {b : β} (h : o = some a) (e : f a = b) : o.map f = some b := by
  subst h
  exact congrArg some e
end HC
namespace Lw
open PySem PySem.W PySem.Calls PySem.Spec PyProof.Rows L2 G
noncomputable abbrev EndR (w : World) (os : OsState) : Option PySem.W.SharedT := HandSHeadRun.endF (HandSHeadRun.stepQ (HandSHeadRun.denQ HandSHeadRun.tabQ) R.prog w) 1979 R.prog w os
abbrev Ks (s : PySem.W.SharedT) : PySem.W.Frag := He.frT (HandSHeadRun.getT s) (asY (HandSHeadRun.getT s) 5)
theorem map2 {α β γ : Type} {o : Option α} {f : α → β} {g : α → γ} {b : β} {c : γ} (h1 : o.map f = some b) (h2 : o.map g = some c) : o.map (fun s => (f s, g s)) = some (b, c) := by
  cases o with
  | none => cases h1
  | some a =>
    injection h1 with h1
    injection h2 with h2
    subst h1 h2
    rfl
theorem mapA {α : Type} {o : Option α} {f g : α → Bool} (h1 : o.map f = some true) (h2 : o.map g = some true) : o.map (fun s => f s && g s) = some true := by
  cases o with
  | none => cases h1
  | some a =>
    injection h1 with h1
    injection h2 with h2
    show some (f a && g a) = _
    rw [h1, h2]
    rfl
theorem end_ (w : World) (os : OsState) : EndR w os = some (HC.S3 w os) := HC.endF_all w os
theorem run_a (w : World) (os : OsState) : (EndR w os).map (fun s => HandSHeadRun.looksF R.prog (boot_heap w.params) s.abs) = some true := HC.mapE (end_ w os) (by kernel_rfl)
theorem run_b (w : World) (os : OsState) : (EndR w os).map (fun s => HandSHeadRun.seenQ (PySem.W.view R.prog [37]) nm (importedModules R.prog.main.body) (fun s => xlAt (PySem.W.view R.prog [37]) [] s && recOk R.toRowW.records s) s.abs) = some (openGood (PySem.W.view R.prog [37]) nm) := HC.mapE (end_ w os) (by kernel_rfl)
theorem run_c (w : World) (os : OsState) : (EndR w os).map (fun s => (fa.all fun f => f.ok (Ks s))) = some true := HC.mapE (end_ w os) (by kernel_rfl)
theorem run_d (w : World) (os : OsState) : (EndR w os).map (fun s => (fn.all fun d => d.ok (Ks s))) = some true := HC.mapE (end_ w os) (by kernel_rfl)
theorem run_e (w : World) (os : OsState) : (EndR w os).map (fun s => (fn.map fun d => He.fnW (Ks s) d.at_)) = some (fn.map He.DefD.val) := HC.mapE (end_ w os) (by kernel_rfl)
theorem run_f (w : World) (os : OsState) : (EndR w os).map (fun s => ((gs.map fun d => fnA (Ks s) (pAd (Ks s) d.cls d.name)), ((none : FnC)))) = some (gs.map DefP.val, none) := HC.mapE (end_ w os) (by kernel_rfl)
theorem run_g (w : World) (os : OsState) : (EndR w os).map (fun s => (allB exs (Ks s) && ((true) && gs.all fun d => d.ok (Ks s)))) = some true := HC.mapE (end_ w os) (by kernel_rfl)
theorem run_h (w : World) (os : OsState) : (EndR w os).map (fun s => (tabs.all fun q => tabB (Ks s) (HandSHeadRun.getT s) q)) = some true := HC.mapE (end_ w os) (by kernel_rfl)
theorem run_ob (w : World) (os : OsState) : (EndR w os).map (fun s => ob s) = some (hk.val w) := by
  have h := map2 (run_h w os) (map2 (map2 (mapA (run_c w os) (run_d w os)) (run_e w os)) (map2 (run_f w os) (run_g w os)))
  revert h
  generalize EndR w os = z
  cases z with
  | none => intro h; cases h
  | some s =>
    intro h
    injection h with h
    have h0 := congrArg (fun x => x.1) h
    have h1 := congrArg (fun x => x.2.1) h
    have h2 := congrArg (fun x => x.2.2.1.1) h
    have h3 := congrArg (fun x => x.2.2.1.2) h
    have h4 := congrArg (fun x => x.2.2.2) h
    exact congrArg some (Prod.ext (Prod.ext h1 (Prod.ext h2 (Prod.ext h3 h4))) h0)
theorem run (w : World) : HandSHeadRun.RunEq R (PySem.W.view R.prog [37]) hk ob 1979 nm w := fun os => map2 (run_a w os) (map2 (run_b w os) (run_ob w os))
end Lw

local macro_rules | `(tactic| walk_at "go1") => `(tactic| first
  | with_reducible refine G.g_seq ?_
  | (with_reducible show L2.tVar _ _ _ _; refine G.g_var rfl ?_)
  | with_reducible refine G.g_c ?_
  | with_reducible refine G.g_op ?_
  | with_reducible refine G.g_asg ?_
  | with_reducible refine G.g_if ?_
  | with_reducible refine G.g_test ?_
  | with_reducible refine G.g_k ?_
  | with_reducible refine G.g_tru ?_
  | with_reducible refine G.v_truB ?_
  | with_reducible refine G.v_truN ?_
  | with_reducible refine L2.iteT ?_
  | with_reducible refine L2.iteF ?_
  | with_reducible refine G.iteNT ?_
  | with_reducible refine G.iteNF ?_
  | with_reducible refine G.v_addI ?_
  | with_reducible refine G.v_sub ?_
  | with_reducible refine G.v_lt ?_
  | with_reducible refine G.v_le ?_
  | with_reducible refine G.v_gt ?_
  | with_reducible refine G.v_ge ?_
  | with_reducible refine G.v_eqI ?_
  | with_reducible refine G.v_eqT ?_
  | with_reducible refine G.v_eqB ?_
  | with_reducible refine G.v_neI ?_
  | with_reducible refine G.v_neT ?_
  | with_reducible refine G.v_neB ?_
  | with_reducible refine G.v_inC ?_
  | with_reducible refine G.v_notInC ?_
  | with_reducible refine G.v_isN ?_
  | with_reducible refine G.v_isNotN ?_
  | with_reducible refine G.v_isB ?_
  | with_reducible refine G.v_isNotB ?_
  | with_reducible refine G.g_chain ?_
  | with_reducible refine G.v_find ?_
  | with_reducible refine G.g_meth1 ?_
  | with_reducible refine G.g_yes ?_
  | with_reducible refine G.g_lstRg ?_
  | with_reducible refine G.v_intI ?_
  | with_reducible refine G.g_callB ?_
  | with_reducible refine G.g_call ?_
  | with_reducible refine G.g_nil ?_
  | with_reducible refine G.g_cons ?_
  | with_reducible refine G.g_and ?_
  | with_reducible refine G.g_or ?_
  | with_reducible refine G.g_not ?_
  | with_reducible refine G.g_andV ?_
  | with_reducible refine G.g_orV ?_
  | with_reducible refine G.g_notV ?_
  | with_reducible refine G.g_ifE ?_
  | with_reducible refine G.g_un ?_
  | with_reducible refine G.g_tupK ?_
  | with_reducible refine G.g_lstK ?_
  | with_reducible refine G.g_small (Nat.le_of_ble_eq_true rfl) ?_
  | with_reducible refine G.g_drop ?_
  | with_reducible refine G.g_ret ?_
  | with_reducible refine G.g_retN ?_
  | with_reducible refine G.g_next ?_
  | with_reducible refine G.g_brk ?_
  | with_reducible refine G.g_cont ?_
  | with_reducible refine G.g_for ?_
  | with_reducible refine G.g_name ?_
  | with_reducible refine G.g_rng1 ?_
  | with_reducible refine G.g_rng2 ?_
  | with_reducible refine G.g_bm ?_
  | with_reducible refine G.g_bm0 ?_
  | with_reducible refine G.g_tyS ?_
  | with_reducible refine G.g_m1 ?_
  | with_reducible refine G.g_isS ?_
  | with_reducible refine G.v_starts3 ?_
  | with_reducible refine G.g_sl ?_
  | with_reducible refine G.g_no ?_
  | with_reducible refine G.g_part ?_
  | with_reducible refine G.g_isI ?_
  | with_reducible refine G.g_makeK ?_
  | with_reducible refine G.g_fld ?_
  | with_reducible refine G.g_sfld ?_
  | with_reducible refine G.g_asgG ?_
  | with_reducible refine G.g_sub ?_
  | with_reducible refine G.g_gcons ?_
  | with_reducible refine G.g_gnil ?_
  | with_reducible refine G.v_mulI (by unfold L2.CMul; first | (left; omega) | (right; omega)) ?_
  | with_reducible refine G.v_mod (by omega) ?_
  | with_reducible refine G.v_div (by unfold L2.CDiv; omega) ?_
  | with_reducible refine G.v_leS ?_
  | with_reducible refine G.g_raise ?_
  | with_reducible refine G.v_neg ?_
  | with_reducible refine G.g_lcK ?_
  | with_reducible refine G.g_wt ?_
  | with_reducible refine G.g_prop ?_
  | with_reducible refine G.g_joinE ?_
  | with_reducible refine G.g_jsC ?_
  | with_reducible refine G.g_jsN ?_
  | with_reducible refine G.g_fmt ?_
  | with_reducible refine G.g_fz ?_
  | with_reducible refine G.g_dget ?_
  | with_reducible refine G.g_din ?_
  | with_reducible refine G.g_dnin ?_
  | with_reducible refine G.g_dget1 ?_
  | with_reducible refine G.g_dnew ?_
  | with_reducible refine G.g_dput ?_
  | with_reducible refine G.g_dcK ?_
  | with_reducible refine G.gi_keys ?_
  | walk_at "fld")
local macro_rules | `(tactic| walk_at "sm") => `(tactic| first
  | assumption
  | exact L2.Same.refl _
  | exact G.HH.sub (by assumption)
  | (refine L2.Same.trans (by assumption) ?_; walk_at "sm"))
local macro_rules | `(tactic| walk_at "at") => `(tactic| first
  | assumption
  | exact G.At.of
  | (refine G.At.mono ?_ (by assumption); walk_at "sm"))
local macro_rules | `(tactic| walk_at "atl") => `(tactic| first
  | exact G.AtA.nil
  | (refine G.AtA.cons (by walk_at "at") ?_; walk_at "atl"))
local macro_rules | `(tactic| walk_at "er") => `(tactic| first
  | exact fun _ _ b => b
  | exact fun _ _ b => G.Er.mono b (by walk_at "sm")
  | exact fun _ _ b => G.Er.up b
  | exact fun _ _ b => G.Er.up (G.Er.mono b (by walk_at "sm"))
  | exact fun _ _ b => G.Er.up (G.Er.up b)
  | exact fun _ _ b => G.Er.up (G.Er.up (G.Er.mono b (by walk_at "sm")))
  | exact fun _ _ b => G.Er.up (G.Er.up (G.Er.up (G.Er.mono b (by walk_at "sm"))))
  | exact fun _ _ b => G.Er.up (G.Er.up (G.Er.up (G.Er.up (G.Er.mono b (by walk_at "sm"))))))
local macro_rules | `(tactic| walk_at "fld") => `(tactic| fail "no field")
local macro_rules | `(tactic| walk_at "go") => `(tactic| repeat walk_at "go1")

namespace Lw
open PySem PySem.Spec PyProof.Rows L2 G
section
variable {K : PySem.W.Frag} {F F0 H H' : Hp} {Q : VK} {E : XK} {mg : Str → Option Value} {M : List (Addr × HO)} {x m : V}
abbrev o_Column (a0 a1 a2 : D) : D := .obj "Column" [("name", a0), ("role", a1), ("targets", a2)]
theorem f_Column_name (T : Tx K mg) {a0 a1 a2 : D} (h : At K F0 (o_Column a0 a1 a2) x) (s : Same F0 H) (q : ∀ w, At K F0 a0 w → Q w H) : FldK K "name" x H Q := s_fld h s T.cl_Column T.no_Column_name (lk1 rfl) q
theorem fv_Column_name (T : Tx K mg) {a1 a2 : D} (h : At K F0 (o_Column (.v m) a1 a2) x) (s : Same F0 H) (q : Q m H) : FldK K "name" x H Q := s_fld h s T.cl_Column T.no_Column_name (lk1 rfl) fun w e => by rw [At.v_.mp e]; exact q
theorem f_Column_role (T : Tx K mg) {a0 a1 a2 : D} (h : At K F0 (o_Column a0 a1 a2) x) (s : Same F0 H) (q : ∀ w, At K F0 a1 w → Q w H) : FldK K "role" x H Q := s_fld h s T.cl_Column T.no_Column_role (lk2 (by decide +kernel) (lk1 rfl)) q
theorem fv_Column_role (T : Tx K mg) {a0 a2 : D} (h : At K F0 (o_Column a0 (.v m) a2) x) (s : Same F0 H) (q : Q m H) : FldK K "role" x H Q := s_fld h s T.cl_Column T.no_Column_role (lk2 (by decide +kernel) (lk1 rfl)) fun w e => by rw [At.v_.mp e]; exact q
theorem f_Column_targets (T : Tx K mg) {a0 a1 a2 : D} (h : At K F0 (o_Column a0 a1 a2) x) (s : Same F0 H) (q : ∀ w, At K F0 a2 w → Q w H) : FldK K "targets" x H Q := s_fld h s T.cl_Column T.no_Column_targets (lk2 (by decide +kernel) (lk2 (by decide +kernel) (lk1 rfl))) q
theorem fv_Column_targets (T : Tx K mg) {a0 a1 : D} (h : At K F0 (o_Column a0 a1 (.v m)) x) (s : Same F0 H) (q : Q m H) : FldK K "targets" x H Q := s_fld h s T.cl_Column T.no_Column_targets (lk2 (by decide +kernel) (lk2 (by decide +kernel) (lk1 rfl))) fun w e => by rw [At.v_.mp e]; exact q
theorem mk_Column (T : Tx K mg) {a0 a1 : D} {a2 : List D} {x0 x1 x2 : V} (hh : HH F H M) (h0 : At K F a0 x0) (h1 : At K F a1 x1) (h2 : At K F (.lst a2) x2) (q : ∀ F' H' u, Same F F' → HH F' H' M → At K F' (o_Column a0 a1 (.lst a2)) u → Q u H') : MakeK (He.ga K "Column") (sp_Column_init K) [x0, x1, x2] Q H E := by
  refine mk_start hh fun F1 H1 v dx s1 hh => ?_
  refine ⟨rfl, ?_⟩
  unfold t_Column_init
  walk_at "go"
  refine s_sfld hh T.cl_Column T.no_Column_name [] rfl (by decide +kernel) (Nat.le_of_ble_eq_true rfl) fun H1'' hh => ?_
  walk_at "go"
  refine s_sfld hh T.cl_Column T.no_Column_role ["name"] rfl (by decide +kernel) (Nat.le_of_ble_eq_true rfl) fun H1'' hh => ?_
  walk_at "go"
  refine s_listL h2 hh s1 fun F1' H1' u2 s2 hh h2 => ?_
  replace s1 := s1.trans s2
  walk_at "go"
  refine s_sfld hh T.cl_Column T.no_Column_targets ["name", "role"] rfl (by decide +kernel) (Nat.le_of_ble_eq_true rfl) fun H1'' hh => ?_
  exact ⟨rfl, mk_end hh (AtF.cons (h0.mono s1) (AtF.cons (h1.mono s1) (AtF.cons h2 (AtF.nil)))) fun F2 H2 u s2 hh2 ha => q F2 H2 u (s1.trans s2) hh2 ha⟩
abbrev o_StoreKey (a0 a1 : D) : D := .obj "StoreKey" [("name", a0), ("places", a1)]
theorem f_StoreKey_name (T : Tx K mg) {a0 a1 : D} (h : At K F0 (o_StoreKey a0 a1) x) (s : Same F0 H) (q : ∀ w, At K F0 a0 w → Q w H) : FldK K "name" x H Q := s_fld h s T.cl_StoreKey T.no_StoreKey_name (lk1 rfl) q
theorem fv_StoreKey_name (T : Tx K mg) {a1 : D} (h : At K F0 (o_StoreKey (.v m) a1) x) (s : Same F0 H) (q : Q m H) : FldK K "name" x H Q := s_fld h s T.cl_StoreKey T.no_StoreKey_name (lk1 rfl) fun w e => by rw [At.v_.mp e]; exact q
theorem f_StoreKey_places (T : Tx K mg) {a0 a1 : D} (h : At K F0 (o_StoreKey a0 a1) x) (s : Same F0 H) (q : ∀ w, At K F0 a1 w → Q w H) : FldK K "places" x H Q := s_fld h s T.cl_StoreKey T.no_StoreKey_places (lk2 (by decide +kernel) (lk1 rfl)) q
theorem fv_StoreKey_places (T : Tx K mg) {a0 : D} (h : At K F0 (o_StoreKey a0 (.v m)) x) (s : Same F0 H) (q : Q m H) : FldK K "places" x H Q := s_fld h s T.cl_StoreKey T.no_StoreKey_places (lk2 (by decide +kernel) (lk1 rfl)) fun w e => by rw [At.v_.mp e]; exact q
theorem mk_StoreKey (T : Tx K mg) {a0 : D} {a1 : List D} {x0 x1 : V} (hh : HH F H M) (h0 : At K F a0 x0) (h1 : At K F (.lst a1) x1) (q : ∀ F' H' u, Same F F' → HH F' H' M → At K F' (o_StoreKey a0 (.lst a1)) u → Q u H') : MakeK (He.ga K "StoreKey") (sp_StoreKey_init K) [x0, x1] Q H E := by
  refine mk_start hh fun F1 H1 v dx s1 hh => ?_
  refine ⟨rfl, ?_⟩
  unfold t_StoreKey_init
  walk_at "go"
  refine s_sfld hh T.cl_StoreKey T.no_StoreKey_name [] rfl (by decide +kernel) (Nat.le_of_ble_eq_true rfl) fun H1'' hh => ?_
  walk_at "go"
  refine s_listL h1 hh s1 fun F1' H1' u1 s2 hh h1 => ?_
  replace s1 := s1.trans s2
  walk_at "go"
  refine s_sfld hh T.cl_StoreKey T.no_StoreKey_places ["name"] rfl (by decide +kernel) (Nat.le_of_ble_eq_true rfl) fun H1'' hh => ?_
  exact ⟨rfl, mk_end hh (AtF.cons (h0.mono s1) (AtF.cons h1 (AtF.nil))) fun F2 H2 u s2 hh2 ha => q F2 H2 u (s1.trans s2) hh2 ha⟩
abbrev o_Table (a0 a1 a2 : D) : D := .obj "Table" [("name", a0), ("columns", a1), ("unique", a2)]
theorem f_Table_name (T : Tx K mg) {a0 a1 a2 : D} (h : At K F0 (o_Table a0 a1 a2) x) (s : Same F0 H) (q : ∀ w, At K F0 a0 w → Q w H) : FldK K "name" x H Q := s_fld h s T.cl_Table T.no_Table_name (lk1 rfl) q
theorem fv_Table_name (T : Tx K mg) {a1 a2 : D} (h : At K F0 (o_Table (.v m) a1 a2) x) (s : Same F0 H) (q : Q m H) : FldK K "name" x H Q := s_fld h s T.cl_Table T.no_Table_name (lk1 rfl) fun w e => by rw [At.v_.mp e]; exact q
theorem f_Table_columns (T : Tx K mg) {a0 a1 a2 : D} (h : At K F0 (o_Table a0 a1 a2) x) (s : Same F0 H) (q : ∀ w, At K F0 a1 w → Q w H) : FldK K "columns" x H Q := s_fld h s T.cl_Table T.no_Table_columns (lk2 (by decide +kernel) (lk1 rfl)) q
theorem fv_Table_columns (T : Tx K mg) {a0 a2 : D} (h : At K F0 (o_Table a0 (.v m) a2) x) (s : Same F0 H) (q : Q m H) : FldK K "columns" x H Q := s_fld h s T.cl_Table T.no_Table_columns (lk2 (by decide +kernel) (lk1 rfl)) fun w e => by rw [At.v_.mp e]; exact q
theorem f_Table_unique (T : Tx K mg) {a0 a1 a2 : D} (h : At K F0 (o_Table a0 a1 a2) x) (s : Same F0 H) (q : ∀ w, At K F0 a2 w → Q w H) : FldK K "unique" x H Q := s_fld h s T.cl_Table T.no_Table_unique (lk2 (by decide +kernel) (lk2 (by decide +kernel) (lk1 rfl))) q
theorem fv_Table_unique (T : Tx K mg) {a0 a1 : D} (h : At K F0 (o_Table a0 a1 (.v m)) x) (s : Same F0 H) (q : Q m H) : FldK K "unique" x H Q := s_fld h s T.cl_Table T.no_Table_unique (lk2 (by decide +kernel) (lk2 (by decide +kernel) (lk1 rfl))) fun w e => by rw [At.v_.mp e]; exact q
theorem mk_Table (T : Tx K mg) {a0 : D} {a1 : List D} {a2 : List D} {x0 x1 x2 : V} (hh : HH F H M) (h0 : At K F a0 x0) (h1 : At K F (.lst a1) x1) (h2 : At K F (.lst a2) x2) (q : ∀ F' H' u, Same F F' → HH F' H' M → At K F' (o_Table a0 (.lst a1) (.lst a2)) u → Q u H') : MakeK (He.ga K "Table") (sp_Table_init K) [x0, x1, x2] Q H E := by
  refine mk_start hh fun F1 H1 v dx s1 hh => ?_
  refine ⟨rfl, ?_⟩
  unfold t_Table_init
  walk_at "go"
  refine s_sfld hh T.cl_Table T.no_Table_name [] rfl (by decide +kernel) (Nat.le_of_ble_eq_true rfl) fun H1'' hh => ?_
  walk_at "go"
  refine s_listL h1 hh s1 fun F1' H1' u1 s2 hh h1 => ?_
  replace s1 := s1.trans s2
  walk_at "go"
  refine s_sfld hh T.cl_Table T.no_Table_columns ["name"] rfl (by decide +kernel) (Nat.le_of_ble_eq_true rfl) fun H1'' hh => ?_
  walk_at "go"
  refine s_listL h2 hh s1 fun F1' H1' u2 s2 hh h2 => ?_
  replace s1 := s1.trans s2
  replace h1 := h1.mono s2
  walk_at "go"
  refine s_sfld hh T.cl_Table T.no_Table_unique ["name", "columns"] rfl (by decide +kernel) (Nat.le_of_ble_eq_true rfl) fun H1'' hh => ?_
  exact ⟨rfl, mk_end hh (AtF.cons (h0.mono s1) (AtF.cons h1 (AtF.cons h2 (AtF.nil)))) fun F2 H2 u s2 hh2 ha => q F2 H2 u (s1.trans s2) hh2 ha⟩
end
end Lw
local macro_rules | `(tactic| walk_at "fld") => `(tactic| first
  | (with_reducible refine Lw.fv_Column_name (by assumption) (by assumption) (by walk_at "sm") ?_)
  | (with_reducible refine Lw.f_Column_name (by assumption) (by assumption) (by walk_at "sm") ?_; intro _ _)
  | (with_reducible refine Lw.fv_Column_role (by assumption) (by assumption) (by walk_at "sm") ?_)
  | (with_reducible refine Lw.f_Column_role (by assumption) (by assumption) (by walk_at "sm") ?_; intro _ _)
  | (with_reducible refine Lw.fv_Column_targets (by assumption) (by assumption) (by walk_at "sm") ?_)
  | (with_reducible refine Lw.f_Column_targets (by assumption) (by assumption) (by walk_at "sm") ?_; intro _ _)
  | (with_reducible refine Lw.fv_StoreKey_name (by assumption) (by assumption) (by walk_at "sm") ?_)
  | (with_reducible refine Lw.f_StoreKey_name (by assumption) (by assumption) (by walk_at "sm") ?_; intro _ _)
  | (with_reducible refine Lw.fv_StoreKey_places (by assumption) (by assumption) (by walk_at "sm") ?_)
  | (with_reducible refine Lw.f_StoreKey_places (by assumption) (by assumption) (by walk_at "sm") ?_; intro _ _)
  | (with_reducible refine Lw.fv_Table_name (by assumption) (by assumption) (by walk_at "sm") ?_)
  | (with_reducible refine Lw.f_Table_name (by assumption) (by assumption) (by walk_at "sm") ?_; intro _ _)
  | (with_reducible refine Lw.fv_Table_columns (by assumption) (by assumption) (by walk_at "sm") ?_)
  | (with_reducible refine Lw.f_Table_columns (by assumption) (by assumption) (by walk_at "sm") ?_; intro _ _)
  | (with_reducible refine Lw.fv_Table_unique (by assumption) (by assumption) (by walk_at "sm") ?_)
  | (with_reducible refine Lw.f_Table_unique (by assumption) (by assumption) (by walk_at "sm") ?_; intro _ _))


-- fld
namespace Lw
open PySem PySem.Spec PyProof.Rows L2 G
theorem HH.same {F H H' : Hp} {M : List (Addr × HO)} (h : HH F H M) (s : Same H H') : HH F H' M := ⟨h.sub.trans s, h.nd, fun p hp => ⟨s _ _ (h.cell p hp).1, (h.cell p hp).2⟩⟩
/-- the draws' cell: a list of ints, not empty -/
def DrO (o : HO) : Prop := ∃ xs : List Int, xs ≠ [] ∧ xs.length ≤ 64 ∧ o = .lst (xs.map V.int)
section
variable {K : PySem.W.Frag} {F F0 F1 F2 H H' : Hp} {Q : VK} {E : XK} {mg : Str → Option Value} {M : List (Addr × HO)} {x : V} {o : HO} {d : Addr}
theorem rd_cells {a : Addr} {ns : List Int} {n : Nat} (hh : HH F H M) (hS : SqL K F a (ns.map V.int)) (hn0 : 0 < n) (hn : n ≤ 64)
    (q : ∀ H' d o, DrO o → HH F H' ((d, o) :: M) → Q (.ref d) H') : sp__law_cells K [.ref a, .int (n : Int)] H Q E := by
  refine ⟨rfl, ?_⟩
  unfold t__law_cells
  walk_at "go"
  refine o_lst hh (by decide) fun H1 p hh => ?_
  walk_at "go"
  refine g_rngN (n := n) (by omega) ?_
  refine l_range (fun i σ H' => i ≤ n ∧ ∃ (xs : List Int) (v4 v5 : Option V), xs.length = i ∧ σ = [some (.ref a), some (.int n), some (.ref p), v4, v5] ∧ HH F H' ((p, .lst (xs.map V.int)) :: M))
    ⟨Nat.zero_le _, [], none, none, rfl, rfl, hh⟩ ?_ ?_
  · clear hh
    rintro i σ H' hi ⟨_, xs, v4, v5, hl, rfl, hh⟩
    walk_at "go"
    refine g_cut (fun σ' H'' => H' = H'' ∧ ∃ c : Int, σ' = [some (.ref a), some (.int n), some (.ref p), some (.int (0 + i)), some (.int c)]) ?_ ?_
    · walk_at "go"
      refine v_lenSq (hh.sub.seq hS) ?_
      walk_at "go"
      refine ite2 (fun hlt => ?_) (fun hlt => ?_)
      · have hlt' := of_decide_eq_true hlt
        rw [List.length_map] at hlt'
        walk_at "go"
        refine v_ixSq (hh.sub.seq hS) (atN (i := i) (by omega) (List.getElem?_eq_getElem (by rw [List.length_map]; omega))) ?_
        rw [List.getElem_map]
        walk_at "go"
        refine ite2 (fun h0 => ?_) (fun h0 => ?_)
        · walk_at "go"
          exact ⟨rfl, _, rfl⟩
        · walk_at "go"
          exact ⟨rfl, _, rfl⟩
      · walk_at "go"
        exact ⟨rfl, _, rfl⟩
    rintro σ' H'' ⟨rfl, c, rfl⟩
    refine g_cut (fun σ' H'' => H' = H'' ∧ ∃ c : Int, σ' = [some (.ref a), some (.int n), some (.ref p), some (.int (0 + i)), some (.int c)]) ?_ ?_
    · walk_at "go"
      refine ite2 (fun hlt => ?_) (fun hlt => ?_)
      · walk_at "go"
        exact ⟨rfl, _, rfl⟩
      · walk_at "go"
        exact ⟨rfl, _, rfl⟩
    rintro σ' H'' ⟨rfl, c, rfl⟩
    walk_at "go"
    refine o_tyL (i := 0) hh rfl ?_
    walk_at "go"
    refine o_app0 hh (by rw [List.length_map]; omega) fun H7 hh => ?_
    refine ⟨by omega, xs ++ [c], some (.int (0 + i)), some (.int c), by simp [hl], rfl, ?_⟩
    rw [List.map_append]
    exact hh
  · rintro σ H' ⟨_, xs, v4, v5, hl, rfl, hh⟩
    walk_at "go"
    exact q _ p _ ⟨xs, fun z => by rw [z] at hl; simp at hl; omega, by omega, rfl⟩ hh
theorem rd_draw {b : Int} (hh : HH F H ((d, o) :: M)) (ho : DrO o) (hb : 0 < b ∧ b < 1073741824) (q : ∀ v H' o', 0 ≤ v → v < b → DrO o' → HH F H' ((d, o') :: M) → Q (.int v) H') : sp__law_draw K [.ref d, .int b] H Q E := by
  obtain ⟨xs, hx, hxl, rfl⟩ := ho
  refine ⟨rfl, ?_⟩
  unfold t__law_draw
  refine g_cut (fun σ' H' => σ' = [some (.ref d), some (.int b), none] ∧ ∃ (y : Int) (ys : List Int), ys.length + 1 ≤ 64 ∧ HH F H' ((d, .lst ((y :: ys).map V.int)) :: M)) ?_ ?_
  · obtain ⟨y, ys, rfl⟩ : ∃ y ys, xs = y :: ys := by
      cases xs with
      | nil => exact absurd rfl hx
      | cons y ys => exact ⟨y, ys, rfl⟩
    walk_at "go"
    refine v_ixL (hh.get (i := 0) rfl) (atN (i := 0) rfl rfl) ?_
    walk_at "go"
    refine ite2 (fun h0 => ?_) (fun h0 => ?_)
    · walk_at "go"
      refine o_lenL (i := 0) hh rfl ?_
      walk_at "go"
      refine ite2 (fun h1 => ?_) (fun h1 => ?_)
      · have h1' := of_decide_eq_true h1
        rw [List.length_map] at h1'
        cases ys with
        | nil => simp at h1'
        | cons z zs =>
          walk_at "go"
          refine o_tyL (i := 0) hh rfl ?_
          walk_at "go"
          refine .inr ⟨_, _, 0, 0, _, rfl, rfl, hh.get (i := 0) rfl, by decide, by decide, (ixN_seq (j := 0) (by simp [ixN]; omega)).1, rfl, ?_⟩
          exact ⟨rfl, z, zs, by simp at hxl ⊢; omega, hh.set0⟩
      · walk_at "go"
        exact ⟨rfl, y, ys, hxl, hh⟩
    · walk_at "go"
      exact ⟨rfl, y, ys, hxl, hh⟩
  clear hh
  rintro σ' H' ⟨rfl, y, ys, hl, hh⟩
  walk_at "go"
  refine v_ixL (hh.get (i := 0) rfl) (atN (i := 0) rfl rfl) ?_
  walk_at "go"
  refine v_ixL (hh.get (i := 0) rfl) (atN (i := 0) rfl rfl) ?_
  walk_at "go"
  refine v_setL (j := 0) (hh.get (i := 0) rfl) (by simp [ixN]) ?_
  walk_at "go"
  exact q _ _ _ (Int.emod_nonneg _ (by omega)) (Int.emod_lt_of_pos _ hb.1) ⟨y / b :: ys, by simp, by simpa using hl, rfl⟩ hh.set0
theorem rd_pick {ds : List D} (hh : HH F H ((d, o) :: M)) (ho : DrO o) (hx : At K F0 (.lst ds) x) (s : Same F0 F) (hn : 0 < ds.length) (hl : ds.length ≤ 1000000) (q : ∀ (i : Nat) (e : D) (v : V) H' o', ds[i]? = some e → At K F e v → DrO o' → HH F H' ((d, o') :: M) → Q v H') : sp__law_pick K [.ref d, x] H Q E := by
  refine ⟨rfl, ?_⟩
  unfold t__law_pick
  walk_at "go"
  refine a_lenL (hx.mono s) hh ?_
  walk_at "go"
  refine rd_draw hh ho ⟨by omega, by omega⟩ fun v H' o' h0 h1 ho hh => ?_
  obtain ⟨i, rfl⟩ := Int.eq_ofNat_of_zero_le h0
  have hi : i < ds.length := by omega
  refine a_ixL (i := i) (hx.mono s) hh rfl (List.getElem?_eq_getElem hi) fun w hw => ?_
  exact q i _ w H' o' (List.getElem?_eq_getElem hi) hw ho hh
end
theorem AtA.ci {K : PySem.W.Frag} {F : Hp} {d : D} {ds : List D} {us : List V} (h : AtA K F (d :: ds) us) : ∃ u us', us = u :: us' ∧ At K F d u ∧ AtA K F ds us' := by unfold AtA at h; exact h
theorem AtA.ni {K : PySem.W.Frag} {F : Hp} {us : List V} (h : AtA K F [] us) : us = [] := by unfold AtA at h; exact h
end Lw

-- fld
namespace Lw
open PySem PySem.Spec PyProof.Rows L2 G
/-! ### tables, cells, rows as data -/
inductive Tb where
  | M | N | P
  deriving DecidableEq
def Tb.z : Tb → List Nat
  | .M => q_M
  | .N => q_N
  | .P => q_P
inductive Ce where
  | non | num (n : Int) | txt (z : List Nat) | lst (ns : List Int) | mark
  deriving DecidableEq
def Ce.d (K : PySem.W.Frag) : Ce → D
  | .non => .n
  | .num n => .i n
  | .txt z => .t z
  | .lst ns => .lst (ns.map D.i)
  | .mark => .v (.ref (He.ga K "MARK"))
structure Co where
  n : List Nat
  r : List Nat
  ts : List (List Nat)
def Co.d (c : Co) : D := o_Column (.t c.n) (.t c.r) (.lst (c.ts.map D.t))
structure Sk where
  n : List Nat
  ps : List Int
def Sk.d (k : Sk) : D := o_StoreKey (.t k.n) (.lst (k.ps.map D.i))
structure Ta where
  n : List Nat
  cs : List Co
  ks : List Sk
def Ta.d (t : Ta) : D := o_Table (.t t.n) (.lst (t.cs.map Co.d)) (.lst (t.ks.map Sk.d))
def mn : List (List Nat) := [q_M, q_N]
def tM : Ta := ⟨q_M, [⟨q_v, q_value, []⟩, ⟨q_k, q_value, []⟩, ⟨q_r, q_reference, mn⟩, ⟨q_s, q_links, mn⟩], [⟨q_key1, [1]⟩]⟩
def tN : Ta := ⟨q_N, [⟨q_k, q_value, []⟩, ⟨q_r, q_reference, mn⟩], [⟨q_key1, [0]⟩]⟩
def tP : Ta := ⟨q_P, [⟨q_v, q_value, []⟩, ⟨q_s, q_links, mn⟩], []⟩
def ta3 : List Ta := [tM, tN, tP]
section
variable {K : PySem.W.Frag} {F F0 F1 F2 H H' : Hp} {Q : VK} {E : XK} {mg : Str → Option Value} {M : List (Addr × HO)} {x y : V}
theorem mk_ColumnE (T : Tx K mg) {n r : List Nat} (hh : HH F H M) (q : ∀ F' H' u, Same F F' → HH F' H' M → At K F' (Co.d ⟨n, r, []⟩) u → Q u H') : MakeK (He.ga K "Column") (sp_Column_init K) [.str ⟨n.toArray⟩, .str ⟨r.toArray⟩, .ref (dfAt K ("Column", some "__init__") 0)] Q H E := by
  refine mk_start hh fun F1 H1 v dx s1 hh => ?_
  refine ⟨rfl, ?_⟩
  unfold t_Column_init
  walk_at "go"
  refine s_sfld hh T.cl_Column T.no_Column_name [] rfl (by decide +kernel) (Nat.le_of_ble_eq_true rfl) fun H1'' hh => ?_
  walk_at "go"
  refine s_sfld hh T.cl_Column T.no_Column_role ["name"] rfl (by decide +kernel) (Nat.le_of_ble_eq_true rfl) fun H1'' hh => ?_
  walk_at "go"
  refine s_listT (At.mkT (T.em_Column_init_0 F1) AtA.nil) hh (Same.refl _) fun F2 H2 u s2 hh h2 => ?_
  walk_at "go"
  refine s_sfld hh T.cl_Column T.no_Column_targets ["name", "role"] rfl (by decide +kernel) (Nat.le_of_ble_eq_true rfl) fun H1'' hh => ?_
  exact ⟨rfl, mk_end hh (AtF.cons At.of (AtF.cons At.of (AtF.cons h2 AtF.nil))) fun F3 H3 u s3 hh3 ha => q F3 H3 u (s1.trans (s2.trans s3)) hh3 ha⟩
theorem mk_ColumnL (T : Tx K mg) {n r : List Nat} {ts : List (List Nat)} (hh : HH F H M) (hx : At K F0 (.lst (ts.map D.t)) x) (s : Same F0 F) (q : ∀ F' H' u, Same F F' → HH F' H' M → At K F' (Co.d ⟨n, r, ts⟩) u → Q u H') : MakeK (He.ga K "Column") (sp_Column_init K) [.str ⟨n.toArray⟩, .str ⟨r.toArray⟩, x] Q H E :=
  mk_Column T hh (a0 := D.t n) (a1 := D.t r) At.of At.of (hx.mono s) q
theorem mk_TableE (T : Tx K mg) {n : List Nat} {cs : List Co} (hh : HH F H M) (hx : At K F0 (.lst (cs.map Co.d)) x) (s : Same F0 F) (q : ∀ F' H' u, Same F F' → HH F' H' M → At K F' (Ta.d ⟨n, cs, []⟩) u → Q u H') : MakeK (He.ga K "Table") (sp_Table_init K) [.str ⟨n.toArray⟩, x, .ref (dfAt K ("Table", some "__init__") 0)] Q H E := by
  refine mk_start hh fun F1 H1 v dx s1 hh => ?_
  refine ⟨rfl, ?_⟩
  unfold t_Table_init
  walk_at "go"
  refine s_sfld hh T.cl_Table T.no_Table_name [] rfl (by decide +kernel) (Nat.le_of_ble_eq_true rfl) fun H1'' hh => ?_
  walk_at "go"
  refine s_listL hx hh (s.trans s1) fun F2 H2 u s2 hh h1 => ?_
  walk_at "go"
  refine s_sfld hh T.cl_Table T.no_Table_columns ["name"] rfl (by decide +kernel) (Nat.le_of_ble_eq_true rfl) fun H1'' hh => ?_
  walk_at "go"
  refine s_listT (At.mkT (T.em_Table_init_0 F2) AtA.nil) hh (Same.refl _) fun F3 H3 u s3 hh h2 => ?_
  walk_at "go"
  refine s_sfld hh T.cl_Table T.no_Table_unique ["name", "columns"] rfl (by decide +kernel) (Nat.le_of_ble_eq_true rfl) fun H1'' hh => ?_
  exact ⟨rfl, mk_end hh (AtF.cons At.of (AtF.cons (h1.mono s3) (AtF.cons h2 AtF.nil))) fun F4 H4 u s4 hh3 ha => q F4 H4 u (s1.trans (s2.trans (s3.trans s4))) hh3 ha⟩
theorem mk_TableL (T : Tx K mg) {n : List Nat} {cs : List Co} {ks : List Sk} (hh : HH F H M) (hx : At K F0 (.lst (cs.map Co.d)) x) (s : Same F0 F) (hy : At K F1 (.lst (ks.map Sk.d)) y) (s1 : Same F1 F) (q : ∀ F' H' u, Same F F' → HH F' H' M → At K F' (Ta.d ⟨n, cs, ks⟩) u → Q u H') : MakeK (He.ga K "Table") (sp_Table_init K) [.str ⟨n.toArray⟩, x, y] Q H E :=
  mk_Table T hh (a0 := D.t n) At.of (hx.mono s) (hy.mono s1) q
theorem mk_Key1 (T : Tx K mg) {n : List Nat} {i : Int} (hh : HH F H M) (hx : At K F0 (.lst [D.i i]) x) (s : Same F0 F) (q : ∀ F' H' u, Same F F' → HH F' H' M → At K F' (Sk.d ⟨n, [i]⟩) u → Q u H') : MakeK (He.ga K "StoreKey") (sp_StoreKey_init K) [.str ⟨n.toArray⟩, x] Q H E :=
  mk_StoreKey T hh (a0 := D.t n) (a1 := [D.i i]) At.of (hx.mono s) q
theorem rd_tables (T : Tx K mg) (hh : HH F H M) (q : ∀ F' H' u, Same F F' → HH F' H' M → At K F' (.lst (ta3.map Ta.d)) u → Q u H') : sp__law_tables K [] H Q E := by
  refine ⟨rfl, ?_⟩
  unfold t__law_tables
  walk_at "go"
  refine s_lst (K := K) (ds := mn.map D.t) hh (AtA.cons At.of (AtA.cons At.of AtA.nil)) (by decide) fun F1 H1 m s1 hh hm => ?_
  walk_at "go"
  refine g_makeD ?_
  walk_at "go"
  refine mk_ColumnE T hh fun F2 H2 c0 s2 hh h0 => ?_
  walk_at "go"
  refine g_makeD ?_
  walk_at "go"
  refine mk_ColumnE T hh fun F3 H3 c1 s3 hh h1 => ?_
  walk_at "go"
  refine mk_ColumnL T hh hm (by walk_at "sm") fun F4 H4 c2 s4 hh h2 => ?_
  walk_at "go"
  refine mk_ColumnL T hh hm (by walk_at "sm") fun F5 H5 c3 s5 hh h3 => ?_
  walk_at "go"
  refine s_lst (K := K) (ds := tM.cs.map Co.d) hh (AtA.cons (h0.mono (by walk_at "sm")) (AtA.cons (h1.mono (by walk_at "sm")) (AtA.cons (h2.mono (by walk_at "sm")) (AtA.cons h3 AtA.nil)))) (Nat.le_of_ble_eq_true rfl) fun F6 H6 f1 s6 hh hf1 => ?_
  walk_at "go"
  refine g_makeD ?_
  walk_at "go"
  refine mk_ColumnE T hh fun F7 H7 c0 s7 hh h0 => ?_
  walk_at "go"
  refine mk_ColumnL T hh hm (by walk_at "sm") fun F8 H8 c1 s8 hh h1 => ?_
  walk_at "go"
  refine s_lst (K := K) (ds := tN.cs.map Co.d) hh (AtA.cons (h0.mono (by walk_at "sm")) (AtA.cons h1 AtA.nil)) (Nat.le_of_ble_eq_true rfl) fun F9 H9 f2 s9 hh hf2 => ?_
  walk_at "go"
  refine g_makeD ?_
  walk_at "go"
  refine mk_ColumnE T hh fun Fa Ha c0 sa hh h0 => ?_
  walk_at "go"
  refine mk_ColumnL T hh hm (by walk_at "sm") fun Fb Hb c1 sb hh h1 => ?_
  walk_at "go"
  refine s_lst (K := K) (ds := tP.cs.map Co.d) hh (AtA.cons (h0.mono (by walk_at "sm")) (AtA.cons h1 AtA.nil)) (Nat.le_of_ble_eq_true rfl) fun Fc Hc f3 sc hh hf3 => ?_
  walk_at "go"
  refine s_lst (K := K) (ds := [D.i 1]) hh (AtA.cons At.of AtA.nil) (by decide) fun Fd Hd p1 sd hh hp1 => ?_
  walk_at "go"
  refine mk_Key1 T hh hp1 (by walk_at "sm") fun Fe He k1 se hh hk1 => ?_
  walk_at "go"
  refine s_lst (K := K) (ds := tM.ks.map Sk.d) hh (AtA.cons hk1 AtA.nil) (Nat.le_of_ble_eq_true rfl) fun Ff Hf l1 sf hh hl1 => ?_
  walk_at "go"
  refine mk_TableL T hh hf1 (by walk_at "sm") hl1 (by walk_at "sm") fun Fg Hg t1 sg hh ht1 => ?_
  walk_at "go"
  refine s_lst (K := K) (ds := [D.i 0]) hh (AtA.cons At.of AtA.nil) (by decide) fun Fh Hh p2 sh hh hp2 => ?_
  walk_at "go"
  refine mk_Key1 T hh hp2 (by walk_at "sm") fun Fi Hi k2 si hh hk2 => ?_
  walk_at "go"
  refine s_lst (K := K) (ds := tN.ks.map Sk.d) hh (AtA.cons hk2 AtA.nil) (Nat.le_of_ble_eq_true rfl) fun Fj Hj l2 sj hh hl2 => ?_
  walk_at "go"
  refine mk_TableL T hh hf2 (by walk_at "sm") hl2 (by walk_at "sm") fun Fk Hk t2 sk hh ht2 => ?_
  walk_at "go"
  refine g_makeD ?_
  walk_at "go"
  refine mk_TableE T hh hf3 (by walk_at "sm") fun Fl Hl t3 sl hh ht3 => ?_
  walk_at "go"
  exact s_lst (K := K) (ds := ta3.map Ta.d) hh (AtA.cons (ht1.mono (by walk_at "sm")) (AtA.cons (ht2.mono (by walk_at "sm")) (AtA.cons ht3 AtA.nil))) (Nat.le_of_ble_eq_true rfl) fun Fm Hm u sm hh hu => q Fm Hm u (by walk_at "sm") hh hu
end
end Lw

-- fld
namespace Lw
open PySem PySem.Spec PyProof.Rows L2 G
/-! ### numbers in lists, cells in lists -/
theorem inV_i {n : Int} : ∀ {xs : List Int}, inV (.int n) (xs.map V.int) = xs.contains n
  | [] => rfl
  | y :: xs => by
    have ih := inV_i (n := n) (xs := xs)
    unfold inV at ih ⊢
    rw [List.map_cons, List.any_cons, ih, List.contains_cons]
    congr 1
    show (y == n) = (n == y)
    exact Bool.beq_comm ..
theorem flat_i : ∀ {xs : List Int}, (xs.map V.int).all flatV = true
  | [] => rfl
  | _ :: xs => by rw [List.map_cons, List.all_cons, flat_i (xs := xs)]; rfl
def Ce.flat : Ce → Bool
  | .non => true
  | .num _ => true
  | .txt _ => true
  | _ => false
def Ce.v : Ce → V
  | .non => .non
  | .num n => .int n
  | .txt z => .str ⟨z.toArray⟩
  | _ => .non
theorem eqV_c {x y : Ce} (hx : x.flat = true) (hy : y.flat = true) : eqV y.v x.v = decide (y = x) := by
  rw [Bool.eq_iff_iff]
  cases x <;> cases y <;> first | exact Bool.noConfusion hx | exact Bool.noConfusion hy | simp [Ce.v, eqV]
theorem inV_c {x : Ce} (hx : x.flat = true) : ∀ {xs : List Ce}, xs.all Ce.flat = true → inV x.v (xs.map Ce.v) = decide (x ∈ xs)
  | [], _ => by simp [inV]
  | y :: xs, h => by
    rw [List.all_cons, Bool.and_eq_true] at h
    have ih := inV_c hx h.2
    unfold inV at ih ⊢
    rw [List.map_cons, List.any_cons, ih, eqV_c hx h.1]
    by_cases c : y = x
    · subst c; simp
    · have c2 : ¬ x = y := fun z => c z.symm
      simp [c, c2]
theorem flat_c : ∀ {xs : List Ce}, xs.all Ce.flat = true → (xs.map Ce.v).all flatV = true
  | [], _ => rfl
  | y :: xs, h => by
    rw [List.all_cons, Bool.and_eq_true] at h
    rw [List.map_cons, List.all_cons, flat_c h.2]
    cases y <;> first | rfl | cases h.1
section
variable {K : PySem.W.Frag} {F F0 F1 F2 H H' : Hp} {Q : VK} {E : XK} {mg : Str → Option Value} {M : List (Addr × HO)} {x y u : V} {o : HO} {d : Addr} {ns : List Int}
theorem Ce.at_ {c : Ce} (hf : c.flat = true) (h : At K F (c.d K) u) : u = c.v := by
  cases c <;> first | exact At.v_.mp h | exact Bool.noConfusion hf
theorem s_inI {n : Int} (hx : At K F0 (.lst (ns.map D.i)) x) (s : Same F0 H) (q : Q (.bl (ns.contains n)) H) : rInX K (.int n) x H Q := by
  obtain ⟨p, vs, rfl, h, t⟩ := hx.lst_
  have e := t.flat (g := V.int)
  subst e
  exact v_inL (s.seq h) rfl flat_i (by rw [inV_i]; exact q)
theorem s_notInI {n : Int} (hx : At K F0 (.lst (ns.map D.i)) x) (s : Same F0 H) (q : Q (.bl (!ns.contains n)) H) : rNotInX K (.int n) x H Q := by
  obtain ⟨p, vs, rfl, h, t⟩ := hx.lst_
  have e := t.flat (g := V.int)
  subst e
  exact v_notInL (s.seq h) rfl flat_i (by rw [inV_i]; exact q)
theorem o_notInI {n : Int} {l : Addr} {i : Nat} (hh : HH F H M) (hm : M[i]? = some (l, .lst (ns.map V.int))) (q : Q (.bl (!ns.contains n)) H) : rNotInX K (.int n) (.ref l) H Q :=
  v_notInL (SqL.of (hh.get hm)) rfl flat_i (by rw [inV_i]; exact q)
theorem o_inC {c : Ce} {cs : List Ce} {l : Addr} {i : Nat} (hf : c.flat = true) (hfs : cs.all Ce.flat = true) (hh : HH F H M) (hm : M[i]? = some (l, .lst (cs.map Ce.v))) (q : Q (.bl (decide (c ∈ cs))) H) : rInX K c.v (.ref l) H Q := by
  refine v_inL (SqL.of (hh.get hm)) ?_ (flat_c hfs) (by rw [inV_c hf hfs]; exact q)
  cases c <;> first | rfl | cases hf
/-! ### what is drawn for a row -/
theorem rd_links (hh : HH F H ((d, o) :: M)) (ho : DrO o) (hx : At K F0 (.lst (ns.map D.i)) x) (s : Same F0 F) (hl : ns.length ≤ 1000) (q : ∀ F' H' o' u ls, Same F F' → DrO o' → HH F' H' ((d, o') :: M) → At K F' (Ce.d K (.lst ls)) u → ls.length ≤ 3 → (∀ n ∈ ls, n ∈ ns) → Q u H') : sp__law_links K [.ref d, x] H Q E := by
  refine ⟨rfl, ?_⟩
  unfold t__law_links
  walk_at "go"
  refine o_lst1 hh (by decide) fun H1 p hh => ?_
  walk_at "go"
  refine rd_draw hh ho (by decide) fun v H2 o2 h0 h1 ho hh => ?_
  obtain ⟨m, rfl⟩ := Int.eq_ofNat_of_zero_le h0
  walk_at "go"
  refine g_rngN (n := m) (by omega) ?_
  refine l_range (fun i σ H' => i ≤ m ∧ ∃ (o' : HO) (ls : List Int) (v3 v4 : Option V), DrO o' ∧ ls.length ≤ i ∧ (∀ n ∈ ls, n ∈ ns) ∧ σ = [some (.ref d), some x, some (.ref p), v3, v4] ∧ HH F H' ((d, o') :: (p, .lst (ls.map V.int)) :: M))
    ⟨Nat.zero_le _, o2, [], none, none, ho, Nat.le_refl _, (fun _ h => nomatch h), rfl, hh⟩ ?_ ?_
  · clear hh ho
    rintro i σ H' hi ⟨_, o', ls, v3, v4, ho, hls, hin, rfl, hh⟩
    walk_at "go"
    refine s_lenL hx (by walk_at "sm") ?_
    walk_at "go"
    refine ite2 (fun hlt => ?_) (fun hlt => ?_)
    · have hpos : 0 < ns.length := by have := of_decide_eq_true hlt; omega
      walk_at "go"
      refine rd_pick hh ho hx s (by rw [List.length_map]; exact hpos) (by rw [List.length_map]; omega) fun j e v H3 o3 he ha ho hh => ?_
      rw [List.getElem?_map] at he
      obtain ⟨n, hn, rfl⟩ := Option.map_eq_some_iff.mp he
      obtain rfl := At.v_.mp ha
      walk_at "go"
      refine o_notInI (i := 1) hh rfl ?_
      walk_at "go"
      refine ite2 (fun hc => ?_) (fun hc => ?_)
      · walk_at "go"
        refine o_tyL (i := 1) hh rfl ?_
        walk_at "go"
        refine o_app1 hh (by rw [List.length_map]; omega) fun H4 hh => ?_
        refine ⟨by omega, o3, ls ++ [n], _, _, ho, by rw [List.length_append]; simpa using hls, fun k hk => ?_, rfl, ?_⟩
        · rcases List.mem_append.mp hk with hk | hk
          · exact hin k hk
          · rw [List.mem_singleton.mp hk]; exact List.mem_of_getElem? hn
        · rw [List.map_append]; exact hh
      · walk_at "go"
        exact ⟨by omega, o3, ls, _, _, ho, by omega, hin, rfl, hh⟩
    · walk_at "go"
      exact ⟨by omega, o', ls, _, _, ho, by omega, hin, rfl, hh⟩
  · rintro σ H' ⟨_, o', ls, v3, v4, ho, hls, hin, rfl, hh⟩
    walk_at "go"
    exact q _ H' o' (.ref p) ls hh.frz1S ho hh.frz1 (At.mkL upd_same (AtA.ofFlat (g := V.int))) (by omega) hin
theorem rd_ref (hh : HH F H ((d, o) :: M)) (ho : DrO o) (hx : At K F0 (.lst (ns.map D.i)) x) (s : Same F0 F) (hl : ns.length ≤ 1000) (q : ∀ H' o' c, DrO o' → HH F H' ((d, o') :: M) → (c = .non ∨ ∃ n ∈ ns, c = .num n) → Q (Ce.v c) H') : sp__law_ref K [.ref d, x] H Q E := by
  refine ⟨rfl, ?_⟩
  unfold t__law_ref
  walk_at "go"
  refine s_lenL hx (by walk_at "sm") ?_
  walk_at "go"
  refine ite2 (fun hlt => ?_) (fun hlt => ?_)
  · walk_at "go"
    exact q _ _ .non ho hh (.inl rfl)
  have hpos : 0 < ns.length := by
    rcases Nat.eq_zero_or_pos ns.length with z | z
    · exact absurd (decide_eq_true (by omega)) hlt
    · exact z
  walk_at "go"
  refine rd_draw hh ho (by decide) fun v H2 o2 h0 h1 ho hh => ?_
  walk_at "go"
  refine ite2 (fun hc => ?_) (fun hc => ?_)
  · walk_at "go"
    exact q _ _ .non ho hh (.inl rfl)
  walk_at "go"
  refine rd_pick hh ho hx s (by rw [List.length_map]; exact hpos) (by rw [List.length_map]; omega) fun j e v H3 o3 he ha ho hh => ?_
  rw [List.getElem?_map] at he
  obtain ⟨n, hn, rfl⟩ := Option.map_eq_some_iff.mp he
  obtain rfl := At.v_.mp ha
  exact q _ _ (.num n) ho hh (.inr ⟨n, List.mem_of_getElem? hn, rfl⟩)
/-! ### what a row's cells may be -/
def Ce.vk : Ce → Bool
  | .non => true
  | .num n => decide (0 ≤ n ∧ n ≤ 9)
  | .txt z => decide (z = q_1 ∨ z = q_x)
  | _ => false
def Ce.km (c : Ce) : Bool := c.vk || decide (c = .mark)
def Ce.rm : Ce → Bool
  | .non => true
  | .num n => decide (1 ≤ n ∧ n ≤ 6)
  | .mark => true
  | _ => false
def Ce.sm : Ce → Bool
  | .lst ns => decide (ns.length ≤ 3) && ns.all fun n => decide (1 ≤ n ∧ n ≤ 6)
  | .mark => true
  | _ => false
def Shp : Tb → List Ce → Bool
  | .M, [v, k, r, s] => v.vk && (k.km && (r.rm && s.sm))
  | .N, [k, r] => k.km && r.rm
  | .P, [v, s] => v.vk && s.sm
  | _, _ => false
def Ce.nm (c : Ce) : Bool := !decide (c = .mark)
theorem Ce.vk_flat {c : Ce} (h : c.vk = true) : c.flat = true := by cases c <;> first | rfl | cases h
theorem Ce.vk_km {c : Ce} (h : c.vk = true) : c.km = true := by unfold Ce.km; rw [h]; rfl
theorem Ce.vk_nm {c : Ce} (h : c.vk = true) : c.nm = true := by cases c <;> first | rfl | cases h
theorem Ce.at_v {c : Ce} (h : c.flat = true) : At K F (c.d K) c.v := by cases c <;> first | exact At.of | cases h
def kcs : List Ce := [.non, .non, .num 0, .num 1, .num 2, .txt q_1, .num 3, .num 4]
def pcs : List Ce := [.non, .num 7, .txt q_x]
def Nb (ns : List Int) : Prop := ns.length ≤ 1000 ∧ ∀ n ∈ ns, 1 ≤ n ∧ n ≤ 6
theorem rd_cell_row (hh : HH F H ((d, o) :: M)) (ho : DrO o) {t : Tb} (hx : At K F0 (.lst (ns.map D.i)) x) (s : Same F0 F) (hl : Nb ns) (q : ∀ F' H' o' l vs cs, Same F F' → DrO o' → HH F' H' ((l, .lst vs) :: (d, o') :: M) → AtA K F' (cs.map (Ce.d K)) vs → Shp t cs = true → cs.all Ce.nm = true → Q (.ref l) H') : sp__law_cell_row K [.ref d, .str ⟨t.z.toArray⟩, x] H Q E := by
  refine ⟨rfl, ?_⟩
  unfold t__law_cell_row
  walk_at "go"
  refine s_lst (K := K) (ds := kcs.map (Ce.d K)) hh (AtA.cons At.of (AtA.cons At.of (AtA.cons At.of (AtA.cons At.of (AtA.cons At.of (AtA.cons At.of (AtA.cons At.of (AtA.cons At.of AtA.nil)))))))) (Nat.le_of_ble_eq_true rfl) fun F1 H1 u s1 hh hu => ?_
  walk_at "go"
  refine rd_pick hh ho hu (Same.refl _) (Nat.le_of_ble_eq_true rfl) (Nat.le_of_ble_eq_true rfl) fun i e v H2 o2 he ha ho hh => ?_
  rw [List.getElem?_map] at he
  obtain ⟨c, hc, rfl⟩ := Option.map_eq_some_iff.mp he
  have hk : c.vk = true := List.all_eq_true.mp (by decide +kernel : kcs.all Ce.vk = true) c (List.mem_of_getElem? hc)
  obtain rfl := Ce.at_ (Ce.vk_flat hk) ha
  walk_at "go"
  have hr : ∀ {c : Ce}, (c = .non ∨ ∃ n ∈ ns, c = .num n) → c.rm = true ∧ c.flat = true ∧ c.nm = true := fun {c} h => by
    rcases h with rfl | ⟨n, hn, rfl⟩
    · exact ⟨rfl, rfl, rfl⟩
    · exact ⟨decide_eq_true (hl.2 n hn), rfl, rfl⟩
  have hs : ∀ {ls : List Int}, ls.length ≤ 3 → (∀ n ∈ ls, n ∈ ns) → (Ce.lst ls).sm = true := fun {ls} h1 h2 => by
    show (decide (ls.length ≤ 3) && ls.all fun n => decide (1 ≤ n ∧ n ≤ 6)) = true
    rw [decide_eq_true h1, Bool.true_and, List.all_eq_true]
    exact fun n hn => decide_eq_true (hl.2 n (h2 n hn))
  cases t with
  | M =>
    refine ite2 (fun _ => ?_) (fun h => absurd h (by decide +kernel))
    walk_at "go"
    refine rd_draw hh ho (by decide) fun v H3 o3 h0 h1 ho hh => ?_
    walk_at "go"
    refine rd_ref hh ho hx (s.trans s1) hl.1 fun H4 o4 r ho hh hr' => ?_
    obtain ⟨r1, r2, r3⟩ := hr hr'
    walk_at "go"
    refine rd_links hh ho hx (s.trans s1) hl.1 fun F5 H5 o5 u5 ls s5 ho hh hu5 hls hin => ?_
    walk_at "go"
    refine o_lst hh (Nat.le_of_ble_eq_true rfl) fun H6 p hh => ?_
    have hv : (Ce.num v).vk = true := decide_eq_true ⟨h0, by omega⟩
    refine q _ _ o5 p _ [.num v, c, r, .lst ls] (s1.trans s5) ho hh (AtA.cons At.of (AtA.cons (Ce.at_v (Ce.vk_flat hk)) (AtA.cons (Ce.at_v r2) (AtA.cons hu5 AtA.nil)))) ?_ ?_
    · show ((Ce.num v).vk && (c.km && (r.rm && (Ce.lst ls).sm))) = true
      rw [hv, Ce.vk_km hk, r1, hs hls hin]
      rfl
    · show ((Ce.num v).nm && (c.nm && (r.nm && ((Ce.lst ls).nm && true)))) = true
      rw [Ce.vk_nm hk, r3]
      rfl
  | N =>
    refine ite2 (fun h => absurd h (by decide +kernel)) (fun _ => ?_)
    walk_at "go"
    refine ite2 (fun _ => ?_) (fun h => absurd h (by decide +kernel))
    walk_at "go"
    refine rd_ref hh ho hx (s.trans s1) hl.1 fun H4 o4 r ho hh hr' => ?_
    obtain ⟨r1, r2, r3⟩ := hr hr'
    walk_at "go"
    refine o_lst hh (Nat.le_of_ble_eq_true rfl) fun H6 p hh => ?_
    refine q _ _ o4 p _ [c, r] s1 ho hh (AtA.cons (Ce.at_v (Ce.vk_flat hk)) (AtA.cons (Ce.at_v r2) AtA.nil)) ?_ ?_
    · show (c.km && r.rm) = true
      rw [Ce.vk_km hk, r1]
      rfl
    · show (c.nm && (r.nm && true)) = true
      rw [Ce.vk_nm hk, r3]
      rfl
  | P =>
    refine ite2 (fun h => absurd h (by decide +kernel)) (fun _ => ?_)
    walk_at "go"
    refine ite2 (fun h => absurd h (by decide +kernel)) (fun _ => ?_)
    walk_at "go"
    refine s_lst (K := K) (ds := pcs.map (Ce.d K)) hh (AtA.cons At.of (AtA.cons At.of (AtA.cons At.of AtA.nil))) (Nat.le_of_ble_eq_true rfl) fun F3 H3 u3 s3 hh hu3 => ?_
    walk_at "go"
    refine rd_pick hh ho hu3 (Same.refl _) (Nat.le_of_ble_eq_true rfl) (Nat.le_of_ble_eq_true rfl) fun i e v H4 o4 he ha ho hh => ?_
    rw [List.getElem?_map] at he
    obtain ⟨c2, hc2, rfl⟩ := Option.map_eq_some_iff.mp he
    have hk2 : c2.vk = true := List.all_eq_true.mp (by decide +kernel : pcs.all Ce.vk = true) c2 (List.mem_of_getElem? hc2)
    obtain rfl := Ce.at_ (Ce.vk_flat hk2) ha
    walk_at "go"
    refine rd_links hh ho hx (s.trans (s1.trans s3)) hl.1 fun F5 H5 o5 u5 ls s5 ho hh hu5 hls hin => ?_
    walk_at "go"
    refine o_lst hh (Nat.le_of_ble_eq_true rfl) fun H6 p hh => ?_
    refine q _ _ o5 p _ [c2, .lst ls] (s1.trans (s3.trans s5)) ho hh (AtA.cons (Ce.at_v (Ce.vk_flat hk2)) (AtA.cons hu5 AtA.nil)) ?_ ?_
    · show (c2.vk && (Ce.lst ls).sm) = true
      rw [hk2, hs hls hin]
      rfl
    · show (c2.nm && ((Ce.lst ls).nm && true)) = true
      rw [Ce.vk_nm hk2]
      rfl
end
end Lw

local macro_rules | `(tactic| walk_at "rd1") => `(tactic| first
  | walk_at "go1"
  | (with_reducible refine Lw.r_meth (by assumption) (by assumption) (by decide +kernel) ?_)
  | (with_reducible refine Lw.p_now (by assumption) (by assumption) (by assumption) ?_; intro _ _))
local macro_rules | `(tactic| walk_at "rd") => `(tactic| repeat walk_at "rd1")
-- rd
namespace G
open PySem PySem.Spec PyProof.Rows L2
/-! ### plain data, equal or not (K is a letter: data may name what the module holds) -/
structure Pd (K : PySem.W.Frag) {α : Type} (e : α → D) (f : α → PyData) (n : Nat) (ok : α → Prop) : Prop where
  dp : ∀ {F : Hp} (x : α) (v : V), At K F (e x) v → Dp K F v (f x)
  lay : ∀ x, ok x → PyData.canLay0 (f x) = true
  dep : ∀ x, PyData.depth (f x) ≤ n
  eq : ∀ x y, PyData.eqv (f x) (f y) = true ↔ x = y
section
variable {α : Type} {e : α → D} {f : α → PyData} {n : Nat} {ok : α → Prop} {K : PySem.W.Frag} {F F0 F1 H : Hp} {Q : VK} {x y : V}
theorem Pd.all (P : Pd K e f n ok) : ∀ {xs : List α} {vs : List V}, AtA K F (xs.map e) vs → DpAll K F vs (xs.map f)
  | [], vs, h => by rw [Lw.AtA.ni h]; exact .nil
  | a :: xs, vs, h => by
    obtain ⟨u, us, rfl, h1, h2⟩ := Lw.AtA.ci h
    exact .cons (P.dp a u h1) (P.all h2)
theorem Pd.layA (P : Pd K e f n ok) : ∀ {xs : List α}, (∀ x ∈ xs, ok x) → PyData.canLayAll0 (xs.map f) = true
  | [], _ => by simp [PyData.canLayAll0]
  | a :: xs, h => by rw [List.map_cons, PyData.canLayAll0, P.lay a (h a (List.mem_cons_self ..)), P.layA fun x hx => h x (List.mem_cons_of_mem _ hx)]; rfl
theorem Pd.depA (P : Pd K e f n ok) : ∀ {xs : List α}, PyData.depthAll (xs.map f) ≤ n
  | [] => by simp [PyData.depthAll]
  | a :: xs => by
    rw [List.map_cons, PyData.depthAll]
    exact Nat.max_le.mpr ⟨P.dep a, P.depA⟩
theorem Pd.eqA (P : Pd K e f n ok) : ∀ {xs ys : List α}, PyData.eqvAll (xs.map f) (ys.map f) = true ↔ xs = ys
  | [], [] => by simp [PyData.eqvAll]
  | [], _ :: _ => by simp [PyData.eqvAll]
  | _ :: _, [] => by simp [PyData.eqvAll]
  | a :: xs, b :: ys => by rw [List.map_cons, List.map_cons, PyData.eqvAll, Bool.and_eq_true, P.eq, P.eqA, List.cons.injEq]
theorem Pd.list (P : Pd K e f n ok) : Pd K (fun xs : List α => .lst (xs.map e)) (fun xs => .list (xs.map f)) (n + 1) (fun xs => ∀ x ∈ xs, ok x) where
  dp := fun xs v h => by
    obtain ⟨a, vs, rfl, h, t⟩ := At.lst_ h
    exact .lst h (P.all t)
  lay := fun xs h => by rw [PyData.canLay0]; exact P.layA h
  dep := fun xs => by rw [PyData.depth]; exact Nat.succ_le_succ P.depA
  eq := fun xs ys => by rw [PyData.eqv, P.eqA, ]
theorem Pd.tup (P : Pd K e f n ok) : Pd K (fun xs : List α => .tup (xs.map e)) (fun xs => .tuple (xs.map f)) (n + 1) (fun xs => ∀ x ∈ xs, ok x) where
  dp := fun xs v h => by
    obtain ⟨a, vs, rfl, h, t⟩ := At.tup_ h
    exact .tup h (P.all t)
  lay := fun xs h => by rw [PyData.canLay0]; exact P.layA h
  dep := fun xs => by rw [PyData.depth]; exact Nat.succ_le_succ P.depA
  eq := fun xs ys => by rw [PyData.eqv, P.eqA]
/-- a text or a number -/
inductive Tj where
  | t (z : List Nat)
  | i (n : Int)
  deriving DecidableEq
def Tj.d : Tj → D
  | .t z => D.t z
  | .i n => D.i n
def Tj.p : Tj → PyData
  | .t z => .str ⟨z.toArray⟩
  | .i n => .int n
def Tj.small : Tj → Prop
  | .t z => z.all (· < 1114112) = true
  | .i _ => True
theorem sokT {z : List Nat} (h : z.all (· < 1114112) = true) : PyData.strOk ⟨z.toArray⟩ = true := by
  show z.toArray.all _ = true
  rw [List.all_toArray]
  exact h
theorem pd_tn : Pd K Tj.d Tj.p 0 Tj.small where
  dp := fun x v h => by
    cases x with
    | t z => rw [At.v_.mp h]; exact .str _
    | i n => rw [At.v_.mp h]; exact .int _
  lay := fun x h => by
    cases x with
    | t z => unfold Tj.p; rw [PyData.canLay0]; exact sokT h
    | i n => unfold Tj.p; rw [PyData.canLay0]
  dep := fun x => by
    cases x with
    | t z => unfold Tj.p; rw [PyData.depth]; exact Nat.le_refl _
    | i n => unfold Tj.p; rw [PyData.depth]; exact Nat.le_refl _
  eq := fun x y => by
    cases x <;> cases y <;> simp [Tj.p, PyData.eqv]
theorem pd_t : Pd K D.t (fun z => .str ⟨z.toArray⟩) 0 (fun z => z.all (· < 1114112) = true) where
  dp := fun x v h => by rw [At.v_.mp h]; exact .str _
  lay := fun x h => by rw [PyData.canLay0]; exact sokT h
  dep := fun x => by rw [PyData.depth]; exact Nat.le_refl _
  eq := fun x y => by simp [PyData.eqv]
theorem Pd.shp (P : Pd K e f n ok) (hn : n ≤ 64) {a : α} (h : ok a) : SeqAt.shaped (f a) = true := by
  unfold SeqAt.shaped
  rw [P.lay a h, decide_eq_true (Nat.le_trans (P.dep a) hn)]
  rfl
theorem Pd.dec [DecidableEq α] (P : Pd K e f n ok) (a b : α) : PyData.eqv (f a) (f b) = decide (a = b) := by
  by_cases h : a = b
  · rw [decide_eq_true h]; exact (P.eq a b).mpr h
  · rw [decide_eq_false h]
    cases e : PyData.eqv (f a) (f b) with
    | false => rfl
    | true => exact absurd ((P.eq a b).mp e) h
theorem s_neP [DecidableEq α] (P : Pd K e f n ok) (hn : n ≤ 64) {a b : α} (hx : At K F0 (e a) x) (hy : At K F1 (e b) y) (s0 : Same F0 H) (s1 : Same F1 H) (oa : ok a) (ob : ok b) (q : Q (.bl (!decide (a = b))) H) : rNeX K x y H Q := by
  refine v_neD (P.dp a x (hx.mono s0)) (P.dp b y (hy.mono s1)) (P.shp hn oa) (P.shp hn ob) ?_
  rw [P.dec]
  exact q
theorem s_eqP [DecidableEq α] (P : Pd K e f n ok) (hn : n ≤ 64) {a b : α} (hx : At K F0 (e a) x) (hy : At K F1 (e b) y) (s0 : Same F0 H) (s1 : Same F1 H) (oa : ok a) (ob : ok b) (q : Q (.bl (decide (a = b))) H) : rEqX K x y H Q := by
  refine v_eqD (P.dp a x (hx.mono s0)) (P.dp b y (hy.mono s1)) (P.shp hn oa) (P.shp hn ob) ?_
  rw [P.dec]
  exact q
end
end G

-- fld
namespace G
open PySem PySem.Spec PyProof.Rows L2
/-! ### cells at any index; plain data in a list that is a cell -/
theorem set_keys {a : Addr} {o o' : HO} : ∀ {M : List (Addr × HO)} {i : Nat}, M[i]? = some (a, o) → (M.set i (a, o')).map (·.1) = M.map (·.1)
  | [], _, e => by cases e
  | p :: M, 0, e => by cases e; rfl
  | p :: M, i + 1, e => by
    show p.1 :: (M.set i (a, o')).map (·.1) = _
    rw [set_keys (M := M) (i := i) e]
    rfl
theorem set_mem {a : Addr} {o o' : HO} {p : Addr × HO} : ∀ {M : List (Addr × HO)} {i : Nat}, M[i]? = some (a, o) → (M.map (·.1)).Nodup → p ∈ M.set i (a, o') → p = (a, o') ∨ (p ∈ M ∧ p.1 ≠ a)
  | [], _, e, _, _ => by cases e
  | q :: M, 0, e, nd, h => by
    cases e
    rw [List.map_cons, List.nodup_cons] at nd
    rcases List.mem_cons.mp (show p ∈ (a, o') :: M from h) with h | h
    · exact .inl h
    · exact .inr ⟨List.mem_cons_of_mem _ h, fun z => nd.1 (by show a ∈ _; rw [← z]; exact List.mem_map.mpr ⟨p, h, rfl⟩)⟩
  | q :: M, i + 1, e, nd, h => by
    rw [List.map_cons, List.nodup_cons] at nd
    have e : M[i]? = some (a, o) := e
    rcases List.mem_cons.mp (show p ∈ q :: M.set i (a, o') from h) with rfl | h
    · exact .inr ⟨List.mem_cons_self .., fun z => nd.1 (by rw [z]; exact List.mem_map.mpr ⟨(a, o), List.mem_of_getElem? e, rfl⟩)⟩
    · rcases set_mem e nd.2 h with z | ⟨z1, z2⟩
      · exact .inl z
      · exact .inr ⟨List.mem_cons_of_mem _ z1, z2⟩
section
variable {K : PySem.W.Frag} {F F0 F1 F' H H' : Hp} {x y v w : V} {M : List (Addr × HO)} {Q : VK} {S : Hp → Prop} {σ : L2.St} {o o' : HO} {a : Addr} {us vs : List V} {i : Nat}
theorem ite_no {p : Prop} [Decidable p] {A B : Prop} (n : ¬ p) (h : B) : if decide p = true then A else B := by rw [if_neg (fun z => n (of_decide_eq_true z))]; exact h
theorem ite_ye {p : Prop} [Decidable p] {A B : Prop} (n : p) (h : A) : if decide p = true then A else B := by rw [if_pos (decide_eq_true n)]; exact h
theorem ite_T {b : Bool} {A B : Prop} (n : b = true) (h : A) : if b = true then A else B := by rw [if_pos n]; exact h
theorem ite_F {b : Bool} {A B : Prop} (n : b = false) (h : B) : if b = true then A else B := by rw [if_neg (by rw [n]; exact Bool.false_ne_true)]; exact h
/-- a cell at any place is written -/
theorem HH.setI (h : HH F H M) (e : M[i]? = some (a, o)) : HH F (upd H a o') (M.set i (a, o')) := by
  have hF : F a = Option.none := h.out e
  refine ⟨fun b u e2 => ?_, by rw [set_keys e]; exact h.nd, fun p hp => ?_⟩
  · rw [upd_ne (ne_of_none e2 hF)]; exact h.sub _ _ e2
  · rcases set_mem e h.nd hp with rfl | ⟨h1, h2⟩
    · exact ⟨upd_same, hF⟩
    · obtain ⟨h3, h4⟩ := h.cell _ h1
      exact ⟨by rw [upd_ne h2]; exact h3, h4⟩
theorem HH.subl {M' : List (Addr × HO)} (h : HH F H M) (s : List.Sublist M' M) : HH F H M' := ⟨h.sub, h.nd.sublist (s.map _), fun p hp => h.cell p (s.subset hp)⟩
theorem o_appI (hh : HH F H M) (e : M[i]? = some (a, .lst vs)) (hl : vs.length < 16777216) (q : ∀ H', HH F H' (M.set i (a, .lst (vs ++ [x]))) → Q .non H') : rAppend (.ref a) [x] H Q := v_append (hh.get e) (by rw [sl16]; exact hl) (q _ (hh.setI e))
theorem o_setI {n : Int} {j : Nat} (hh : HH F H M) (e : M[i]? = some (a, .lst vs)) (en : n = (j : Int)) (hj : j < vs.length) (q : ∀ H', HH F H' (M.set i (a, .lst (vs.set j v))) → S H') : rSetL (.ref a) (.int n) v H S := by
  subst en
  exact v_setL (hh.get e) (by unfold ixN; simp; omega) (q _ (hh.setI e))
theorem o_lenI (hh : HH F H M) (e : M[i]? = some (a, .lst vs)) (q : Q (.int (vs.length : Int)) H) : rLen K [.ref a] H Q := v_lenSq (SqL.of (hh.get e)) q
theorem o_ixI {n : Int} {j : Nat} (hh : HH F H M) (e : M[i]? = some (a, .lst vs)) (en : n = (j : Int)) (ev : vs[j]? = some v) (q : Q v H) : rIx K (.ref a) (.int n) H Q := v_ixL (hh.get e) (atN en ev) q
theorem o_insI {n : Int} {j : Nat} (hh : HH F H M) (e : M[i]? = some (a, .lst vs)) (en : n = (j : Int)) (hj : j ≤ vs.length) (hl : vs.length < 1000000) (q : ∀ H', HH F H' (M.set i (a, .lst (vs.take j ++ [x] ++ vs.drop j))) → Q .non H') : rInsert (.ref a) [.int n, x] H Q := by
  subst en
  exact ⟨a, vs, _, x, rfl, rfl, hh.get e, by rw [sl16]; omega, by omega, by omega, q _ (hh.setI e)⟩
section
variable {α : Type} {e : α → D} {f : α → PyData} {n : Nat} {ok : α → Prop} [DecidableEq α]
theorem Pd.anyD (P : Pd K e f n ok) {a : α} : ∀ {xs : List α}, ((xs.map f).any fun z => PyData.eqv z (f a)) = decide (a ∈ xs)
  | [] => by simp
  | b :: xs => by
    rw [List.map_cons, List.any_cons, P.anyD, P.dec, Bool.eq_iff_iff, Bool.or_eq_true, decide_eq_true_iff, decide_eq_true_iff, decide_eq_true_iff, List.mem_cons]
    exact ⟨fun h => h.imp Eq.symm id, fun h => h.imp Eq.symm id⟩
theorem o_notInP (P : Pd K e f n ok) (hn : n ≤ 60) {a : α} {xs : List α} {l : Addr} (hx : At K F0 (e a) x) (s0 : Same F0 H) (hl : SqL K H l us) (t : AtA K F1 (xs.map e) us) (s1 : Same F1 H) (oa : ok a) (oxs : ∀ x ∈ xs, ok x) (q : Q (.bl (!decide (a ∈ xs))) H) : rNotInD K x (.ref l) H Q := by
  refine ⟨f a, xs.map f, P.dp a x (hx.mono s0), .lst hl (P.all (t.mono s1)), P.shp (by omega) oa, P.list.shp (by omega) oxs, ?_⟩
  rw [P.anyD]
  exact q
theorem o_inP (P : Pd K e f n ok) (hn : n ≤ 60) {a : α} {xs : List α} {l : Addr} (hx : At K F0 (e a) x) (s0 : Same F0 H) (hl : SqL K H l us) (t : AtA K F1 (xs.map e) us) (s1 : Same F1 H) (oa : ok a) (oxs : ∀ x ∈ xs, ok x) (q : Q (.bl (decide (a ∈ xs))) H) : rInD K x (.ref l) H Q := by
  refine ⟨f a, xs.map f, P.dp a x (hx.mono s0), .lst hl (P.all (t.mono s1)), P.shp (by omega) oa, P.list.shp (by omega) oxs, ?_⟩
  rw [P.anyD]
  exact q
end
end
end G
namespace Lw
open PySem PySem.Spec PyProof.Rows L2 G
/-! ### rows -/
structure Rw where
  t : Tb
  n : Int
  cs : List Ce
  deriving DecidableEq
abbrev o_Row (a0 a1 a2 : D) : D := .obj "Row" [("table", a0), ("number", a1), ("cells", a2)]
def Rw.d (K : PySem.W.Frag) (r : Rw) : D := o_Row (.t r.t.z) (.i r.n) (.lst (r.cs.map (Ce.d K)))
def Rw.ok (r : Rw) : Prop := Shp r.t r.cs = true ∧ 1 ≤ r.n ∧ r.n ≤ 6
theorem Shp.len {t : Tb} {cs : List Ce} (h : Shp t cs = true) : cs.length ≤ 4 := by
  unfold Shp at h
  split at h
  · exact Nat.le_refl 4
  · exact Nat.le_of_ble_eq_true rfl
  · exact Nat.le_of_ble_eq_true rfl
  · cases h
def plD (p : Tb × Int) : D := .tup [.t p.1.z, .i p.2]
def plP (p : Tb × Int) : PyData := .tuple [.str ⟨p.1.z.toArray⟩, .int p.2]
theorem tz_inj {a b : Tb} (h : a.z = b.z) : a = b := by
  cases a <;> cases b <;> first | rfl | exact absurd h (by decide +kernel)
theorem tz_iff {a b : Tb} : a.z = b.z ↔ a = b := ⟨tz_inj, fun h => by rw [h]⟩
theorem tz_dec {a b : Tb} : decide (a.z = b.z) = decide (a = b) := decide_eq_decide.mpr tz_iff
theorem tz_ok {a : Tb} : a.z.all (· < 1114112) = true := by cases a <;> decide +kernel
theorem tz_len {a : Tb} : a.z.length ≤ 1 := by cases a <;> decide +kernel
theorem pd_pl {K : PySem.W.Frag} : Pd K plD plP 1 (fun _ => True) where
  dp := fun p v h => by
    obtain ⟨a, vs, rfl, h, t⟩ := At.tup_ h
    obtain ⟨u, us, rfl, h1, t⟩ := AtA.ci t
    obtain ⟨w, us, rfl, h2, t⟩ := AtA.ci t
    obtain rfl := AtA.ni t
    rw [At.v_.mp h1, At.v_.mp h2] at h
    exact .tup h (.cons (.str _) (.cons (.int _) .nil))
  lay := fun p _ => by simp [plP, PyData.canLay0, PyData.canLayAll0, sokT tz_ok]
  dep := fun p => by simp [plP, PyData.depth, PyData.depthAll]
  eq := fun p q => by
    obtain ⟨a, i⟩ := p
    obtain ⟨b, j⟩ := q
    simp only [plP, PyData.eqv, PyData.eqvAll, Bool.and_true, Bool.and_eq_true, decide_eq_true_eq, beq_iff_eq, Prod.mk.injEq]
    constructor
    · rintro ⟨h1, h2⟩
      exact ⟨tz_inj (svv_inj h1), h2⟩
    · rintro ⟨rfl, rfl⟩
      exact ⟨rfl, rfl⟩
section
variable {K : PySem.W.Frag} {F F0 F1 F2 H H' : Hp} {Q : VK} {E : XK} {mg : Str → Option Value} {M : List (Addr × HO)} {x y u : V} {o : HO} {d : Addr} {ns : List Int} {r : Rw} {m : V}
theorem f_Row_table (T : Tx K mg) (h : At K F0 (r.d K) x) (s : Same F0 H) (q : Q (.str ⟨r.t.z.toArray⟩) H) : FldK K "table" x H Q := s_fld h s T.cl_Row T.no_Row_table (lk1 rfl) fun w e => by rw [At.v_.mp e]; exact q
theorem f_Row_number (T : Tx K mg) (h : At K F0 (r.d K) x) (s : Same F0 H) (q : Q (.int r.n) H) : FldK K "number" x H Q := s_fld h s T.cl_Row T.no_Row_number (lk2 (by decide +kernel) (lk1 rfl)) fun w e => by rw [At.v_.mp e]; exact q
theorem f_Row_cells (T : Tx K mg) (h : At K F0 (r.d K) x) (s : Same F0 H) (q : ∀ w, At K F0 (.lst (r.cs.map (Ce.d K))) w → Q w H) : FldK K "cells" x H Q := s_fld h s T.cl_Row T.no_Row_cells (lk2 (by decide +kernel) (lk2 (by decide +kernel) (lk1 rfl))) q
/-! isinstance(cell, list) -/
theorem s_isTup {p : Addr} {xs : List V} {c : String} {b : Bool} (h : SqT K H p xs) (e : kitB "tuple" c = some b) (q : Q (.bl b) H) : rIsi K [.ref p, .ty c] H Q := by
  rcases h with (h | ⟨o, h⟩) | ⟨o, its, n, h1, h2, _⟩
  · exact ⟨_, _, _, _, b, rfl, .ty c, .base (.tup h), kit_ty e, q⟩
  · exact ⟨_, _, _, _, b, rfl, .ty c, .fTuple h, kit_ty e, q⟩
  · exact ⟨_, _, _, _, b, rfl, .ty c, .kTuple h1 h2, kit_ty e, q⟩
def Ce.ls : Ce → Bool
  | .lst _ => true
  | _ => false
theorem s_isL (T : Tx K mg) {c : Ce} (h : At K F0 (c.d K) x) (s : Same F0 H) (q : Q (.bl c.ls) H) : rIsi K [x, .ty "list"] H Q := by
  cases c with
  | non => obtain rfl := At.v_.mp h; exact isi_flat (by decide +kernel) q
  | num n => obtain rfl := At.v_.mp h; exact isi_flat (show kitB "int" "list" = some false by decide +kernel) q
  | txt z => obtain rfl := At.v_.mp h; exact isi_flat (show kitB "str" "list" = some false by decide +kernel) q
  | lst ns =>
    obtain ⟨a, vs, rfl, h, t⟩ := At.lstR h
    exact v_isiL (s _ _ h) q
  | mark =>
    obtain rfl := At.v_.mp h
    exact s_isTup (T.tu_MARK H) (by decide +kernel) q
/-! cells as plain data -/
def Ce.p : Ce → PyData
  | .non => .none
  | .num n => .int n
  | .txt z => .str ⟨z.toArray⟩
  | .lst ns => .list (ns.map .int)
  | .mark => .tuple [.str ⟨q_mark.toArray⟩]
def Ce.small : Ce → Prop
  | .txt z => z.all (· < 1114112) = true
  | _ => True
theorem dp_ints {ns : List Int} : DpAll K H (ns.map V.int) (ns.map PyData.int) := by
  induction ns with
  | nil => exact .nil
  | cons n ns ih => exact .cons (.int n) ih
theorem lay_ints {ns : List Int} : PyData.canLayAll0 (ns.map PyData.int) = true ∧ PyData.depthAll (ns.map PyData.int) = 0 := by
  induction ns with
  | nil => simp [PyData.canLayAll0, PyData.depthAll]
  | cons n ns ih => simp [PyData.canLayAll0, PyData.depthAll, PyData.canLay0, PyData.depth, ih]
theorem eqv_ints : ∀ {ns ms : List Int}, PyData.eqvAll (ns.map PyData.int) (ms.map PyData.int) = true ↔ ns = ms
  | [], [] => by simp [PyData.eqvAll]
  | [], _ :: _ => by simp [PyData.eqvAll]
  | _ :: _, [] => by simp [PyData.eqvAll]
  | n :: ns, m :: ms => by rw [List.map_cons, List.map_cons, PyData.eqvAll, Bool.and_eq_true, eqv_ints, PyData.eqv, List.cons.injEq, beq_iff_eq]
theorem pd_ce (T : Tx K mg) : Pd K (Ce.d K) Ce.p 1 Ce.small where
  dp := fun c v h => by
    cases c with
    | non => rw [At.v_.mp h]; exact .non
    | num n => rw [At.v_.mp h]; exact .int _
    | txt z => rw [At.v_.mp h]; exact .str _
    | lst ns =>
      obtain ⟨a, vs, rfl, h, t⟩ := At.lst_ h
      have e := t.flat (g := V.int)
      subst e
      exact .lst h dp_ints
    | mark =>
      rw [At.v_.mp h]
      exact .tup (T.tu_MARK _) (.cons (.str _) .nil)
  lay := fun c h => by
    cases c with
    | txt z => unfold Ce.p; rw [PyData.canLay0]; exact sokT h
    | lst ns => unfold Ce.p; rw [PyData.canLay0]; exact lay_ints.1
    | mark => decide +kernel
    | _ => unfold Ce.p; rw [PyData.canLay0]
  dep := fun c => by
    cases c with
    | lst ns => unfold Ce.p; rw [PyData.depth, lay_ints.2]; exact Nat.le_refl _
    | mark => decide +kernel
    | _ => unfold Ce.p; rw [PyData.depth]; exact Nat.zero_le _
  eq := fun a b => by
    cases a <;> cases b <;> simp [Ce.p, PyData.eqv, eqv_ints, PyData.eqvAll]
theorem Ce.vk_small {c : Ce} (h : c.vk = true) : c.small := by
  cases c with
  | txt z =>
    have h := of_decide_eq_true h
    show z.all _ = true
    rcases h with rfl | rfl <;> decide +kernel
  | _ => exact True.intro
theorem Ce.km_small {c : Ce} (h : c.km = true) : c.small := by
  unfold Ce.km at h
  rcases Bool.or_eq_true _ _ ▸ h with h | h
  · exact Ce.vk_small h
  · rw [of_decide_eq_true h]; exact True.intro
theorem Ce.rm_small {c : Ce} (h : c.rm = true) : c.small := by cases c <;> first | exact True.intro | cases h
theorem Ce.sm_small {c : Ce} (h : c.sm = true) : c.small := by cases c <;> first | exact True.intro | cases h
theorem Shp.small {t : Tb} {cs : List Ce} (h : Shp t cs = true) : ∀ c ∈ cs, c.small := by
  unfold Shp at h
  split at h
  · simp only [Bool.and_eq_true] at h
    intro c hc
    simp only [List.mem_cons, List.not_mem_nil, or_false] at hc
    rcases hc with rfl | rfl | rfl | rfl
    · exact Ce.vk_small h.1
    · exact Ce.km_small h.2.1
    · exact Ce.rm_small h.2.2.1
    · exact Ce.sm_small h.2.2.2
  · simp only [Bool.and_eq_true] at h
    intro c hc
    simp only [List.mem_cons, List.not_mem_nil, or_false] at hc
    rcases hc with rfl | rfl
    · exact Ce.km_small h.1
    · exact Ce.rm_small h.2
  · simp only [Bool.and_eq_true] at h
    intro c hc
    simp only [List.mem_cons, List.not_mem_nil, or_false] at hc
    rcases hc with rfl | rfl
    · exact Ce.vk_small h.1
    · exact Ce.sm_small h.2
  · cases h
/-- cell == MARK -/
theorem s_eqMark (T : Tx K mg) {c : Ce} (hc : c.small) (h : At K F0 (c.d K) x) (s : Same F0 H) (q : Q (.bl (decide (c = .mark))) H) : rEqX K x (.ref (He.ga K "MARK")) H Q :=
  s_eqP (pd_ce T) (by decide) h (F1 := F0) (b := .mark) (show At K F0 (Ce.d K .mark) (.ref (He.ga K "MARK")) from At.of) s s hc True.intro q
theorem rd_cell_copy (T : Tx K mg) {c : Ce} (hh : HH F H M) (h : At K F0 (c.d K) x) (s : Same F0 F) (q : ∀ F' H' u, Same F F' → HH F' H' M → At K F' (c.d K) u → Q u H') : sp_cell_copy K [x] H Q E := by
  refine ⟨rfl, ?_⟩
  unfold t_cell_copy
  walk_at "go"
  refine s_isL T h (s.trans hh.sub) ?_
  walk_at "go"
  cases hl : c.ls with
  | false =>
    walk_at "go"
    exact q F _ x (Same.refl _) hh (h.mono s)
  | true =>
    cases c with
    | lst ns =>
      walk_at "go"
      exact s_listL h hh s fun F' H' u s' hh' h' => q F' H' u s' hh' h'
    | _ => cases hl
theorem mk_Row (T : Tx K mg) {t : Tb} {n : Int} {cs : List Ce} (hh : HH F H M) (hx : At K F0 (.lst (cs.map (Ce.d K))) x) (s : Same F0 F) (hl : cs.length ≤ 1000) (q : ∀ F' H' u, Same F F' → HH F' H' M → At K F' (Rw.d K ⟨t, n, cs⟩) u → Q u H') : MakeK (He.ga K "Row") (sp_Row_init K) [.str ⟨t.z.toArray⟩, .int n, x] Q H E := by
  refine mk_start hh fun F1 H1 v dx s1 hh => ?_
  refine ⟨rfl, ?_⟩
  unfold t_Row_init
  walk_at "go"
  refine s_sfld hh T.cl_Row T.no_Row_table [] rfl (by decide +kernel) (Nat.le_of_ble_eq_true rfl) fun H1'' hh => ?_
  walk_at "go"
  refine s_sfld hh T.cl_Row T.no_Row_number ["table"] rfl (by decide +kernel) (Nat.le_of_ble_eq_true rfl) fun H1'' hh => ?_
  walk_at "go"
  refine gi_list ?_
  walk_at "go"
  refine a_lcL (e := Ce.d K) (f := Ce.d K) (hx.mono (s.trans s1)) hh (by rw [sl16]; omega) (fun c => some c) (fun c w F' H' ca P N hc hw sF hh' hP hN => ?_) fun F2 H2 u s2 hh h2 => ?_
  · walk_at "go"
    refine ⟨rfl, ?_⟩
    walk_at "go"
    exact rd_cell_copy T hh' hw (Same.refl _) fun F4 H4 z s4 h4 hz => hP F4 H4 z c s4 h4 rfl hz
  walk_at "go"
  refine s_sfld hh T.cl_Row T.no_Row_cells ["table", "number"] rfl (by decide +kernel) (Nat.le_of_ble_eq_true rfl) fun H1'' hh => ?_
  rw [List.filterMap_some] at h2
  exact ⟨rfl, mk_end hh (AtF.cons At.of (AtF.cons At.of (AtF.cons h2 AtF.nil))) fun F3 H3 u s3 hh3 ha => q F3 H3 u (s1.trans (s2.trans s3)) hh3 ha⟩
end
end Lw

-- fld
namespace Lw
open PySem PySem.Spec PyProof.Rows L2 G
/-! ### places, rows -/
def tbs : List Tb := [.M, .N, .P]
def PlOk (ps : List (Tb × Int)) : Prop := ps.Nodup ∧ ∀ p ∈ ps, 1 ≤ p.2 ∧ p.2 ≤ 6
section
variable {K : PySem.W.Frag} {F F0 F1 F2 H H' : Hp} {Q : VK} {E : XK} {mg : Str → Option Value} {M : List (Addr × HO)} {x y u : V} {o : HO} {d : Addr} {ns : List Int} {r : Rw} {m : V}
theorem at_tbs {vs : List V} (h : vs = [svv q_M, svv q_N, svv q_P]) : AtA K F (tbs.map fun t => D.t t.z) vs := by
  subst h
  exact AtA.cons At.of (AtA.cons At.of (AtA.cons At.of AtA.nil))
theorem rd_places (hh : HH F H ((d, o) :: M)) (ho : DrO o) (q : ∀ F' H' o' u ps, Same F F' → DrO o' → HH F' H' ((d, o') :: M) → At K F' (.lst (ps.map plD)) u → ps.length ≤ 12 → PlOk ps → Q u H') : sp__law_places K [.ref d] H Q E := by
  refine ⟨rfl, ?_⟩
  unfold t__law_places
  walk_at "go"
  refine o_lst1 hh (by decide) fun H1 l hh => ?_
  walk_at "go"
  refine gi_list ?_
  walk_at "go"
  refine s_lst (K := K) (ds := tbs.map fun t => D.t t.z) hh (at_tbs rfl) (by decide) fun F1 H2 w s1 hh hw => ?_
  walk_at "go"
  refine a_forL hw hh (fun ts σ H' => ∃ (F' : Hp) (o' : HO) (ps : List (Tb × Int)) (vs : List V) (v2 v3 v4 : Option V), Same F1 F' ∧ DrO o' ∧ ps.length + 4 * ts.length ≤ 12 ∧ PlOk ps ∧ AtA K F' (ps.map plD) vs ∧ σ = [some (.ref d), some (.ref l), v2, v3, v4] ∧ HH F' H' ((d, o') :: (l, .lst vs) :: M))
    (fun r σ H' ⟨F', _, _, _, _, _, _, s, _, _, _, _, _, h⟩ => s.trans h.sub) ⟨F1, o, [], [], none, none, none, Same.refl _, ho, Nat.le_refl _, ⟨.nil, fun _ h => nomatch h⟩, AtA.nil, rfl, hh⟩ ?_ ?_
  · rintro t ts w2 σ H' hw2 ⟨F', o', ps, vs, v2, v3, v4, s, ho, hl, hp, ha, rfl, hh⟩
    obtain rfl := At.v_.mp hw2
    walk_at "go"
    refine rd_draw hh ho (by decide) fun v H3 o2 h0 h1 ho hh => ?_
    obtain ⟨m, rfl⟩ := Int.eq_ofNat_of_zero_le h0
    walk_at "go"
    refine g_rngN (n := m) (by omega) ?_
    refine l_range (fun i σ H' => i ≤ m ∧ ∃ (F' : Hp) (o' : HO) (ps' : List (Tb × Int)) (vs : List V) (v3 v4 : Option V), Same F1 F' ∧ DrO o' ∧ ps'.length ≤ ps.length + i ∧ PlOk ps' ∧ AtA K F' (ps'.map plD) vs ∧ σ = [some (.ref d), some (.ref l), some (svv t.z), v3, v4] ∧ HH F' H' ((d, o') :: (l, .lst vs) :: M))
      ⟨Nat.zero_le _, F', o2, ps, vs, _, _, s, ho, Nat.le_refl _, hp, ha, rfl, hh⟩ ?_ ?_
    · clear hh ho ha hp s
      rintro i σ H' hi ⟨_, F', o', ps', vs, v3, v4, s, ho, hls, hp, ha, rfl, hh⟩
      walk_at "go"
      refine rd_draw hh ho (by decide) fun v H4 o3 h2 h3 ho hh => ?_
      walk_at "go"
      refine s_tup (K := K) (ds := [D.t t.z, D.i (1 + v)]) hh (AtA.cons At.of (AtA.cons At.of AtA.nil)) (Nat.le_of_ble_eq_true rfl) fun F2 H5 u5 s5 hh hu5 => ?_
      have hu5 : At K F2 (plD (t, 1 + v)) u5 := hu5
      walk_at "go"
      refine o_notInP pd_pl (by decide) (a := (t, 1 + v)) (xs := ps') hu5 hh.sub (SqL.of (hh.get (i := 1) rfl)) ha (s5.trans hh.sub) True.intro (fun _ _ => True.intro) ?_
      walk_at "go"
      refine ite2 (fun hc => ?_) (fun hc => ?_)
      · walk_at "go"
        refine o_tyL (i := 1) hh rfl ?_
        walk_at "go"
        have hln : vs.length < 16777216 := by have := ha.len; rw [List.length_map] at this; simp only [List.length_cons] at hl; omega
        refine o_app1 hh hln fun H6 hh => ?_
        have hc' : (t, 1 + v) ∉ ps' := by simpa using hc
        refine ⟨by omega, F2, o3, ps' ++ [(t, 1 + v)], _, _, _, s.trans s5, ho, by rw [List.length_append]; show _ + 1 ≤ _; omega, ⟨?_, fun p hp' => ?_⟩, ?_, rfl, hh⟩
        · rw [List.nodup_append]
          exact ⟨hp.1, List.nodup_cons.mpr ⟨(fun h => nomatch h), .nil⟩, fun a ha b hb => by rw [List.mem_singleton.mp hb]; exact fun e => hc' (e ▸ ha)⟩
        · rcases List.mem_append.mp hp' with hp' | hp'
          · exact hp.2 p hp'
          · rw [List.mem_singleton.mp hp']; exact ⟨by show 1 ≤ 1 + v; omega, by show 1 + v ≤ 6; omega⟩
        · exact AtA.snocM (ha.mono s5) hu5
      · walk_at "go"
        exact ⟨by omega, F2, o3, ps', vs, _, _, s.trans s5, ho, by omega, hp, ha.mono s5, rfl, hh⟩
    · rintro σ H' ⟨_, F', o', ps', vs, v3, v4, s, ho, hls, hp, ha, rfl, hh⟩
      refine ⟨F', o', ps', vs, _, _, _, s, ho, ?_, hp, ha, rfl, hh⟩
      simp only [List.length_cons] at hl
      omega
  · rintro σ H' ⟨F', o', ps, vs, v2, v3, v4, s, ho, hl, hp, ha, rfl, hh⟩
    walk_at "go"
    have g := hh.swap
    exact q _ H' o' (.ref l) ps (s1.trans (s.trans g.frzS)) ho g.frz (frz_lst (g.out (i := 0) rfl) ha) (by simpa using hl) hp
/-! the place of a row's key -/
def Tb.at : Tb → Nat
  | .M => 1
  | _ => 0
theorem if_at {t : Tb} {σ : L2.St} (q : Q (.int (t.at : Int)) H) : if decide (t.z = q_M) = true then tC (.int 1) σ H Q else tC (.int 0) σ H Q := by
  cases t with
  | M => rw [if_pos (by decide +kernel)]; exact q
  | N => rw [if_neg (by decide +kernel)]; exact q
  | P => rw [if_neg (by decide +kernel)]; exact q
theorem ne_P {t : Tb} (h : (!decide (t.z = q_P)) = true) : t ≠ .P := fun e => by subst e; exact absurd h (by decide +kernel)
theorem eq_P {t : Tb} (h : ¬ (!decide (t.z = q_P)) = true) : t = .P := by cases t <;> first | rfl | exact absurd (by decide +kernel) h
theorem key_at {t : Tb} {cs : List Ce} (h : Shp t cs = true) (hp : t ≠ .P) : ∃ k, cs[t.at]? = some k ∧ k.km = true ∧ ∀ k' : Ce, k'.km = true → Shp t (cs.set t.at k') = true := by
  unfold Shp at h
  split at h
  · rename_i v k r s
    simp only [Bool.and_eq_true] at h
    refine ⟨k, rfl, h.2.1, fun k' hk => ?_⟩
    show (v.vk && (k'.km && (r.rm && s.sm))) = true
    rw [h.1, hk, h.2.2.1, h.2.2.2]
    rfl
  · rename_i k r
    simp only [Bool.and_eq_true] at h
    refine ⟨k, rfl, h.1, fun k' hk => ?_⟩
    show (k'.km && r.rm) = true
    rw [hk, h.2]
    rfl
  · exact absurd rfl hp
  · cases h
theorem vk_of {c : Ce} (h : c.km = true) (n : c.nm = true) : c.vk = true := by
  unfold Ce.km at h
  rcases (Bool.or_eq_true _ _).mp h with h | h
  · exact h
  · rw [of_decide_eq_true h] at n; cases n
theorem nm_set {cs : List Ce} {j : Nat} {k : Ce} (h : cs.all Ce.nm = true) (hk : k.nm = true) : (cs.set j k).all Ce.nm = true := by
  rw [List.all_eq_true] at h ⊢
  intro c hc
  rcases List.mem_or_eq_of_mem_set hc with hc | rfl
  · exact h c hc
  · exact hk
theorem AtA.setA {ds : List D} {vs : List V} {j : Nat} {e : D} {v : V} (h : AtA K F ds vs) (hv : At K F e v) : AtA K F (ds.set j e) (vs.set j v) := by
  induction ds generalizing vs j with
  | nil => rw [AtA.ni h]; exact AtA.nil
  | cons d ds ih =>
    obtain ⟨u, us, rfl, h1, h2⟩ := AtA.ci h
    cases j with
    | zero => exact AtA.cons hv h2
    | succ j => exact AtA.cons h1 (ih h2)
theorem Ce.isN {c : Ce} (h : c.flat = true) : decide (c.v = V.non) = decide (c = .non) := by cases c <;> first | rfl | exact Bool.noConfusion h
def key (r : Rw) : Tb × Int := (r.t, r.n)
theorem rd_rows (T : Tx K mg) (hh : HH F H ((d, o) :: M)) (ho : DrO o) (q : ∀ F' H' o' l (rows : List Rw) (vs : List V), Same F F' → DrO o' → HH F' H' ((d, o') :: (l, .lst vs) :: M) → AtA K F' (rows.map (Rw.d K)) vs → rows.length ≤ 12 → (∀ r ∈ rows, Rw.ok r ∧ r.cs.all Ce.nm = true) → (rows.map key).Nodup → Q (.ref l) H') : sp__law_rows K [.ref d] H Q E := by
  refine ⟨rfl, ?_⟩
  unfold t__law_rows
  walk_at "go"
  refine rd_places hh ho fun F1 H1 o1 pv ps s1 ho hh hpv hpl hps => ?_
  walk_at "go"
  refine gi_list ?_
  walk_at "go"
  refine a_lcL (e := plD) (f := D.i) hpv hh (by rw [sl16]; omega) (fun p => if (!decide (p.1.z = q_P)) = true then some p.2 else none) (fun p w F' H' c' P N hy hw sF hh' hP hN => ?_) fun F2 H2 nv s2 hh hnv => ?_
  · walk_at "go"
    refine ⟨rfl, ?_⟩
    walk_at "go"
    refine s_ixT (i := 0) hw hh'.sub rfl rfl fun w1 h1 => ?_
    obtain rfl := At.v_.mp h1
    walk_at "go"
    refine ite2 (fun hc => ?_) (fun hc => ?_)
    · walk_at "go"
      refine s_ixT (i := 1) hw hh'.sub rfl rfl fun w2 h2 => ?_
      exact hP F' _ w2 p.2 (Same.refl _) hh' (if_pos hc) h2
    · exact hN F' _ (Same.refl _) hh' (if_neg hc)
  have hnb : Nb (ps.filterMap fun p => if (!decide (p.1.z = q_P)) = true then some p.2 else none) := by
    refine ⟨Nat.le_trans (List.length_filterMap_le _ _) (by omega), fun n hn => ?_⟩
    obtain ⟨p, hp, e⟩ := List.mem_filterMap.mp hn
    split at e
    · cases e; exact hps.2 p hp
    · cases e
  walk_at "go"
  refine o_lst1 hh (by decide) fun H3 ul hh => ?_
  walk_at "go"
  refine o_lst1 hh (by decide) fun H4 rl hh => ?_
  walk_at "go"
  refine gi_list ?_
  walk_at "go"
  refine a_forL (hpv.mono s2) hh (fun rest σ H' => ∃ (F' : Hp) (o' : HO) (used : List Ce) (rows : List Rw) (rv : List V) (v3 v6 v7 v8 v9 : Option V), Same F2 F' ∧ DrO o' ∧ used.length + rest.length ≤ 12 ∧ used.all Ce.vk = true ∧ AtA K F' (rows.map (Rw.d K)) rv ∧ (∀ r ∈ rows, Rw.ok r ∧ r.cs.all Ce.nm = true) ∧ rows.map key ++ rest = ps ∧
      σ = [some (.ref d), some pv, some nv, v3, some (.ref ul), some (.ref rl), v6, v7, v8, v9] ∧ HH F' H' ((d, o') :: (rl, .lst rv) :: (ul, .lst (used.map Ce.v)) :: M))
    (fun r σ H' ⟨F', _, _, _, _, _, _, _, _, _, s, _, _, _, _, _, _, _, h⟩ => s.trans h.sub) ⟨F2, o1, [], [], [], none, none, none, none, none, Same.refl _, ho, by simpa using hpl, rfl, AtA.nil, (fun _ h => nomatch h), rfl, rfl, hh⟩ ?_ ?_
  · rintro ⟨t, n⟩ rest w σ H' hw ⟨F', o', used, rows, rv, v3, v6, v7, v8, v9, s, ho, hul, hu, hr, hrs, hk, rfl, hh⟩
    have hrl : rows.length ≤ 11 := by
      have e := congrArg List.length hk
      rw [List.length_append, List.length_map] at e
      simp only [List.length_cons] at e
      omega
    have hvl : rv.length = rows.length := by rw [hr.len, List.length_map]
    refine s_gtup hw (by walk_at "sm") rfl fun us hus => ?_
    obtain ⟨w1, us, rfl, hw1, hus⟩ := AtA.ci hus
    obtain ⟨w2, us, rfl, hw2, hus⟩ := AtA.ci hus
    obtain rfl := AtA.ni hus
    obtain rfl := At.v_.mp hw1
    obtain rfl := At.v_.mp hw2
    walk_at "go"
    refine rd_cell_row hh ho hnv (by walk_at "sm") hnb fun F3 H5 o3 l vs cs s3 ho hh hcs hsh hnm => ?_
    walk_at "go"
    refine if_at ?_
    walk_at "go"
    refine g_cut (fun σ' H' => ∃ (cs : List Ce) (vs : List V), σ' = [some (.ref d), some pv, some nv, v3, some (.ref ul), some (.ref rl), some (svv t.z), some (.int n), some (.ref l), some (.int (t.at : Int))] ∧ AtA K F3 (cs.map (Ce.d K)) vs ∧ Shp t cs = true ∧ cs.all Ce.nm = true ∧ HH F3 H' ((l, .lst vs) :: (d, o3) :: (rl, .lst rv) :: (ul, .lst (used.map Ce.v)) :: M)) ?_ ?_
    · walk_at "go"
      refine ite2 (fun hc => ?_) (fun hc => ?_)
      · obtain ⟨k, hk1, hk2, hk3⟩ := key_at hsh (ne_P hc)
        have hkn : k.nm = true := List.all_eq_true.mp hnm k (List.mem_of_getElem? hk1)
        have hkv := vk_of hk2 hkn
        obtain ⟨kv, hkv1, hkv2⟩ := hcs.get (i := t.at) (d := k.d K) (by rw [List.getElem?_map, hk1]; rfl)
        obtain rfl := Ce.at_ (Ce.vk_flat hkv) hkv2
        walk_at "go"
        refine o_ixI (i := 0) hh rfl rfl hkv1 ?_
        walk_at "go"
        refine o_inC (i := 3) (Ce.vk_flat hkv) (List.all_eq_true.mpr fun c hc => Ce.vk_flat (List.all_eq_true.mp hu c hc)) hh rfl ?_
        walk_at "go"
        refine ite2 (fun _ => ?_) (fun _ => ?_)
        · walk_at "go"
          refine o_setI (i := 0) (j := t.at) hh rfl rfl (by obtain ⟨z, _⟩ := List.getElem?_eq_some_iff.mp hkv1; exact z) fun H6 hh => ?_
          refine ⟨cs.set t.at .non, _, rfl, ?_, hk3 .non rfl, nm_set hnm rfl, hh⟩
          rw [List.map_set]
          exact AtA.setA hcs At.of
        · walk_at "go"
          exact ⟨cs, vs, rfl, hcs, hsh, hnm, hh⟩
      · walk_at "go"
        exact ⟨cs, vs, rfl, hcs, hsh, hnm, hh⟩
    clear hcs hsh hnm hh
    rintro σ' H6 ⟨cs, vs, rfl, hcs, hsh, hnm, hh⟩
    refine g_cut (fun σ' H' => ∃ (used : List Ce), σ' = [some (.ref d), some pv, some nv, v3, some (.ref ul), some (.ref rl), some (svv t.z), some (.int n), some (.ref l), some (.int (t.at : Int))] ∧ used.length + rest.length ≤ 12 ∧ used.all Ce.vk = true ∧ HH F3 H' ((l, .lst vs) :: (d, o3) :: (rl, .lst rv) :: (ul, .lst (used.map Ce.v)) :: M)) ?_ ?_
    · walk_at "go"
      refine ite2 (fun hc => ?_) (fun hc => ?_)
      · obtain ⟨k, hk1, hk2, hk3⟩ := key_at hsh (ne_P hc)
        have hkn : k.nm = true := List.all_eq_true.mp hnm k (List.mem_of_getElem? hk1)
        have hkv := vk_of hk2 hkn
        obtain ⟨kv, hkv1, hkv2⟩ := hcs.get (i := t.at) (d := k.d K) (by rw [List.getElem?_map, hk1]; rfl)
        obtain rfl := Ce.at_ (Ce.vk_flat hkv) hkv2
        walk_at "go"
        refine o_ixI (i := 0) hh rfl rfl hkv1 ?_
        walk_at "go"
        refine ite2 (fun _ => ?_) (fun _ => ?_)
        · walk_at "go"
          refine o_tyL (i := 3) hh rfl ?_
          walk_at "go"
          refine o_ixI (i := 0) hh rfl rfl hkv1 ?_
          walk_at "go"
          simp only [List.length_cons] at hul
          refine o_appI (i := 3) hh rfl (by rw [List.length_map]; omega) fun H7 hh => ?_
          refine ⟨used ++ [k], rfl, by rw [List.length_append]; show _ + 1 + _ ≤ _; omega, by rw [List.all_append, hu]; simp [hkv], ?_⟩
          rw [List.map_append]
          exact hh
        · walk_at "go"
          exact ⟨used, rfl, by simp only [List.length_cons] at hul; omega, hu, hh⟩
      · walk_at "go"
        exact ⟨used, rfl, by simp only [List.length_cons] at hul; omega, hu, hh⟩
    clear hul hu hh
    rintro σ' H7 ⟨used, rfl, hul, hu, hh⟩
    walk_at "go"
    refine o_tyL (i := 2) hh rfl ?_
    walk_at "go"
    have sfz := hh.frzS
    refine mk_Row T hh.frz (frz_lst (hh.out (i := 0) rfl) hcs) (Same.refl _) (by have := Shp.len hsh; omega) fun F4 H8 rw s8 hh hrw => ?_
    walk_at "go"
    refine o_app1 hh (by omega) fun H9 hh => ?_
    refine ⟨F4, o3, used, rows ++ [⟨t, n, cs⟩], rv ++ [rw], _, _, _, _, _, ?_, ho, hul, hu, ?_, fun r hr' => ?_, ?_, rfl, hh⟩
    · walk_at "sm"
    · exact AtA.snocM (hr.mono (by walk_at "sm")) hrw
    · rcases List.mem_append.mp hr' with hr' | hr'
      · exact hrs r hr'
      · rw [List.mem_singleton.mp hr']
        exact ⟨⟨hsh, hps.2 (t, n) (by rw [← hk]; exact List.mem_append_right _ (List.mem_cons_self ..))⟩, hnm⟩
    · rw [List.map_append, List.append_assoc]
      exact hk
  · rintro σ H' ⟨F', o', used, rows, rv, v3, v6, v7, v8, v9, s, ho, hul, hu, hr, hrs, hk, rfl, hh⟩
    walk_at "go"
    have hk : rows.map key = ps := by rw [← hk, List.append_nil]
    refine q F' _ o' rl rows rv (by walk_at "sm") ho ?_ hr (by have e := congrArg List.length hk; rw [List.length_map] at e; omega) hrs (by rw [hk]; exact hps.1)
    exact hh.subl (.cons_cons _ (.cons_cons _ (.cons _ (List.Sublist.refl _))))
end
end Lw

-- fld
namespace Lw
open PySem PySem.Spec PyProof.Rows L2 G
/-! ### rows spoilt -/
section
variable {K : PySem.W.Frag} {F F0 F1 F2 H H' : Hp} {Q : VK} {E : XK} {mg : Str → Option Value} {M : List (Addr × HO)} {x y u : V} {o : HO} {d : Addr} {ns : List Int} {r : Rw} {m : V}
theorem o_listL {ds : List D} (hh : HH F H M) (hx : At K F0 (.lst ds) x) (s : Same F0 F) (q : ∀ H' l vs, HH F H' ((l, .lst vs) :: M) → AtA K F ds vs → Q (.ref l) H') : rListX K [x] H Q := by
  obtain ⟨a, vs, rfl, h, t⟩ := hx.lst_
  exact v_listL ((s.trans hh.sub).seq h) fun l hl => q _ l vs (hh.new hl) (t.mono s)
theorem shp_mark {t : Tb} {cs : List Ce} {j : Nat} (h : Shp t cs = true) (hj : (t = .M ∧ 1 ≤ j ∧ j ≤ 3) ∨ (t = .N ∧ j = 0) ∨ (t = .P ∧ j = 1)) : Shp t (cs.set j .mark) = true ∧ j < cs.length := by
  rcases hj with ⟨rfl, h1, h2⟩ | ⟨rfl, rfl⟩ | ⟨rfl, rfl⟩
  · unfold Shp at h
    split at h
    · rename_i v k r s _ 
      simp only [Bool.and_eq_true] at h
      rcases (by omega : j = 1 ∨ j = 2 ∨ j = 3) with rfl | rfl | rfl
      · exact ⟨by show (v.vk && ((Ce.mark).km && (r.rm && s.sm))) = true; rw [h.1, h.2.2.1, h.2.2.2]; rfl, Nat.le_of_ble_eq_true rfl⟩
      · exact ⟨by show (v.vk && (k.km && ((Ce.mark).rm && s.sm))) = true; rw [h.1, h.2.1, h.2.2.2]; rfl, Nat.le_of_ble_eq_true rfl⟩
      · exact ⟨by show (v.vk && (k.km && (r.rm && (Ce.mark).sm))) = true; rw [h.1, h.2.1, h.2.2.1]; rfl, Nat.le_of_ble_eq_true rfl⟩
    · rename_i e; cases e
    · rename_i e; cases e
    · cases h
  · obtain ⟨k, h1, _, h2⟩ := key_at h (by decide)
    exact ⟨h2 .mark rfl, (List.getElem?_eq_some_iff.mp h1).1⟩
  · unfold Shp at h
    split at h
    · rename_i e; cases e
    · rename_i e; cases e
    · rename_i v s _
      simp only [Bool.and_eq_true] at h
      exact ⟨by show (v.vk && (Ce.mark).sm) = true; rw [h.1]; rfl, Nat.le_of_ble_eq_true rfl⟩
    · cases h
def six : List Int := [1, 2, 3, 4, 5, 6]
theorem nb6 : Nb six := ⟨by decide, by decide⟩
theorem perm_ins {α : Type} {j : Nat} {x : α} {xs : List α} : (xs.take j ++ [x] ++ xs.drop j).Perm (x :: xs) := by
  have h : (xs.take j ++ x :: xs.drop j).Perm (x :: (xs.take j ++ xs.drop j)) := List.perm_middle
  rw [List.take_append_drop] at h
  rw [List.append_assoc]
  exact h
theorem take_map_ins {ds : List D} {vs : List V} {j : Nat} {e : D} {v : V} (h : AtA K F ds vs) (hv : At K F e v) : AtA K F (ds.take j ++ [e] ++ ds.drop j) (vs.take j ++ [v] ++ vs.drop j) := by
  induction ds generalizing vs j with
  | nil => rw [AtA.ni h]; simp only [List.take_nil, List.drop_nil]; exact AtA.cons hv AtA.nil
  | cons d ds ih =>
    obtain ⟨u, us, rfl, h1, h2⟩ := AtA.ci h
    cases j with
    | zero => exact AtA.cons hv (AtA.cons h1 h2)
    | succ j => exact AtA.cons h1 (ih h2)
end
end Lw

-- fld
namespace G
open PySem PySem.Spec PyProof.Rows PySem.W L2 LamX
/-! ### one table of code objects among the cells; sorted(xs, key=lambda ..) over data -/
structure TbK (F : Hp) (q : Str) (ps : Array Value) : Prop where
  tri : TriplesOk ps.toList
  ok : ∀ (pos : Pos) (cv : Value), codeAmong pos ps.toList = some cv → ∃ c, cv = .ref c ∧ F c = some (CodeO c q)
section
variable {K : PySem.W.Frag} {F F0 F1 F' H H' H1 H2 : Hp} {x y v w : V} {M : List (Addr × HO)} {Q : VK} {S : Hp → Prop} {σ : L2.St} {o o' : HO} {a P : Addr} {us vs : List V} {i : Nat} {q : Str} {ps : Array Value} {nx bk ct : L2.St → Hp → Prop} {rt : VK}
theorem TbK.mono (t : TbK F q ps) (s : Same F F') : TbK F' q ps := ⟨t.tri, fun pos cv h => by
  obtain ⟨c, e1, e2⟩ := t.ok pos cv h
  exact ⟨c, e1, s _ _ e2⟩⟩
theorem TbK.tabs (t : TbK F q ps) (s : Same F H) (h : H P = some (.tbl ps)) : Tabs [(P, q)] H := fun p hp => by
  rw [List.mem_singleton.mp hp]
  refine ⟨ps, h, t.tri, fun pos cv hc => ?_⟩
  obtain ⟨c, e1, e2⟩ := t.ok pos cv hc
  exact ⟨c, e1, s _ _ e2⟩
/-- no table, no code object among the cells -/
def Pln (M : List (Addr × HO)) : Prop := ∀ p ∈ M, (∀ ps, p.2 ≠ .tbl ps) ∧ ∀ c q, p.2 ≠ CodeO c q
theorem Pln.nil : Pln [] := fun _ h => nomatch h
theorem Pln.dk {kvs : List (L2.Key × V)} (h : Pln M) : Pln ((a, .dK kvs) :: M) := fun p hp => by
  rcases List.mem_cons.mp hp with rfl | hp
  · exact ⟨fun ps z => (by cases z), fun c q z => (by cases z)⟩
  · exact h p hp
theorem Pln.lst (h : Pln M) : Pln ((a, .lst vs) :: M) := fun p hp => by
  rcases List.mem_cons.mp hp with rfl | hp
  · exact ⟨fun ps z => (by cases z), fun c q z => (by cases z)⟩
  · exact h p hp
theorem NoT.ext (nF : NoT F) (s : Same F H1) (e : ExtN H1 H2) : Same F H2 := fun b o h => e b o (s b o h) fun ps z => nF b ps (by rw [h, z])
theorem NoT.up (nF : NoT F) (n : ∀ ps, o ≠ .tbl ps) : NoT (upd F a o) := fun b ps => by
  by_cases c : b = a
  · rw [c, upd_same]; exact fun z => n ps (Option.some.inj z)
  · rw [upd_ne c]; exact nF b ps
open Classical in
theorem ext1 (hh : HH F H ((P, .tbl ps) :: M)) (nF : NoT F) (nM : Pln M) (e : ExtN H H2) (t : Tabs [(P, q)] H2) : ∃ F2 ps2, Same F F2 ∧ NoT F2 ∧ TbK F2 q ps2 ∧ HH F2 H2 ((P, .tbl ps2) :: M) := by
  obtain ⟨ps2, h1, h2, h3⟩ := t (P, q) (List.mem_singleton.mpr rfl)
  have fP : F P = none := (hh.cell _ (List.mem_cons_self ..)).2
  have told : ∀ {b : Addr}, (∃ pos, codeAmong pos ps2.toList = some (.ref b)) → H2 b = some (CodeO b q) := fun {b} ⟨pos, hp⟩ => by
    obtain ⟨c, e1, e2⟩ := h3 pos _ hp
    cases e1
    exact e2
  generalize hF : (fun b => match F b with
    | some o => some o
    | none => if ∃ pos, codeAmong pos ps2.toList = some (.ref b) then some (CodeO b q) else none : Hp) = F2
  have s2 : Same F F2 := fun b o h => by rw [← hF]; simp only [h]
  have inv : ∀ {b : Addr} {o : HO}, F2 b = some o → F b = some o ∨ (F b = none ∧ (∃ pos, codeAmong pos ps2.toList = some (.ref b)) ∧ o = CodeO b q) := fun {b o} h => by
    rw [← hF] at h
    cases c : F b with
    | some u => simp only [c] at h; exact .inl h
    | none =>
      simp only [c] at h
      split at h
      · rename_i z; exact .inr ⟨rfl, z, (Option.some.inj h).symm⟩
      · cases h
  refine ⟨F2, ps2, s2, fun b ps z => ?_, ⟨h2, fun pos cv hc => ?_⟩, ?_, hh.nd, fun p hp => ?_⟩
  · rcases inv z with z | ⟨_, _, z⟩
    · exact nF b ps z
    · cases z
  · obtain ⟨c, e1, e2⟩ := h3 pos cv hc
    refine ⟨c, e1, ?_⟩
    cases hc2 : F c with
    | some u =>
      have z := nF.ext hh.sub e c u hc2
      rw [e2] at z
      exact s2 c _ (by rw [hc2, ← Option.some.inj z])
    | none =>
      rw [← hF]
      simp only [hc2]
      rw [if_pos ⟨pos, by rw [← e1]; exact hc⟩]
  · intro b o h
    rcases inv h with z | ⟨_, z, rfl⟩
    · exact nF.ext hh.sub e b o z
    · exact told z
  · rcases List.mem_cons.mp hp with rfl | hp
    · refine ⟨h1, ?_⟩
      cases z : F2 P with
      | none => rfl
      | some u =>
        rcases inv z with z | ⟨_, z, _⟩
        · rw [fP] at z; cases z
        · have := told z
          rw [h1] at this
          cases this
    · obtain ⟨c1, c2⟩ := hh.cell p (List.mem_cons_of_mem _ hp)
      have c3 := e _ _ c1 (nM p hp).1
      refine ⟨c3, ?_⟩
      cases z : F2 p.1 with
      | none => rfl
      | some u =>
        rcases inv z with z | ⟨_, z, _⟩
        · rw [c2] at z; cases z
        · have := told z
          rw [c3] at this
          exact absurd (Option.some.inj this) ((nM p hp).2 _ _)
/-! for i, x in enumerate(xs) -/
def EnK (K : PySem.W.Frag) (R : It → Hp → Prop) (vs : List V) (H1 : Hp) : Prop := ∃ a xs, vs = [.ref a] ∧ SqL K H1 a xs ∧ R (Ite K a) H1
theorem gi_enum {ta : TA} {R : It → Hp → Prop} (h : ta σ H (EnK K R)) : iEnum K ta σ H R := h
theorem a_forE {α : Type} {e : α → D} {xs : List α} {g : TG} {tb : TS} (hx : At K F0 (.lst (xs.map e)) x) (s : Same F0 H) (I : Nat → List α → L2.St → Hp → Prop) (hF : ∀ i r σ H, I i r σ H → Same F0 H) (h0 : I 0 xs σ H)
    (hs : ∀ i y r w T σ H, At K F0 (e y) w → I i (y :: r) σ H → H T = none → g (.ref T) σ (upd H T (.tup [.int (i : Nat), w])) fun σ2 H2 => tb ⟨I (i + 1) r, rt, nx, I (i + 1) r⟩ σ2 H2) (hd : ∀ i σ H, I i [] σ H → nx σ H) : EnK K (fun J H1 => LoopG J g tb ⟨nx, rt, bk, ct⟩ σ H1) [x] H := by
  obtain ⟨a, vs, rfl, h, t⟩ := hx.lst_
  have hl : vs.length = xs.length := by rw [t.len, List.length_map]
  refine ⟨a, vs, rfl, s.seq h, fun i m σ H => m = vs.length - i ∧ i ≤ vs.length ∧ I i (xs.drop i) σ H, ⟨vs.length, by simp, Nat.zero_le _, h0⟩, ?_⟩
  rintro i m σ H ⟨rfl, hi, q⟩
  by_cases hlt : i < vs.length
  · have hq := (hF _ _ _ _ q).seq h
    refine .inr ⟨⟨vs, vs[i], hq, by simp [hlt]⟩, fun σ H => I (i + 1) (xs.drop (i + 1)) σ H, fun σ' H' q' => ⟨vs.length - (i + 1), by omega, rfl, hlt, q'⟩, fun x H' z => ?_⟩
    obtain ⟨T, w, rfl, hT, rfl, hw⟩ := z
    obtain ⟨d, hd', ha⟩ := t.at_ (hw vs hq)
    rw [List.getElem?_map] at hd'
    obtain ⟨y, ey, rfl⟩ := Option.map_eq_some_iff.mp hd'
    rw [drop_c ey] at q
    exact hs i y _ w T σ H ha q hT
  · obtain rfl : i = vs.length := by omega
    rw [hl, List.drop_length] at q
    exact .inl ⟨⟨vs, (hF _ _ _ _ q).seq h, Nat.le_refl _⟩, hd _ _ _ q⟩
theorem v_gtup2 {S : L2.St → Hp → Prop} {T : Addr} {t : TGs} {u v : V} (h : H T = some (.tup [u, v])) (q : t [u, v] σ H S) : gTup K 2 t (.ref T) σ H S := ⟨T, [u, v], rfl, SqT.of h, rfl, q⟩
theorem putK_new {kvs : List (L2.Key × V)} {k : L2.Key} (n : k ∉ kvs.map (·.1)) : putK kvs k v = kvs ++ [(k, v)] := L2.putK_new _ (by
  induction kvs with
  | nil => rfl
  | cons p kvs ih =>
    rw [List.map_cons, List.mem_cons, not_or] at n
    rw [valV_neg (p := p) (fun z => n.1 z.symm)]
    exact ih n.2)
end
end G

-- fld
namespace Lw
open PySem PySem.Spec PyProof.Rows PySem.W L2 G LamX
/-! ### sorted_rows -/
def Tb.pl : Tb → Int
  | .M => 0
  | .N => 1
  | .P => 2
def leR (a b : Rw) : Bool := decide (a.t.pl < b.t.pl ∨ (a.t.pl = b.t.pl ∧ a.n ≤ b.n))
def sortR (rows : List Rw) : List Rw := rows.mergeSort leR
def plk : Int → List Ta → List (L2.Key × V)
  | _, [] => []
  | i, t :: ts => (kT t.n, .int i) :: plk (i + 1) ts
theorem sp_pl : ((plk 0 ta3).map (·.1)).Nodup := by decide +kernel
theorem pl_val {t : Tb} : valV (plk 0 ta3) (kT t.z) = some (.int t.pl) := by cases t <;> rfl
abbrev tbP (K : PySem.W.Frag) : Addr := (He.cT K ("sorted_rows", none)).2
abbrev tbQ : Str := (("sorted_rows" : Str) ++ ".<locals>.") ++ "<lambda>"
section
variable {K : PySem.W.Frag} {F F0 F1 F2 H H' : Hp} {Q : VK} {E : XK} {mg : Str → Option Value} {M : List (Addr × HO)} {x y u : V} {o : HO} {d : Addr} {ns : List Int} {r : Rw} {m : V} {ps : Array Value} {rows : List Rw}
theorem zip_at {F : Hp} : ∀ {rows : List Rw} {vs : List V}, AtA K F (rows.map (Rw.d K)) vs → (vs.zip rows).map (·.1) = vs ∧ (vs.zip rows).map (·.2) = rows ∧ ∀ p ∈ vs.zip rows, At K F (Rw.d K p.2) p.1
  | [], vs, h => by rw [AtA.ni h]; exact ⟨rfl, rfl, fun _ h => nomatch h⟩
  | r :: rows, vs, h => by
    obtain ⟨u, us, rfl, h1, h2⟩ := AtA.ci h
    obtain ⟨e1, e2, e3⟩ := zip_at h2
    refine ⟨?_, ?_, fun p hp => ?_⟩
    · exact congrArg (u :: ·) e1
    · exact congrArg (r :: ·) e2
    · rcases List.mem_cons.mp hp with rfl | hp
      · exact h1
      · exact e3 p hp
theorem at_zip {F : Hp} : ∀ {ps : List (V × Rw)}, (∀ p ∈ ps, At K F (Rw.d K p.2) p.1) → AtA K F ((ps.map (·.2)).map (Rw.d K)) (ps.map (·.1))
  | [], _ => AtA.nil
  | p :: ps, h => AtA.cons (h p (List.mem_cons_self ..)) (at_zip fun p hp => h p (List.mem_cons_of_mem _ hp))
theorem rd_sorted_rows (T : Tx K mg) (hh : HH F H ((tbP K, .tbl ps) :: M)) (tb : TbK F tbQ ps) (nF : NoT F) (nM : Pln M) (hx : At K F0 (.lst (ta3.map Ta.d)) x) (s0 : Same F0 F) (hy : At K F1 (.lst (rows.map (Rw.d K))) y) (s1 : Same F1 F) (hl : rows.length ≤ 1000)
    (q : ∀ F' H' ps' u, Same F F' → NoT F' → TbK F' tbQ ps' → HH F' H' ((tbP K, .tbl ps') :: M) → At K F' (.lst ((sortR rows).map (Rw.d K))) u → Q u H') : sp_sorted_rows K [x, y] H Q E := by
  refine ⟨rfl, ?_⟩
  unfold t_sorted_rows
  walk_at "go"
  refine o_dnew hh fun H1 dp hh => ?_
  walk_at "go"
  refine gi_enum ?_
  walk_at "go"
  refine a_forE hx (s0.trans hh.sub) (fun i rest σ H' => ∃ (F' : Hp) (kvs : List (L2.Key × V)) (v3 v4 : Option V), Same F F' ∧ NoT F' ∧ kvs ++ plk (i : Nat) rest = plk 0 ta3 ∧ σ = [some x, some y, some (.ref dp), v3, v4] ∧ HH F' H' ((dp, .dK kvs) :: (tbP K, .tbl ps) :: M))
    (fun i r σ H' ⟨F', _, _, _, s, _, _, _, h⟩ => s0.trans (s.trans h.sub)) ⟨F, [], none, none, Same.refl _, nF, rfl, rfl, hh⟩ ?_ ?_
  · rintro i t rest w Tp σ H' hw ⟨F', kvs, v3, v4, s, nF', hk, rfl, hh⟩ hT
    have hh2 := hh.newF (o := .tup [.int (i : Nat), w]) hT
    have sT := hh.grow (o := .tup [.int (i : Nat), w]) hT
    refine v_gtup2 upd_same ?_
    walk_at "go"
    refine fv_Table_name T hw (s0.trans (s.trans (sT.trans hh2.sub))) ?_
    walk_at "go"
    have hkl : kvs.length ≤ 3 := by
      have e := congrArg List.length hk
      rw [List.length_append] at e
      have : (plk 0 ta3).length = 3 := rfl
      omega
    refine o_dput0 (k := kT t.n) hh2 (by omega) fun H4 hh4 => ?_
    have nk : kT t.n ∉ kvs.map (·.1) := by
      have nd := sp_pl
      rw [← hk, List.map_append, List.nodup_append] at nd
      exact fun z => nd.2.2 _ z _ (List.mem_cons_self ..) rfl
    rw [putK_new nk] at hh4
    refine ⟨_, _, _, _, s.trans sT, nF'.up (fun ps z => by cases z), ?_, rfl, hh4⟩
    rw [List.append_assoc, ← hk]
    rfl
  · rintro i σ H' ⟨F', kvs, v3, v4, s, nF', hk, rfl, hh⟩
    have hk : kvs = plk 0 ta3 := by
      have e : plk (i : Nat) [] = [] := rfl
      rw [e, List.append_nil] at hk
      exact hk
    subst hk
    walk_at "go"
    obtain ⟨l, vs, rfl, hF1, hv⟩ := hy.lstR
    obtain ⟨z1, z2, z3⟩ := zip_at hv
    have sF : Same F1 H' := s1.trans (s.trans hh.sub)
    unfold tSortK
    walk_at "go"
    refine ⟨_, rfl, (tb.mono s).tabs hh.sub (hh.get (i := 1) rfl), l, V × Rw, vs.zip rows, Prod.fst, fun p => .tuple [.int p.2.t.pl, .int p.2.n], rfl, fun H2 e => ?_, ?_, ?_, ?_, ?_, ?_⟩
    · rw [z1]
      exact SqL.of (nF'.ext hh.sub e _ _ (s1.trans s _ _ hF1))
    · intro a ha b hb
      obtain ⟨_, _, rfl⟩ := List.mem_map.mp ha
      obtain ⟨_, _, rfl⟩ := List.mem_map.mp hb
      simp [alike, alikeAll]
    · refine .inl fun a ha => ?_
      obtain ⟨_, _, rfl⟩ := List.mem_map.mp ha
      exact ⟨_, _, rfl⟩
    · intro b _
      simp [PyData.depth, PyData.depthAll]
    · rintro ⟨v, r⟩ hb H2 e t2
      have s2 : Same F' H2 := nF'.ext hh.sub e
      have hv := z3 _ hb
      show tTup _ [some v, some (.ref dp)] H2 _
      walk_at "go"
      refine f_Row_table T hv (s1.trans (s.trans s2)) ?_
      refine v_dget (k := kT r.t.z) (kvs := plk 0 ta3) (v := .int r.t.pl) (.inl (e _ _ (hh.get (i := 0) rfl) fun ps z => by cases z)) pl_val ?_
      walk_at "go"
      refine f_Row_number T hv (s1.trans (s.trans s2)) ?_
      walk_at "go"
      refine o_tup (Nat.le_of_ble_eq_true rfl) fun p hp => ?_
      exact ⟨Gr.upd hp, fun H4 g => .tup (SqT.of (g _ _ upd_same)) (.cons (.int _) (.cons (.int _) .nil))⟩
    · intro H2 p e t2 hp
      obtain ⟨F2, ps2, s2, nF2, tb2, hh2⟩ := ext1 (q := tbQ) (M := (dp, .dK (plk 0 ta3)) :: M) hh.swap nF' nM.dk e t2
      have hh3 := hh2.drop1
      have hs : ((vs.zip rows).mergeSort (dataLe false fun p => .tuple [.int p.2.t.pl, .int p.2.n])).map (·.2) = sortR rows := by
        rw [dataLe_ii]
        unfold sortR
        conv => rhs; rw [← z2]
        exact List.map_mergeSort fun a _ b _ => rfl
      have ha : AtA K F1 ((sortR rows).map (Rw.d K)) (((vs.zip rows).mergeSort (dataLe false fun p => .tuple [.int p.2.t.pl, .int p.2.n])).map Prod.fst) := by
        rw [← hs]
        exact at_zip fun p hp => z3 p ((List.mergeSort_perm _ _).mem_iff.mp hp)
      have sg := hh3.grow (o := .lst (((vs.zip rows).mergeSort (dataLe false fun p => .tuple [.int p.2.t.pl, .int p.2.n])).map Prod.fst)) hp
      have sA : Same F1 (upd F2 p (.lst (((vs.zip rows).mergeSort (dataLe false fun p => .tuple [.int p.2.t.pl, .int p.2.n])).map Prod.fst))) := s1.trans (s.trans (s2.trans sg))
      exact q _ _ ps2 _ (s.trans (s2.trans sg)) (nF2.up fun ps z => by cases z) (tb2.mono sg) (hh3.newF hp) (At.mkL upd_same (ha.mono sA))
end
end Lw

-- fld
namespace Lw
open PySem PySem.Spec PyProof.Rows L2 G
/-! ### what is there, what is missing -/
def Tb.tab : Tb → Ta
  | .M => tM
  | .N => tN
  | .P => tP
theorem tab_mem {t : Tb} : t.tab ∈ ta3 := by cases t <;> simp [Tb.tab, ta3]
theorem tab_n {t : Tb} : t.tab.n = t.z := by cases t <;> rfl
theorem tab_of {a : Ta} {t : Tb} (h : a ∈ ta3) (e : a.n = t.z) : a = t.tab := by
  simp only [ta3, List.mem_cons, List.not_mem_nil, or_false] at h
  rcases h with rfl | rfl | rfl <;> cases t <;> first | rfl | exact absurd e (by decide +kernel)
def ksK (l : List Int) : List (L2.Key × V) := l.map fun n => (kI n, V.bl true)
def insI (l : List Int) (n : Int) : List Int := if n ∈ l then l else l ++ [n]
theorem val_ks {n : Int} : ∀ {l : List Int}, valV (ksK l) (kI n) = if n ∈ l then some (.bl true) else none
  | [] => by simp [ksK]; rfl
  | m :: l => by
    by_cases c : m = n
    · subst c
      rw [if_pos (List.mem_cons_self ..)]
      exact valV_pos rfl
    · have ih := val_ks (n := n) (l := l)
      have e : valV (ksK (m :: l)) (kI n) = valV (ksK l) (kI n) := valV_neg (p := (kI m, V.bl true)) fun z => c (Sum.inl.inj z)
      rw [e, ih]
      have c' : ¬ n = m := fun z => c z.symm
      simp [c']
theorem put_ks {l : List Int} {n : Int} : putK (ksK l) (kI n) (.bl true) = ksK (insI l n) := by
  unfold insI
  by_cases c : n ∈ l
  · rw [if_pos c]
    unfold putK
    rw [valV_any, val_ks, if_pos c, if_pos (show (some (V.bl true)).isSome = true from rfl)]
    unfold ksK
    rw [List.map_map]
    refine List.map_congr_left fun m _ => ?_
    show (if _ then _ else _) = _
    split
    · rfl
    · rfl
  · rw [if_neg c]
    rw [G.putK_new]
    · unfold ksK; rw [List.map_append]; rfl
    · intro z
      obtain ⟨p, hp, e⟩ := List.mem_map.mp z
      obtain ⟨m, hm, rfl⟩ := List.mem_map.mp hp
      have e : kI m = kI n := e
      rw [Sum.inl.inj e] at hm
      exact c hm
theorem insI_len {l : List Int} {n : Int} : (insI l n).length ≤ l.length + 1 := by
  unfold insI
  split
  · exact Nat.le_succ _
  · rw [List.length_append]; exact Nat.le_refl _
theorem insI_mem {l : List Int} {n m : Int} : m ∈ insI l n ↔ m ∈ l ∨ m = n := by
  unfold insI
  split
  · rename_i h
    exact ⟨.inl, fun z => z.elim id fun e => e ▸ h⟩
  · rw [List.mem_append, List.mem_singleton]
/-- the numbers of the rows of a table -/
def knw (rows : List Rw) (t : Tb) : List Int := rows.foldl (fun l r => if r.t = t then insI l r.n else l) []
theorem knw_snoc {rows : List Rw} {r : Rw} {t : Tb} : knw (rows ++ [r]) t = if r.t = t then insI (knw rows t) r.n else knw rows t := by unfold knw; rw [List.foldl_append]; rfl
theorem knw_snoc_eq {rows : List Rw} {r : Rw} {t : Tb} (h : r.t = t) : knw (rows ++ [r]) t = insI (knw rows t) r.n := by rw [knw_snoc, if_pos h]
theorem knw_snoc_ne {rows : List Rw} {r : Rw} {t : Tb} (h : r.t ≠ t) : knw (rows ++ [r]) t = knw rows t := by rw [knw_snoc, if_neg h]
theorem len_step {rows : List Rw} {t : Tb} : (knw rows t).length ≤ rows.length := by
  suffices h : ∀ (l : List Int), (rows.foldl (fun l r => if r.t = t then insI l r.n else l) l).length ≤ l.length + rows.length from by
    have := h []
    simpa [knw] using this
  induction rows with
  | nil => intro l; exact Nat.le_refl _
  | cons r rows ih =>
    intro l
    refine Nat.le_trans (ih _) ?_
    rw [List.length_cons]
    show (if r.t = t then insI l r.n else l).length + _ ≤ _
    by_cases c : r.t = t
    · rw [if_pos c]; have := insI_len (l := l) (n := r.n); omega
    · rw [if_neg c]; omega
theorem knw_mem {rows : List Rw} {t : Tb} {n : Int} : n ∈ knw rows t ↔ ∃ r ∈ rows, r.t = t ∧ r.n = n := by
  suffices h : ∀ (l : List Int), n ∈ rows.foldl (fun l r => if r.t = t then insI l r.n else l) l ↔ n ∈ l ∨ ∃ r ∈ rows, r.t = t ∧ r.n = n from by
    have := h []
    simpa [knw] using this
  induction rows with
  | nil => intro l; simp
  | cons r rows ih =>
    intro l
    rw [List.foldl_cons, ih]
    by_cases c : r.t = t
    · rw [if_pos c, insI_mem]
      constructor
      · rintro ((h | h) | ⟨r', h1, h2⟩)
        · exact .inl h
        · exact .inr ⟨r, List.mem_cons_self .., c, h.symm⟩
        · exact .inr ⟨r', List.mem_cons_of_mem _ h1, h2⟩
      · rintro (h | ⟨r', h1, h2⟩)
        · exact .inl (.inl h)
        · rcases List.mem_cons.mp h1 with rfl | h1
          · exact .inl (.inr h2.2.symm)
          · exact .inr ⟨r', h1, h2⟩
    · rw [if_neg c]
      constructor
      · rintro (h | ⟨r', h1, h2⟩)
        · exact .inl h
        · exact .inr ⟨r', List.mem_cons_of_mem _ h1, h2⟩
      · rintro (h | ⟨r', h1, h2⟩)
        · exact .inl h
        · rcases List.mem_cons.mp h1 with rfl | h1
          · exact absurd h2.1 c
          · exact .inr ⟨r', h1, h2⟩
/-- the dict of dicts: at D, and at m, n, p -/
structure Kw where
  D : Addr
  m : Addr
  n : Addr
  p : Addr
def Kw.at (k : Kw) : Tb → Addr
  | .M => k.m
  | .N => k.n
  | .P => k.p
def Kw.kv (k : Kw) : List (L2.Key × V) := [(kT q_M, .ref k.m), (kT q_N, .ref k.n), (kT q_P, .ref k.p)]
def Kw.cells (k : Kw) (f : Tb → List Int) : List (Addr × HO) := [(k.D, .dK k.kv), (k.m, .dK (ksK (f .M))), (k.n, .dK (ksK (f .N))), (k.p, .dK (ksK (f .P)))]
theorem kw_val {k : Kw} {t : Tb} : valV k.kv (kT t.z) = some (.ref (k.at t)) := by cases t <;> rfl
section
variable {K : PySem.W.Frag} {F F0 F1 F2 H H' : Hp} {Q : VK} {E : XK} {mg : Str → Option Value} {M : List (Addr × HO)} {x y u : V} {o : HO} {d : Addr} {ns : List Int} {r : Rw} {m : V} {ps : Array Value} {rows : List Rw} {k : Kw} {f : Tb → List Int} {σ : L2.St}
theorem kw_get {t : Tb} (hh : HH F H (k.cells f ++ M)) (q : Q (.ref (k.at t)) H) : DgK Q (.ref k.D) (.str ⟨t.z.toArray⟩) H :=
  v_dget (k := kT t.z) (.inl (hh.get (i := 0) rfl)) kw_val q
theorem kw_in {t : Tb} {n : Int} (hh : HH F H (k.cells f ++ M)) (q : Q (.bl (decide (n ∈ f t))) H) : DiK false Q (.ref (k.at t)) (.int n) H := by
  have e : H (k.at t) = some (.dK (ksK (f t))) := by
    cases t
    · exact hh.get (i := 1) rfl
    · exact hh.get (i := 2) rfl
    · exact hh.get (i := 3) rfl
  refine v_din (k := kI n) (.inl e) ?_
  rw [val_ks]
  by_cases c : n ∈ f t
  · rw [if_pos c]; rw [decide_eq_true c] at q; exact q
  · rw [if_neg c]; rw [decide_eq_false c] at q; exact q
theorem rd_numbers (T : Tx K mg) (hh : HH F H M) (hx : At K F0 (.lst (ta3.map Ta.d)) x) (s0 : Same F0 F) (hy : At K F1 (.lst (rows.map (Rw.d K))) y) (s1 : Same F1 F) (hl : rows.length ≤ 1000)
    (q : ∀ H' k, HH F H' (Kw.cells k (knw rows) ++ M) → Q (.ref k.D) H') : sp_numbers_by_table K [x, y] H Q E := by
  refine ⟨rfl, ?_⟩
  unfold t_numbers_by_table
  walk_at "go"
  refine gi_list ?_
  walk_at "go"
  obtain ⟨l, vs, rfl, hF0, hv⟩ := hx.lstR
  have hv0 := hv
  obtain ⟨v0, vs, rfl, h0, hv⟩ := AtA.ci hv
  obtain ⟨v1, vs, rfl, h1, hv⟩ := AtA.ci hv
  obtain ⟨v2, vs, rfl, h2, hv⟩ := AtA.ci hv
  obtain rfl := AtA.ni hv
  refine v_ovL (SqL.of (hh.sub _ _ (s0 _ _ hF0))) fun D hD => ?_
  refine dc_list (xs := [v0, v1, v2]) (fun i H' => (i = 0 ∧ HH F H' ((D, .dK []) :: M)) ∨ (i = 1 ∧ ∃ a, HH F H' ((D, .dK [(kT q_M, .ref a)]) :: (a, .dK []) :: M)) ∨ (i = 2 ∧ ∃ a b, HH F H' ((D, .dK [(kT q_M, .ref a), (kT q_N, .ref b)]) :: (a, .dK []) :: (b, .dK []) :: M)) ∨ (i = 3 ∧ ∃ k : Kw, k.D = D ∧ HH F H' (k.cells (fun _ => []) ++ M)))
    (.inl ⟨rfl, hh.new hD⟩) (fun i H' h => ?_) (fun i v H' hi h => ?_) (fun H' h => ?_)
  · have sub : Same F H' := by
      rcases h with ⟨_, h⟩ | ⟨_, _, h⟩ | ⟨_, _, _, h⟩ | ⟨_, _, _, h⟩ <;> exact h.sub
    exact SqL.of (sub _ _ (s0 _ _ hF0))
  · rcases h with ⟨rfl, hh⟩ | ⟨rfl, a, hh⟩ | ⟨rfl, a, b, hh⟩ | ⟨rfl, _⟩
    · cases hi
      walk_at "go"
      refine ⟨rfl, ?_⟩
      walk_at "go"
      refine fv_Table_name T h0 (s0.trans hh.sub) ?_
      walk_at "go"
      refine o_dnew1 hh fun H2 a hh => ?_
      refine v_putD (k := kT q_M) (hh.get (i := 0) rfl) (by decide) ?_
      exact .inr (.inl ⟨rfl, a, hh.set0⟩)
    · cases hi
      walk_at "go"
      refine ⟨rfl, ?_⟩
      walk_at "go"
      refine fv_Table_name T h1 (s0.trans hh.sub) ?_
      walk_at "go"
      refine o_dnew1 hh fun H2 b hh => ?_
      refine v_putD (k := kT q_N) (hh.get (i := 0) rfl) (Nat.le_of_ble_eq_true rfl) ?_
      exact .inr (.inr (.inl ⟨rfl, a, b, hh.set0.perm (.cons _ (.swap _ _ _))⟩))
    · cases hi
      walk_at "go"
      refine ⟨rfl, ?_⟩
      walk_at "go"
      refine fv_Table_name T h2 (s0.trans hh.sub) ?_
      walk_at "go"
      refine o_dnew1 hh fun H2 c hh => ?_
      refine v_putD (k := kT q_P) (hh.get (i := 0) rfl) (Nat.le_of_ble_eq_true rfl) ?_
      exact .inr (.inr (.inr ⟨rfl, ⟨D, a, b, c⟩, rfl, hh.set0.perm (.cons _ ((List.Perm.swap _ _ _).trans (.cons _ (.swap _ _ _))))⟩))
    · cases hi
  · rcases h with ⟨e, _⟩ | ⟨e, _⟩ | ⟨e, _⟩ | ⟨_, k, rfl, hh⟩
    · cases e
    · cases e
    · cases e
    walk_at "go"
    refine gi_list ?_
    walk_at "go"
    refine a_forL (hy.mono s1) hh (fun rest σ H' => ∃ (done : List Rw) (v3 v4 : Option V), done ++ rest = rows ∧ σ = [some (.ref l), some y, some (.ref k.D), v3, v4] ∧ HH F H' (k.cells (knw done) ++ M))
      (fun r σ H' ⟨_, _, _, _, _, h⟩ => h.sub) ⟨[], _, _, rfl, rfl, hh⟩ ?_ ?_
    · rintro r rest w σ H' hw ⟨done, v3, v4, e, rfl, hh⟩
      have hdl : ∀ t, (knw done t).length < 1000000 := fun t => by
        have e2 := congrArg List.length e
        rw [List.length_append] at e2
        have := len_step (rows := done) (t := t)
        omega
      walk_at "go"
      refine f_Row_table T hw hh.sub ?_
      refine kw_get hh ?_
      walk_at "go"
      refine f_Row_number T hw hh.sub ?_
      walk_at "go"
      have e3 : (done ++ [r]) ++ rest = rows := by rw [List.append_assoc]; exact e
      have lk : ∀ t, (ksK (knw done t)).length < 10000000 := fun t => by unfold ksK; rw [List.length_map]; have := hdl t; omega
      obtain ⟨t, n, cs⟩ := r
      cases t with
      | M =>
        refine ⟨_, _, rfl, DPut.k (k := kI n) (hh.get (i := 1) rfl) (by rw [sl16]; have := lk .M; omega), done ++ [⟨.M, n, cs⟩], _, _, e3, rfl, ?_⟩
        have g := hh.setI (i := 1) (o' := .dK (putK (ksK (knw done .M)) (kI n) (.bl true))) rfl
        have e1 : knw (done ++ [⟨.M, n, cs⟩]) .M = insI (knw done .M) n := knw_snoc_eq rfl
        have e2 : knw (done ++ [⟨.M, n, cs⟩]) .N = knw done .N := knw_snoc_ne (by intro h; cases h)
        have e4 : knw (done ++ [⟨.M, n, cs⟩]) .P = knw done .P := knw_snoc_ne (by intro h; cases h)
        unfold Kw.cells
        rw [e1, e2, e4, ← put_ks]
        exact g
      | N =>
        refine ⟨_, _, rfl, DPut.k (k := kI n) (hh.get (i := 2) rfl) (by rw [sl16]; have := lk .N; omega), done ++ [⟨.N, n, cs⟩], _, _, e3, rfl, ?_⟩
        have g := hh.setI (i := 2) (o' := .dK (putK (ksK (knw done .N)) (kI n) (.bl true))) rfl
        have e1 : knw (done ++ [⟨.N, n, cs⟩]) .N = insI (knw done .N) n := knw_snoc_eq rfl
        have e2 : knw (done ++ [⟨.N, n, cs⟩]) .M = knw done .M := knw_snoc_ne (by intro h; cases h)
        have e4 : knw (done ++ [⟨.N, n, cs⟩]) .P = knw done .P := knw_snoc_ne (by intro h; cases h)
        unfold Kw.cells
        rw [e1, e2, e4, ← put_ks]
        exact g
      | P =>
        refine ⟨_, _, rfl, DPut.k (k := kI n) (hh.get (i := 3) rfl) (by rw [sl16]; have := lk .P; omega), done ++ [⟨.P, n, cs⟩], _, _, e3, rfl, ?_⟩
        have g := hh.setI (i := 3) (o' := .dK (putK (ksK (knw done .P)) (kI n) (.bl true))) rfl
        have e1 : knw (done ++ [⟨.P, n, cs⟩]) .P = insI (knw done .P) n := knw_snoc_eq rfl
        have e2 : knw (done ++ [⟨.P, n, cs⟩]) .M = knw done .M := knw_snoc_ne (by intro h; cases h)
        have e4 : knw (done ++ [⟨.P, n, cs⟩]) .N = knw done .N := knw_snoc_ne (by intro h; cases h)
        unfold Kw.cells
        rw [e1, e2, e4, ← put_ks]
        exact g
    · rintro σ H' ⟨done, v3, v4, e, rfl, hh⟩
      rw [List.append_nil] at e
      subst e
      walk_at "go"
      exact q _ k hh
theorem rd_table_named (T : Tx K mg) {t : Tb} (hh : HH F H M) (hx : At K F0 (.lst (ta3.map Ta.d)) x) (s0 : Same F0 F) (q : ∀ w, At K F (t.tab.d) w → Q w H) : sp_table_named K [x, .str ⟨t.z.toArray⟩] H Q E := by
  refine ⟨rfl, ?_⟩
  unfold t_table_named
  walk_at "go"
  refine gi_list ?_
  walk_at "go"
  refine a_forL (hx.mono s0) hh (fun rest σ H' => (∃ pre, ta3 = pre ++ rest) ∧ t.tab ∈ rest ∧ H' = H ∧ ∃ v2, σ = [some x, some (svv t.z), v2]) (fun r σ H' ⟨_, _, e, _⟩ => by rw [e]; exact hh.sub) ⟨⟨[], rfl⟩, tab_mem, rfl, none, rfl⟩ ?_ ?_
  · rintro a rest w σ H' hw ⟨⟨pre, e⟩, hm, rfl, v2, rfl⟩
    walk_at "go"
    refine fv_Table_name T hw hh.sub ?_
    walk_at "go"
    have ha : a ∈ ta3 := by rw [e]; exact List.mem_append_right _ (List.mem_cons_self ..)
    refine ite2 (fun hc => ?_) (fun hc => ?_)
    · walk_at "go"
      have e2 := tab_of ha (of_decide_eq_true hc)
      subst e2
      exact q w hw
    · walk_at "go"
      refine ⟨⟨pre ++ [a], by rw [e, List.append_assoc]; rfl⟩, ?_, rfl, _, rfl⟩
      rcases List.mem_cons.mp hm with z | z
      · exact absurd (by rw [← z, tab_n]; exact decide_eq_true rfl) hc
      · exact z
  · rintro σ H' ⟨_, hm, _⟩
    cases hm
/-! numbers of a cell -/
def Ce.nums : Ce → List Int
  | .num n => [n]
  | .lst ns => ns
  | _ => []
def Co.nums (c : Co) (ce : Ce) : List Int := if c.r = q_value then [] else ce.nums
/-- where a column refers to, its cells are numbers -/
def CeN (ce : Ce) : Prop := ∀ z, ce ≠ .txt z
theorem rd_cell_numbers (T : Tx K mg) {c : Co} {ce : Ce} (hh : HH F H M) (hc : At K F0 c.d x) (s0 : Same F0 F) (hy : At K F1 (ce.d K) y) (s1 : Same F1 F) (hs : ce.small) (hn : c.r ≠ q_value → CeN ce) (q : ∀ F' H' u, Same F F' → HH F' H' M → At K F' (.lst ((c.nums ce).map D.i)) u → Q u H') : sp_cell_numbers K [x, y] H Q E := by
  refine ⟨rfl, ?_⟩
  unfold t_cell_numbers
  walk_at "go"
  refine fv_Column_role T hc (s0.trans hh.sub) ?_
  walk_at "go"
  refine ite2 (fun h => ?_) (fun h => ?_)
  · walk_at "go"
    refine s_lst (K := K) (ds := []) hh AtA.nil (by decide) fun F' H' u s' hh' hu => ?_
    refine q F' H' u s' hh' ?_
    have e : c.nums ce = [] := if_pos (of_decide_eq_true h)
    rw [e]
    exact hu
  have hr : c.r ≠ q_value := fun z => h (decide_eq_true z)
  have e : c.nums ce = ce.nums := if_neg hr
  have hn := hn hr
  rw [e] at q
  cases ce with
  | txt z => exact absurd rfl (hn z)
  | non =>
    obtain rfl := At.v_.mp hy
    walk_at "go"
    exact s_lst (K := K) (ds := []) hh AtA.nil (by decide) fun F' H' u s' hh' hu => q F' H' u s' hh' hu
  | num n =>
    obtain rfl := At.v_.mp hy
    walk_at "go"
    refine ite_no (fun z => nomatch z) ?_
    walk_at "go"
    refine s_eqMark T (c := .num n) hs hy (s1.trans hh.sub) ?_
    walk_at "go"
    refine ite_no (fun z => nomatch z) ?_
    walk_at "go"
    refine s_isL T (c := .num n) hy (s1.trans hh.sub) ?_
    rw [show (Ce.num n).ls = false from rfl]
    walk_at "go"
    exact s_lst (K := K) (ds := [D.i n]) hh (AtA.cons At.of AtA.nil) (Nat.le_of_ble_eq_true rfl) fun F' H' u s' hh' hu => q F' H' u s' hh' hu
  | lst ns =>
    have hy0 := hy
    obtain ⟨a, vs, rfl, _, _⟩ := At.lstR hy
    walk_at "go"
    refine ite_no (fun z => nomatch z) ?_
    walk_at "go"
    refine s_eqMark T (c := .lst ns) hs hy0 (s1.trans hh.sub) ?_
    walk_at "go"
    refine ite_no (fun z => nomatch z) ?_
    walk_at "go"
    refine s_isL T (c := .lst ns) hy0 (s1.trans hh.sub) ?_
    rw [show (Ce.lst ns).ls = true from rfl]
    walk_at "go"
    exact s_listL hy0 hh s1 fun F' H' u s' hh' h' => q F' H' u s' hh' h'
  | mark =>
    obtain rfl := At.v_.mp hy
    walk_at "go"
    refine ite_no (fun z => nomatch z) ?_
    walk_at "go"
    refine s_eqMark T (c := .mark) hs hy (s1.trans hh.sub) ?_
    walk_at "go"
    refine ite_ye rfl ?_
    walk_at "go"
    exact s_lst (K := K) (ds := []) hh AtA.nil (by decide) fun F' H' u s' hh' hu => q F' H' u s' hh' hu
/-! is_there -/
theorem rd_is_there (T : Tx K mg) {c : Co} {n : Int} (hm : c.ts = mn) (hh : HH F H (k.cells f ++ M)) (hc : At K F0 c.d x) (s0 : Same F0 F) (q : ∀ F' H', Same F F' → HH F' H' (k.cells f ++ M) → Q (.bl (decide (n ∈ f .M ∨ n ∈ f .N))) H') : sp_is_there K [.ref k.D, x, .int n] H Q E := by
  refine ⟨rfl, ?_⟩
  unfold t_is_there
  have e1 : ¬ q_M = q_N := by decide +kernel
  have e2 : ¬ q_N = q_M := by decide +kernel
  walk_at "go"
  refine gi_list ?_
  walk_at "go"
  refine f_Column_targets T hc (s0.trans hh.sub) fun w hw => ?_
  rw [hm] at hw
  refine a_lcL (e := D.t) (f := D.b) (hw.mono s0) hh (by rw [sl16]; decide) (fun z => some (decide ((z = q_M ∧ n ∈ f .M) ∨ (z = q_N ∧ n ∈ f .N)))) (fun z w F' H' ca P N hz hw sF hh' hP hN => ?_) fun F2 H2 u s2 hh h2 => ?_
  · obtain rfl := At.v_.mp hw
    have hh2 := hh'.drop
    walk_at "go"
    refine ⟨rfl, ?_⟩
    walk_at "go"
    simp only [mn, List.mem_cons, List.not_mem_nil, or_false] at hz
    rcases hz with rfl | rfl
    · refine kw_get (t := .M) hh2 (kw_in (t := .M) hh2 ?_)
      exact hP F' _ _ _ (Same.refl _) hh' rfl (At.v_.mpr (by simp [e1, e2]))
    · refine kw_get (t := .N) hh2 (kw_in (t := .N) hh2 ?_)
      exact hP F' _ _ _ (Same.refl _) hh' rfl (At.v_.mpr (by simp [e1, e2]))
  · walk_at "go"
    obtain ⟨l, vs, rfl, hl, hv⟩ := h2.lst_
    have e := hv.flat (g := V.bl)
    subst e
    refine ⟨l, _, rfl, hh.sub.seq hl, ?_⟩
    have := q F2 H2 s2 hh
    simpa [mn, e1, e2] using this
end
end Lw

-- fld
namespace Lw
open PySem PySem.Spec PyProof.Rows L2 G
/-! ### the first missing number, the first clash, the first fault -/
def Rw.refs (r : Rw) : List Int := (r.t.tab.cs.zip r.cs).flatMap fun p => p.1.nums p.2
def thr (f : Tb → List Int) (n : Int) : Bool := decide (n ∈ f .M ∨ n ∈ f .N)
def mis (f : Tb → List Int) (rows : List Rw) : Option Int := (rows.flatMap Rw.refs).find? fun n => !thr f n
def Ce.o (n : Option Int) : V := match n with
  | none => .non
  | some n => .int n
theorem shp_len {t : Tb} {cs : List Ce} (h : Shp t cs = true) : cs.length = t.tab.cs.length := by
  unfold Shp at h
  split at h <;> first | rfl | cases h
/-- a row's cells fit its columns -/
theorem shp_fit {t : Tb} {cs : List Ce} (h : Shp t cs = true) {i : Nat} {c : Co} {ce : Ce} (e1 : t.tab.cs[i]? = some c) (e2 : cs[i]? = some ce) : (c.r ≠ q_value → CeN ce) ∧ (c.r ≠ q_value → c.ts = mn) := by
  have rmN : ∀ {ce : Ce}, ce.rm = true → CeN ce := fun {ce} h z e => by subst e; cases h
  have smN : ∀ {ce : Ce}, ce.sm = true → CeN ce := fun {ce} h z e => by subst e; cases h
  unfold Shp at h
  split at h
  · simp only [Bool.and_eq_true] at h
    rcases i with _ | _ | _ | _ | i
    · cases e1; cases e2; exact ⟨fun z => absurd rfl z, fun z => absurd rfl z⟩
    · cases e1; cases e2; exact ⟨fun z => absurd rfl z, fun z => absurd rfl z⟩
    · cases e1; cases e2; exact ⟨fun _ => rmN h.2.2.1, fun _ => rfl⟩
    · cases e1; cases e2; exact ⟨fun _ => smN h.2.2.2, fun _ => rfl⟩
    · cases e2
  · simp only [Bool.and_eq_true] at h
    rcases i with _ | _ | i
    · cases e1; cases e2; exact ⟨fun z => absurd rfl z, fun z => absurd rfl z⟩
    · cases e1; cases e2; exact ⟨fun _ => rmN h.2, fun _ => rfl⟩
    · cases e2
  · simp only [Bool.and_eq_true] at h
    rcases i with _ | _ | i
    · cases e1; cases e2; exact ⟨fun z => absurd rfl z, fun z => absurd rfl z⟩
    · cases e1; cases e2; exact ⟨fun _ => smN h.2, fun _ => rfl⟩
    · cases e2
  · cases h
section
variable {K : PySem.W.Frag} {F F0 F1 F2 H H' : Hp} {Q : VK} {E : XK} {mg : Str → Option Value} {M : List (Addr × HO)} {x y u : V} {o : HO} {d : Addr} {ns : List Int} {r : Rw} {m : V} {ps : Array Value} {rows : List Rw} {k : Kw} {f : Tb → List Int} {σ : L2.St}
theorem nums_nil {c : Co} {ce : Ce} (h : c.r = q_value) : c.nums ce = [] := if_pos h
theorem drop_at {α : Type} {xs : List α} {i : Nat} {x : α} {r : List α} (h : xs.drop i = x :: r) : xs[i]? = some x ∧ xs.drop (i + 1) = r := ⟨(of_drop h).1, (of_drop h).2.1⟩
theorem rd_first_missing (T : Tx K mg) (hh : HH F H M) (hx : At K F0 (.lst (ta3.map Ta.d)) x) (s0 : Same F0 F) (hy : At K F1 (.lst (rows.map (Rw.d K))) y) (s1 : Same F1 F) (hl : rows.length ≤ 1000) (hr : ∀ r ∈ rows, Shp r.t r.cs = true)
    (q : ∀ F' H', Same F F' → HH F' H' M → Q (Ce.o (mis (knw rows) rows)) H') : sp_first_missing K [x, y] H Q E := by
  refine ⟨rfl, ?_⟩
  unfold t_first_missing
  walk_at "go"
  refine rd_numbers T hh hx s0 hy s1 hl fun H1 k hh => ?_
  walk_at "go"
  refine gi_list ?_
  walk_at "go"
  generalize hres : mis (knw rows) rows = res at q
  generalize knw rows = f at hh hres
  have fin : ∀ {F' H' : Hp}, Same F F' → HH F' H' (k.cells f ++ M) → Q (Ce.o res) H' := fun s hh => q _ _ s (hh.subl (List.sublist_append_right _ _))
  refine a_forL (hy.mono s1) hh (fun rest σ H' => ∃ (F' : Hp) (v3 v4 v5 v6 : Option V), Same F F' ∧ (rest.flatMap Rw.refs).find? (fun n => !thr f n) = res ∧ (∀ r ∈ rest, Shp r.t r.cs = true) ∧ σ = [some x, some y, some (.ref k.D), v3, v4, v5, v6] ∧ HH F' H' (k.cells f ++ M))
    (fun r σ H' ⟨F', _, _, _, _, s, _, _, _, h⟩ => s.trans h.sub) ⟨F, none, none, none, none, Same.refl _, hres, hr, rfl, hh⟩ ?_ ?_
  · clear hh
    rintro r rest w σ H' hw ⟨F', v3, v4, v5, v6, s, e, hrs, rfl, hh⟩
    have hsh := hrs r (List.mem_cons_self ..)
    have hrest : ∀ r ∈ rest, Shp r.t r.cs = true := fun r hr => hrs r (List.mem_cons_of_mem _ hr)
    rw [List.flatMap_cons] at e
    walk_at "go"
    refine gi_enum ?_
    walk_at "go"
    refine f_Row_table T hw (by walk_at "sm") ?_
    walk_at "go"
    refine rd_table_named T hh hx (by walk_at "sm") fun tw htw => ?_
    walk_at "go"
    refine f_Table_columns T htw hh.sub fun cw hcw => ?_
    refine a_forE hcw hh.sub (fun i cols σ H' => ∃ (F2 : Hp) (v4 v5 v6 : Option V), Same F' F2 ∧ cols = r.t.tab.cs.drop i ∧ ((cols.zip (r.cs.drop i)).flatMap (fun p => p.1.nums p.2) ++ rest.flatMap Rw.refs).find? (fun n => !thr f n) = res ∧ σ = [some x, some y, some (.ref k.D), some w, v4, v5, v6] ∧ HH F2 H' (k.cells f ++ M))
      (fun i r σ H' ⟨F2, _, _, _, s, _, _, _, h⟩ => s.trans h.sub) ⟨F', _, _, _, Same.refl _, rfl, e, rfl, hh⟩ ?_ ?_
    · clear e hh
      rintro i c cols cw' Tp σ H' hc ⟨F2, v4, v5, v6, s2, ec, e, rfl, hh⟩ hT
      have hh2 := hh.newF (o := .tup [.int (i : Nat), cw']) hT
      have sT := hh.grow (o := .tup [.int (i : Nat), cw']) hT
      obtain ⟨c1, c2⟩ := drop_at ec.symm
      have hi : i < r.cs.length := by
        rw [shp_len hsh]
        exact (List.getElem?_eq_some_iff.mp c1).1
      have ce1 : r.cs[i]? = some r.cs[i] := List.getElem?_eq_getElem hi
      obtain ⟨fit1, fit2⟩ := shp_fit hsh c1 ce1
      have hsm := Shp.small hsh _ (List.getElem_mem hi)
      generalize r.cs[i] = ce at ce1 fit1 hsm
      rw [drop_c ce1, List.zip_cons_cons, List.flatMap_cons, List.append_assoc] at e
      refine v_gtup2 upd_same ?_
      walk_at "go"
      refine gi_list ?_
      walk_at "go"
      refine f_Row_cells T hw (by walk_at "sm") fun zw hzw => ?_
      walk_at "go"
      obtain ⟨a, vs, rfl, hva, hvs⟩ := At.lst_ hzw
      obtain ⟨u, hu1, hu2⟩ := hvs.get (i := i) (d := ce.d K) (by rw [List.getElem?_map, ce1]; rfl)
      have sF : Same F (upd H' Tp (.tup [.int (i : Nat), cw'])) := by walk_at "sm"
      refine v_ixSq (sF.seq hva) (atN (i := i) rfl hu1) ?_
      clear sF
      walk_at "go"
      refine rd_cell_numbers T hh2 hc (s2.trans sT) hu2 (s.trans (s2.trans sT)) hsm fit1 fun F3 H3 nw s3 hh hnw => ?_
      refine a_forL hnw hh (fun ns σ H' => ∃ (F4 : Hp) (v6 : Option V), Same F3 F4 ∧ (ns ++ ((cols.zip (r.cs.drop (i + 1))).flatMap (fun p => p.1.nums p.2) ++ rest.flatMap Rw.refs)).find? (fun n => !thr f n) = res ∧ (∀ n ∈ ns, c.ts = mn) ∧ σ = [some x, some y, some (.ref k.D), some w, some (.int (i : Nat)), some cw', v6] ∧ HH F4 H' (k.cells f ++ M))
        (fun r σ H' ⟨F4, _, s, _, _, _, h⟩ => s.trans h.sub) ⟨F3, _, Same.refl _, e, fun n hn => ?_, rfl, hh⟩ ?_ ?_
      · refine fit2 fun z => ?_
        rw [nums_nil z] at hn
        cases hn
      · clear e hh hh2
        rintro n ns nw' σ H' hnw' ⟨F4, v6, s4, e, hts, rfl, hh⟩
        obtain rfl := At.v_.mp hnw'
        walk_at "go"
        refine rd_is_there T (hts n (List.mem_cons_self ..)) hh hc (by walk_at "sm") fun F5 H5 s5 hh => ?_
        walk_at "go"
        rw [List.cons_append, List.find?_cons] at e
        refine ite2 (fun hc => ?_) (fun hc => ?_)
        · have hc : (!thr f n) = true := hc
          rw [hc] at e
          have e : some n = res := e
          subst e
          walk_at "go"
          exact fin (by walk_at "sm") hh
        · have hc : (!thr f n) = false := by
            cases z : (!thr f n) with
            | true => exact absurd z hc
            | false => rfl
          rw [hc] at e
          walk_at "go"
          exact ⟨F5, _, by walk_at "sm", e, fun n hn => hts n (List.mem_cons_of_mem _ hn), rfl, hh⟩
      · rintro σ H' ⟨F4, v6, s4, e, _, rfl, hh⟩
        exact ⟨F4, _, _, _, by walk_at "sm", c2.symm, e, rfl, hh⟩
    · rintro i σ H' ⟨F2, v4, v5, v6, s2, ec, e, rfl, hh⟩
      exact ⟨F2, _, _, _, _, s.trans s2, e, hrest, rfl, hh⟩
  · rintro σ H' ⟨F', v3, v4, v5, v6, s, e, _, rfl, hh⟩
    walk_at "go"
    have e : (none : Option Int) = res := e
    subst e
    exact fin s hh
/-! the value of a key -/
def Ce.kv (c : Ce) : Option Ce := if c = .non ∨ c = .mark then none else some c
def kvD (K : PySem.W.Frag) : Option Ce → D
  | none => .n
  | some c => .tup [.tup [.t q_value, c.d K]]
def Rw.key? (r : Rw) : Option Ce := if r.t = .P then none else (r.cs[r.t.at]?).bind Ce.kv
theorem rd_key_value (T : Tx K mg) {t : Tb} {i : Nat} {cs : List Ce} {c : Ce} {co : Co} {nm : List Nat} (hh : HH F H M) (ht : At K F0 t.tab.d x) (s0 : Same F0 F) {kx : V} (hk : At K F0 (Sk.d ⟨nm, [(i : Int)]⟩) kx) (hy : At K F1 (.lst (cs.map (Ce.d K))) y) (s1 : Same F1 F) (hc : cs[i]? = some c) (hco : t.tab.cs[i]? = some co) (hv : co.r = q_value) (hs : c.small)
    (q : ∀ F' H' u, Same F F' → HH F' H' M → (c.kv = none → u = .non) → (∀ c', c.kv = some c' → ∃ a b, u = .ref a ∧ F' a = some (.tup [.ref b]) ∧ ∃ w, F' b = some (.tup [.str ⟨q_value.toArray⟩, w]) ∧ At K F' (c'.d K) w) → Q u H') : sp_key_value K [x, kx, y] H Q E := by
  refine ⟨rfl, ?_⟩
  unfold t_key_value
  walk_at "go"
  refine o_lst hh (by decide) fun H1 l hh => ?_
  walk_at "go"
  refine gi_list ?_
  walk_at "go"
  refine f_StoreKey_places T hk (by walk_at "sm") fun pw hpw => ?_
  refine a_forL (hpw.mono s0) hh (fun rest σ H' => (rest = [(i : Int)] ∧ H' = H1 ∧ ∃ v4 v5, σ = [some x, some kx, some y, some (.ref l), v4, v5]) ∨ (rest = [] ∧ ∃ (F' : Hp) (v4 v5 : Option V) (b : Addr) (w : V), Same F F' ∧ c.kv = some c ∧ σ = [some x, some kx, some y, some (.ref l), v4, v5] ∧ F' b = some (.tup [.str ⟨q_value.toArray⟩, w]) ∧ At K F' (c.d K) w ∧ HH F' H' ((l, .lst [.ref b]) :: M)))
    (fun r σ H' h => ?_) (.inl ⟨rfl, rfl, none, none, rfl⟩) ?_ ?_
  · rcases h with ⟨_, rfl, _⟩ | ⟨_, F', _, _, _, _, s, _, _, _, _, h⟩
    · exact hh.sub
    · exact s.trans h.sub
  · rintro n rest w σ H' hw h
    rcases h with ⟨e, rfl, v4, v5, rfl⟩ | ⟨e, _⟩
    · cases e
      obtain rfl := At.v_.mp hw
      obtain ⟨a, vs, rfl, hva, hvs⟩ := At.lst_ hy
      obtain ⟨u, hu1, hu2⟩ := hvs.get (i := i) (d := c.d K) (by rw [List.getElem?_map, hc]; rfl)
      walk_at "go"
      refine v_ixSq ((s1.trans hh.sub).seq hva) (atN (i := i) rfl hu1) ?_
      walk_at "go"
      have sH : Same F1 H' := s1.trans hh.sub
      cases c with
      | non =>
        obtain rfl := At.v_.mp hu2
        walk_at "go"
        exact q _ _ _ (Same.refl _) hh.drop (fun _ => rfl) fun c' h => by cases h
      | mark =>
        obtain rfl := At.v_.mp hu2
        walk_at "go"
        refine ite_no (fun z => nomatch z) ?_
        walk_at "go"
        refine s_eqMark T (c := .mark) hs hu2 sH ?_
        walk_at "go"
        refine ite_ye rfl ?_
        walk_at "go"
        exact q _ _ _ (Same.refl _) hh.drop (fun _ => rfl) fun c' h => by cases h
      | lst ns =>
        obtain ⟨la, lv, rfl, _, _⟩ := At.lstR hu2
        walk_at "go"
        refine ite_no (fun z => nomatch z) ?_
        walk_at "go"
        refine s_eqMark T (c := .lst ns) hs hu2 sH ?_
        walk_at "go"
        refine ite_no (fun z => nomatch z) ?_
        walk_at "go"
        refine o_tyL (i := 0) hh rfl ?_
        walk_at "go"
        refine f_Table_columns T ht (by walk_at "sm") fun cw hcw => ?_
        walk_at "go"
        refine s_ixL hcw (by walk_at "sm") (i := i) rfl hco fun cow hcow => ?_
        walk_at "go"
        refine fv_Column_role T hcow (by walk_at "sm") ?_
        walk_at "go"
        refine o_tup (Nat.le_of_ble_eq_true rfl) fun p hp => ?_
        walk_at "go"
        have hh2 := hh.newF (o := .tup [.str ⟨co.r.toArray⟩, .ref la]) hp
        have sT := hh.grow (o := .tup [.str ⟨co.r.toArray⟩, .ref la]) hp
        refine o_app0 hh2 (by decide) fun H4 hh4 => ?_
        exact .inr ⟨rfl, _, _, _, p, _, sT, rfl, rfl, by rw [upd_same, hv], hu2.mono (s1.trans sT), hh4⟩
      | num n =>
        obtain rfl := At.v_.mp hu2
        walk_at "go"
        refine ite_no (fun z => nomatch z) ?_
        walk_at "go"
        refine s_eqMark T (c := .num n) hs hu2 sH ?_
        walk_at "go"
        refine ite_no (fun z => nomatch z) ?_
        walk_at "go"
        refine o_tyL (i := 0) hh rfl ?_
        walk_at "go"
        refine f_Table_columns T ht (by walk_at "sm") fun cw hcw => ?_
        walk_at "go"
        refine s_ixL hcw (by walk_at "sm") (i := i) rfl hco fun cow hcow => ?_
        walk_at "go"
        refine fv_Column_role T hcow (by walk_at "sm") ?_
        walk_at "go"
        refine o_tup (Nat.le_of_ble_eq_true rfl) fun p hp => ?_
        walk_at "go"
        have hh2 := hh.newF (o := .tup [.str ⟨co.r.toArray⟩, .int n]) hp
        have sT := hh.grow (o := .tup [.str ⟨co.r.toArray⟩, .int n]) hp
        refine o_app0 hh2 (by decide) fun H4 hh4 => ?_
        exact .inr ⟨rfl, _, _, _, p, _, sT, rfl, rfl, by rw [upd_same, hv], hu2.mono (s1.trans sT), hh4⟩
      | txt z =>
        obtain rfl := At.v_.mp hu2
        walk_at "go"
        refine ite_no (fun z => nomatch z) ?_
        walk_at "go"
        refine s_eqMark T (c := .txt z) hs hu2 sH ?_
        walk_at "go"
        refine ite_no (fun z => nomatch z) ?_
        walk_at "go"
        refine o_tyL (i := 0) hh rfl ?_
        walk_at "go"
        refine f_Table_columns T ht (by walk_at "sm") fun cw hcw => ?_
        walk_at "go"
        refine s_ixL hcw (by walk_at "sm") (i := i) rfl hco fun cow hcow => ?_
        walk_at "go"
        refine fv_Column_role T hcow (by walk_at "sm") ?_
        walk_at "go"
        refine o_tup (Nat.le_of_ble_eq_true rfl) fun p hp => ?_
        walk_at "go"
        have hh2 := hh.newF (o := .tup [.str ⟨co.r.toArray⟩, .str ⟨z.toArray⟩]) hp
        have sT := hh.grow (o := .tup [.str ⟨co.r.toArray⟩, .str ⟨z.toArray⟩]) hp
        refine o_app0 hh2 (by decide) fun H4 hh4 => ?_
        exact .inr ⟨rfl, _, _, _, p, _, sT, rfl, rfl, by rw [upd_same, hv], hu2.mono (s1.trans sT), hh4⟩
    · cases e
  · rintro σ H' h
    rcases h with ⟨e, _⟩ | ⟨_, F', v4, v5, b, w, s, ek, rfl, hb, hw, hh⟩
    · cases e
    walk_at "go"
    unfold tThen
    walk_at "go"
    refine .inl ⟨l, _, rfl, SqL.of (hh.get (i := 0) rfl), fun p hp => ?_⟩
    have hh2 := hh.drop.newF (o := .tup [.ref b]) hp
    have sT := hh.drop.grow (o := .tup [.ref b]) hp
    exact q _ _ _ (s.trans sT) hh2 (fun z => by rw [ek] at z; cases z) fun c' h => by
      rw [ek] at h
      cases h
      exact ⟨p, b, rfl, upd_same, w, sT _ _ hb, hw.mono sT⟩
end
end Lw

-- fld
namespace Lw
open PySem PySem.Spec PyProof.Rows L2 G
/-! ### equal keys; the first fault -/
def clash : List Ce → List Rw → Option Int
  | _, [] => none
  | seen, r :: rs => match r.key? with
    | none => clash seen rs
    | some c => if c ∈ seen then some r.n else clash (seen ++ [c]) rs
def Ce.nk : Ce → NestedKey
  | .num n => .num n
  | .txt z => .text ⟨z.toArray⟩
  | _ => .none
def kN (c : Ce) : NestedKey := .tup [.text ⟨q_key1.toArray⟩, .tup [.tup [.text ⟨q_value.toArray⟩, c.nk]]]
theorem kN_depth {c : Ce} : (kN c).depth ≤ 8 := by
  cases c <;> simp [kN, Ce.nk, NestedKey.depth, NestedKey.depthAll]
theorem nk_inj {a b : Ce} (ha : a.flat = true) (hb : b.flat = true) (h : a.nk = b.nk) : a = b := by
  cases a <;> cases b <;> first | rfl | exact Bool.noConfusion ha | exact Bool.noConfusion hb | (simp [Ce.nk] at h <;> first | rw [h] | cases h)
theorem kN_inj {a b : Ce} (ha : a.flat = true) (hb : b.flat = true) (h : kN a = kN b) : a = b := by
  unfold kN at h
  injection h with h
  injection h with _ h
  injection h with h _
  injection h with h
  injection h with h _
  injection h with h
  injection h with _ h
  injection h with h _
  exact nk_inj ha hb h
theorem kN_mem {c : Ce} (hc : c.flat = true) {seen : List Ce} (hs : seen.all Ce.flat = true) : kN c ∈ seen.map kN ↔ c ∈ seen := by
  constructor
  · intro h
    obtain ⟨b, hb, e⟩ := List.mem_map.mp h
    exact (kN_inj (List.all_eq_true.mp hs b hb) hc e) ▸ hb
  · exact fun h => List.mem_map.mpr ⟨c, h, rfl⟩
def NdSo (w : World) (sd : Addr) (so : HO) (ks : Nky) : Prop := (so = .dK [] ∧ ks = []) ∨ so = NdO w sd ks
theorem g_nput {w : World} {td ty tv : TE} {nx bk ct : L2.St → Hp → Prop} {rt : VK} {σ : L2.St} {H : Hp} (h : tv σ H fun v H1 => td σ H1 fun x H2 => ty σ H2 fun y H3 => NPut w H3 x y v (nx σ)) : sNPut w td ty tv ⟨nx, rt, bk, ct⟩ σ H := h
def fltR (rows : List Rw) : Option (List Nat × Int) := match mis (knw rows) rows with
  | some n => some (q_not_there, n)
  | none => (clash [] rows).map fun n => (q_same_key, n)
def fltD : Option (List Nat × Int) → D
  | none => .n
  | some (z, n) => .tup [.t z, .i n]
section
variable {w : World} {K : PySem.W.Frag} {F F0 F1 F2 H H' : Hp} {Q : VK} {E : XK} {mg : Str → Option Value} {M : List (Addr × HO)} {x y u : V} {o : HO} {d : Addr} {ns : List Int} {r : Rw} {m : V} {ps : Array Value} {rows : List Rw} {k : Kw} {f : Tb → List Int} {σ : L2.St} {ks : Nky} {sd : Addr} {so : HO}
theorem NdSo.at (h : NdSo w sd so ks) (e : H sd = some so) : NdAt w H sd ks := by
  rcases h with ⟨rfl, rfl⟩ | rfl
  · exact .inl ⟨e, rfl⟩
  · exact .inr e
theorem Rdy.mono (h : Rdy F ks) (s : Same F F') : Rdy F' ks := fun x hx => ⟨(h x hx).1.mono fun a xs e => s _ _ e, (h x hx).2⟩
theorem key_of {t : Tb} {cs : List Ce} {n : Int} (hsh : Shp t cs = true) (hp : t ≠ .P) : ∃ c co, cs[t.at]? = some c ∧ t.tab.cs[t.at]? = some co ∧ co.r = q_value ∧ t.tab.ks = [⟨q_key1, [(t.at : Int)]⟩] ∧ c.small ∧ (⟨t, n, cs⟩ : Rw).key? = c.kv ∧ (∀ c', c.kv = some c' → c' = c ∧ c.vk = true) := by
  obtain ⟨c, h1, h2, _⟩ := key_at hsh hp
  have hk : ∀ c', c.kv = some c' → c' = c ∧ c.vk = true := fun c' h => by
    unfold Ce.kv at h
    split at h
    · cases h
    · rename_i z
      cases h
      rw [not_or] at z
      refine ⟨rfl, ?_⟩
      unfold Ce.km at h2
      rcases (Bool.or_eq_true _ _).mp h2 with h | h
      · exact h
      · exact absurd (of_decide_eq_true h) z.2
  have he : (⟨t, n, cs⟩ : Rw).key? = c.kv := by
    unfold Rw.key?
    rw [if_neg hp]
    show (cs[t.at]?).bind _ = _
    rw [h1]
    rfl
  cases t with
  | M => exact ⟨c, _, h1, rfl, rfl, rfl, Ce.km_small h2, he, hk⟩
  | N => exact ⟨c, _, h1, rfl, rfl, rfl, Ce.km_small h2, he, hk⟩
  | P => exact absurd rfl hp
theorem rd_first_clash (T : Tx K mg) (hh : HH F H M) (hx : At K F0 (.lst (ta3.map Ta.d)) x) (s0 : Same F0 F) (hy : At K F1 (.lst (rows.map (Rw.d K))) y) (s1 : Same F1 F) (hl : rows.length ≤ 1000) (hr : ∀ r ∈ rows, Shp r.t r.cs = true)
    (q : ∀ F' H', Same F F' → HH F' H' M → Q (Ce.o (clash [] rows)) H') : sp_first_clash K w [x, y] H Q E := by
  refine ⟨rfl, ?_⟩
  unfold t_first_clash
  walk_at "go"
  refine o_dnew hh fun H1 sd hh => ?_
  walk_at "go"
  refine gi_list ?_
  walk_at "go"
  generalize hres : clash [] rows = res at q
  have fin : ∀ {F' H' : Hp} {so : HO}, Same F F' → HH F' H' ((sd, so) :: M) → Q (Ce.o res) H' := fun s hh => q _ _ s hh.drop
  refine a_forL (hy.mono s1) hh (fun rest σ H' => ∃ (F' : Hp) (seen : List Ce) (ks : Nky) (so : HO) (v3 v4 v5 v6 : Option V), Same F F' ∧ clash seen rest = res ∧ seen.length + rest.length ≤ 1000 ∧ (∀ r ∈ rest, Shp r.t r.cs = true) ∧ ks.map (·.1) = seen.map kN ∧ Rdy F' ks ∧ seen.all Ce.flat = true ∧ NdSo w sd so ks ∧ σ = [some x, some y, some (.ref sd), v3, v4, v5, v6] ∧ HH F' H' ((sd, so) :: M))
    (fun r σ H' ⟨F', _, _, _, _, _, _, _, s, _, _, _, _, _, _, _, _, h⟩ => s.trans h.sub) ⟨F, [], [], _, none, none, none, none, Same.refl _, hres, by simpa using hl, hr, rfl, (fun _ h => nomatch h), rfl, .inl ⟨rfl, rfl⟩, rfl, hh⟩ ?_ ?_
  · clear hh
    rintro ⟨t, n, cs⟩ rest rw_ σ H' hw ⟨F', seen, ks, so, v3, v4, v5, v6, s, e, hlen, hrs, hks, hrd, hsl, hso, rfl, hh⟩
    have hsh := hrs _ (List.mem_cons_self ..)
    have hrest : ∀ r ∈ rest, Shp r.t r.cs = true := fun r hr => hrs r (List.mem_cons_of_mem _ hr)
    rw [List.length_cons] at hlen
    walk_at "go"
    refine f_Row_table T hw (by walk_at "sm") ?_
    walk_at "go"
    refine rd_table_named T (t := t) hh hx (by walk_at "sm") fun tw htw => ?_
    walk_at "go"
    refine gi_list ?_
    walk_at "go"
    refine f_Table_unique T htw hh.sub fun uw huw => ?_
    refine a_forL huw hh (fun rest' σ H' => ∃ (F2 : Hp) (seen : List Ce) (ks : Nky) (so : HO) (v5 v6 : Option V), Same F' F2 ∧ ((rest' = t.tab.ks ∧ t ≠ .P ∧ seen.length + rest.length + 1 ≤ 1000 ∧ clash seen (⟨t, n, cs⟩ :: rest) = res) ∨ (rest' = [] ∧ seen.length + rest.length ≤ 1000 ∧ clash seen rest = res)) ∧ ks.map (·.1) = seen.map kN ∧ Rdy F2 ks ∧ seen.all Ce.flat = true ∧ NdSo w sd so ks ∧ σ = [some x, some y, some (.ref sd), some rw_, some tw, v5, v6] ∧ HH F2 H' ((sd, so) :: M))
      (fun r σ H' ⟨F2, _, _, _, _, _, s, _, _, _, _, _, _, h⟩ => s.trans h.sub) ⟨F', seen, ks, so, _, _, Same.refl _, ?_, hks, hrd, hsl, hso, rfl, hh⟩ ?_ ?_
    · by_cases c : t = .P
      · subst c
        exact .inr ⟨rfl, by omega, e⟩
      · exact .inl ⟨rfl, c, by omega, e⟩
    · clear e hh hks hrd hsl hso hlen
      rintro sk rest' kw σ H' hkw ⟨F2, seen, ks, so, v5, v6, s2, hor, hks, hrd, hsl, hso, rfl, hh⟩
      rcases hor with ⟨e1, hp, hlen, e⟩ | ⟨e1, _⟩
      · obtain ⟨c, co, c1, c2, c3, c4, c5, c6, c7⟩ := key_of (n := n) hsh hp
        rw [c4] at e1
        cases e1
        walk_at "go"
        refine f_Row_cells T hw (by walk_at "sm") fun zw hzw => ?_
        walk_at "go"
        refine rd_key_value T (c := c) (co := co) hh htw s2 hkw hzw (by walk_at "sm") c1 c2 c3 c5 fun F3 H3 fw s3 hh kN0 kS => ?_
        walk_at "go"
        unfold clash at e
        rw [c6] at e
        cases hk : c.kv with
        | none =>
          rw [hk] at e
          obtain rfl := kN0 hk
          walk_at "go"
          refine ite_F rfl ?_
          walk_at "go"
          exact ⟨F3, seen, ks, so, _, _, by walk_at "sm", .inr ⟨rfl, by omega, e⟩, hks, Rdy.mono hrd s3, hsl, hso, rfl, hh⟩
        | some c' =>
          rw [hk] at e
          obtain ⟨rfl, hvk⟩ := c7 c' hk
          have hfl := Ce.vk_flat hvk
          obtain ⟨a, b, rfl, ha, w', hb, hw'⟩ := kS c' hk
          obtain rfl := Ce.at_ hfl hw'
          have nkc : ∀ {H : Hp}, NkV H c'.nk c'.v := fun {H} => by
            cases c' with
            | num n => exact .int n
            | txt z => exact .str _
            | non => exact .non
            | _ => cases hfl
          have nk : ∀ {F4 : Hp} {p : Addr}, Same F3 F4 → F4 p = some (.tup [.str ⟨q_key1.toArray⟩, .ref a]) → NkV F4 (kN c') (.ref p) := fun s4 hp => .tup hp (.cons (.str _) (.cons (.tup (s4 _ _ ha) (.cons (.tup (s4 _ _ hb) (.cons (.str _) (.cons nkc .nil))) .nil)) .nil))
          walk_at "go"
          refine ite_T rfl ?_
          walk_at "go"
          refine fv_StoreKey_name T hkw (by walk_at "sm") ?_
          walk_at "go"
          refine o_tup (Nat.le_of_ble_eq_true rfl) fun p hp => ?_
          have hh2 := hh.newF (o := .tup [.str ⟨q_key1.toArray⟩, .ref a]) hp
          have sT := hh.grow (o := .tup [.str ⟨q_key1.toArray⟩, .ref a]) hp
          have nk1 := nk sT upd_same
          have rd1 := Rdy.mono (Rdy.mono hrd s3) sT
          generalize upd F3 p (.tup [.str ⟨q_key1.toArray⟩, .ref a]) = F4 at hh2 sT nk1 rd1
          walk_at "go"
          refine ⟨sd, p, ks, kN c', rfl, rfl, hso.at (hh2.get (i := 0) rfl), Rdy.mono rd1 hh2.sub, nk1.mono fun a xs e => hh2.sub _ _ e, kN_depth, ?_⟩
          walk_at "go"
          rw [hks]
          have hm := kN_mem hfl hsl
          refine ite2 (fun hc => ?_) (fun hc => ?_)
          · have hc := hm.mp (of_decide_eq_true hc)
            walk_at "go"
            refine f_Row_number T hw (by walk_at "sm") ?_
            have e : (if c' ∈ seen then some n else clash (seen ++ [c']) rest) = res := e
            rw [if_pos hc] at e
            subst e
            exact fin (by walk_at "sm") hh2
          · have hc : c' ∉ seen := fun z => hc (decide_eq_true (hm.mpr z))
            have e : (if c' ∈ seen then some n else clash (seen ++ [c']) rest) = res := e
            rw [if_neg hc] at e
            walk_at "go"
            refine g_nput ?_
            walk_at "go"
            refine fv_StoreKey_name T hkw (by walk_at "sm") ?_
            walk_at "go"
            refine o_tup (Nat.le_of_ble_eq_true rfl) fun p2 hp2 => ?_
            have hh3 := hh2.newF (o := .tup [.str ⟨q_key1.toArray⟩, .ref a]) hp2
            have sT2 := hh2.grow (o := .tup [.str ⟨q_key1.toArray⟩, .ref a]) hp2
            have nk2 := nk (sT.trans sT2) upd_same
            generalize upd F4 p2 (.tup [.str ⟨q_key1.toArray⟩, .ref a]) = F5 at hh3 sT2 nk2
            walk_at "go"
            have kl : ks.length = seen.length := by have := congrArg List.length hks; rw [List.length_map, List.length_map] at this; exact this
            refine ⟨sd, p2, ks, kN c', rfl, rfl, rfl, hso.at (hh3.get (i := 0) rfl), Rdy.mono (Rdy.mono rd1 sT2) hh3.sub, nk2.mono fun a xs e => hh3.sub _ _ e, kN_depth, by rw [hks]; exact fun z => hc (hm.mp z), by rw [kl, sl16]; omega, ?_⟩
            refine ⟨F5, seen ++ [c'], ks ++ [(kN c', p2)], _, _, _, by walk_at "sm", .inr ⟨rfl, by rw [List.length_append]; show _ + 1 + _ ≤ _; omega, e⟩, by rw [List.map_append, List.map_append, hks]; rfl, ?_, by rw [List.all_append, hsl]; simp [hfl], .inr rfl, rfl, hh3.set0⟩
            intro z hz
            rcases List.mem_append.mp hz with hz | hz
            · exact Rdy.mono rd1 sT2 z hz
            · rw [List.mem_singleton.mp hz]
              exact ⟨nk2, kN_depth⟩
      · cases e1
    · rintro σ H' ⟨F2, seen, ks, so, v5, v6, s2, hor, hks, hrd, hsl, hso, rfl, hh⟩
      rcases hor with ⟨e1, hp, _⟩ | ⟨_, hlen, e⟩
      · obtain ⟨_, _, _, _, _, c4, _⟩ := key_of (n := n) hsh hp
        rw [c4] at e1
        cases e1
      · exact ⟨F2, seen, ks, so, _, _, _, _, s.trans s2, e, hlen, hrest, hks, hrd, hsl, hso, rfl, hh⟩
  · rintro σ H' ⟨F', seen, ks, so, v3, v4, v5, v6, s, e, _, _, _, _, _, _, rfl, hh⟩
    walk_at "go"
    have e : (none : Option Int) = res := e
    subst e
    exact fin s hh
end
end Lw

-- fld
namespace G
open PySem PySem.Spec PyProof.Rows L2
/-! ### data whose repr is short -/
structure Rp (d : PyData) (b k : Nat) : Prop where
  s : d.showable = true
  l : d.leavesShort 13 = true
  b : d.bulk ≤ b
  k : d.depth ≤ k
  o : PyData.strOk d.shown = true
def rpB (d : PyData) (b k : Nat) : Bool := d.showable && (d.leavesShort 13 && (decide (d.bulk ≤ b) && (decide (d.depth ≤ k) && PyData.strOk d.shown)))
theorem rpB_ok {d : PyData} {b k : Nat} (h : rpB d b k = true) : Rp d b k := by
  unfold rpB at h
  simp only [Bool.and_eq_true, decide_eq_true_eq] at h
  exact ⟨h.1, h.2.1, h.2.2.1, h.2.2.2.1, h.2.2.2.2⟩
theorem Rp.up {d : PyData} {b b' k k' : Nat} (h : Rp d b k) (hb : b ≤ b') (hk : k ≤ k') : Rp d b' k' := ⟨h.s, h.l, Nat.le_trans h.b hb, Nat.le_trans h.k hk, h.o⟩
theorem rp_non : Rp .none 0 0 := rpB_ok (by decide +kernel)
theorem rp_bool {b : Bool} : Rp (.bool b) 0 0 := by cases b <;> exact rpB_ok (by decide +kernel)
theorem rp_nat {m : Nat} (h : m < 64) : Rp (.int (m : Nat)) 0 0 := by
  have h0 : ∀ k < 64, rpB (.int (k : Nat)) 0 0 = true := by decide +kernel
  exact rpB_ok (h0 m h)
theorem rp_int {n : Int} (h0 : 0 ≤ n) (h1 : n < 64) : Rp (.int n) 0 0 := by
  obtain ⟨m, rfl⟩ := Int.eq_ofNat_of_zero_le h0
  exact rp_nat (by omega)
/-! texts made of proper signs -/
theorem okS_app {a b : Str} (ha : PyData.strOk a = true) (hb : PyData.strOk b = true) : PyData.strOk (a ++ b) = true := by
  show (a.cps ++ b.cps).all _ = true
  rw [Array.all_append, Bool.and_eq_true]
  exact ⟨ha, hb⟩
theorem okS_join {sep : Str} (hs : PyData.strOk sep = true) : ∀ {ps : List Str}, (∀ p ∈ ps, PyData.strOk p = true) → PyData.strOk (Str.join sep ps) = true
  | [], _ => (by decide +kernel : PyData.strOk Str.empty = true)
  | [x], h => h x (List.mem_cons_self ..)
  | x :: y :: r, h => okS_app (okS_app (h x (List.mem_cons_self ..)) hs) (okS_join hs fun p hp => h p (List.mem_cons_of_mem _ hp))
theorem okS_from : ∀ {ts : List Str} {k : Nat} {acc : Str}, PyData.strOk acc = true → (∀ t ∈ ts, PyData.strOk t = true) → PyData.strOk (textFrom k acc ts) = true
  | [], _, _, h, _ => h
  | t :: ts, k, acc, h, ht => by
    rw [textFrom]
    refine okS_from (okS_app (okS_app h ?_) (ht t (List.mem_cons_self ..))) fun u hu => ht u (List.mem_cons_of_mem _ hu)
    split <;> decide +kernel
theorem okS_list {ts : List Str} (h : ∀ t ∈ ts, PyData.strOk t = true) : PyData.strOk (listText ts) = true := okS_app (okS_from (by decide +kernel) h) (by decide +kernel)
theorem okS_tup {ts : List Str} (h : ∀ t ∈ ts, PyData.strOk t = true) : PyData.strOk (tupleText ts) = true := okS_app (okS_app (by decide +kernel) (okS_join (by decide +kernel) h)) (by split <;> decide +kernel)
structure RpA (ds : List PyData) (b k : Nat) : Prop where
  s : PyData.showableAll ds = true
  l : PyData.leavesShortAll 13 ds = true
  b : PyData.bulkAll ds ≤ ds.length * (b + 1)
  k : PyData.depthAll ds ≤ k
  o : ∀ t ∈ PyData.shownAll ds, PyData.strOk t = true
theorem RpA.of {b k : Nat} : ∀ {ds : List PyData}, (∀ d ∈ ds, Rp d b k) → RpA ds b k
  | [], _ => ⟨by simp [PyData.showableAll], by simp [PyData.leavesShortAll], by simp [PyData.bulkAll], by simp [PyData.depthAll], by simp [PyData.shownAll]⟩
  | d :: ds, h => by
    have h1 := h d (List.mem_cons_self ..)
    have h2 := RpA.of (b := b) (k := k) fun e he => h e (List.mem_cons_of_mem _ he)
    refine ⟨by rw [PyData.showableAll, h1.s, h2.s]; rfl, by rw [PyData.leavesShortAll, h1.l, h2.l]; rfl, ?_, by rw [PyData.depthAll]; exact Nat.max_le.mpr ⟨h1.k, h2.k⟩, ?_⟩
    · rw [PyData.bulkAll, List.length_cons, Nat.add_mul]
      have := h1.b
      have := h2.b
      omega
    · rw [PyData.shownAll]
      intro t ht
      rcases List.mem_cons.mp ht with rfl | ht
      · exact h1.o
      · exact h2.o t ht
theorem Rp.list {b k : Nat} {ds : List PyData} (h : ∀ d ∈ ds, Rp d b k) : Rp (.list ds) (ds.length * (b + 1)) (k + 1) := by
  have a := RpA.of h
  exact ⟨by rw [PyData.showable]; exact a.s, by rw [PyData.leavesShort]; exact a.l, by rw [PyData.bulk]; exact a.b, by rw [PyData.depth]; exact Nat.succ_le_succ a.k, by rw [PyData.shown]; exact okS_list a.o⟩
theorem Rp.tup {b k : Nat} {ds : List PyData} (h : ∀ d ∈ ds, Rp d b k) : Rp (.tuple ds) (ds.length * (b + 1)) (k + 1) := by
  have a := RpA.of h
  exact ⟨by rw [PyData.showable]; exact a.s, by rw [PyData.leavesShort]; exact a.l, by rw [PyData.bulk]; exact a.b, by rw [PyData.depth]; exact Nat.succ_le_succ a.k, by rw [PyData.shown]; exact okS_tup a.o⟩
section
variable {K : PySem.W.Frag} {F F0 H : Hp} {Q : VK} {x : V}
theorem s_reprP {d : PyData} {b k : Nat} (h : Dp K H x d) (r : Rp d b k) (hb : b ≤ 1000000) (hk : k ≤ 60) (q : Q (.str d.shown) H) : rRepr K [x] H Q :=
  ⟨x, d, rfl, .p h, r.s, r.l, Nat.le_trans (Nat.le_trans r.b hb) (by decide), Nat.le_trans r.k hk, q⟩
end
end G

-- fld
namespace Lw
open PySem PySem.Spec PyProof.Rows L2 G
/-! ### the first fault; rows as plain data; what the law finds in them -/
def csP (cs : List Ce) : PyData := .list (cs.map Ce.p)
structure S3 where
  t : Tb
  n : Int
  z : Str
  deriving DecidableEq
def S3.d (s : S3) : D := .tup [.t s.t.z, .i s.n, .v (.str s.z)]
def S3.p (s : S3) : PyData := .tuple [.str ⟨s.t.z.toArray⟩, .int s.n, .str s.z]
def S3.ok (s : S3) : Prop := PyData.strOk s.z = true
def Rw.sh (r : Rw) : S3 := ⟨r.t, r.n, (csP r.cs).shown⟩
section
variable {w : World} {K : PySem.W.Frag} {F F0 F1 F2 H H' : Hp} {Q : VK} {E : XK} {mg : Str → Option Value} {M : List (Addr × HO)} {x y u : V} {o : HO} {d : Addr} {ns : List Int} {r : Rw} {m : V} {ps : Array Value} {rows : List Rw} {σ : L2.St}
theorem sortR_mem : r ∈ sortR rows ↔ r ∈ rows := (List.mergeSort_perm rows leR).mem_iff
theorem sortR_len : (sortR rows).length = rows.length := (List.mergeSort_perm rows leR).length_eq
theorem rd_first_fault (T : Tx K mg) (hh : HH F H ((tbP K, .tbl ps) :: M)) (tb : TbK F tbQ ps) (nF : NoT F) (nM : Pln M) (hx : At K F0 (.lst (ta3.map Ta.d)) x) (s0 : Same F0 F) (hy : At K F1 (.lst (rows.map (Rw.d K))) y) (s1 : Same F1 F) (hl : rows.length ≤ 1000) (hr : ∀ r ∈ rows, Shp r.t r.cs = true)
    (q : ∀ F' H' ps' u, Same F F' → TbK F' tbQ ps' → HH F' H' ((tbP K, .tbl ps') :: M) → At K F' (fltD (fltR (sortR rows))) u → Q u H') : sp_first_fault K w [x, y] H Q E := by
  refine ⟨rfl, ?_⟩
  unfold t_first_fault
  walk_at "go"
  refine rd_sorted_rows T hh tb nF nM hx s0 hy s1 hl fun F1 H1 ps1 so s2 nF1 tb1 hh hso => ?_
  walk_at "go"
  have hr' : ∀ r ∈ sortR rows, Shp r.t r.cs = true := fun r h => hr r (sortR_mem.mp h)
  refine rd_first_missing T hh hx (s0.trans s2) hso (Same.refl _) (by rw [sortR_len]; exact hl) hr' fun F2 H2 s3 hh => ?_
  unfold fltR at q
  cases hm : mis (knw (sortR rows)) (sortR rows) with
  | some n =>
    rw [hm] at q
    walk_at "go"
    refine ite_T rfl ?_
    walk_at "go"
    exact s_tup (K := K) (ds := [D.t q_not_there, D.i n]) hh (AtA.cons At.of (AtA.cons At.of AtA.nil)) (Nat.le_of_ble_eq_true rfl) fun F3 H3 u s4 hh hu => q F3 H3 ps1 u (by walk_at "sm") (tb1.mono (s3.trans s4)) hh hu
  | none =>
    rw [hm] at q
    walk_at "go"
    refine ite_F rfl ?_
    walk_at "go"
    refine rd_first_clash T hh hx (by walk_at "sm") hso s3 (by rw [sortR_len]; exact hl) hr' fun F3 H3 s4 hh => ?_
    cases hc : clash [] (sortR rows) with
    | some n =>
      rw [hc] at q
      walk_at "go"
      refine ite_T rfl ?_
      walk_at "go"
      exact s_tup (K := K) (ds := [D.t q_same_key, D.i n]) hh (AtA.cons At.of (AtA.cons At.of AtA.nil)) (Nat.le_of_ble_eq_true rfl) fun F4 H4 u s5 hh hu => q F4 H4 ps1 u (by walk_at "sm") (tb1.mono (s3.trans (s4.trans s5))) hh hu
    | none =>
      rw [hc] at q
      walk_at "go"
      refine ite_F rfl ?_
      walk_at "go"
      exact q F3 H3 ps1 _ (by walk_at "sm") (tb1.mono (s3.trans s4)) hh At.of
/-! plain rows -/
def pD (K : PySem.W.Frag) (r : Rw) : D := .tup [.t r.t.z, .i r.n, .lst (r.cs.map (Ce.d K))]
theorem rd_plain (T : Tx K mg) (hh : HH F H M) (hx : At K F0 (.lst (rows.map (Rw.d K))) x) (s0 : Same F0 F) (hl : rows.length ≤ 1000) (q : ∀ F' H' u, Same F F' → HH F' H' M → At K F' (.lst (rows.map (pD K))) u → Q u H') : sp__law_plain K [x] H Q E := by
  refine ⟨rfl, ?_⟩
  unfold t__law_plain
  walk_at "go"
  refine gi_list ?_
  walk_at "go"
  refine a_lcL (e := Rw.d K) (f := pD K) (hx.mono s0) hh (by rw [sl16]; omega) (fun r => some r) (fun r w F' H' ca P N hr hw sF hh' hP hN => ?_) fun F2 H2 u s2 hh h2 => ?_
  · walk_at "go"
    refine ⟨rfl, ?_⟩
    walk_at "go"
    refine f_Row_table T hw hh'.sub ?_
    walk_at "go"
    refine f_Row_number T hw hh'.sub ?_
    walk_at "go"
    refine f_Row_cells T hw hh'.sub fun zw hzw => ?_
    walk_at "go"
    refine s_listL hzw hh' (Same.refl _) fun F3 H3 u s3 hh hu => ?_
    walk_at "go"
    exact s_tup (K := K) (ds := [D.t r.t.z, D.i r.n, .lst (r.cs.map (Ce.d K))]) hh (AtA.cons At.of (AtA.cons At.of (AtA.cons hu AtA.nil))) (Nat.le_of_ble_eq_true rfl) fun F4 H4 v s4 hh hv => hP F4 H4 v r (s3.trans s4) hh rfl hv
  · rw [List.filterMap_some] at h2
    exact q F2 H2 u s2 hh h2
/-! what repr shows -/
theorem Ce.rpv {c : Ce} (h : c.vk = true) : Rp c.p 2 0 := by
  cases c with
  | non => exact rp_non.up (by decide) (by decide)
  | num n =>
    have h := of_decide_eq_true h
    exact (rp_int h.1 (by omega)).up (by decide) (by decide)
  | txt z =>
    have h := of_decide_eq_true h
    rcases h with rfl | rfl <;> exact rpB_ok (by decide +kernel)
  | _ => cases h
theorem rp_mark : Rp (Ce.mark).p 8 1 := rpB_ok (by decide +kernel)
theorem Ce.rpk {c : Ce} (h : c.km = true) : Rp c.p 8 1 := by
  unfold Ce.km at h
  rcases (Bool.or_eq_true _ _).mp h with h | h
  · exact (Ce.rpv h).up (by decide) (by decide)
  · rw [of_decide_eq_true h]; exact rp_mark
theorem Ce.rpr {c : Ce} (h : c.rm = true) : Rp c.p 8 1 := by
  cases c with
  | non => exact rp_non.up (by decide) (by decide)
  | num n =>
    have h := of_decide_eq_true h
    exact (rp_int (by omega) (by omega)).up (by decide) (by decide)
  | mark => exact rp_mark
  | _ => cases h
theorem Ce.rps {c : Ce} (h : c.sm = true) : Rp c.p 8 1 := by
  cases c with
  | lst ns =>
    have h : (decide (ns.length ≤ 3) && ns.all fun n => decide (1 ≤ n ∧ n ≤ 6)) = true := h
    rw [Bool.and_eq_true, List.all_eq_true] at h
    have a : Rp (.list (ns.map PyData.int)) _ (0 + 1) := Rp.list (b := 0) (k := 0) fun d hd => by
      obtain ⟨n, hn, rfl⟩ := List.mem_map.mp hd
      have := of_decide_eq_true (h.2 n hn)
      exact rp_int (by omega) (by omega)
    have := of_decide_eq_true h.1
    exact a.up (by rw [List.length_map]; omega) (Nat.le_refl _)
  | mark => exact rp_mark
  | _ => cases h
theorem Shp.rp {t : Tb} {cs : List Ce} (h : Shp t cs = true) : ∀ c ∈ cs, Rp c.p 8 1 := by
  unfold Shp at h
  split at h
  · simp only [Bool.and_eq_true] at h
    intro c hc
    simp only [List.mem_cons, List.not_mem_nil, or_false] at hc
    rcases hc with rfl | rfl | rfl | rfl
    · exact (Ce.rpv h.1).up (by decide) (by decide)
    · exact Ce.rpk h.2.1
    · exact Ce.rpr h.2.2.1
    · exact Ce.rps h.2.2.2
  · simp only [Bool.and_eq_true] at h
    intro c hc
    simp only [List.mem_cons, List.not_mem_nil, or_false] at hc
    rcases hc with rfl | rfl
    · exact Ce.rpk h.1
    · exact Ce.rpr h.2
  · simp only [Bool.and_eq_true] at h
    intro c hc
    simp only [List.mem_cons, List.not_mem_nil, or_false] at hc
    rcases hc with rfl | rfl
    · exact (Ce.rpv h.1).up (by decide) (by decide)
    · exact Ce.rps h.2
  · cases h
theorem csP_rp {t : Tb} {cs : List Ce} (h : Shp t cs = true) : Rp (csP cs) 36 2 := by
  have a : Rp (.list (cs.map Ce.p)) _ (1 + 1) := Rp.list (b := 8) (k := 1) fun d hd => by
    obtain ⟨c, hc, rfl⟩ := List.mem_map.mp hd
    exact Shp.rp h c hc
  have := Shp.len h
  exact a.up (by rw [List.length_map]; omega) (Nat.le_refl _)
theorem pd_s3 : Pd K S3.d S3.p 1 S3.ok where
  dp := fun p v h => by
    obtain ⟨a, vs, rfl, h, t⟩ := At.tup_ h
    obtain ⟨u, us, rfl, h1, t⟩ := AtA.ci t
    obtain ⟨w, us, rfl, h2, t⟩ := AtA.ci t
    obtain ⟨w3, us, rfl, h3, t⟩ := AtA.ci t
    obtain rfl := AtA.ni t
    rw [At.v_.mp h1, At.v_.mp h2, At.v_.mp h3] at h
    exact .tup h (.cons (.str _) (.cons (.int _) (.cons (.str _) .nil)))
  lay := fun p h => by
    have h : PyData.strOk p.z = true := h
    simp [S3.p, PyData.canLay0, PyData.canLayAll0, sokT tz_ok, h]
  dep := fun p => by simp [S3.p, PyData.depth, PyData.depthAll]
  eq := fun p q => by
    obtain ⟨a, i, z⟩ := p
    obtain ⟨b, j, z'⟩ := q
    simp only [S3.p, PyData.eqv, PyData.eqvAll, Bool.and_true, Bool.and_eq_true, decide_eq_true_eq, beq_iff_eq, S3.mk.injEq]
    constructor
    · rintro ⟨h1, h2, h3⟩
      exact ⟨tz_inj (svv_inj h1), h2, h3⟩
    · rintro ⟨rfl, rfl, rfl⟩
      exact ⟨rfl, rfl, rfl⟩
/-! numbers held -/
theorem rd_held (T : Tx K mg) {ce : Ce} (hh : HH F H M) (hy : At K F1 (ce.d K) y) (s1 : Same F1 F) (hs : ce.small) (hn : CeN ce) (q : ∀ F' H' u, Same F F' → HH F' H' M → At K F' (.lst (ce.nums.map D.i)) u → Q u H') : sp__law_held K [y] H Q E := by
  refine ⟨rfl, ?_⟩
  unfold t__law_held
  walk_at "go"
  cases ce with
  | txt z => exact absurd rfl (hn z)
  | non =>
    obtain rfl := At.v_.mp hy
    walk_at "go"
    exact s_lst (K := K) (ds := []) hh AtA.nil (by decide) fun F' H' u s' hh' hu => q F' H' u s' hh' hu
  | num n =>
    obtain rfl := At.v_.mp hy
    walk_at "go"
    refine ite_no (fun z => nomatch z) ?_
    walk_at "go"
    refine s_eqMark T (c := .num n) hs hy (s1.trans hh.sub) ?_
    walk_at "go"
    refine ite_no (fun z => nomatch z) ?_
    walk_at "go"
    refine s_isL T (c := .num n) hy (s1.trans hh.sub) ?_
    rw [show (Ce.num n).ls = false from rfl]
    walk_at "go"
    exact s_lst (K := K) (ds := [D.i n]) hh (AtA.cons At.of AtA.nil) (Nat.le_of_ble_eq_true rfl) fun F' H' u s' hh' hu => q F' H' u s' hh' hu
  | lst ns =>
    have hy0 := hy
    obtain ⟨a, vs, rfl, _, _⟩ := At.lstR hy
    walk_at "go"
    refine ite_no (fun z => nomatch z) ?_
    walk_at "go"
    refine s_eqMark T (c := .lst ns) hs hy0 (s1.trans hh.sub) ?_
    walk_at "go"
    refine ite_no (fun z => nomatch z) ?_
    walk_at "go"
    refine s_isL T (c := .lst ns) hy0 (s1.trans hh.sub) ?_
    rw [show (Ce.lst ns).ls = true from rfl]
    walk_at "go"
    exact q F H _ (Same.refl _) hh (hy0.mono s1)
  | mark =>
    obtain rfl := At.v_.mp hy
    walk_at "go"
    refine ite_no (fun z => nomatch z) ?_
    walk_at "go"
    refine s_eqMark T (c := .mark) hs hy (s1.trans hh.sub) ?_
    walk_at "go"
    refine ite_ye rfl ?_
    walk_at "go"
    exact s_lst (K := K) (ds := []) hh AtA.nil (by decide) fun F' H' u s' hh' hu => q F' H' u s' hh' hu
end
end Lw

-- fld
namespace Lw
open PySem PySem.Spec PyProof.Rows L2 G
/-! ### the law's own reckoning -/
def kS : Option Ce → V
  | none => .non
  | some c => .str c.p.shown
def lawSort (rows : List Rw) : List Rw := tbs.flatMap fun t => (srt ((rows.filter fun r => decide (r.t = t)).map (·.n))).flatMap fun n => rows.filter fun r => decide (r.t = t) && decide (r.n = n)
def clashS : List Str → List Rw → Option Int
  | _, [] => none
  | seen, r :: rs => match r.key? with
    | none => clashS seen rs
    | some c => if c.p.shown ∈ seen then some r.n else clashS (seen ++ [c.p.shown]) rs
def lawFlt (rows : List Rw) : Option (List Nat × Int) := match ((lawSort rows).flatMap Rw.refs).find? fun n => !decide (n ∈ (rows.filter fun r => !decide (r.t = .P)).map (·.n)) with
  | some n => some (q_not_there, n)
  | none => (clashS [] (lawSort rows)).map fun n => (q_same_key, n)
theorem fm_filt {α β : Type} {p : α → Bool} {f : α → β} : ∀ {xs : List α}, xs.filterMap (fun x => if p x = true then some (f x) else none) = (xs.filter p).map f
  | [] => rfl
  | x :: xs => by
    rw [List.filterMap_cons, List.filter_cons, fm_filt]
    cases p x <;> rfl
theorem refs_M {n : Int} {v k r s : Ce} : (⟨.M, n, [v, k, r, s]⟩ : Rw).refs = r.nums ++ s.nums := by
  show [] ++ ([] ++ (r.nums ++ (s.nums ++ []))) = _
  simp
theorem refs_N {n : Int} {k r : Ce} : (⟨.N, n, [k, r]⟩ : Rw).refs = r.nums := by
  show [] ++ (r.nums ++ []) = _
  simp
theorem refs_P {n : Int} {v s : Ce} : (⟨.P, n, [v, s]⟩ : Rw).refs = s.nums := by
  show [] ++ (s.nums ++ []) = _
  simp
theorem rmN {ce : Ce} (h : ce.rm = true) : CeN ce := fun z e => by subst e; cases h
theorem smN {ce : Ce} (h : ce.sm = true) : CeN ce := fun z e => by subst e; cases h
section
variable {w : World} {K : PySem.W.Frag} {F F0 F1 F2 H H' : Hp} {Q : VK} {E : XK} {mg : Str → Option Value} {M : List (Addr × HO)} {x y u : V} {o : HO} {d : Addr} {ns : List Int} {r : Rw} {m : V} {ps : Array Value} {rows : List Rw} {σ : L2.St}
theorem s_ixC {cs : List Ce} {i : Nat} {c : Ce} {n : Int} (hx : At K F0 (.lst (cs.map (Ce.d K))) x) (s : Same F0 H) (en : n = (i : Int)) (e : cs[i]? = some c) (q : ∀ w, At K F0 (c.d K) w → Q w H) : rIx K x (.int n) H Q := s_ixL hx s en e q
theorem rd_referred (T : Tx K mg) {t : Tb} {cs : List Ce} {n : Int} (hh : HH F H M) (hx : At K F0 (.lst (cs.map (Ce.d K))) x) (s0 : Same F0 F) (hs : Shp t cs = true) (q : ∀ F' H' u, Same F F' → HH F' H' M → At K F' (.lst ((⟨t, n, cs⟩ : Rw).refs.map D.i)) u → Q u H') : sp__law_referred K [.str ⟨t.z.toArray⟩, x] H Q E := by
  refine ⟨rfl, ?_⟩
  unfold t__law_referred
  walk_at "go"
  unfold Shp at hs
  split at hs
  · rename_i v k r s
    simp only [Bool.and_eq_true] at hs
    refine ite_ye rfl ?_
    walk_at "go"
    refine s_ixC hx (s0.trans hh.sub) (i := 2) rfl rfl fun w2 hw2 => ?_
    walk_at "go"
    refine rd_held T hh hw2 s0 (Ce.rm_small hs.2.2.1) (rmN hs.2.2.1) fun F1 H1 u1 s1 hh hu1 => ?_
    walk_at "go"
    refine s_ixC hx (s0.trans (s1.trans hh.sub)) (i := 3) rfl rfl fun w3 hw3 => ?_
    walk_at "go"
    refine rd_held T hh hw3 (s0.trans s1) (Ce.sm_small hs.2.2.2) (smN hs.2.2.2) fun F2 H2 u2 s2 hh hu2 => ?_
    have l1 : r.nums.length ≤ 1 := by
      cases r with
      | lst ns => have := hs.2.2.1; cases this
      | _ => exact Nat.le_of_ble_eq_true rfl
    have l2 : s.nums.length ≤ 3 := by
      cases s with
      | lst ns =>
        have h : (decide (ns.length ≤ 3) && ns.all fun n => decide (1 ≤ n ∧ n ≤ 6)) = true := hs.2.2.2
        rw [Bool.and_eq_true] at h
        exact of_decide_eq_true h.1
      | _ => exact Nat.le_of_ble_eq_true rfl
    refine s_cat hu1 hu2 hh s2 (Same.refl _) (by rw [List.length_map, List.length_map]; omega) fun F3 H3 u3 s3 hh hu3 => ?_
    refine q F3 H3 u3 (by walk_at "sm") hh ?_
    rw [refs_M, List.map_append]
    exact hu3
  · rename_i k r
    simp only [Bool.and_eq_true] at hs
    refine ite_no (by decide +kernel) ?_
    walk_at "go"
    refine ite_ye rfl ?_
    walk_at "go"
    refine s_ixC hx (s0.trans hh.sub) (i := 1) rfl rfl fun w2 hw2 => ?_
    walk_at "go"
    exact rd_held T hh hw2 s0 (Ce.rm_small hs.2) (rmN hs.2) fun F1 H1 u1 s1 hh hu1 => q F1 H1 u1 s1 hh (by rw [refs_N]; exact hu1)
  · rename_i v s
    simp only [Bool.and_eq_true] at hs
    refine ite_no (by decide +kernel) ?_
    walk_at "go"
    refine ite_no (by decide +kernel) ?_
    walk_at "go"
    refine s_ixC hx (s0.trans hh.sub) (i := 1) rfl rfl fun w2 hw2 => ?_
    walk_at "go"
    exact rd_held T hh hw2 s0 (Ce.sm_small hs.2) (smN hs.2) fun F1 H1 u1 s1 hh hu1 => q F1 H1 u1 s1 hh (by rw [refs_P]; exact hu1)
  · cases hs
theorem rd_key (T : Tx K mg) {t : Tb} {cs : List Ce} {n : Int} (hh : HH F H M) (hx : At K F0 (.lst (cs.map (Ce.d K))) x) (s0 : Same F0 F) (hs : Shp t cs = true) (q : Q (kS (⟨t, n, cs⟩ : Rw).key?) H) : sp__law_key K [.str ⟨t.z.toArray⟩, x] H Q E := by
  refine ⟨rfl, ?_⟩
  unfold t__law_key
  walk_at "go"
  by_cases hp : t = .P
  · subst hp
    refine ite_ye rfl ?_
    walk_at "go"
    exact q
  · refine ite_no (fun z => hp (tz_inj (b := .P) z)) ?_
    walk_at "go"
    refine if_at ?_
    obtain ⟨c, co, c1, _, _, _, c5, c6, c7⟩ := key_of (n := n) hs hp
    refine s_ixC hx (s0.trans hh.sub) (i := t.at) rfl c1 fun w2 hw2 => ?_
    rw [c6] at q
    walk_at "go"
    cases hk : c.kv with
    | none =>
      rw [hk] at q
      cases c with
      | non =>
        obtain rfl := At.v_.mp hw2
        walk_at "go"
        refine ite_ye rfl ?_
        walk_at "go"
        exact q
      | mark =>
        obtain rfl := At.v_.mp hw2
        walk_at "go"
        refine ite_no (fun z => nomatch z) ?_
        walk_at "go"
        refine s_eqMark T (c := .mark) c5 hw2 (s0.trans hh.sub) ?_
        walk_at "go"
        refine ite_ye rfl ?_
        walk_at "go"
        exact q
      | _ => cases hk
    | some c' =>
      rw [hk] at q
      obtain ⟨rfl, hvk⟩ := c7 c' hk
      have hw0 := hw2
      obtain rfl := Ce.at_ (Ce.vk_flat hvk) hw2
      have hn : ¬ c'.v = V.non := fun z => by
        cases c' with
        | non => cases hk
        | num n => cases z
        | txt z => cases z
        | lst ns => cases hvk
        | mark => cases hk
      have hm : ¬ c' = .mark := fun z => by subst z; cases hk
      refine ite_no hn ?_
      walk_at "go"
      refine s_eqMark T c5 hw0 (s0.trans hh.sub) ?_
      walk_at "go"
      refine ite_no hm ?_
      walk_at "go"
      exact s_reprP ((pd_ce T).dp c' _ (hw0.mono (s0.trans hh.sub))) (Ce.rpv hvk) (by decide) (by decide) q
theorem rd_law_sorted (T : Tx K mg) (hh : HH F H M) (hx : At K F0 (.lst (rows.map (pD K))) x) (s0 : Same F0 F) (hl : rows.length ≤ 64) (q : ∀ F' H' u, Same F F' → HH F' H' M → At K F' (.lst ((lawSort rows).map (pD K))) u → Q u H') : sp__law_sorted K [x] H Q E := by
  refine ⟨rfl, ?_⟩
  unfold t__law_sorted
  walk_at "go"
  refine s_lst (K := K) (ds := []) hh AtA.nil (by decide) fun F1 H1 u0 s1 hh hu0 => ?_
  walk_at "go"
  refine gi_list ?_
  walk_at "go"
  refine s_lst (K := K) (ds := tbs.map fun t => D.t t.z) hh (at_tbs rfl) (by decide) fun F2 H2 tw s2 hh htw => ?_
  walk_at "go"
  refine a_forL htw hh (fun rest σ H' => ∃ (F' : Hp) (done : List Rw) (u : V) (v2 v3 v4 v5 : Option V), Same F2 F' ∧ done.length ≤ (3 - rest.length) * 10000 ∧ rest.length ≤ 3 ∧ done ++ rest.flatMap (fun t => (srt ((rows.filter fun r => decide (r.t = t)).map (·.n))).flatMap fun n => rows.filter fun r => decide (r.t = t) && decide (r.n = n)) = lawSort rows ∧ At K F' (.lst (done.map (pD K))) u ∧ σ = [some x, some u, v2, v3, v4, v5] ∧ HH F' H' M)
    (fun r σ H' ⟨F', _, _, _, _, _, _, s, _, _, _, _, _, h⟩ => s.trans h.sub) ⟨F2, [], u0, none, none, none, none, Same.refl _, Nat.zero_le _, Nat.le_refl _, rfl, hu0.mono s2, rfl, hh⟩ ?_ ?_
  · clear hh hu0
    rintro t rest w σ H' hw ⟨F', done, u, v2, v3, v4, v5, s, hdl, hrl, e, hu, rfl, hh⟩
    simp only [List.length_cons] at hdl hrl
    walk_at "go"
    refine gi_list ?_
    walk_at "go"
    have hxF : At K F' (.lst (rows.map (pD K))) x := hx.mono (by walk_at "sm")
    obtain rfl := At.v_.mp hw
    refine a_lcL (e := pD K) (f := D.i) hxF hh (by rw [sl16]; omega) (fun r => if decide (r.t.z = t.z) = true then some r.n else none) (fun r w F' H' ca P N hm hw sF hh' hP hN => ?_) fun F3 H3 nw s3 hh hnw => ?_
    · walk_at "go"
      refine ⟨rfl, ?_⟩
      walk_at "go"
      refine s_ixT (i := 0) hw hh'.sub rfl rfl fun w1 h1 => ?_
      obtain rfl := At.v_.mp h1
      walk_at "go"
      refine ite2 (fun hc => ?_) (fun hc => ?_)
      · walk_at "go"
        refine s_ixT (i := 1) hw hh'.sub rfl rfl fun w2 h2 => ?_
        exact hP F' _ w2 r.n (Same.refl _) hh' (if_pos hc) h2
      · exact hN F' _ (Same.refl _) hh' (if_neg hc)
    rw [show (fun r : Rw => if decide (r.t.z = t.z) = true then some r.n else none) = fun r : Rw => if decide (r.t = t) = true then some r.n else none from funext fun r => by rw [tz_dec], fm_filt] at hnw
    walk_at "go"
    refine s_sorted hnw hh (Same.refl _) fun F4 H4 sw s4 hh hsw => ?_
    rw [List.flatMap_cons, ← List.append_assoc] at e
    have nl : (srt ((rows.filter fun r => decide (r.t = t)).map (·.n))).length ≤ 64 := by
      rw [(srt_perm (ns := _)).length_eq, List.length_map]
      exact Nat.le_trans (List.length_filter_le _ _) hl
    generalize (rest.flatMap (fun t => (srt ((rows.filter fun r => decide (r.t = t)).map (·.n))).flatMap fun n => rows.filter fun r => decide (r.t = t) && decide (r.n = n))) = tl at e ⊢
    generalize srt ((rows.filter fun r => decide (r.t = t)).map (·.n)) = nums at hsw nl e
    walk_at "go"
    refine gi_list ?_
    walk_at "go"
    refine a_forL hsw hh (fun ns σ H' => ∃ (F5 : Hp) (done : List Rw) (u : V) (v4 v5 : Option V), Same F4 F5 ∧ done.length + ns.length * 64 ≤ (3 - rest.length) * 10000 ∧ done ++ (ns.flatMap fun n => rows.filter fun r => decide (r.t = t) && decide (r.n = n)) ++ tl = lawSort rows ∧ At K F5 (.lst (done.map (pD K))) u ∧ σ = [some x, some u, some (svv t.z), some sw, v4, v5] ∧ HH F5 H' M)
      (fun r σ H' ⟨F5, _, _, _, _, s, _, _, _, _, h⟩ => s.trans h.sub) ⟨F4, done, u, _, _, Same.refl _, by omega, e, hu.mono (s3.trans s4), rfl, hh⟩ ?_ ?_
    · clear e hdl hh hu
      rintro n ns w σ H' hw ⟨F5, done, u, v4, v5, s5, hdl, e, hu, rfl, hh⟩
      simp only [List.length_cons] at hdl
      obtain rfl := At.v_.mp hw
      walk_at "go"
      refine gi_list ?_
      walk_at "go"
      refine a_lcL (e := pD K) (f := pD K) (hxF.mono (by walk_at "sm")) hh (by rw [sl16]; omega) (fun r => if (decide (r.t = t) && decide (r.n = n)) = true then some r else none) (fun r w F' H' ca P N hm hw sF hh' hP hN => ?_) fun F6 H6 pw s6 hh hpw => ?_
      · walk_at "go"
        refine ⟨rfl, ?_⟩
        walk_at "go"
        refine s_ixT (i := 0) hw hh'.sub rfl rfl fun w1 h1 => ?_
        obtain rfl := At.v_.mp h1
        walk_at "go"
        refine ite2 (fun hc => ?_) (fun hc => ?_)
        · rw [tz_dec] at hc
          walk_at "go"
          refine s_ixT (i := 1) hw hh'.sub rfl rfl fun w2 h2 => ?_
          obtain rfl := At.v_.mp h2
          walk_at "go"
          refine ite2 (fun hc2 => ?_) (fun hc2 => ?_)
          · walk_at "go"
            exact hP F' _ w r (Same.refl _) hh' (if_pos (by rw [hc, hc2]; rfl)) hw
          · exact hN F' _ (Same.refl _) hh' (if_neg (by rw [hc, Bool.true_and]; exact hc2))
        · rw [tz_dec] at hc
          walk_at "go"
          exact hN F' _ (Same.refl _) hh' (if_neg (by rw [Bool.not_eq_true] at hc; rw [hc]; exact Bool.false_ne_true))
      have hf : (rows.filterMap fun r => if (decide (r.t = t) && decide (r.n = n)) = true then some r else none) = rows.filter fun r => decide (r.t = t) && decide (r.n = n) := by
        have := fm_filt (xs := rows) (p := fun r => decide (r.t = t) && decide (r.n = n)) (f := fun r => r)
        rw [List.map_id'] at this
        exact this
      rw [hf] at hpw
      have pl : (rows.filter fun r => decide (r.t = t) && decide (r.n = n)).length ≤ 64 := Nat.le_trans (List.length_filter_le _ _) hl
      refine s_cat hu hpw hh s6 (Same.refl _) (by rw [List.length_map, List.length_map]; omega) fun F7 H7 u7 s7 hh hu7 => ?_
      rw [← List.map_append] at hu7
      refine ⟨F7, _, u7, _, _, by walk_at "sm", by rw [List.length_append]; omega, ?_, hu7, rfl, hh⟩
      rw [List.append_assoc done]
      exact e
    · rintro σ H' ⟨F5, done, u, v4, v5, s5, hdl, e, hu, rfl, hh⟩
      refine ⟨F5, done, u, _, _, _, _, by walk_at "sm", by simpa using hdl, by omega, ?_, hu, rfl, hh⟩
      simpa using e
  · rintro σ H' ⟨F', done, u, v2, v3, v4, v5, s, hdl, hrl, e, hu, rfl, hh⟩
    walk_at "go"
    have e : done = lawSort rows := by rw [← e]; simp
    rw [← e] at q
    exact q F' _ u (by walk_at "sm") hh hu
end
end Lw

-- fld
namespace Lw
open PySem PySem.Spec PyProof.Rows L2 G
/-! ### the law's fault -/
theorem inV_s {z : Str} : ∀ {xs : List Str}, inV (.str z) (xs.map V.str) = decide (z ∈ xs)
  | [] => rfl
  | y :: xs => by
    have ih := inV_s (z := z) (xs := xs)
    unfold inV at ih ⊢
    rw [List.map_cons, List.any_cons, ih, Bool.eq_iff_iff, Bool.or_eq_true, decide_eq_true_iff, decide_eq_true_iff, List.mem_cons]
    have e : eqV (.str y) (.str z) = (y == z) := rfl
    rw [e, beq_iff_eq]
    exact ⟨fun h => h.imp Eq.symm id, fun h => h.imp Eq.symm id⟩
theorem flat_s : ∀ {xs : List Str}, (xs.map V.str).all flatV = true
  | [] => rfl
  | _ :: xs => by rw [List.map_cons, List.all_cons, flat_s (xs := xs)]; rfl
def thereL (rows : List Rw) : List Int := (rows.filter fun r => !decide (r.t = .P)).map (·.n)
section
variable {w : World} {K : PySem.W.Frag} {F F0 F1 F2 H H' : Hp} {Q : VK} {E : XK} {mg : Str → Option Value} {M : List (Addr × HO)} {x y u : V} {o : HO} {d : Addr} {ns : List Int} {r : Rw} {m : V} {ps : Array Value} {rows : List Rw} {σ : L2.St}
theorem lawSort_mem : r ∈ lawSort rows → r ∈ rows := fun h => by
  unfold lawSort at h
  obtain ⟨t, _, h⟩ := List.mem_flatMap.mp h
  obtain ⟨n, _, h⟩ := List.mem_flatMap.mp h
  exact (List.mem_filter.mp h).1
theorem o_inS {z : Str} {zs : List Str} {l : Addr} {i : Nat} (hh : HH F H M) (hm : M[i]? = some (l, .lst (zs.map V.str))) (q : Q (.bl (decide (z ∈ zs))) H) : rInX K (.str z) (.ref l) H Q :=
  v_inL (SqL.of (hh.get hm)) rfl flat_s (by rw [inV_s]; exact q)
theorem rd_law_fault (T : Tx K mg) (hh : HH F H M) (hx : At K F0 (.lst (rows.map (pD K))) x) (s0 : Same F0 F) (hl : rows.length ≤ 64) (hls : (lawSort rows).length ≤ 1000) (hr : ∀ r ∈ rows, Shp r.t r.cs = true) (q : ∀ F' H' u, Same F F' → HH F' H' M → At K F' (fltD (lawFlt rows)) u → Q u H') : sp__law_fault K [x] H Q E := by
  refine ⟨rfl, ?_⟩
  unfold t__law_fault
  walk_at "go"
  refine gi_list ?_
  walk_at "go"
  have hxF : At K F (.lst (rows.map (pD K))) x := hx.mono s0
  refine a_lcL (e := pD K) (f := D.i) hxF hh (by rw [sl16]; omega) (fun r => if (!decide (r.t.z = q_P)) = true then some r.n else none) (fun r w F' H' ca P N hm hw sF hh' hP hN => ?_) fun F1 H1 tw s1 hh htw => ?_
  · walk_at "go"
    refine ⟨rfl, ?_⟩
    walk_at "go"
    refine s_ixT (i := 0) hw hh'.sub rfl rfl fun w1 h1 => ?_
    obtain rfl := At.v_.mp h1
    walk_at "go"
    refine ite2 (fun hc => ?_) (fun hc => ?_)
    · walk_at "go"
      refine s_ixT (i := 1) hw hh'.sub rfl rfl fun w2 h2 => ?_
      exact hP F' _ w2 r.n (Same.refl _) hh' (if_pos hc) h2
    · exact hN F' _ (Same.refl _) hh' (if_neg hc)
  rw [show (fun r : Rw => if (!decide (r.t.z = q_P)) = true then some r.n else none) = fun r : Rw => if (!decide (r.t = .P)) = true then some r.n else none from funext fun r => by rw [show decide (r.t.z = q_P) = decide (r.t = .P) from tz_dec (b := .P)], fm_filt] at htw
  have htw : At K F1 (.lst ((thereL rows).map D.i)) tw := htw
  walk_at "go"
  refine rd_law_sorted T hh hxF s1 hl fun F2 H2 ow s2 hh how => ?_
  walk_at "go"
  refine gi_list ?_
  walk_at "go"
  have hro : ∀ r ∈ lawSort rows, Shp r.t r.cs = true := fun r h => hr r (lawSort_mem h)
  have qf : lawFlt rows = match ((lawSort rows).flatMap Rw.refs).find? fun n => !decide (n ∈ thereL rows) with
    | some n => some (q_not_there, n)
    | none => (clashS [] (lawSort rows)).map fun n => (q_same_key, n) := rfl
  rw [qf] at q
  clear qf
  generalize lawSort rows = ord at how hro hls q
  generalize hres : (ord.flatMap Rw.refs).find? (fun n => !decide (n ∈ thereL rows)) = res at q
  generalize thereL rows = th at htw hres
  refine a_forL how hh (fun rest σ H' => ∃ (F' : Hp) (v2 v4 v5 v6 : Option V), Same F2 F' ∧ (rest.flatMap Rw.refs).find? (fun n => !decide (n ∈ th)) = res ∧ (∀ r ∈ rest, Shp r.t r.cs = true) ∧ σ = [some x, some tw, v2, some ow, v4, v5, v6] ∧ HH F' H' M)
    (fun r σ H' ⟨F', _, _, _, _, s, _, _, _, h⟩ => s.trans h.sub) ⟨F2, none, none, none, none, Same.refl _, hres, hro, rfl, hh⟩ ?_ ?_
  · clear hh
    rintro ⟨t, n, cs⟩ rest w σ H' hw ⟨F', v2, v4, v5, v6, s, e, hrs, rfl, hh⟩
    have hsh := hrs _ (List.mem_cons_self ..)
    have hrest : ∀ r ∈ rest, Shp r.t r.cs = true := fun r hr => hrs r (List.mem_cons_of_mem _ hr)
    rw [List.flatMap_cons] at e
    walk_at "go"
    refine gi_list ?_
    walk_at "go"
    refine s_ixT (i := 0) hw (by walk_at "sm") rfl rfl fun w1 h1 => ?_
    obtain rfl := At.v_.mp h1
    walk_at "go"
    refine s_ixT (i := 2) hw (by walk_at "sm") rfl rfl fun w2 h2 => ?_
    walk_at "go"
    refine rd_referred T (n := n) hh h2 s hsh fun F3 H3 nw s3 hh hnw => ?_
    refine a_forL hnw hh (fun ns σ H' => ∃ (F4 : Hp) (v4 : Option V), Same F3 F4 ∧ (ns ++ rest.flatMap Rw.refs).find? (fun n => !decide (n ∈ th)) = res ∧ σ = [some x, some tw, some w, some ow, v4, v5, v6] ∧ HH F4 H' M)
      (fun r σ H' ⟨F4, _, s, _, _, h⟩ => s.trans h.sub) ⟨F3, _, Same.refl _, e, rfl, hh⟩ ?_ ?_
    · clear e hh
      rintro n' ns nw' σ H' hnw' ⟨F4, v4, s4, e, rfl, hh⟩
      obtain rfl := At.v_.mp hnw'
      walk_at "go"
      refine s_notInI htw (by walk_at "sm") ?_
      walk_at "go"
      rw [List.cons_append, List.find?_cons] at e
      refine ite2 (fun hc => ?_) (fun hc => ?_)
      · rw [show (!decide (n' ∈ th)) = true by simpa using hc] at e
        have e : some n' = res := e
        subst e
        walk_at "go"
        exact s_tup (K := K) (ds := [D.t q_not_there, D.i n']) hh (AtA.cons At.of (AtA.cons At.of AtA.nil)) (Nat.le_of_ble_eq_true rfl) fun F5 H5 u s5 hh hu => q F5 H5 u (by walk_at "sm") hh hu
      · rw [show (!decide (n' ∈ th)) = false by simpa using hc] at e
        walk_at "go"
        exact ⟨F4, _, s4, e, rfl, hh⟩
    · rintro σ H' ⟨F4, v4, s4, e, rfl, hh⟩
      exact ⟨F4, _, _, _, _, by walk_at "sm", e, hrest, rfl, hh⟩
  · clear hh
    rintro σ H' ⟨F', v2, v4, v5, v6, s, e, _, rfl, hh⟩
    have e : (none : Option Int) = res := e
    subst e
    walk_at "go"
    refine o_lst hh (by decide) fun H3 sl hh => ?_
    walk_at "go"
    refine gi_list ?_
    walk_at "go"
    generalize hres2 : clashS [] ord = res at q
    refine a_forL (how.mono s) hh (fun rest σ H' => ∃ (F4 : Hp) (seen : List Str) (v2 v6 : Option V), Same F' F4 ∧ clashS seen rest = res ∧ seen.length + rest.length ≤ 1000 ∧ (∀ r ∈ rest, Shp r.t r.cs = true) ∧ σ = [some x, some tw, v2, some ow, v4, some (.ref sl), v6] ∧ HH F4 H' ((sl, .lst (seen.map V.str)) :: M))
      (fun r σ H' ⟨F4, _, _, _, s, _, _, _, _, h⟩ => s.trans h.sub) ⟨F', [], _, _, Same.refl _, hres2, by simpa using hls, hro, rfl, hh⟩ ?_ ?_
    · clear hh
      rintro ⟨t, n, cs⟩ rest w σ H' hw ⟨F4, seen, v2, v6, s4, e, hlen, hrs, rfl, hh⟩
      have hsh := hrs _ (List.mem_cons_self ..)
      have hrest : ∀ r ∈ rest, Shp r.t r.cs = true := fun r hr => hrs r (List.mem_cons_of_mem _ hr)
      rw [List.length_cons] at hlen
      unfold clashS at e
      walk_at "go"
      refine s_ixT (i := 0) hw (by walk_at "sm") rfl rfl fun w1 h1 => ?_
      obtain rfl := At.v_.mp h1
      walk_at "go"
      refine s_ixT (i := 2) hw (by walk_at "sm") rfl rfl fun w2 h2 => ?_
      walk_at "go"
      refine rd_key T (n := n) hh h2 s4 hsh ?_
      cases hk : (⟨t, n, cs⟩ : Rw).key? with
      | none =>
        rw [hk] at e
        unfold kS
        walk_at "go"
        refine ite_F rfl ?_
        walk_at "go"
        refine ite_F rfl ?_
        walk_at "go"
        exact ⟨F4, seen, _, _, s4, e, by omega, hrest, rfl, hh⟩
      | some c =>
        rw [hk] at e
        unfold kS
        walk_at "go"
        refine ite_T rfl ?_
        walk_at "go"
        refine o_inS (i := 0) hh rfl ?_
        walk_at "go"
        refine ite2 (fun hc => ?_) (fun hc => ?_)
        · have hc := of_decide_eq_true hc
          have e : (if c.p.shown ∈ seen then some n else clashS (seen ++ [c.p.shown]) rest) = res := e
          rw [if_pos hc] at e
          subst e
          walk_at "go"
          refine s_ixT (i := 1) hw (by walk_at "sm") rfl rfl fun w3 h3 => ?_
          obtain rfl := At.v_.mp h3
          walk_at "go"
          exact s_tup (K := K) (ds := [D.t q_same_key, D.i n]) hh.drop (AtA.cons At.of (AtA.cons At.of AtA.nil)) (Nat.le_of_ble_eq_true rfl) fun F5 H5 u s5 hh hu => q F5 H5 u (by walk_at "sm") hh hu
        · have hc : c.p.shown ∉ seen := fun z => hc (decide_eq_true z)
          have e : (if c.p.shown ∈ seen then some n else clashS (seen ++ [c.p.shown]) rest) = res := e
          rw [if_neg hc] at e
          walk_at "go"
          refine ite_T rfl ?_
          walk_at "go"
          refine o_tyL (i := 0) hh rfl ?_
          walk_at "go"
          refine o_app0 hh (by rw [List.length_map]; omega) fun H5 hh => ?_
          refine ⟨F4, seen ++ [c.p.shown], _, _, s4, e, by rw [List.length_append]; show _ + 1 + _ ≤ _; omega, hrest, rfl, ?_⟩
          rw [List.map_append]
          exact hh
    · rintro σ H' ⟨F4, seen, v2, v6, s4, e, _, _, rfl, hh⟩
      have e : (none : Option Int) = res := e
      subst e
      walk_at "go"
      exact q F4 _ _ (by walk_at "sm") hh.drop At.of
end
end Lw

-- fld
namespace Lw
open PySem PySem.Spec PyProof.Rows L2 G
/-! ### the law's reckoning is the program's -/
def ltR (a b : Rw) : Prop := a.t.pl < b.t.pl ∨ (a.t.pl = b.t.pl ∧ a.n < b.n)
theorem pl_inj {a b : Tb} (h : a.pl = b.pl) : a = b := by cases a <;> cases b <;> first | rfl | (exact absurd h (by decide))
theorem key_inj {rows : List Rw} (nd : (rows.map key).Nodup) {a b : Rw} (ha : a ∈ rows) (hb : b ∈ rows) (h : key a = key b) : a = b := by
  induction rows with
  | nil => cases ha
  | cons r rows ih =>
    rw [List.map_cons, List.nodup_cons] at nd
    rcases List.mem_cons.mp ha with rfl | ha'
    · rcases List.mem_cons.mp hb with rfl | hb'
      · rfl
      · exact absurd (List.mem_map.mpr ⟨b, hb', h.symm⟩) nd.1
    · rcases List.mem_cons.mp hb with rfl | hb'
      · exact absurd (List.mem_map.mpr ⟨a, ha', h⟩) nd.1
      · exact ih nd.2 ha' hb'
theorem rows_nodup {rows : List Rw} (nd : (rows.map key).Nodup) : rows.Nodup := by
  induction rows with
  | nil => exact .nil
  | cons r rows ih =>
    rw [List.map_cons, List.nodup_cons] at nd
    exact List.nodup_cons.mpr ⟨fun h => nd.1 (List.mem_map.mpr ⟨r, h, rfl⟩), ih nd.2⟩
theorem num_nodup {rows : List Rw} (nd : (rows.map key).Nodup) {t : Tb} : ((rows.filter fun r => decide (r.t = t)).map (·.n)).Nodup := by
  induction rows with
  | nil => exact .nil
  | cons r rows ih =>
    rw [List.map_cons, List.nodup_cons] at nd
    rw [List.filter_cons]
    split
    · rename_i h
      have h := of_decide_eq_true h
      rw [List.map_cons, List.nodup_cons]
      refine ⟨fun z => ?_, ih nd.2⟩
      obtain ⟨r', hr', e⟩ := List.mem_map.mp z
      obtain ⟨h1, h2⟩ := List.mem_filter.mp hr'
      refine nd.1 (List.mem_map.mpr ⟨r', h1, ?_⟩)
      exact Prod.ext ((of_decide_eq_true h2).trans h.symm) e
    · exact ih nd.2
theorem lawSort_mem' {rows : List Rw} {r : Rw} (h : r ∈ rows) : r ∈ lawSort rows := by
  unfold lawSort
  refine List.mem_flatMap.mpr ⟨r.t, by cases r.t <;> simp [tbs], ?_⟩
  refine List.mem_flatMap.mpr ⟨r.n, ?_, ?_⟩
  · rw [(srt_perm (ns := _)).mem_iff]
    exact List.mem_map.mpr ⟨r, List.mem_filter.mpr ⟨h, decide_eq_true rfl⟩, rfl⟩
  · exact List.mem_filter.mpr ⟨h, by simp⟩
theorem lawSort_lt {rows : List Rw} (nd : (rows.map key).Nodup) : (lawSort rows).Pairwise ltR := by
  unfold lawSort
  have inner : ∀ {t : Tb} {r : Rw}, r ∈ ((srt ((rows.filter fun r => decide (r.t = t)).map (·.n))).flatMap fun n => rows.filter fun r => decide (r.t = t) && decide (r.n = n)) → r.t = t := fun {t r} h => by
    obtain ⟨n, _, h⟩ := List.mem_flatMap.mp h
    have h := (List.mem_filter.mp h).2
    rw [Bool.and_eq_true] at h
    exact of_decide_eq_true h.1
  rw [List.pairwise_flatMap]
  refine ⟨fun t _ => ?_, ?_⟩
  · rw [List.pairwise_flatMap]
    refine ⟨fun n _ => ?_, ?_⟩
    · have h0 : (rows.filter fun r => decide (r.t = t) && decide (r.n = n)).Nodup := (rows_nodup nd).sublist List.filter_sublist
      refine List.Pairwise.imp_of_mem (fun {a b} ha hb hne => ?_) h0
      obtain ⟨a1, a2⟩ := List.mem_filter.mp ha
      obtain ⟨b1, b2⟩ := List.mem_filter.mp hb
      rw [Bool.and_eq_true] at a2 b2
      exact absurd (key_inj nd a1 b1 (Prod.ext ((of_decide_eq_true a2.1).trans (of_decide_eq_true b2.1).symm) ((of_decide_eq_true a2.2).trans (of_decide_eq_true b2.2).symm))) hne
    · have h1 : (srt ((rows.filter fun r => decide (r.t = t)).map (·.n))).Nodup := srt_perm.nodup_iff.mpr (num_nodup nd)
      have h2 := srt_ord (ns := (rows.filter fun r => decide (r.t = t)).map (·.n))
      refine (h2.and h1).imp fun {m n} hmn a ha b hb => ?_
      have ha := (List.mem_filter.mp ha).2
      have hb := (List.mem_filter.mp hb).2
      rw [Bool.and_eq_true] at ha hb
      have a1 := of_decide_eq_true ha.1
      have a2 := of_decide_eq_true ha.2
      have b1 := of_decide_eq_true hb.1
      have b2 := of_decide_eq_true hb.2
      refine .inr ⟨by rw [a1, b1], ?_⟩
      have := hmn.1
      have := hmn.2
      omega
  · have h : tbs.Pairwise fun a b => a.pl < b.pl := by decide
    refine h.imp fun {t u} htu a ha b hb => ?_
    rw [← inner ha, ← inner hb] at htu
    exact .inl htu
theorem leR_trans (a b c : Rw) (h1 : leR a b = true) (h2 : leR b c = true) : leR a c = true := by
  have h1 := of_decide_eq_true h1
  have h2 := of_decide_eq_true h2
  exact decide_eq_true (by omega)
theorem leR_total (a b : Rw) : (leR a b || leR b a) = true := by
  unfold leR
  rw [Bool.or_eq_true, decide_eq_true_iff, decide_eq_true_iff]
  omega
theorem sort_eq {rows : List Rw} (nd : (rows.map key).Nodup) : lawSort rows = sortR rows := by
  have h1 := lawSort_lt nd
  have n1 : (lawSort rows).Nodup := h1.imp fun {a b} h e => by
    subst e
    rcases h with h | h <;> omega
  have n2 : (sortR rows).Nodup := (List.mergeSort_perm rows leR).nodup_iff.mpr (rows_nodup nd)
  have p : (lawSort rows).Perm (sortR rows) := (List.perm_ext_iff_of_nodup n1 n2).mpr fun a => ⟨fun h => sortR_mem.mpr (lawSort_mem h), fun h => lawSort_mem' (sortR_mem.mp h)⟩
  have s2 : (sortR rows).Pairwise fun a b => leR a b = true := List.pairwise_mergeSort leR_trans leR_total rows
  refine List.Perm.eq_of_pairwise (le := fun a b => leR a b = true) (fun a b ha hb z1 z2 => ?_) (h1.imp fun {a b} h => decide_eq_true ?_) s2 p
  · have z1 := of_decide_eq_true z1
    have z2 := of_decide_eq_true z2
    refine key_inj nd (lawSort_mem ha) (sortR_mem.mp hb) (Prod.ext (pl_inj ?_) ?_)
    · show a.t.pl = b.t.pl; omega
    · show a.n = b.n; omega
  · rcases h with h | h
    · exact .inl h
    · exact .inr ⟨h.1, by omega⟩
/-! repr tells cells apart -/
def vkA : List Ce := [.non, .num 0, .num 1, .num 2, .num 3, .num 4, .num 5, .num 6, .num 7, .num 8, .num 9, .txt q_1, .txt q_x]
theorem vk_mem {c : Ce} (h : c.vk = true) : c ∈ vkA := by
  cases c with
  | non => exact List.mem_cons_self ..
  | num n =>
    have h := of_decide_eq_true h
    have : n = 0 ∨ n = 1 ∨ n = 2 ∨ n = 3 ∨ n = 4 ∨ n = 5 ∨ n = 6 ∨ n = 7 ∨ n = 8 ∨ n = 9 := by omega
    rcases this with rfl | rfl | rfl | rfl | rfl | rfl | rfl | rfl | rfl | rfl <;> simp [vkA]
  | txt z =>
    have h := of_decide_eq_true h
    rcases h with rfl | rfl <;> simp [vkA]
  | _ => cases h
theorem shown_inj {a b : Ce} (ha : a.vk = true) (hb : b.vk = true) (h : a.p.shown = b.p.shown) : a = b := by
  have d : ∀ a ∈ vkA, ∀ b ∈ vkA, a.p.shown = b.p.shown → a = b := by decide +kernel
  exact d a (vk_mem ha) b (vk_mem hb) h
theorem key_vk {r : Rw} (h : Shp r.t r.cs = true) {c : Ce} (e : r.key? = some c) : c.vk = true := by
  obtain ⟨t, n, cs⟩ := r
  by_cases hp : t = .P
  · subst hp
    cases e
  · obtain ⟨c', co, _, _, _, _, _, c6, c7⟩ := key_of (n := n) h hp
    rw [c6] at e
    obtain ⟨rfl, hv⟩ := c7 c e
    exact hv
theorem clash_eq : ∀ {rows : List Rw} {seen : List Ce}, (∀ r ∈ rows, Shp r.t r.cs = true) → (∀ c ∈ seen, c.vk = true) → clashS (seen.map fun c => c.p.shown) rows = clash seen rows
  | [], _, _, _ => rfl
  | r :: rows, seen, hr, hs => by
    have hr2 : ∀ r ∈ rows, Shp r.t r.cs = true := fun r h => hr r (List.mem_cons_of_mem _ h)
    unfold clashS clash
    cases e : r.key? with
    | none => exact clash_eq hr2 hs
    | some c =>
      have hc := key_vk (hr r (List.mem_cons_self ..)) e
      show (if c.p.shown ∈ seen.map (fun c => c.p.shown) then some r.n else clashS (seen.map (fun c => c.p.shown) ++ [c.p.shown]) rows) = if c ∈ seen then some r.n else clash (seen ++ [c]) rows
      have hm : c.p.shown ∈ seen.map (fun c => c.p.shown) ↔ c ∈ seen := by
        constructor
        · intro h
          obtain ⟨b, hb, e⟩ := List.mem_map.mp h
          exact (shown_inj (hs b hb) hc e) ▸ hb
        · exact fun h => List.mem_map.mpr ⟨c, h, rfl⟩
      have ih := clash_eq (rows := rows) (seen := seen ++ [c]) hr2 fun b hb => by
        rcases List.mem_append.mp hb with hb | hb
        · exact hs b hb
        · rw [List.mem_singleton.mp hb]; exact hc
      rw [List.map_append] at ih
      by_cases h : c ∈ seen
      · rw [if_pos h, if_pos (hm.mpr h)]
      · rw [if_neg h, if_neg fun z => h (hm.mp z)]
        exact ih
theorem flt_eq {rows : List Rw} (nd : (rows.map key).Nodup) (hr : ∀ r ∈ rows, Shp r.t r.cs = true) : lawFlt rows = fltR (sortR rows) := by
  unfold lawFlt fltR
  rw [sort_eq nd]
  have hc : clashS [] (sortR rows) = clash [] (sortR rows) := clash_eq (seen := []) (fun r h => hr r (sortR_mem.mp h)) fun _ h => nomatch h
  have hm : (((sortR rows).flatMap Rw.refs).find? fun n => !decide (n ∈ (rows.filter fun r => !decide (r.t = .P)).map (·.n))) = mis (knw (sortR rows)) (sortR rows) := by
    unfold mis
    congr 1
    funext n
    congr 1
    unfold thr
    rw [decide_eq_decide, knw_mem, knw_mem, List.mem_map]
    constructor
    · rintro ⟨r, h, e⟩
      obtain ⟨h1, h2⟩ := List.mem_filter.mp h
      have h2 : r.t ≠ .P := by simpa using h2
      have h1 := sortR_mem.mpr h1
      cases ht : r.t with
      | M => exact .inl ⟨r, h1, ht, e⟩
      | N => exact .inr ⟨r, h1, ht, e⟩
      | P => exact absurd ht h2
    · rintro (⟨r, h1, ht, e⟩ | ⟨r, h1, ht, e⟩)
      · exact ⟨r, List.mem_filter.mpr ⟨sortR_mem.mp h1, by rw [ht]; decide⟩, e⟩
      · exact ⟨r, List.mem_filter.mpr ⟨sortR_mem.mp h1, by rw [ht]; decide⟩, e⟩
  rw [hm, hc]
  all_goals (cases mis (knw (sortR rows)) (sortR rows) <;> rfl)
/-! what is told lies between 1 and 6 -/
theorem nums_16 {c : Ce} (h : c.rm = true ∨ c.sm = true) {n : Int} (hn : n ∈ c.nums) : 1 ≤ n ∧ n ≤ 6 := by
  cases c with
  | num m =>
    rcases h with h | h
    · rw [List.mem_singleton.mp hn]; exact of_decide_eq_true h
    · cases h
  | lst ms =>
    rcases h with h | h
    · cases h
    · have h : (decide (ms.length ≤ 3) && ms.all fun n => decide (1 ≤ n ∧ n ≤ 6)) = true := h
      rw [Bool.and_eq_true, List.all_eq_true] at h
      exact of_decide_eq_true (h.2 n hn)
  | _ => cases hn
theorem refs_16 {r : Rw} (h : Shp r.t r.cs = true) {n : Int} (hn : n ∈ r.refs) : 1 ≤ n ∧ n ≤ 6 := by
  obtain ⟨t, m, cs⟩ := r
  have h : Shp t cs = true := h
  unfold Shp at h
  split at h
  · simp only [Bool.and_eq_true] at h
    rw [refs_M, List.mem_append] at hn
    rcases hn with hn | hn
    · exact nums_16 (.inl h.2.2.1) hn
    · exact nums_16 (.inr h.2.2.2) hn
  · simp only [Bool.and_eq_true] at h
    rw [refs_N] at hn
    exact nums_16 (.inl h.2) hn
  · simp only [Bool.and_eq_true] at h
    rw [refs_P] at hn
    exact nums_16 (.inr h.2) hn
  · cases h
theorem clash_mem {n : Int} : ∀ {rows : List Rw} {seen : List Ce}, clash seen rows = some n → ∃ r ∈ rows, r.n = n
  | [], _, h => by cases h
  | r :: rows, seen, h => by
    unfold clash at h
    cases e : r.key? with
    | none =>
      rw [e] at h
      obtain ⟨r', h1, h2⟩ := clash_mem h
      exact ⟨r', List.mem_cons_of_mem _ h1, h2⟩
    | some c =>
      rw [e] at h
      have h : (if c ∈ seen then some r.n else clash (seen ++ [c]) rows) = some n := h
      split at h
      · cases h
        exact ⟨r, List.mem_cons_self .., rfl⟩
      · obtain ⟨r', h1, h2⟩ := clash_mem h
        exact ⟨r', List.mem_cons_of_mem _ h1, h2⟩
def FltOk : Option (List Nat × Int) → Prop
  | none => True
  | some (z, n) => (z = q_not_there ∨ z = q_same_key) ∧ 1 ≤ n ∧ n ≤ 6
theorem flt_ok {rows : List Rw} (h : ∀ r ∈ rows, Rw.ok r) : FltOk (fltR rows) := by
  unfold fltR
  cases hm : mis (knw rows) rows with
  | some n =>
    refine ⟨.inl rfl, ?_⟩
    obtain ⟨r, hr, hn⟩ := List.mem_flatMap.mp (List.mem_of_find?_eq_some hm)
    exact refs_16 (h r hr).1 hn
  | none =>
    cases hc : clash [] rows with
    | none => exact True.intro
    | some n =>
      obtain ⟨r, hr, e⟩ := clash_mem hc
      exact ⟨.inr rfl, by rw [← e]; exact (h r hr).2⟩
def fltP : Option (List Nat × Int) → PyData
  | none => .none
  | some (z, n) => .tuple [.str ⟨z.toArray⟩, .int n]
theorem flt_dp {K : PySem.W.Frag} {F : Hp} {o : Option (List Nat × Int)} {x : V} (h : At K F (fltD o) x) : Dp K F x (fltP o) := by
  cases o with
  | none => rw [At.v_.mp h]; exact .non
  | some p =>
    obtain ⟨z, n⟩ := p
    obtain ⟨a, vs, rfl, h, t⟩ := At.tup_ h
    obtain ⟨u, us, rfl, h1, t⟩ := AtA.ci t
    obtain ⟨w, us, rfl, h2, t⟩ := AtA.ci t
    obtain rfl := AtA.ni t
    rw [At.v_.mp h1, At.v_.mp h2] at h
    exact .tup h (.cons (.str _) (.cons (.int _) .nil))
theorem flt_rp {o : Option (List Nat × Int)} (h : FltOk o) : Rp (fltP o) 100 1 := by
  cases o with
  | none => exact rp_non.up (by decide) (by decide)
  | some p =>
    obtain ⟨z, n⟩ := p
    have hz : Rp (.str ⟨z.toArray⟩) 20 0 := by
      rcases h.1 with rfl | rfl <;> exact rpB_ok (by decide +kernel)
    have hn : Rp (.int n) 20 0 := (rp_int (by have := h.2; omega) (by have := h.2; omega)).up (by decide) (by decide)
    have a := Rp.tup (b := 20) (k := 0) (ds := [.str ⟨z.toArray⟩, .int n]) fun d hd => by
      simp only [List.mem_cons, List.not_mem_nil, or_false] at hd
      rcases hd with rfl | rfl
      · exact hz
      · exact hn
    exact a.up (Nat.le_of_ble_eq_true rfl) (Nat.le_refl _)
end Lw

-- fld
namespace G
open PySem PySem.Spec PyProof.Rows L2
theorem SqL.bare {K : PySem.W.Frag} {F : Hp} {a : Addr} {xs : List V} (h : SqL K F a xs) : SqL K (G.bare F) a xs := by
  rcases h with (h | ⟨o, h⟩) | h
  · exact .inl (.inl (bare_some h fun ps z => by cases z))
  · exact .inl (.inr ⟨o, bare_some h fun ps z => by cases z⟩)
  · exact .inr h
theorem TbK.bare {F : Hp} {q : Str} {ps : Array Value} (t : TbK F q ps) : TbK (G.bare F) q ps := ⟨t.tri, fun pos cv h => by
  obtain ⟨c, e1, e2⟩ := t.ok pos cv h
  exact ⟨c, e1, bare_some e2 fun ps z => by cases z⟩⟩
theorem TbK.nil {F : Hp} {q : Str} : TbK F q #[] := ⟨True.intro, fun pos cv h => by simp [codeAmong] at h⟩
def StK (K : PySem.W.Frag) (w : World) (J : It) (g : TG) (tt : TT) (te : TE) (σ : L2.St) (vs : List Nat) (H1 : Hp) (Q : VK) : Prop := ∀ D, H1 D = none → LpC J g tt (BdS K w te D) σ vs (upd H1 D (StO w D [])) (Q (.ref D))
theorem g_setT {K : PySem.W.Frag} {w : World} {wi : TI} {g : TG} {tt : TT} {te : TE} {vs : List Nat} {σ : L2.St} {H : Hp} {Q : VK} (h : wi σ H fun J H1 => StK K w J g tt te σ vs H1 Q) : tSetT K w wi g tt te vs σ H Q := h
end G
namespace Lw
open PySem PySem.Spec PyProof.Rows PySem.W L2 G LamX
/-! ### marks, rows in order -/
def kk (p : Tb × Int) : List L2.Key := [.inr ⟨p.1.z.toArray⟩, .inl p.2]
theorem kk_inj {p q : Tb × Int} (h : kk p = kk q) : p = q := by
  unfold kk at h
  injection h with h1 h2
  injection h2 with h2 _
  have a : (⟨p.1.z.toArray⟩ : Str) = ⟨q.1.z.toArray⟩ := Sum.inr.inj h1
  exact Prod.ext (tz_inj (svv_inj a)) (Sum.inl.inj h2)
theorem kk_nd : ∀ {l : List (Tb × Int)}, l.Nodup → (l.map kk).Nodup
  | [], _ => .nil
  | p :: l, n => by
    rw [List.nodup_cons] at n
    rw [List.map_cons, List.nodup_cons]
    refine ⟨fun z => ?_, kk_nd n.2⟩
    obtain ⟨q', hq', e⟩ := List.mem_map.mp z
    exact n.1 (kk_inj e ▸ hq')
theorem nd_le {α : Type} [DecidableEq α] : ∀ {xs ys : List α}, xs.Nodup → (∀ x ∈ xs, x ∈ ys) → xs.length ≤ ys.length
  | [], _, _, _ => Nat.zero_le _
  | x :: xs, ys, nd, h => by
    rw [List.nodup_cons] at nd
    have hx := h x (List.mem_cons_self ..)
    have ih := nd_le (xs := xs) (ys := ys.erase x) nd.2 fun z hz => (List.mem_erase_of_ne (fun (e : z = x) => nd.1 (e ▸ hz))).mpr (h z (List.mem_cons_of_mem _ hz))
    rw [List.length_erase_of_mem hx] at ih
    have : 0 < ys.length := List.length_pos_of_mem hx
    rw [List.length_cons]
    omega
theorem nd_len {α : Type} [DecidableEq α] : ∀ {l ys : List α}, ys.Nodup → (∀ x ∈ ys, x ∈ l) → ys.length = l.length → l.Nodup
  | [], _, _, _, _ => List.nodup_nil
  | a :: l, ys, nd, h, e => by
    have no : ¬ ∀ x ∈ ys, x ∈ l := fun z => by
      have := nd_le nd z
      rw [e, List.length_cons] at this
      omega
    have ha : a ∈ ys := Classical.byContradiction fun n => no fun x hx => (List.mem_cons.mp (h x hx)).resolve_left fun z => n (z ▸ hx)
    refine List.nodup_cons.mpr ⟨fun z => no fun x hx => (List.mem_cons.mp (h x hx)).elim (fun e => e ▸ z) id, ?_⟩
    refine nd_len (ys := ys.erase a) (nd.erase a) (fun x hx => ?_) ?_
    · have hm := List.mem_of_mem_erase hx
      have ne : x ≠ a := fun z => by
        rw [z] at hx
        exact (nd.not_mem_erase) hx
      exact (List.mem_cons.mp (h x hm)).resolve_left ne
    · rw [List.length_erase_of_mem ha, e, List.length_cons]
      omega
def hasM (r : Rw) : Bool := r.cs.any fun c => decide (c = .mark)
def ordR (rows : List Rw) : Bool := !(rows.any hasM) && ((fltR (sortR rows)).isNone && decide ((rows.map key).Nodup))
section
variable {w : World} {K : PySem.W.Frag} {F F0 F1 F2 H H' : Hp} {Q : VK} {E : XK} {mg : Str → Option Value} {M : List (Addr × HO)} {x y u : V} {o : HO} {d : Addr} {r : Rw} {rows : List Rw} {ps : Array Value}
/-- a for of a comprehension over data -/
theorem lpc_list {α : Type} {e : α → D} {xs : List α} {g : TG} {tt : TT} {BD : L2.St → Hp → (Hp → Prop) → Prop} {σ : L2.St} {vs : List Nat} {Dn : Hp → Prop} {a : Addr} {us : List V} (I : List α → Hp → Prop) (hF : ∀ r H, I r H → SqL K H a us ∧ Same F H) (t : AtA K F (xs.map e) us) (h0 : I xs H)
    (hs : ∀ y r w H, At K F (e y) w → I (y :: r) H → g w (wipe σ vs) H fun σ2 H2 => wipe σ2 vs = wipe σ vs ∧ tt σ2 H2 fun b H3 => if b = true then BD σ2 H3 (I r) else I r H3) (hd : ∀ H, I [] H → Dn H) : LpC (Itl K a) g tt BD σ vs H Dn := by
  have hl : us.length = xs.length := by rw [t.len, List.length_map]
  refine ⟨fun i m H => m = xs.length - i ∧ i ≤ xs.length ∧ I (xs.drop i) H, ⟨xs.length, by simp, Nat.zero_le _, h0⟩, ?_⟩
  rintro i m H ⟨rfl, hi, p⟩
  have hsq := (hF _ _ p).1
  have sF := (hF _ _ p).2
  by_cases hlt : i < xs.length
  · have hv : us[i]? = some us[i] := List.getElem?_eq_getElem (by omega)
    have ed : xs.drop i = xs[i] :: xs.drop (i + 1) := List.drop_eq_getElem_cons hlt
    rw [ed] at p
    obtain ⟨w', hw1, hw2⟩ := t.get (i := i) (d := e xs[i]) (by rw [List.getElem?_map, List.getElem?_eq_getElem hlt]; rfl)
    refine .inr ⟨⟨us, us[i], hsq, hv⟩, I (xs.drop (i + 1)), fun H' p' => ⟨xs.length - (i + 1), by omega, rfl, hlt, p'⟩, fun x H' y => ?_⟩
    obtain ⟨eH, y⟩ := y
    subst eH
    have ex := y us hsq
    rw [hw1] at ex
    cases ex
    exact hs _ _ _ _ hw2 p
  · have ei : i = xs.length := by omega
    subst ei
    rw [List.drop_length] at p
    exact .inl ⟨⟨us, hsq, by omega⟩, hd H p⟩
theorem rd_has_mark (T : Tx K mg) (hsh : Shp r.t r.cs = true) (hh : HH F H M) (hx : At K F0 (r.d K) x) (s0 : Same F0 F) (q : ∀ F' H', Same F F' → HH F' H' M → Q (.bl (hasM r)) H') : sp_has_mark K [x] H Q E := by
  refine ⟨rfl, ?_⟩
  unfold t_has_mark
  walk_at "go"
  refine gi_list ?_
  walk_at "go"
  refine f_Row_cells T hx (s0.trans hh.sub) fun zw hzw => ?_
  have hl := Shp.len hsh
  refine a_lcL (e := Ce.d K) (f := fun b : Bool => D.v (.bl b)) (hzw.mono s0) hh (by rw [sl16]; omega) (fun c => some (decide (c = .mark))) (fun c z F' H' c' P N hc hz sF hh' hP hN => ?_) fun F2 H2 u s2 hh hu => ?_
  · walk_at "go"
    refine ⟨rfl, ?_⟩
    walk_at "go"
    refine s_eqMark T (Shp.small hsh c hc) hz hh'.sub ?_
    exact hP F' _ _ _ (Same.refl _) hh' rfl At.of
  walk_at "go"
  obtain ⟨ba, vs, eb, hsq, ht⟩ := At.lst_ hu
  subst eb
  have ev := ht.flat (g := V.bl)
  subst ev
  refine ⟨ba, _, rfl, hh.sub.seq hsq, ?_⟩
  have ea : (r.cs.filterMap fun c => some (decide (c = .mark))).any id = hasM r := by
    rw [show (fun c : Ce => some (decide (c = .mark))) = some ∘ fun c : Ce => decide (c = .mark) from rfl, List.filterMap_eq_map, List.any_map]
    rfl
  rw [ea]
  exact q F2 H2 s2 hh
theorem flt_non {f : Option (List Nat × Int)} (h : At K F (fltD f) u) : decide (u = V.non) = f.isNone := by
  cases f with
  | none => obtain rfl := At.v_.mp h; rfl
  | some p =>
    obtain ⟨z, n⟩ := p
    obtain ⟨a, vs, e, _, _⟩ := At.tup_ (show At K F (.tup [.t z, .i n]) u from h)
    subst e
    rfl
/-- how many there are, each counted once -/
theorem s_setL {tb : L2.St} {i : Nat} {ps : List (Tb × Int)} {nv : V} (hh : HH F H M) (hn : At K F0 (.lst (ps.map plD)) nv) (s0 : Same F0 F) (hl : ps.length < 60) (q : ∀ H' a (Ms : List (List L2.Key × Addr)), HH F H' ((a, StO w a Ms) :: M) → (decide (Ms.length = ps.length) = decide ps.Nodup) → Q (.ref a) H') (hi : i < tb.length) :
    OvL K (fun J H1 => StK K w J (gName i) tYes (tVar i) tb [i] H1 Q) nv H := by
  obtain ⟨a, us, rfl, hsq, t⟩ := At.lst_ hn
  refine ⟨a, rfl, ⟨us, (s0.trans hh.sub).seq hsq⟩, fun D hD => ?_⟩
  have hh0 := hh.new (o := StO w D []) hD
  refine lpc_list (e := plD) (xs := ps) (us := us) (F := F) (fun rs H' => ∃ (done : List (Tb × Int)) (Ms : List (List L2.Key × Addr)), done ++ rs = ps ∧ (Ms.map (·.1)).Nodup ∧ (∀ k, k ∈ Ms.map (·.1) ↔ k ∈ done.map kk) ∧ (∀ m ∈ Ms, SqT K F m.2 (m.1.map kV)) ∧ Ms.length ≤ done.length ∧ HH F H' ((D, StO w D Ms) :: M)) (fun ts H' ⟨_, _, _, _, _, _, _, h⟩ => ⟨(s0.trans h.sub).seq hsq, h.sub⟩) (t.mono s0) ⟨[], [], rfl, List.nodup_nil, (fun k => by simp), (fun _ h => nomatch h), Nat.le_refl _, hh0⟩ ?_ ?_
  · rintro p rest w' H' hw ⟨done, Ms, he, nd, mem, hm, len, hh⟩
    obtain ⟨b, vs, rfl, hb, hvs⟩ := At.tup_ (show At K F (.tup [.t p.1.z, .i p.2]) w' from hw)
    obtain ⟨u1, us1, rfl, h1, hvs⟩ := AtA.ci hvs
    obtain ⟨u2, us2, rfl, h2, hvs⟩ := AtA.ci hvs
    obtain rfl := AtA.ni hvs
    obtain rfl := At.v_.mp h1
    obtain rfl := At.v_.mp h2
    have hdl : done.length < 60 := by
      have e := congrArg List.length he
      rw [List.length_append] at e
      omega
    refine g_name ?_
    refine ⟨by show List.set (List.set (List.set tb i none) i _) i none = List.set tb i none; rw [List.set_set, List.set_set], ?_⟩
    refine g_yes (ite_T rfl ?_)
    unfold BdS
    refine g_var (by rw [List.getElem?_set_self (by rw [wipe_length]; exact hi)]) ?_
    refine ⟨Ms, kk p, b, rfl, Same.sqt hh.sub hb, hh.get (i := 0) rfl, fun m hm' => Same.sqt hh.sub (hm m hm'), by omega, fun M' hM => ?_⟩
    refine ⟨done ++ [p], M', by rw [List.append_assoc]; exact he, ?_, fun k => ?_, fun m hm' => ?_, ?_, hh.set0⟩
    · rcases hM with ⟨_, rfl⟩ | ⟨no, pm⟩
      · exact nd
      · exact (pm.map (·.1)).nodup_iff.mpr (List.nodup_cons.mpr ⟨no, nd⟩)
    · rw [List.map_append, List.mem_append, ← mem]
      rcases hM with ⟨yes, rfl⟩ | ⟨no, pm⟩
      · exact ⟨.inl, fun z => z.elim id fun z => by rw [List.mem_singleton.mp z]; exact yes⟩
      · rw [(pm.map (·.1)).mem_iff, List.map_cons, List.mem_cons]
        exact ⟨fun z => z.elim (fun e => .inr (by rw [e]; exact List.mem_cons_self ..)) .inl, fun z => z.elim .inr fun z => .inl (List.mem_singleton.mp z)⟩
    · rcases hM with ⟨_, rfl⟩ | ⟨no, pm⟩
      · exact hm m hm'
      · rcases List.mem_cons.mp (pm.mem_iff.mp hm') with rfl | hm'
        · exact hb
        · exact hm m hm'
    · rw [List.length_append]
      show _ ≤ _ + 1
      rcases hM with ⟨_, rfl⟩ | ⟨no, pm⟩
      · omega
      · have := pm.length_eq
        rw [List.length_cons] at this
        omega
  · rintro H' ⟨done, Ms, he, nd, mem, hm, len, hh⟩
    have he : done = ps := by rw [← he, List.append_nil]
    subst he
    refine q H' D Ms hh (decide_eq_decide.mpr ⟨fun e => ?_, fun n => ?_⟩)
    · have z : (done.map kk).Nodup := nd_len nd (fun k hk => (mem k).mp hk) (by rw [List.length_map, List.length_map]; exact e)
      exact List.Pairwise.of_map kk (fun _ _ h e => h (congrArg kk e)) z
    · have z := kk_nd n
      have l1 := nd_le z fun k hk => (mem k).mpr hk
      rw [List.length_map, List.length_map] at l1
      omega
theorem rd_are_in_order (T : Tx K mg) (hh : HH F H ((tbP K, .tbl ps) :: M)) (tb : TbK F tbQ ps) (nF : NoT F) (nM : Pln M) (hx : At K F0 (.lst (ta3.map Ta.d)) x) (s0 : Same F0 F) (hy : At K F1 (.lst (rows.map (Rw.d K))) y) (s1 : Same F1 F) (hl : rows.length < 60) (hr : ∀ r ∈ rows, Shp r.t r.cs = true)
    (q : ∀ F' H' ps', Same F F' → NoT F' → TbK F' tbQ ps' → HH F' H' ((tbP K, .tbl ps') :: M) → Q (.bl (ordR rows)) H') : sp_are_in_order K w [x, y] H Q E := by
  refine ⟨rfl, ?_⟩
  unfold t_are_in_order
  have out : ∀ {F' H' ps'}, Same F F' → TbK F' tbQ ps' → HH F' H' ((tbP K, .tbl ps') :: M) → ∀ {b : Bool}, b = ordR rows → Q (.bl b) H' := fun {F' H' ps'} s t h b e => by
    rw [e]
    exact q _ _ _ (nF.same s) (bare_noT F') (TbK.bare t) h.bare
  walk_at "go"
  refine gi_list ?_
  walk_at "go"
  refine a_lcL (e := Rw.d K) (f := fun b : Bool => D.v (.bl b)) (hy.mono s1) hh (by rw [sl16]; omega) (fun r => some (hasM r)) (fun r z F' H' c' P N hm hz sF hh' hP hN => ?_) fun F2 H2 u s2 hh hu => ?_
  · walk_at "go"
    refine ⟨rfl, ?_⟩
    walk_at "go"
    exact rd_has_mark T (hr r hm) hh' hz (Same.refl _) fun F3 H3 s3 hh => hP F3 _ _ _ s3 hh rfl At.of
  walk_at "go"
  obtain ⟨ba, vs, eb, hsq, ht⟩ := At.lst_ hu
  subst eb
  have ev := ht.flat (g := V.bl)
  subst ev
  refine ⟨ba, _, rfl, hh.sub.seq hsq, ?_⟩
  have ea : (rows.filterMap fun r => some (hasM r)).any id = rows.any hasM := by
    rw [show (fun r : Rw => some (hasM r)) = some ∘ hasM from rfl, List.filterMap_eq_map, List.any_map]
    rfl
  rw [ea]
  walk_at "go"
  cases hmk : rows.any hasM with
  | true =>
    walk_at "go"
    exact out s2 (tb.mono s2) hh (by unfold ordR; rw [hmk]; rfl)
  | false =>
    walk_at "go"
    have hx2 := (hx.mono (s0.trans s2)).bare
    have hy2 := (hy.mono (s1.trans s2)).bare
    have sb : Same F (G.bare F2) := nF.same s2
    have hh := hh.bare
    have nb := bare_noT F2
    generalize G.bare F2 = F2 at hx2 hy2 sb hh nb
    refine rd_first_fault T hh (tb.mono sb) nb nM hx2 (Same.refl _) hy2 (Same.refl _) (by omega) hr fun F3 H3 ps3 fw s3 tb3 hh hfw => ?_
    walk_at "go"
    rw [flt_non hfw]
    cases hft : (fltR (sortR rows)).isNone with
    | false =>
      walk_at "go"
      exact out (sb.trans s3) tb3 hh (by unfold ordR; rw [hft, Bool.false_and, Bool.and_false])
    | true =>
      walk_at "go"
      refine gi_list ?_
      walk_at "go"
      refine a_lcL (e := Rw.d K) (f := plD) (hy2.mono s3) hh (by rw [sl16]; omega) (fun r => some (key r)) (fun r z F' H' c' P N hm hz sF hh' hP hN => ?_) fun F4 H4 nv s4 hh hnv => ?_
      · walk_at "go"
        refine ⟨rfl, ?_⟩
        walk_at "go"
        refine f_Row_table T hz hh'.sub ?_
        walk_at "go"
        refine f_Row_number T hz hh'.sub ?_
        walk_at "go"
        exact s_tup (K := K) (ds := [D.t r.t.z, D.i r.n]) hh' (AtA.cons At.of (AtA.cons At.of AtA.nil)) (Nat.le_of_ble_eq_true rfl) fun F5 H5 v s5 hh hv => hP F5 H5 v (key r) s5 hh rfl hv
      have ek : rows.filterMap (fun r => some (key r)) = rows.map key := by rw [show (fun r : Rw => some (key r)) = some ∘ key from rfl, List.filterMap_eq_map]
      rw [ek] at hnv
      walk_at "go"
      refine g_setT ?_
      refine gi_list ?_
      walk_at "go"
      have hkl : (rows.map key).length = rows.length := List.length_map _
      refine s_setL hh hnv (Same.refl _) (by omega) (fun H5 a Ms hh em => ?_) ?_
      rotate_left
      · exact Nat.le_of_ble_eq_true rfl
      walk_at "go"
      refine ⟨a, Ms, rfl, hh.get (i := 0) rfl, ?_⟩
      walk_at "go"
      refine s_lenL hnv hh.sub ?_
      walk_at "go"
      have e2 : decide ((Ms.length : Int) = ((rows.map key).length : Nat)) = ordR rows := by
        unfold ordR
        rw [hmk, hft, ← em]
        exact decide_eq_decide.mpr (by omega)
      exact out (sb.trans (s3.trans s4)) (tb3.mono s4) hh.drop e2
end
end Lw

-- fld
namespace Lw
open PySem PySem.Spec PyProof.Rows PySem.W L2 G LamX
/-! ### the law's marks; Row.__eq__ -/
section
variable {w : World} {K : PySem.W.Frag} {F F0 F1 F2 H H' : Hp} {Q : VK} {E : XK} {mg : Str → Option Value} {M : List (Addr × HO)} {x y u : V} {o : HO} {d : Addr} {r : Rw} {rows : List Rw} {ps : Array Value} {a b : Rw}
theorem fm_if {α : Type} {p : α → Bool} : ∀ {xs : List α}, xs.filterMap (fun x => if p x = true then some x else none) = xs.filter p
  | [] => rfl
  | x :: xs => by
    rw [List.filterMap_cons, List.filter_cons]
    cases h : p x with
    | true => simp [fm_if]
    | false => simp [fm_if]
theorem hasM_mem : decide (Ce.mark ∈ r.cs) = hasM r := by
  unfold hasM
  rw [Bool.eq_iff_iff, decide_eq_true_iff, List.any_eq_true]
  exact ⟨fun h => ⟨_, h, decide_eq_true rfl⟩, fun ⟨c, hc, e⟩ => of_decide_eq_true e ▸ hc⟩
theorem rd_marked (T : Tx K mg) (hh : HH F H M) (hx : At K F0 (.lst (rows.map (pD K))) x) (s0 : Same F0 F) (hl : rows.length ≤ 1000) (hr : ∀ r ∈ rows, Shp r.t r.cs = true) (q : ∀ F' H', Same F F' → HH F' H' M → Q (.bl (rows.any hasM)) H') : sp__law_marked K [x] H Q E := by
  refine ⟨rfl, ?_⟩
  unfold t__law_marked
  walk_at "go"
  refine gi_list ?_
  walk_at "go"
  refine a_lcL (e := pD K) (f := pD K) (hx.mono s0) hh (by rw [sl16]; omega) (fun r => if hasM r = true then some r else none) (fun r w F' H' c P N hr' hw sF hh' hP hN => ?_) fun F2 H2 u s2 hh hu => ?_
  · walk_at "go"
    refine ⟨rfl, ?_⟩
    walk_at "go"
    refine s_ixT (i := 2) hw hh'.sub rfl rfl fun w2 hw2 => ?_
    obtain ⟨la, lv, rfl, hla, hlv⟩ := At.lst_ hw2
    refine o_inP (pd_ce T) (by decide) (a := .mark) (xs := r.cs) (F0 := F') At.of hh'.sub (hh'.sub.seq hla) hlv hh'.sub True.intro (Shp.small (hr r hr')) ?_
    rw [hasM_mem]
    walk_at "go"
    refine ite2 (fun hc => ?_) (fun hc => ?_)
    · walk_at "go"
      exact hP F' _ w r (Same.refl _) hh' (if_pos hc) hw
    · exact hN F' _ (Same.refl _) hh' (if_neg hc)
  rw [fm_if] at hu
  walk_at "go"
  refine s_lenL hu hh.sub ?_
  walk_at "go"
  have e : decide (((rows.filter hasM).length : Int) > 0) = rows.any hasM := by
    rw [Bool.eq_iff_iff, decide_eq_true_iff, List.any_eq_true]
    constructor
    · intro h
      obtain ⟨r, hr⟩ := List.length_pos_iff_exists_mem.mp (show 0 < (rows.filter hasM).length by omega)
      exact ⟨r, (List.mem_filter.mp hr).1, (List.mem_filter.mp hr).2⟩
    · rintro ⟨r, h1, h2⟩
      have := List.length_pos_of_mem (List.mem_filter.mpr ⟨h1, h2⟩)
      omega
  rw [e]
  exact q F2 H2 s2 hh
theorem rw_eq {a b : Rw} : a = b ↔ a.t = b.t ∧ a.n = b.n ∧ a.cs = b.cs := by
  cases a; cases b; simp
theorem rd_row_eq (T : Tx K mg) (ha : ∀ c ∈ a.cs, c.small) (hb : ∀ c ∈ b.cs, c.small) (hx : At K F0 (a.d K) x) (s0 : Same F0 H) (hy : At K F1 (b.d K) y) (s1 : Same F1 H) (q : Q (.bl (decide (a = b))) H) : sp_Row_eq K [x, y] H Q E := by
  refine ⟨rfl, ?_⟩
  unfold t_Row_eq
  walk_at "go"
  refine s_isi (c := "Row") (c' := "Row") hy s1 T.cl_Row T.if_Row T.is_Row_Row ?_
  walk_at "go"
  refine f_Row_table T hx s0 ?_
  walk_at "go"
  refine f_Row_table T hy s1 ?_
  walk_at "go"
  refine ite2 (fun hc => ?_) (fun hc => ?_)
  · have e1 : a.t = b.t := tz_inj (of_decide_eq_true hc)
    walk_at "go"
    refine f_Row_number T hx s0 ?_
    walk_at "go"
    refine f_Row_number T hy s1 ?_
    walk_at "go"
    refine ite2 (fun hc => ?_) (fun hc => ?_)
    · have e2 : a.n = b.n := of_decide_eq_true hc
      walk_at "go"
      refine f_Row_cells T hx s0 fun w1 hw1 => ?_
      walk_at "go"
      refine f_Row_cells T hy s1 fun w2 hw2 => ?_
      refine s_eqP (Pd.list (pd_ce T)) (by decide) (a := a.cs) (b := b.cs) hw1 hw2 s0 s1 ha hb ?_
      rw [show decide (a.cs = b.cs) = decide (a = b) from decide_eq_decide.mpr ⟨fun e => rw_eq.mpr ⟨e1, e2, e⟩, fun e => by rw [e]⟩]
      exact q
    · rw [show false = decide (a = b) from (decide_eq_false fun e => hc (decide_eq_true (by rw [e]))).symm]
      exact q
  · rw [show false = decide (a = b) from (decide_eq_false fun e => hc (decide_eq_true (by rw [e]))).symm]
    exact q
/-- a == b, a != b of rows -/
theorem s_ownR (T : Tx K mg) {neg : Bool} (ha : ∀ c ∈ a.cs, c.small) (hb : ∀ c ∈ b.cs, c.small) (hx : At K F0 (a.d K) x) (s0 : Same F0 H) (hy : At K F1 (b.d K) y) (s1 : Same F1 H) (q : Q (.bl (if neg then !decide (a = b) else decide (a = b))) H) : rOwnA neg K (He.ga K "Row") (sp_Row_eq K) x y H Q := by
  obtain ⟨xa, xdx, xfs, rfl, hxa, _⟩ := At.obj_ (show At K F0 (.obj "Row" _) x from hx)
  obtain ⟨ya, ydx, yfs, rfl, hya, _⟩ := At.obj_ (show At K F1 (.obj "Row" _) y from hy)
  exact ⟨xa, xdx, xfs, rfl, s0 _ _ hxa, .inl ⟨ya, ydx, yfs, rfl, s1 _ _ hya⟩, rd_row_eq T ha hb hx s0 hy s1 ⟨_, rfl, q⟩⟩
end
end Lw

-- fld
namespace Lw
open PySem PySem.Spec PyProof.Rows PySem.W L2 G LamX
/-! ### Column.__eq__, StoreKey.__eq__, Table.__eq__ -/
theorem pd_i {K : PySem.W.Frag} : Pd K D.i PyData.int 0 (fun _ => True) where
  dp := fun x v h => by rw [At.v_.mp h]; exact .int _
  lay := fun x h => by rw [PyData.canLay0]
  dep := fun x => by rw [PyData.depth]; exact Nat.le_refl _
  eq := fun x y => by simp [PyData.eqv]
section
variable {w : World} {K : PySem.W.Frag} {F F0 F1 F2 H H' : Hp} {Q : VK} {E : XK} {mg : Str → Option Value} {M : List (Addr × HO)} {x y u : V} {o : HO} {d : Addr} {c c2 : Co} {k : Sk} {t t2 : Ta}
def Co.tok (c : Co) : Prop := ∀ z ∈ c.ts, z.all (· < 1114112) = true
theorem rd_col_eq (T : Tx K mg) (ht : c.tok) (hx : At K F0 c.d x) (s0 : Same F0 H) (hy : At K F1 c.d y) (s1 : Same F1 H) (q : Q (.bl true) H) : sp_Column_eq K [x, y] H Q E := by
  refine ⟨rfl, ?_⟩
  unfold t_Column_eq
  walk_at "go"
  refine s_isi (c := "Column") (c' := "Column") hy s1 T.cl_Column T.if_Column T.is_Column_Column ?_
  walk_at "go"
  refine fv_Column_name T hx s0 ?_
  walk_at "go"
  refine fv_Column_name T hy s1 ?_
  walk_at "go"
  refine ite_ye rfl ?_
  walk_at "go"
  refine fv_Column_role T hx s0 ?_
  walk_at "go"
  refine fv_Column_role T hy s1 ?_
  walk_at "go"
  refine ite_ye rfl ?_
  walk_at "go"
  refine f_Column_targets T hx s0 fun w1 h1 => ?_
  walk_at "go"
  refine f_Column_targets T hy s1 fun w2 h2 => ?_
  refine s_eqP (Pd.list pd_t) (by decide) (a := c.ts) (b := c.ts) h1 h2 s0 s1 ht ht ?_
  rw [decide_eq_true rfl]
  exact q
theorem rd_col_ne (T : Tx K mg) (hn : c.n ≠ c2.n) (hx : At K F0 c.d x) (s0 : Same F0 H) (hy : At K F1 c2.d y) (s1 : Same F1 H) (q : Q (.bl false) H) : sp_Column_eq K [x, y] H Q E := by
  refine ⟨rfl, ?_⟩
  unfold t_Column_eq
  walk_at "go"
  refine s_isi (c := "Column") (c' := "Column") hy s1 T.cl_Column T.if_Column T.is_Column_Column ?_
  walk_at "go"
  refine fv_Column_name T hx s0 ?_
  walk_at "go"
  refine fv_Column_name T hy s1 ?_
  walk_at "go"
  refine ite_no hn ?_
  exact q
theorem rd_key_eq (T : Tx K mg) (hx : At K F0 k.d x) (s0 : Same F0 H) (hy : At K F1 k.d y) (s1 : Same F1 H) (q : Q (.bl true) H) : sp_StoreKey_eq K [x, y] H Q E := by
  refine ⟨rfl, ?_⟩
  unfold t_StoreKey_eq
  walk_at "go"
  refine s_isi (c := "StoreKey") (c' := "StoreKey") hy s1 T.cl_StoreKey T.if_StoreKey T.is_StoreKey_StoreKey ?_
  walk_at "go"
  refine fv_StoreKey_name T hx s0 ?_
  walk_at "go"
  refine fv_StoreKey_name T hy s1 ?_
  walk_at "go"
  refine ite_ye rfl ?_
  walk_at "go"
  refine f_StoreKey_places T hx s0 fun w1 h1 => ?_
  walk_at "go"
  refine f_StoreKey_places T hy s1 fun w2 h2 => ?_
  refine s_eqP (Pd.list pd_i) (by decide) (a := k.ps) (b := k.ps) h1 h2 s0 s1 (fun _ _ => True.intro) (fun _ _ => True.intro) ?_
  rw [decide_eq_true rfl]
  exact q
theorem ownEs_c (T : Tx K mg) : ∀ {cs : List Co} {xs ys : List V}, (∀ c ∈ cs, c.tok) → AtA K F0 (cs.map Co.d) xs → Same F0 H → AtA K F1 (cs.map Co.d) ys → Same F1 H → OwnEs K (He.ga K "Column") (sp_Column_eq K) H xs ys true
  | [], _, _, _, h1, _, h2, _ => by rw [AtA.ni h1, AtA.ni h2]; exact .nil
  | c :: cs, _, _, ht, h1, s0, h2, s1 => by
    obtain ⟨u, us, rfl, a1, h1⟩ := AtA.ci h1
    obtain ⟨v, vs, rfl, a2, h2⟩ := AtA.ci h2
    refine .yes ?_ (ownEs_c T (fun c hc => ht c (List.mem_cons_of_mem _ hc)) h1 s0 h2 s1)
    obtain ⟨xa, xdx, xfs, rfl, hxa, _⟩ := At.obj_ (show At K F0 (.obj "Column" _) u from a1)
    obtain ⟨ya, ydx, yfs, rfl, hya, _⟩ := At.obj_ (show At K F1 (.obj "Column" _) v from a2)
    exact ⟨xa, xdx, xfs, rfl, s0 _ _ hxa, .inl ⟨ya, ydx, yfs, rfl, s1 _ _ hya⟩, fun _ => .inl rfl, rd_col_eq T (ht c (List.mem_cons_self ..)) a1 s0 a2 s1 ⟨rfl, rfl⟩⟩
theorem ownEs_k (T : Tx K mg) : ∀ {ks : List Sk} {xs ys : List V}, AtA K F0 (ks.map Sk.d) xs → Same F0 H → AtA K F1 (ks.map Sk.d) ys → Same F1 H → OwnEs K (He.ga K "StoreKey") (sp_StoreKey_eq K) H xs ys true
  | [], _, _, h1, _, h2, _ => by rw [AtA.ni h1, AtA.ni h2]; exact .nil
  | c :: cs, _, _, h1, s0, h2, s1 => by
    obtain ⟨u, us, rfl, a1, h1⟩ := AtA.ci h1
    obtain ⟨v, vs, rfl, a2, h2⟩ := AtA.ci h2
    refine .yes ?_ (ownEs_k T h1 s0 h2 s1)
    obtain ⟨xa, xdx, xfs, rfl, hxa, _⟩ := At.obj_ (show At K F0 (.obj "StoreKey" _) u from a1)
    obtain ⟨ya, ydx, yfs, rfl, hya, _⟩ := At.obj_ (show At K F1 (.obj "StoreKey" _) v from a2)
    exact ⟨xa, xdx, xfs, rfl, s0 _ _ hxa, .inl ⟨ya, ydx, yfs, rfl, s1 _ _ hya⟩, fun _ => .inl rfl, rd_key_eq T a1 s0 a2 s1 ⟨rfl, rfl⟩⟩
/-- tables of the same name and columns: their keys are the same, or of another number -/
theorem rd_tab_eq (T : Tx K mg) {b : Bool} (hc : ∀ c ∈ t.cs, c.tok) (hn : t2.n = t.n) (hcs : t2.cs = t.cs) (hk : (t.ks.length = t2.ks.length ∧ t.ks = t2.ks ∧ b = true) ∨ (t.ks.length ≠ t2.ks.length ∧ b = false)) (hx : At K F0 t.d x) (s0 : Same F0 H) (hy : At K F1 t2.d y) (s1 : Same F1 H) (q : Q (.bl b) H) : sp_Table_eq K [x, y] H Q E := by
  obtain ⟨n2, c2, k2⟩ := t2
  obtain rfl : n2 = t.n := hn
  obtain rfl : c2 = t.cs := hcs
  refine ⟨rfl, ?_⟩
  unfold t_Table_eq
  walk_at "go"
  refine s_isi (c := "Table") (c' := "Table") hy s1 T.cl_Table T.if_Table T.is_Table_Table ?_
  walk_at "go"
  refine fv_Table_name T hx s0 ?_
  walk_at "go"
  refine fv_Table_name T hy s1 ?_
  walk_at "go"
  refine ite_ye rfl ?_
  walk_at "go"
  refine f_Table_columns T hx s0 fun w1 h1 => ?_
  walk_at "go"
  refine f_Table_columns T hy s1 fun w2 h2 => ?_
  obtain ⟨a1, v1, rfl, q1, e1⟩ := At.lst_ h1
  obtain ⟨a2, v2, rfl, q2, e2⟩ := At.lst_ h2
  refine ⟨a1, a2, v1, v2, true, rfl, rfl, s0.seq q1, s1.seq q2, fun _ => ownEs_c T hc e1 s0 e2 s1, fun z => absurd (by rw [e1.len, e2.len]) z, ?_⟩
  walk_at "go"
  refine ite_T rfl ?_
  walk_at "go"
  refine f_Table_unique T hx s0 fun w3 h3 => ?_
  walk_at "go"
  refine f_Table_unique T hy s1 fun w4 h4 => ?_
  obtain ⟨a3, v3, rfl, q3, e3⟩ := At.lst_ h3
  obtain ⟨a4, v4, rfl, q4, e4⟩ := At.lst_ h4
  have l3 : v3.length = t.ks.length := by rw [e3.len, List.length_map]
  have l4 : v4.length = k2.length := by rw [e4.len, List.length_map]
  refine ⟨a3, a4, v3, v4, b, rfl, rfl, s0.seq q3, s1.seq q4, fun e => ?_, fun e => ?_, q⟩
  · rcases hk with ⟨_, e5, rfl⟩ | ⟨ne, _⟩
    · have e5 : t.ks = k2 := e5
      subst e5
      exact ownEs_k T e3 s0 e4 s1
    · exact absurd (l3.symm.trans (e.trans l4)) ne
  · rcases hk with ⟨e5, _, _⟩ | ⟨_, rfl⟩
    · exact absurd (l3.trans (e5.trans l4.symm)) e
    · rfl
theorem rd_tab_txt (T : Tx K mg) {z : Str} (q : Q (.bl false) H) : sp_Table_eq K [x, .str z] H Q E := by
  refine ⟨rfl, ?_⟩
  unfold t_Table_eq
  walk_at "go"
  refine ⟨_, _, _, _, false, rfl, .own _, .base (.str z), T.ti_str_Table, ?_⟩
  walk_at "go"
  exact q
theorem s_ownT {neg : Bool} (hx : At K F0 t.d x) (s0 : Same F0 H) (hy : At K F1 t2.d y) (s1 : Same F1 H) (q : sp_Table_eq K [x, y] H (fun v H' => ∃ b, v = .bl b ∧ Q (.bl (if neg then !b else b)) H') E0) : rOwnA neg K (He.ga K "Table") (sp_Table_eq K) x y H Q := by
  obtain ⟨xa, xdx, xfs, rfl, hxa, _⟩ := At.obj_ (show At K F0 (.obj "Table" _) x from hx)
  obtain ⟨ya, ydx, yfs, rfl, hya, _⟩ := At.obj_ (show At K F1 (.obj "Table" _) y from hy)
  exact ⟨xa, xdx, xfs, rfl, s0 _ _ hxa, .inl ⟨ya, ydx, yfs, rfl, s1 _ _ hya⟩, q⟩
end
end Lw

-- fld
namespace G
open PySem PySem.Spec PyProof.Rows L2
/-- a list's part -/
def cutD {α : Type} (xs : List α) (lo hi : Option Int) : List α := (xs.drop (HT.sIx xs.length 0 lo)).take (HT.sIx xs.length xs.length hi - HT.sIx xs.length 0 lo)
theorem cutD_map {α β : Type} {f : α → β} {xs : List α} {lo hi : Option Int} : cutD (xs.map f) lo hi = (cutD xs lo hi).map f := by
  unfold cutD
  rw [List.length_map, ← List.map_drop, ← List.map_take]
theorem cutD_to {α : Type} {xs : List α} {n : Nat} : cutD xs none (some (n : Int)) = xs.take n := by
  unfold cutD
  rw [HT.sIx_none, HT.sIx_nat, List.drop_zero, Nat.sub_zero]
  rcases Nat.le_total n xs.length with h | h
  · rw [Nat.min_eq_left h]
  · rw [Nat.min_eq_right h, List.take_length, List.take_of_length_le h]
theorem cutD_from {α : Type} {xs : List α} {n : Nat} (h : n ≤ xs.length) : cutD xs (some (n : Int)) none = xs.drop n := by
  unfold cutD
  rw [HT.sIx_none, HT.sIx_nat, Nat.min_eq_left h]
  exact List.take_of_length_le (by rw [List.length_drop]; exact Nat.le_refl _)
theorem AtA.takeD {K : PySem.W.Frag} {F : Hp} : ∀ {n : Nat} {ds : List D} {us : List V}, AtA K F ds us → AtA K F (ds.take n) (us.take n)
  | 0, ds, us, h => AtA.nil
  | n + 1, [], us, h => by
    unfold AtA at h
    rw [h]
    exact AtA.nil
  | n + 1, d :: ds, us, h => by
    unfold AtA at h
    obtain ⟨u, us, rfl, h1, h⟩ := h
    exact AtA.cons h1 (AtA.takeD h)
theorem AtA.dropD {K : PySem.W.Frag} {F : Hp} : ∀ {n : Nat} {ds : List D} {us : List V}, AtA K F ds us → AtA K F (ds.drop n) (us.drop n)
  | 0, ds, us, h => h
  | n + 1, [], us, h => by
    unfold AtA at h
    rw [h]
    exact AtA.nil
  | n + 1, d :: ds, us, h => by
    unfold AtA at h
    obtain ⟨u, us, rfl, h1, h⟩ := h
    show AtA K F (ds.drop n) (us.drop n)
    exact AtA.dropD h
section
variable {K : PySem.W.Frag} {F F0 H : Hp} {x : V} {ds : List D} {M : List (Addr × HO)} {Q : VK}
/-- a part of a list that stands -/
theorem s_slG {lo hi : Option Int} (hx : At K F0 (.lst ds) x) (hh : HH F H M) (s : Same F0 F) (q : ∀ F' H' u, Same F F' → HH F' H' M → At K F' (.lst (cutD ds lo hi)) u → Q u H') : rSlX K x lo hi H Q := by
  obtain ⟨a, vs, rfl, h, t⟩ := hx.lstR
  refine v_slL (hh.sub _ _ (s _ _ h)) ?_
  have e : AtA K F0 (cutD ds lo hi) (cutV vs lo hi) := by
    unfold cutD cutV
    rw [t.len]
    exact t.dropD.takeD
  exact a_lst hh (e.mono s) q
end
end G

-- fld
namespace Lw
open PySem PySem.Spec PyProof.Rows PySem.W L2 G LamX
/-! ### the law's rows, changed at one of them -/
section
variable {w : World} {K : PySem.W.Frag} {F F0 F1 F2 H H' : Hp} {Q : VK} {E : XK} {mg : Str → Option Value} {M : List (Addr × HO)} {x y u : V} {o : HO} {d l : Addr} {r : Rw} {rows : List Rw} {vs : List V}
/-- a pick out of a list that may change -/
theorem rd_pickC {ds : List D} (hh : HH F H ((d, o) :: (l, .lst vs) :: M)) (ho : DrO o) (hx : AtA K F ds vs) (hn : 0 < ds.length) (hl : ds.length ≤ 1000000) (q : ∀ (i : Nat) (e : D) (v : V) H' o', ds[i]? = some e → At K F e v → DrO o' → HH F H' ((d, o') :: (l, .lst vs) :: M) → Q v H') : sp__law_pick K [.ref d, .ref l] H Q E := by
  refine ⟨rfl, ?_⟩
  unfold t__law_pick
  have e1 := hx.len
  walk_at "go"
  refine o_lenL (i := 1) hh rfl ?_
  rw [e1]
  walk_at "go"
  refine rd_draw hh ho ⟨by omega, by omega⟩ fun v H' o' h0 h1 ho hh => ?_
  obtain ⟨i, rfl⟩ := Int.eq_ofNat_of_zero_le h0
  have hi : i < ds.length := by omega
  obtain ⟨u, hu, ha⟩ := hx.get (List.getElem?_eq_getElem hi)
  refine v_ixL (hh.get (i := 1) rfl) (atN (i := i) rfl hu) ?_
  exact q i _ u H' o' (List.getElem?_eq_getElem hi) ha ho hh
theorem shp_last {t : Tb} {cs : List Ce} (h : Shp t cs = true) : 0 < cs.length ∧ Shp t (cs.set (cs.length - 1) .mark) = true := by
  unfold Shp at h
  split at h
  · simp only [Bool.and_eq_true] at h
    refine ⟨Nat.le_of_ble_eq_true rfl, ?_⟩
    show (_ && (_ && (_ && _))) = true
    rw [h.1, h.2.1, h.2.2.1]
    rfl
  · simp only [Bool.and_eq_true] at h
    refine ⟨Nat.le_of_ble_eq_true rfl, ?_⟩
    show (_ && _) = true
    rw [h.1]
    rfl
  · simp only [Bool.and_eq_true] at h
    refine ⟨Nat.le_of_ble_eq_true rfl, ?_⟩
    show (_ && _) = true
    rw [h.1]
    rfl
  · cases h
/-- a comprehension over data whose list will be filled on -/
theorem a_lcC {α β : Type} {e : α → D} {f : β → D} {xs : List α} {g : TG} {tt : TT} {te : TE} {vs : List Nat} {σ : L2.St} (hx : At K F (.lst (xs.map e)) x) (hh : HH F H M) (hz : xs.length < 16777216) (r : α → Option β)
    (hs : ∀ y (w : V) F' H' c (P : V → Hp → Prop) (N : Hp → Prop), y ∈ xs → At K F' (e y) w → Same F F' → HH F' H' (c :: M) → (∀ F4 H4 v z, Same F' F4 → HH F4 H4 (c :: M) → r y = some z → At K F4 (f z) v → P v H4) →
      (∀ F4 H4, Same F' F4 → HH F4 H4 (c :: M) → r y = none → N H4) → g w (wipe σ vs) H' fun σ2 H2 => wipe σ2 vs = wipe σ vs ∧ tt σ2 H2 fun b H3 => if b = true then te σ2 H3 (fun v H4 => P v H4) else N H3)
    (q : ∀ F' H' p ws, Same F F' → HH F' H' ((p, .lst ws) :: M) → ws.length ≤ xs.length → AtA K F' ((xs.filterMap r).map f) ws → Q (.ref p) H') : OvL K (fun J H1 => LcK J g tt te σ vs H1 Q) x H := by
  obtain ⟨a, us, rfl, h, t⟩ := hx.lst_
  have hl : us.length = xs.length := by rw [t.len, List.length_map]
  refine v_ovL (hh.sub.seq h) fun D hD => ?_
  refine c_list (fun i H' => ∃ F' ws, Same F F' ∧ HH F' H' ((D, .lst ws) :: M) ∧ ws.length ≤ i ∧ AtA K F' (((xs.take i).filterMap r).map f) ws) ⟨F, [], Same.refl F, hh.new hD, Nat.zero_le _, AtA.nil⟩
    (fun i H' _ ⟨F', ws, s, h', _⟩ => h'.sub.seq (s.seq h)) (fun i v H' hv ⟨F', ws, s, h', hw, ha⟩ => ?_) (fun H' ⟨F', ws, s, h', hw, ha⟩ => ?_)
  · obtain ⟨d, hd', hat⟩ := t.at_ hv
    rw [List.getElem?_map] at hd'
    cases ex : xs[i]? with
    | none => rw [ex] at hd'; cases hd'
    | some y =>
      rw [ex] at hd'
      cases hd'
      have hi : i < xs.length := by
        rcases Nat.lt_or_ge i xs.length with z | z
        · exact z
        · rw [List.getElem?_eq_none z] at ex; cases ex
      have e1 : xs[i] = y := by rw [List.getElem?_eq_getElem hi] at ex; exact Option.some.inj ex
      have et : xs.take (i + 1) = xs.take i ++ [y] := by rw [← e1]; exact (List.take_append_getElem hi).symm
      refine hs y v F' H' _ _ _ (e1 ▸ List.getElem_mem hi) (hat.mono s) s h' (fun F4 H4 v z s4 h4 er hz => ?_) (fun F4 H4 s4 h4 er => ?_)
      · refine v_put (h4.get (i := 0) rfl) (by rw [sl16]; omega) ⟨F4, ws ++ [v], s.trans s4, h4.set0, by rw [List.length_append]; show _ + 1 ≤ _; omega, ?_⟩
        rw [et, List.filterMap_append, List.filterMap_cons, er]
        exact AtA.snocM (ha.mono s4) hz
      · refine ⟨F4, ws, s.trans s4, h4, by omega, ?_⟩
        rw [et, List.filterMap_append, List.filterMap_cons, er]
        show AtA K F4 ((_ ++ []).map f) ws
        rw [List.append_nil]
        exact ha.mono s4
  · rw [hl, List.take_length] at ha
    exact q _ _ D ws s h' (by omega) ha
end
end Lw

-- fld
namespace Lw
open PySem PySem.Spec PyProof.Rows PySem.W L2 G LamX
/-! ### the law's end: tables, columns, rows are equal by their fields -/
def t_z54 (K : PySem.W.Frag) : TS :=
  (tSeq (tAsg (tLst (tCons (tMake (He.ga K ("Column" : Str)) (sp_Column_init K) [(.ref (dfAt K ("Column", some "__init__") 0))] E0 (tCons (tC (.str ⟨q_v.toArray⟩)) (tCons (tC (.str ⟨q_value.toArray⟩)) tNil))) (tCons (tMake (He.ga K ("Column" : Str)) (sp_Column_init K) [] E0 (tCons (tC (.str ⟨q_r.toArray⟩)) (tCons (tC (.str ⟨q_reference.toArray⟩)) (tCons (tLst (tCons (tC (.str ⟨q_M.toArray⟩)) tNil)) tNil)))) tNil))) (gName 13)) (tSeq (tAsg (tMake (He.ga K ("Table" : Str)) (sp_Table_init K) [] E0 (tCons (tC (.str ⟨q_M.toArray⟩)) (tCons (tVar 13) (tCons (tLst (tCons (tMake (He.ga K ("StoreKey" : Str)) (sp_StoreKey_init K) [] E0 (tCons (tC (.str ⟨q_key1.toArray⟩)) (tCons (tLst (tCons (tC (.int 0)) tNil)) tNil))) tNil)) tNil)))) (gName 14)) (tSeq (tAsg (tMake (He.ga K ("Table" : Str)) (sp_Table_init K) [] E0 (tCons (tC (.str ⟨q_M.toArray⟩)) (tCons (tCB (rListX K) (tCons (tVar 13) tNil)) (tCons (tLst (tCons (tMake (He.ga K ("StoreKey" : Str)) (sp_StoreKey_init K) [] E0 (tCons (tC (.str ⟨q_key1.toArray⟩)) (tCons (tLst (tCons (tC (.int 0)) tNil)) tNil))) tNil)) tNil)))) (gName 6)) (tSeq (tIfS (tOr (tTest (tOp (rOwnA true K (He.ga K ("Table" : Str)) (sp_Table_eq K)) (tVar 14) (tVar 6))) (tOr (tTest (tOp (rOwnA false K (He.ga K ("Table" : Str)) (sp_Table_eq K)) (tVar 14) (tMake (He.ga K ("Table" : Str)) (sp_Table_init K) [(.ref (dfAt K ("Table", some "__init__") 0))] E0 (tCons (tC (.str ⟨q_M.toArray⟩)) (tCons (tVar 13) tNil))))) (tOr (tTest (tOp (rOwnA false K (He.ga K ("Table" : Str)) (sp_Table_eq K)) (tVar 14) (tC (.str ⟨q_M.toArray⟩)))) (tTest (tOp (rOwnA false K (He.ga K ("Column" : Str)) (sp_Column_eq K)) (tOp (rIx K) (tVar 13) (tC (.int 0))) (tOp (rIx K) (tVar 13) (tC (.int 1)))))))) (tRet (tC (.bl false))) tNext) (tSeq (tDrop (tBM K "list" rAppend (tVar 13) (tCons (tMake (He.ga K ("Column" : Str)) (sp_Column_init K) [(.ref (dfAt K ("Column", some "__init__") 0))] E0 (tCons (tC (.str ⟨q_x.toArray⟩)) (tCons (tC (.str ⟨q_value.toArray⟩)) tNil))) tNil))) (tSeq (tAsg (tLst (tCons (tC (.int 1)) (tCons (tLst (tCons (tC (.int 2)) (tCons (tC (.int 3)) tNil))) tNil))) (gName 5)) (tSeq (tAsg (tMake (He.ga K ("Row" : Str)) (sp_Row_init K) [] E0 (tCons (tC (.str ⟨q_M.toArray⟩)) (tCons (tC (.int 4)) (tCons (tVar 5) tNil)))) (gName 4)) (tSeq (tDrop (tBM K "list" rAppend (tOp (rIx K) (tVar 5) (tC (.int 1))) (tCons (tC (.int 5)) tNil))) (tSeq (tIfS (tOr (tTest (tOp (rNeX K) (tFld K (tVar 4) ("cells" : Str)) (tLst (tCons (tC (.int 1)) (tCons (tLst (tCons (tC (.int 2)) (tCons (tC (.int 3)) tNil))) tNil))))) (tOr (tTest (tOp (rOwnA false K (He.ga K ("Row" : Str)) (sp_Row_eq K)) (tVar 4) (tMake (He.ga K ("Row" : Str)) (sp_Row_init K) [] E0 (tCons (tC (.str ⟨q_M.toArray⟩)) (tCons (tC (.int 5)) (tCons (tLst (tCons (tC (.int 1)) (tCons (tLst (tCons (tC (.int 2)) (tCons (tC (.int 3)) tNil))) tNil))) tNil)))))) (tTest (tOp (rOwnA true K (He.ga K ("Row" : Str)) (sp_Row_eq K)) (tVar 4) (tMake (He.ga K ("Row" : Str)) (sp_Row_init K) [] E0 (tCons (tC (.str ⟨q_M.toArray⟩)) (tCons (tC (.int 4)) (tCons (tLst (tCons (tC (.int 1)) (tCons (tLst (tCons (tC (.int 2)) (tCons (tC (.int 3)) tNil))) tNil))) tNil)))))))) (tRet (tC (.bl false))) tNext) (tRet (tAndV (tOp (rOwnA false K (He.ga K ("Table" : Str)) (sp_Table_eq K)) (tVar 14) (tVar 6)) (tOp (rEqX K) (tCB (rLen K) (tCons (tFld K (tVar 14) ("columns" : Str)) tNil)) (tC (.int 2))))))))))))))
section
variable {w : World} {K : PySem.W.Frag} {F F0 F1 F2 H H' : Hp} {Q : VK} {E : XK} {mg : Str → Option Value} {M : List (Addr × HO)} {x y u : V} {o : HO} {d l : Addr}
def cA : Co := ⟨q_v, q_value, []⟩
def cB : Co := ⟨q_r, q_reference, [q_M]⟩
def kA : Sk := ⟨q_key1, [0]⟩
theorem tok_AB : ∀ c ∈ [cA, cB], c.tok := by
  intro c hc z hz
  simp only [List.mem_cons, List.not_mem_nil, or_false] at hc
  rcases hc with rfl | rfl
  · cases hz
  · rw [List.mem_singleton.mp hz]; decide +kernel
theorem s_listC {ds : List D} {i : Nat} {vs : List V} (hh : HH F H M) (hm : M[i]? = some (l, .lst vs)) (hv : AtA K F ds vs) (q : ∀ F' H' u, Same F F' → HH F' H' M → At K F' (.lst ds) u → Q u H') : rListX K [.ref l] H Q :=
  v_listL (SqL.of (hh.get hm)) fun p hp => q _ _ _ (hh.grow hp) (hh.newF hp) (At.mkL upd_same (hv.mono (hh.grow hp)))
theorem mk_TableC (T : Tx K mg) {n : List Nat} {cs : List Co} {ks : List Sk} {i : Nat} {vs : List V} (hh : HH F H M) (hm : M[i]? = some (l, .lst vs)) (hv : AtA K F (cs.map Co.d) vs) (hy : At K F1 (.lst (ks.map Sk.d)) y) (s1 : Same F1 F) (q : ∀ F' H' u, Same F F' → HH F' H' M → At K F' (Ta.d ⟨n, cs, ks⟩) u → Q u H') : MakeK (He.ga K "Table") (sp_Table_init K) [.str ⟨n.toArray⟩, .ref l, y] Q H E := by
  refine mk_start hh fun F1 H1 v dx s2 hh => ?_
  refine ⟨rfl, ?_⟩
  unfold t_Table_init
  walk_at "go"
  refine s_sfld hh T.cl_Table T.no_Table_name [] rfl (by decide +kernel) (Nat.le_of_ble_eq_true rfl) fun H1'' hh => ?_
  walk_at "go"
  refine s_listC (i := i + 1) hh hm (hv.mono s2) fun F2 H2 u s3 hh h1 => ?_
  walk_at "go"
  refine s_sfld hh T.cl_Table T.no_Table_columns ["name"] rfl (by decide +kernel) (Nat.le_of_ble_eq_true rfl) fun H1'' hh => ?_
  walk_at "go"
  refine s_listL hy hh (s1.trans (s2.trans s3)) fun F3 H3 u s4 hh h2 => ?_
  walk_at "go"
  refine s_sfld hh T.cl_Table T.no_Table_unique ["name", "columns"] rfl (by decide +kernel) (Nat.le_of_ble_eq_true rfl) fun H1'' hh => ?_
  exact ⟨rfl, mk_end hh (AtF.cons At.of (AtF.cons (h1.mono s4) (AtF.cons h2 AtF.nil))) fun F4 H4 u s5 hh3 ha => q F4 H4 u (s2.trans (s3.trans (s4.trans s5))) hh3 ha⟩
theorem mk_TableCE (T : Tx K mg) {n : List Nat} {cs : List Co} {i : Nat} {vs : List V} (hh : HH F H M) (hm : M[i]? = some (l, .lst vs)) (hv : AtA K F (cs.map Co.d) vs) (q : ∀ F' H' u, Same F F' → HH F' H' M → At K F' (Ta.d ⟨n, cs, []⟩) u → Q u H') : MakeK (He.ga K "Table") (sp_Table_init K) [.str ⟨n.toArray⟩, .ref l, .ref (dfAt K ("Table", some "__init__") 0)] Q H E := by
  refine mk_start hh fun F1 H1 v dx s2 hh => ?_
  refine ⟨rfl, ?_⟩
  unfold t_Table_init
  walk_at "go"
  refine s_sfld hh T.cl_Table T.no_Table_name [] rfl (by decide +kernel) (Nat.le_of_ble_eq_true rfl) fun H1'' hh => ?_
  walk_at "go"
  refine s_listC (i := i + 1) hh hm (hv.mono s2) fun F2 H2 u s3 hh h1 => ?_
  walk_at "go"
  refine s_sfld hh T.cl_Table T.no_Table_columns ["name"] rfl (by decide +kernel) (Nat.le_of_ble_eq_true rfl) fun H1'' hh => ?_
  walk_at "go"
  refine s_listT (At.mkT (T.em_Table_init_0 F2) AtA.nil) hh (Same.refl _) fun F3 H3 u s4 hh h2 => ?_
  walk_at "go"
  refine s_sfld hh T.cl_Table T.no_Table_unique ["name", "columns"] rfl (by decide +kernel) (Nat.le_of_ble_eq_true rfl) fun H1'' hh => ?_
  exact ⟨rfl, mk_end hh (AtF.cons At.of (AtF.cons (h1.mono s4) (AtF.cons h2 AtF.nil))) fun F4 H4 u s5 hh3 ha => q F4 H4 u (s2.trans (s3.trans (s4.trans s5))) hh3 ha⟩
def rZ : Rw := ⟨.M, 4, [.num 1, .lst [2, 3]]⟩
theorem small_Z : ∀ c ∈ ([.num 1, .lst [2, 3]] : List Ce), c.small := by
  intro c hc
  simp only [List.mem_cons, List.not_mem_nil, or_false] at hc
  rcases hc with rfl | rfl <;> exact True.intro
/-- a row of cells that may change: it copies them -/
theorem mk_RowC (T : Tx K mg) {i j : Nat} {l2 : Addr} (hh : HH F H M) (hm : M[i]? = some (l, .lst [.int 1, .ref l2])) (hm2 : M[j]? = some (l2, .lst ([2, 3].map V.int))) (q : ∀ F' H' u, Same F F' → HH F' H' M → At K F' (Rw.d K rZ) u → Q u H') : MakeK (He.ga K "Row") (sp_Row_init K) [.str ⟨q_M.toArray⟩, .int 4, .ref l] Q H E := by
  refine mk_start hh fun F1 H1 v dx s1 hh => ?_
  refine ⟨rfl, ?_⟩
  unfold t_Row_init
  walk_at "go"
  refine s_sfld hh T.cl_Row T.no_Row_table [] rfl (by decide +kernel) (Nat.le_of_ble_eq_true rfl) fun H1'' hh => ?_
  walk_at "go"
  refine s_sfld hh T.cl_Row T.no_Row_number ["table"] rfl (by decide +kernel) (Nat.le_of_ble_eq_true rfl) fun H1'' hh => ?_
  walk_at "go"
  refine gi_list ?_
  walk_at "go"
  refine v_ovL (SqL.of (hh.get (i := i + 1) hm)) fun da hda => ?_
  refine c_list (xs := [.int 1, .ref l2]) (fun k H' => ∃ F' ws, Same F1 F' ∧ HH F' H' ((da, .lst ws) :: (v, _) :: M) ∧ ws.length = k ∧ AtA K F' ((([.num 1, .lst [2, 3]] : List Ce).take k).map (Ce.d K)) ws) ⟨F1, [], Same.refl _, hh.new hda, rfl, AtA.nil⟩
    (fun k H' _ ⟨F', ws, s, h', _⟩ => SqL.of (h'.get (i := i + 2) hm)) (fun k z H' hz ⟨F', ws, s, h', hw, ha⟩ => ?_) (fun H' ⟨F', ws, s, h', hw, ha⟩ => ?_)
  · walk_at "go"
    refine ⟨rfl, ?_⟩
    walk_at "go"
    refine ⟨rfl, ?_⟩
    unfold t_cell_copy
    walk_at "go"
    rcases k with _ | _ | k
    · cases hz
      refine isi_flat (show kitB "int" "list" = some false by decide +kernel) ?_
      walk_at "go"
      have : ws = [] := List.length_eq_zero_iff.mp hw
      subst this
      refine v_put (h'.get (i := 0) rfl) (by decide) ⟨F', [.int 1], s, h'.set0, rfl, AtA.cons At.of AtA.nil⟩
    · cases hz
      refine v_isiL (h'.get (i := j + 2) hm2) ?_
      walk_at "go"
      refine s_listC (i := j + 2) h' hm2 (ds := [2, 3].map D.i) (AtA.ofFlat (g := V.int)) fun F2 H2 u s2 h2 hu => ?_
      walk_at "go"
      refine v_put (h2.get (i := 0) rfl) (by rw [hw, sl16]; decide) ⟨F2, ws ++ [u], s.trans s2, h2.set0, by rw [List.length_append, hw]; rfl, ?_⟩
      exact AtA.snoc (ha.mono s2) (show At K F2 (Ce.d K (.lst [2, 3])) u from hu)
    · cases hz
  have h2 := frz_lst (h'.out (i := 0) rfl) ha
  have hh := h'.frz
  have s2 := s.trans h'.frzS
  generalize upd F' da (.lst ws) = F2 at h2 hh s2
  walk_at "go"
  refine s_sfld hh T.cl_Row T.no_Row_cells ["table", "number"] rfl (by decide +kernel) (Nat.le_of_ble_eq_true rfl) fun H1'' hh => ?_
  exact ⟨rfl, mk_end hh (AtF.cons At.of (AtF.cons At.of (AtF.cons h2 AtF.nil))) fun F3 H3 u s3 hh3 ha => q F3 H3 u (s1.trans (s2.trans s3)) hh3 ha⟩
theorem v_neD' {a b : PyData} (h1 : Dp K H x a) (h2 : Dp K H y b) (s1 : SeqAt.shaped a = true) (s2 : SeqAt.shaped b = true) (e : PyData.eqv a b = true) (q : Q (.bl false) H) : rNeX K x y H Q := by
  refine v_neD h1 h2 s1 s2 ?_
  rw [e]
  exact q
theorem rd_z54 (T : Tx K mg) {v0 v1 v2 v3 v4 v5 v6 v7 v8 v9 v10 v11 v12 : Option V} (hh : HH F H M) (q : ∀ H, Q (.bl true) H) : t_z54 K ⟨fun _ H' => Q .non H', Q, fun _ _ => False, fun _ _ => False⟩ [v0, v1, v2, v3, v4, v5, v6, v7, v8, v9, v10, v11, v12, none, none] H := by
  unfold t_z54
  walk_at "go"
  refine g_makeD ?_
  walk_at "go"
  refine mk_ColumnE T hh fun Fa Ha c0 sa hh h0 => ?_
  walk_at "go"
  refine s_lst (K := K) (ds := [q_M].map D.t) hh (AtA.cons At.of AtA.nil) (Nat.le_of_ble_eq_true rfl) fun Fb Hb m sb hh hm => ?_
  walk_at "go"
  refine mk_ColumnL T hh hm (Same.refl _) fun Fc_ Hc c1 sc hh h1 => ?_
  walk_at "go"
  refine o_lst hh (Nat.le_of_ble_eq_true rfl) fun Hd cl hh => ?_
  walk_at "go"
  have hcs : AtA K Fc_ ([cA, cB].map Co.d) [c0, c1] := AtA.cons (h0.mono (sb.trans sc)) (AtA.cons h1 AtA.nil)
  refine s_lst (K := K) (ds := [D.i 0]) hh (AtA.cons At.of AtA.nil) (Nat.le_of_ble_eq_true rfl) fun Fe He_ k1 se hh hk1 => ?_
  walk_at "go"
  refine mk_Key1 T hh hk1 (Same.refl _) fun Ff Hf kk1 sf hh hkk1 => ?_
  walk_at "go"
  refine s_lst (K := K) (ds := [kA].map Sk.d) hh (AtA.cons hkk1 AtA.nil) (Nat.le_of_ble_eq_true rfl) fun Fg Hg kl1 sg hh hkl1 => ?_
  walk_at "go"
  refine mk_TableC (n := q_M) (cs := [cA, cB]) (ks := [kA]) (i := 0) T hh rfl (hcs.mono (se.trans (sf.trans sg))) hkl1 (Same.refl _) fun Fh Hh ta sh hh hta => ?_
  walk_at "go"
  have hcs := hcs.mono (se.trans (sf.trans (sg.trans sh)))
  refine s_listC (i := 0) hh rfl hcs fun Fi Hi w2 si hh hw2 => ?_
  walk_at "go"
  refine s_lst (K := K) (ds := [D.i 0]) hh (AtA.cons At.of AtA.nil) (Nat.le_of_ble_eq_true rfl) fun Fj Hj k2 sj hh hk2 => ?_
  walk_at "go"
  refine mk_Key1 T hh hk2 (Same.refl _) fun Fk Hk kk2 sk hh hkk2 => ?_
  walk_at "go"
  refine s_lst (K := K) (ds := [kA].map Sk.d) hh (AtA.cons hkk2 AtA.nil) (Nat.le_of_ble_eq_true rfl) fun Fl Hl kl2 sl hh hkl2 => ?_
  walk_at "go"
  refine mk_TableL (n := q_M) (cs := [cA, cB]) (ks := [kA]) T hh hw2 (sj.trans (sk.trans sl)) hkl2 (Same.refl _) fun Fm Hm tb sm hh htb => ?_
  walk_at "go"
  have hta := hta.mono (si.trans (sj.trans (sk.trans (sl.trans sm))))
  have hcs := hcs.mono (si.trans (sj.trans (sk.trans (sl.trans sm))))
  refine s_ownT hta hh.sub htb hh.sub (rd_tab_eq T tok_AB rfl rfl (.inl ⟨rfl, rfl, rfl⟩) hta hh.sub htb hh.sub ⟨_, rfl, ?_⟩)
  walk_at "go"
  refine ite_F rfl ?_
  walk_at "go"
  refine g_makeD ?_
  walk_at "go"
  refine mk_TableCE (n := q_M) (cs := [cA, cB]) (i := 0) T hh rfl hcs fun Fn Hn tc sn hh htc => ?_
  walk_at "go"
  have hta := hta.mono sn
  have htb := htb.mono sn
  have hcs := hcs.mono sn
  refine s_ownT (t := ⟨q_M, [cA, cB], [kA]⟩) (t2 := ⟨q_M, [cA, cB], []⟩) hta hh.sub htc hh.sub (rd_tab_eq (t := ⟨q_M, [cA, cB], [kA]⟩) (t2 := ⟨q_M, [cA, cB], []⟩) T tok_AB rfl rfl (.inr ⟨by decide, rfl⟩) hta hh.sub htc hh.sub ⟨_, rfl, ?_⟩)
  walk_at "go"
  refine ite_F rfl ?_
  walk_at "go"
  obtain ⟨taa, tadx, tafs, rfl, htaa, _⟩ := At.obj_ (show At K Fn (.obj "Table" _) ta from hta)
  refine ⟨taa, tadx, tafs, rfl, hh.sub _ _ htaa, .inr (.inr (.inl ⟨_, rfl⟩)), rd_tab_txt T ⟨_, rfl, ?_⟩⟩
  walk_at "go"
  refine ite_F rfl ?_
  walk_at "go"
  refine v_ixL (hh.get (i := 0) rfl) rfl ?_
  walk_at "go"
  refine v_ixL (hh.get (i := 0) rfl) rfl ?_
  walk_at "go"
  obtain ⟨_, _, e0, hc0, hc1⟩ := AtA.ci hcs
  cases e0
  obtain ⟨_, _, e0, hc1, _⟩ := AtA.ci hc1
  cases e0
  obtain ⟨c0a, c0dx, c0fs, rfl, hc0a, _⟩ := At.obj_ (show At K Fn (.obj "Column" _) c0 from hc0)
  obtain ⟨c1a, c1dx, c1fs, rfl, hc1a, _⟩ := At.obj_ (show At K Fn (.obj "Column" _) c1 from hc1)
  refine ⟨c0a, c0dx, c0fs, rfl, hh.sub _ _ hc0a, .inl ⟨c1a, c1dx, c1fs, rfl, hh.sub _ _ hc1a⟩, rd_col_ne T (c := cA) (c2 := cB) (by decide +kernel) hc0 hh.sub hc1 hh.sub ⟨_, rfl, ?_⟩⟩
  walk_at "go"
  refine ite_F rfl ?_
  walk_at "go"
  refine g_tyL (hh.get (i := 0) rfl) ?_
  walk_at "go"
  refine g_makeD ?_
  walk_at "go"
  refine mk_ColumnE T hh fun Fo Ho c2 so hh hc2 => ?_
  walk_at "go"
  refine o_appI (i := 0) hh rfl (Nat.le_of_ble_eq_true rfl) fun Hp_ hh => ?_
  walk_at "go"
  refine o_lst hh (Nat.le_of_ble_eq_true rfl) fun Hq l2 hh => ?_
  walk_at "go"
  refine o_lst hh (Nat.le_of_ble_eq_true rfl) fun Hr l1 hh => ?_
  walk_at "go"
  refine mk_RowC (i := 0) (j := 1) T hh rfl rfl fun Fs Hs rw ss hh hrw => ?_
  walk_at "go"
  refine v_ixL (hh.get (i := 0) rfl) rfl ?_
  walk_at "go"
  refine g_tyL (hh.get (i := 1) rfl) ?_
  walk_at "go"
  refine o_appI (i := 1) hh rfl (Nat.le_of_ble_eq_true rfl) fun Ht hh => ?_
  walk_at "go"
  refine f_Row_cells T hrw hh.sub fun w1 hw1 => ?_
  walk_at "go"
  refine s_lst (K := K) (ds := [2, 3].map D.i) hh (AtA.cons At.of (AtA.cons At.of AtA.nil)) (Nat.le_of_ble_eq_true rfl) fun Fu Hu m2 su hh hm2 => ?_
  walk_at "go"
  refine s_lst (K := K) (ds := ([.num 1, .lst [2, 3]] : List Ce).map (Ce.d K)) hh (AtA.cons At.of (AtA.cons hm2 AtA.nil)) (Nat.le_of_ble_eq_true rfl) fun Fv Hv m3 sv hh hm3 => ?_
  walk_at "go"
  refine s_neP (Pd.list (pd_ce T)) (by decide) (a := rZ.cs) (b := rZ.cs) hw1 hm3 (su.trans (sv.trans hh.sub)) hh.sub small_Z small_Z ?_
  walk_at "go"
  refine ite_F rfl ?_
  walk_at "go"
  refine s_lst (K := K) (ds := [2, 3].map D.i) hh (AtA.cons At.of (AtA.cons At.of AtA.nil)) (Nat.le_of_ble_eq_true rfl) fun Fx Hx m4 sx hh hm4 => ?_
  walk_at "go"
  refine s_lst (K := K) (ds := ([.num 1, .lst [2, 3]] : List Ce).map (Ce.d K)) hh (AtA.cons At.of (AtA.cons hm4 AtA.nil)) (Nat.le_of_ble_eq_true rfl) fun Fy Hy m5 sy hh hm5 => ?_
  walk_at "go"
  refine mk_Row (t := .M) (n := 5) (cs := [.num 1, .lst [2, 3]]) T hh hm5 (Same.refl _) (Nat.le_of_ble_eq_true rfl) fun Fz Hz r5 sz hh hr5 => ?_
  walk_at "go"
  have hrw := hrw.mono (su.trans (sv.trans (sx.trans (sy.trans sz))))
  refine s_ownR (a := rZ) (b := ⟨.M, 5, [.num 1, .lst [2, 3]]⟩) T small_Z small_Z hrw hh.sub hr5 hh.sub ?_
  walk_at "go"
  refine ite_F (by decide) ?_
  walk_at "go"
  refine s_lst (K := K) (ds := [2, 3].map D.i) hh (AtA.cons At.of (AtA.cons At.of AtA.nil)) (Nat.le_of_ble_eq_true rfl) fun F1_ H1_ m6 s1_ hh hm6 => ?_
  walk_at "go"
  refine s_lst (K := K) (ds := ([.num 1, .lst [2, 3]] : List Ce).map (Ce.d K)) hh (AtA.cons At.of (AtA.cons hm6 AtA.nil)) (Nat.le_of_ble_eq_true rfl) fun F2_ H2_ m7 s2_ hh hm7 => ?_
  walk_at "go"
  refine mk_Row (t := .M) (n := 4) (cs := [.num 1, .lst [2, 3]]) T hh hm7 (Same.refl _) (Nat.le_of_ble_eq_true rfl) fun F3_ H3_ r4 s3_ hh hr4 => ?_
  walk_at "go"
  have hrw := hrw.mono (s1_.trans (s2_.trans s3_))
  refine s_ownR (a := rZ) (b := rZ) T small_Z small_Z hrw hh.sub hr4 hh.sub ?_
  walk_at "go"
  refine ite_F (by decide) ?_
  walk_at "go"
  have sT := so.trans (ss.trans (su.trans (sv.trans (sx.trans (sy.trans (sz.trans (s1_.trans (s2_.trans s3_))))))))
  have hta := hta.mono sT
  have htb := htb.mono sT
  refine s_ownT hta hh.sub htb hh.sub (rd_tab_eq T tok_AB rfl rfl (.inl ⟨rfl, rfl, rfl⟩) hta hh.sub htb hh.sub ⟨_, rfl, ?_⟩)
  walk_at "go"
  refine ite_T rfl ?_
  walk_at "go"
  refine f_Table_columns T hta hh.sub fun w5 hw5 => ?_
  walk_at "go"
  refine s_lenL hw5 hh.sub ?_
  walk_at "go"
  exact q _
end
end Lw

-- fld
namespace Lw
open PySem PySem.Spec PyProof.Rows PySem.W L2 G LamX
/-! ### names that stand twice -/
def iI (r : List Nat) : List Int := r.map fun i : Nat => (i : Int)
theorem iI_snoc {r : List Nat} {o : Nat} : (iI (r ++ [o])).map V.int = (iI r).map V.int ++ [.int (o : Int)] := by
  unfold iI
  rw [List.map_append, List.map_append]
  rfl
theorem iI_len {r : List Nat} : ((iI r).map V.int).length = r.length := by
  unfold iI
  rw [List.length_map, List.length_map]
theorem flt_range {p : Nat → Bool} {i : Nat} : (List.range (i + 1)).filter p = (List.range i).filter p ++ if p i = true then [i] else [] := by
  rw [List.range_succ, List.filter_append, List.filter_cons, List.filter_nil]
def t_y54 (K : PySem.W.Frag) (w : World) : TS :=
  (tSeq (tAsg (tCallSD (sp_are_in_order K w) [] Ez (tCons (tVar 2) (tCons (tVar 3) tNil))) (gName 12)) (tSeq (tIfS (tTest (tOp (rNeX K) (tCB (rRepr K) (tCons (tVar 12) tNil)) (tCB (rRepr K) (tCons (tVar 11) tNil)))) (tRet (tC (.bl false))) tNext) (t_z54 K)))
section
variable {w : World} {K : PySem.W.Frag} {F F0 F1 F2 H H' : Hp} {Q : VK} {E : XK} {mg : Str → Option Value} {M : List (Addr × HO)} {x y u : V} {o : HO} {d l : Addr} {σ : L2.St}
theorem a_lcR {n : Nat} {p : Nat → Bool} {g : TG} {tt : TT} {te : TE} {vs : List Nat} (hh : HH F H M) (hn : n ≤ 1000)
    (hs : ∀ (i : Nat) F' H' c (P : V → Hp → Prop) (N : Hp → Prop), i < n → Same F F' → HH F' H' (c :: M) → (∀ F4 H4, Same F' F4 → HH F4 H4 (c :: M) → p i = true → P (.int (0 + (i : Nat))) H4) → (∀ F4 H4, Same F' F4 → HH F4 H4 (c :: M) → p i = false → N H4) →
      g (.int (0 + (i : Nat))) (wipe σ vs) H' fun σ2 H2 => wipe σ2 vs = wipe σ vs ∧ tt σ2 H2 fun b H3 => if b = true then te σ2 H3 (fun v H4 => P v H4) else N H3)
    (q : ∀ F' H' u, Same F F' → HH F' H' M → At K F' (.lst ((iI ((List.range n).filter p)).map D.i)) u → Q u H') : LcK (Itr 0 n) g tt te σ vs H Q := by
  refine fun D hD => c_range (fun i H' => i ≤ n ∧ ∃ F', Same F F' ∧ HH F' H' ((D, .lst ((iI ((List.range i).filter p)).map V.int)) :: M)) ⟨Nat.zero_le _, F, Same.refl _, hh.new hD⟩ (fun i H' hi ⟨_, F', s, h⟩ => ?_) fun H' ⟨_, F', s, h⟩ => ?_
  · refine hs i F' H' _ _ _ hi s h (fun F4 H4 s4 h4 e => ?_) fun F4 H4 s4 h4 e => ?_
    · refine v_put (h4.get (i := 0) rfl) ?_ ⟨hi, F4, s.trans s4, ?_⟩
      · have := List.length_filter_le p (List.range i)
        rw [List.length_range] at this
        rw [iI_len, sl16]
        omega
      · rw [flt_range, e, if_pos rfl, iI_snoc]
        have := h4.set0 (o' := .lst ((iI ((List.range i).filter p)).map V.int ++ [.int (0 + (i : Nat))]))
        rw [show (0 : Int) + (i : Nat) = (i : Int) by omega] at this
        rw [show (0 : Int) + (i : Nat) = (i : Int) by omega]
        exact this
    · refine ⟨hi, F4, s.trans s4, ?_⟩
      rw [flt_range, e, if_neg Bool.false_ne_true, List.append_nil]
      exact h4
  · exact q _ _ _ (s.trans h.frzS) h.frz (frz_lst (h.out (i := 0) rfl) (AtA.ofFlat (g := V.int)))
def dupB (ps : List (Tb × Int)) (i : Nat) : Bool := match ps[i]? with
  | some k => decide (k ∈ ps.take i)
  | none => false
theorem dup_nd {ps : List (Tb × Int)} : decide (((iI ((List.range ps.length).filter (dupB ps))).length : Int) > 0) = !decide ps.Nodup := by
  have e : (iI ((List.range ps.length).filter (dupB ps))).length = ((List.range ps.length).filter (dupB ps)).length := List.length_map _
  rw [e, Bool.eq_iff_iff, decide_eq_true_iff, Bool.not_eq_true', decide_eq_false_iff_not]
  constructor
  · intro h nd
    obtain ⟨i, hi⟩ := List.length_pos_iff_exists_mem.mp (show 0 < ((List.range ps.length).filter (dupB ps)).length by omega)
    obtain ⟨h1, h2⟩ := List.mem_filter.mp hi
    have h1 := List.mem_range.mp h1
    unfold dupB at h2
    rw [List.getElem?_eq_getElem h1] at h2
    obtain ⟨j, hj, ej⟩ := List.mem_iff_getElem.mp (of_decide_eq_true h2)
    rw [List.length_take] at hj
    rw [List.getElem_take] at ej
    exact List.pairwise_iff_getElem.mp nd j i (by omega) h1 (by omega) ej
  · intro nd
    apply Classical.byContradiction
    intro hz
    have hz : (List.range ps.length).filter (dupB ps) = [] := List.length_eq_zero_iff.mp (by omega)
    apply nd
    refine List.pairwise_iff_getElem.mpr fun j i hj hi hji ej => ?_
    have := List.filter_eq_nil_iff.mp hz i (List.mem_range.mpr hi)
    apply this
    unfold dupB
    rw [List.getElem?_eq_getElem hi]
    refine decide_eq_true (List.mem_iff_getElem.mpr ⟨j, by rw [List.length_take]; omega, ?_⟩)
    rw [List.getElem_take]
    exact ej
theorem cut_take {α : Type} {f : α → D} {ps : List α} {i : Nat} : cutD (ps.map f) none (some (0 + (i : Nat))) = (ps.take i).map f := by
  rw [show (0 : Int) + (i : Nat) = (i : Int) by omega, cutD_to, List.map_take]
theorem s_inPl {p : Tb × Int} {ps : List (Tb × Int)} (hx : At K F0 (plD p) x) (s0 : Same F0 H) (hy : At K F1 (.lst (ps.map plD)) y) (s1 : Same F1 H) (q : Q (.bl (decide (p ∈ ps))) H) : rInD K x y H Q := by
  obtain ⟨a, vs, rfl, h, t⟩ := At.lst_ hy
  refine o_inP pd_pl (by decide) hx s0 (s1.seq h) t s1 True.intro (fun _ _ => True.intro) ?_
  refine Eq.mp (congrArg (fun b => Q (.bl b) H) ?_) q
  exact decide_eq_decide.mpr Iff.rfl
theorem start54 {H : Hp} {a : Addr} (hO : G.TabH (Lw.tabs.map (He.cT K)) a H) : HH (G.bare H) H [(tbP K, .tbl #[])] := by
  have e : H (tbP K) = some (.tbl #[]) := hO.tab _ (List.mem_map.mpr ⟨_, List.mem_cons_self .., rfl⟩)
  refine ⟨bare_sub H, List.nodup_cons.mpr ⟨(fun h => nomatch h), .nil⟩, fun p hp => ?_⟩
  rw [List.mem_singleton.mp hp]
  refine ⟨e, ?_⟩
  unfold G.bare
  show (match H (tbP K) with | some (.tbl _) => none | o => o) = none
  rw [e]
theorem rd_y54 (T : Tx K mg) {tw : V} {rows : List Rw} {v0 v1 v4 v5 v6 v7 v8 v9 v10 : Option V} (hh : HH F H [(tbP K, .tbl #[])]) (htw : At K F (.lst (ta3.map Ta.d)) tw) (hr0 : At K F (.lst (rows.map (Rw.d K))) (.ref l)) (hlen : rows.length ≤ 13) (hsh : ∀ r ∈ rows, Shp r.t r.cs = true) {b : Bool} (eb : ordR rows = b) (q : ∀ H, Q (.bl true) H) : t_y54 K w ⟨fun _ H' => Q .non H', Q, fun _ _ => False, fun _ _ => False⟩ [v0, v1, some tw, some (.ref l), v4, v5, v6, v7, v8, v9, v10, some (.bl b), none, none, none] H := by
  have htw := htw.bare
  have hr0 := hr0.bare
  have hh := hh.bare
  have nF := bare_noT F
  generalize bare F = F3 at htw hr0 hh nF
  unfold t_y54
  walk_at "go"
  refine rd_are_in_order T hh TbK.nil nF Pln.nil htw (Same.refl _) hr0 (Same.refl _) (by omega) hsh fun F8 H8 ps8 s8 nF8 tb8 hh => ?_
  rw [eb]
  walk_at "go"
  refine s_reprP (.bl _) rp_bool (by decide) (by decide) ?_
  walk_at "go"
  refine s_reprP (.bl _) rp_bool (by decide) (by decide) ?_
  walk_at "go"
  rw [decide_eq_true rfl]
  refine ite_F rfl ?_
  exact rd_z54 T hh q
end
end Lw

-- fld
namespace Lw
open PySem PySem.Spec PyProof.Rows PySem.W L2 G LamX
/-! ### the law -/
section
variable {w : World} {K : PySem.W.Frag} {mg : Str → Option Value}
theorem law54 (T : Tx K mg) (H : Hp) (a : Addr) (ns0 : List Int) (hl : ns0.length ≤ 63) (hO : G.TabH (Lw.tabs.map (He.cT K)) a H) (hS : SqL K H a (ns0.map V.int)) : sp_law K w [.ref a] H (fun v _ => v = .bl true) fun _ _ _ => False := by
  refine ⟨rfl, ?_⟩
  unfold t_law
  walk_at "go"
  refine rd_cells (n := 30) (start54 hO) (SqL.bare hS) (by decide) (by decide) fun H1 d o ho hh => ?_
  walk_at "go"
  refine rd_tables T hh fun F1 H2 tw s1 hh htw => ?_
  walk_at "go"
  refine rd_rows T hh ho fun F2 H3 o2 l rows0 vs s2 ho hh hrv hrl hrok hrnd => ?_
  have hsh0 : ∀ r ∈ rows0, Shp r.t r.cs = true := fun r hr => (hrok r hr).1.1
  clear hrok hrnd
  walk_at "go"
  refine g_cut (fun σ' H' => ∃ (F3 : Hp) (l3 : Addr) (rows : List Rw) (vs3 : List V) (v4 v5 v6 : Option V), Same F2 F3 ∧ σ' = [some (.ref a), some (.ref d), some tw, some (.ref l3), v4, v5, v6, none, none, none, none, none, none, none, none] ∧ AtA K F3 (rows.map (Rw.d K)) vs3 ∧ rows.length ≤ 13 ∧ (∀ r ∈ rows, Shp r.t r.cs = true) ∧ HH F3 H' [(l3, .lst vs3), (tbP K, .tbl #[])]) ?_ ?_
  · have evl : vs.length = rows0.length := by rw [hrv.len, List.length_map]
    walk_at "go"
    refine o_lenL (i := 1) hh rfl ?_
    walk_at "go"
    refine ite2 (fun hc => ?_) (fun hc => ?_)
    rotate_left
    · exact ⟨F2, l, rows0, vs, _, _, _, Same.refl _, rfl, hrv, by omega, hsh0, hh.drop⟩
    have hpos : 0 < rows0.length := by
      have := of_decide_eq_true hc
      omega
    walk_at "go"
    refine rd_draw hh ho (by decide) fun v H4 o4 h0 h1 ho hh => ?_
    walk_at "go"
    refine ite2 (fun hc => ?_) (fun hc => ?_)
    rotate_left
    · exact ⟨F2, l, rows0, vs, _, _, _, Same.refl _, rfl, hrv, by omega, hsh0, hh.drop⟩
    walk_at "go"
    refine rd_pickC hh ho hrv (by rw [List.length_map]; exact hpos) (by rw [List.length_map]; omega) fun i e rv H5 o5 hi hrw ho hh => ?_
    rw [List.getElem?_map] at hi
    obtain ⟨r, er, rfl⟩ : ∃ r, rows0[i]? = some r ∧ r.d K = e := by
      cases h : rows0[i]? with
      | none => rw [h] at hi; cases hi
      | some r => rw [h] at hi; exact ⟨r, rfl, Option.some.inj hi⟩
    have hrm : r ∈ rows0 := List.mem_of_getElem? er
    walk_at "go"
    refine f_Row_table T hrw hh.sub ?_
    walk_at "go"
    refine s_lst (K := K) (ds := six.map D.i) hh (AtA.cons At.of (AtA.cons At.of (AtA.cons At.of (AtA.cons At.of (AtA.cons At.of (AtA.cons At.of AtA.nil)))))) (by decide) fun F3 H6 u s3 hh hu => ?_
    walk_at "go"
    refine rd_cell_row hh ho hu (Same.refl _) nb6 fun F4 H7 o7 l7 vs7 cs s4 ho hh hcs hsh _ => ?_
    have s24 : Same F2 F4 := s3.trans s4
    have hrw := hrw.mono s24
    have hrv := hrv.mono s24
    clear hu s3 s4 s1 s2 htw
    walk_at "go"
    refine g_cut (fun σ' H' => ∃ (o' : HO) (cs : List Ce) (vs7 : List V), DrO o' ∧ σ' = [some (.ref a), some (.ref d), some tw, some (.ref l), some rv, some (.ref l7), none, none, none, none, none, none, none, none, none] ∧ AtA K F4 (cs.map (Ce.d K)) vs7 ∧ Shp r.t cs = true ∧ HH F4 H' ((d, o') :: (l7, .lst vs7) :: (l, .lst vs) :: [(tbP K, .tbl #[])])) ?_ ?_
    · walk_at "go"
      refine rd_draw hh.swap ho (by decide) fun v H8 o8 h0 h1 ho hh => ?_
      walk_at "go"
      refine ite2 (fun hc => ?_) (fun hc => ?_)
      · have el := hcs.len
        rw [List.length_map] at el
        obtain ⟨p1, p2⟩ := shp_last hsh
        walk_at "go"
        refine o_lenL (i := 1) hh rfl ?_
        walk_at "go"
        refine o_setI (i := 1) hh rfl (j := cs.length - 1) (by omega) (by omega) fun H9 hh => ?_
        refine ⟨o8, cs.set (cs.length - 1) .mark, _, ho, rfl, ?_, p2, hh⟩
        rw [List.map_set]
        exact AtA.setA hcs At.of
      · exact ⟨o8, cs, vs7, ho, rfl, hcs, hsh, hh⟩
    clear hh hcs hsh
    rintro σ' H8 ⟨o8, cs, vs7, ho, rfl, hcs, hsh, hh⟩
    walk_at "go"
    refine g_cut (fun σ' H' => ∃ (F5 : Hp) (l3 : Addr) (rows : List Rw) (vs3 : List V) (v6 : Option V), Same F4 F5 ∧ σ' = [some (.ref a), some (.ref d), some tw, some (.ref l3), some rv, some (.ref l7), v6, none, none, none, none, none, none, none, none] ∧ AtA K F5 (rows.map (Rw.d K)) vs3 ∧ rows.length ≤ 12 ∧ (∀ r ∈ rows, Shp r.t r.cs = true) ∧ HH F5 H' [(l7, .lst vs7), (l3, .lst vs3), (tbP K, .tbl #[])]) ?_ ?_
    · walk_at "go"
      refine rd_draw hh ho (by decide) fun v H9 o9 h0 h1 ho hh => ?_
      walk_at "go"
      refine ite2 (fun hc => ?_) (fun hc => ?_)
      rotate_left
      · exact ⟨F4, l, rows0, vs, _, Same.refl _, rfl, hrv, by omega, hsh0, hh.drop⟩
      have hh := hh.drop.swap
      have hfz := hh.frz
      have sfz := hh.frzS
      have hr0 := frz_lst (hh.out (i := 0) rfl) hrv
      generalize upd F4 l (.lst vs) = F5 at hfz sfz hr0
      walk_at "go"
      refine gi_list ?_
      walk_at "go"
      refine a_lcC (e := Rw.d K) (f := Rw.d K) hr0 hfz (by omega) (fun x => if (!decide (x = r)) = true then some x else none) (fun z zv F' H' c P N hz hzv sF hh' hP hN => ?_) fun F6 H10 p ws s6 hh hwl hws => ?_
      · walk_at "go"
        refine ⟨rfl, ?_⟩
        walk_at "go"
        refine s_ownR (a := z) (b := r) T (Shp.small (hsh0 z hz)) (Shp.small (hsh0 r hrm)) hzv hh'.sub hrw (sfz.trans (sF.trans hh'.sub)) ?_
        walk_at "go"
        refine ite2 (fun hd => ?_) (fun hd => ?_)
        · walk_at "go"
          exact hP F' _ zv z (Same.refl _) hh' (if_pos hd) hzv
        · exact hN F' _ (Same.refl _) hh' (if_neg hd)
      rw [fm_if] at hws
      have hwl2 : (rows0.filter fun x => !decide (x = r)).length ≤ 12 := Nat.le_trans (List.length_filter_le _ _) hrl
      walk_at "go"
      exact ⟨F6, p, _, ws, _, sfz.trans s6, rfl, hws, hwl2, fun z hz => hsh0 z (List.mem_filter.mp hz).1, hh.swap⟩
    clear hh hrv ho
    rintro σ' H9 ⟨F5, l3, rows, vs3, v6, s5, rfl, hrv, hrl3, hsh3, hh⟩
    have hrw := hrw.mono s5
    have hcs := hcs.mono s5
    walk_at "go"
    refine g_tyL (hh.get (i := 1) rfl) ?_
    walk_at "go"
    refine f_Row_table T hrw hh.sub ?_
    walk_at "go"
    refine f_Row_number T hrw hh.sub ?_
    walk_at "go"
    have hfz := hh.frz
    have sfz := hh.frzS
    have hr0 := frz_lst (hh.out (i := 0) rfl) hcs
    generalize upd F5 l7 (.lst vs7) = F6 at hfz sfz hr0
    have hcl : cs.length ≤ 1000 := by
      have e := Shp.len hsh
      omega
    refine mk_Row (t := r.t) (n := r.n) (cs := cs) T hfz hr0 (Same.refl _) hcl fun F7 H10 nw s7 hh hnw => ?_
    walk_at "go"
    have evl3 : vs3.length = rows.length := by rw [hrv.len, List.length_map]
    refine o_appI (i := 0) hh rfl (by omega) fun H11 hh => ?_
    refine ⟨F7, l3, rows ++ [⟨r.t, r.n, cs⟩], vs3 ++ [nw], _, _, _, s24.trans (s5.trans (sfz.trans s7)), rfl, ?_, ?_, ?_, hh⟩
    · rw [List.map_append]
      exact AtA.snoc (hrv.mono (sfz.trans s7)) hnw
    · rw [List.length_append]
      show _ + 1 ≤ _
      omega
    · intro z hz
      rcases List.mem_append.mp hz with h | h
      · exact hsh3 z h
      · rw [List.mem_singleton.mp h]
        exact hsh
  clear hh hrv ho hrl hsh0
  rintro σ' H4 ⟨F3, l3, rows, vs3, v4, v5, v6, s3, rfl, hrv, hlen, hsh, hh⟩
  have hfz := hh.frz
  have sfz := hh.frzS
  have hr0 := frz_lst (hh.out (i := 0) rfl) hrv
  have htw := htw.mono (s2.trans (s3.trans sfz))
  generalize upd F3 l3 (.lst vs3) = F4 at hfz sfz hr0 htw
  clear hh hrv s1 s2 s3 sfz
  walk_at "go"
  refine rd_plain T hfz hr0 (Same.refl _) (by omega) fun F5 H5 pw s5 hh hpw => ?_
  walk_at "go"
  refine gi_list ?_
  walk_at "go"
  refine a_lcL (e := pD K) (f := plD) hpw hh (by rw [sl16]; omega) (fun r => some (key r)) (fun r z F' H' c' P N hm hz sF hh' hP hN => ?_) fun F6 H6 nv s6 hh hnv => ?_
  · walk_at "go"
    refine ⟨rfl, ?_⟩
    walk_at "go"
    refine s_ixT (i := 0) hz hh'.sub rfl rfl fun w2 hw2 => ?_
    obtain rfl := At.v_.mp hw2
    walk_at "go"
    refine s_ixT (i := 1) hz hh'.sub rfl rfl fun w3 hw3 => ?_
    obtain rfl := At.v_.mp hw3
    walk_at "go"
    exact s_tup (K := K) (ds := [D.t r.t.z, D.i r.n]) hh' (AtA.cons At.of (AtA.cons At.of AtA.nil)) (Nat.le_of_ble_eq_true rfl) fun F5 H5 v s5 hh hv => hP F5 H5 v (key r) s5 hh rfl hv
  have ek : rows.filterMap (fun r => some (key r)) = rows.map key := by rw [show (fun r : Rw => some (key r)) = some ∘ key from rfl, List.filterMap_eq_map]
  rw [ek] at hnv
  have hkl : (rows.map key).length = rows.length := List.length_map _
  walk_at "go"
  refine s_lenL hnv hh.sub ?_
  walk_at "go"
  refine g_rngN (n := (rows.map key).length) (by omega) ?_
  refine a_lcR (K := K) (p := dupB (rows.map key)) hh (by omega) (fun i F' H' c P N hi sF hh' hP hN => ?_) fun F7 H7 gw s7 hh hgw => ?_
  · have ei : (rows.map key)[i]? = some (rows.map key)[i] := List.getElem?_eq_getElem hi
    have eD : dupB (rows.map key) i = decide ((rows.map key)[i] ∈ (rows.map key).take i) := by
      unfold dupB
      rw [ei]
    generalize (rows.map key)[i] = k at ei eD
    walk_at "go"
    refine ⟨rfl, ?_⟩
    walk_at "go"
    refine s_ixL (i := i) hnv (sF.trans hh'.sub) (by omega) ei fun w2 hw2 => ?_
    walk_at "go"
    refine s_slG hnv hh' sF fun F8 H8 u8 s8 hh8 hu8 => ?_
    rw [cut_take] at hu8
    walk_at "go"
    refine s_inPl hw2 (sF.trans (s8.trans hh8.sub)) hu8 hh8.sub ?_
    rw [← eD]
    walk_at "go"
    refine ite2 (fun hd => ?_) (fun hd => ?_)
    · walk_at "go"
      exact hP F8 _ s8 hh8 hd
    · exact hN F8 _ s8 hh8 (Bool.eq_false_iff.mpr hd)
  walk_at "go"
  refine s_lenL hgw hh.sub ?_
  walk_at "go"
  rw [dup_nd]
  have hpw := hpw.mono (s6.trans s7)
  have hr0 := hr0.mono (s5.trans (s6.trans s7))
  have htw := htw.mono (s5.trans (s6.trans s7))
  clear hnv hgw s5 s6 s7 hfz
  cases hnd : decide (rows.map key).Nodup with
  | false =>
    refine ite_F rfl ?_
    exact rd_y54 (Q := fun v _ => v = .bl true) T hh htw hr0 hlen hsh (by unfold ordR; rw [hnd, Bool.and_false, Bool.and_false]) fun _ => rfl
  | true =>
    have nd := of_decide_eq_true hnd
    refine ite_T rfl ?_
    walk_at "go"
    refine rd_marked T hh hpw (Same.refl _) (by omega) hsh fun F8 H8 s8 hh => ?_
    walk_at "go"
    cases hmk : rows.any hasM with
    | true =>
      refine ite_F rfl ?_
      exact rd_y54 (Q := fun v _ => v = .bl true) T hh (htw.mono s8) (hr0.mono s8) hlen hsh (by unfold ordR; rw [hmk]; rfl) fun _ => rfl
    | false =>
      refine ite_T rfl ?_
      walk_at "go"
      refine rd_law_fault T hh hpw s8 (by omega) (by rw [sort_eq nd, sortR_len]; omega) hsh fun F9 H9 fw s9 hh hfw => ?_
      rw [flt_eq nd hsh] at hfw
      have eb : ordR rows = decide (fw = V.non) := by
        rw [flt_non hfw]
        unfold ordR
        rw [hmk, hnd, Bool.and_true]
        rfl
      refine v_isN ?_
      exact rd_y54 (Q := fun v _ => v = .bl true) T hh (htw.mono (s8.trans s9)) (hr0.mono (s8.trans s9)) hlen hsh eb fun _ => rfl
end
end Lw

open PySem PySem.W PySem.Calls PyProof.Rows
set_option maxHeartbeats 0 in
theorem PySem.Challenge.cw_oneheap_k54_rows_in_order_holds : PySem.Challenge.rw_oneheap_k54_rows_in_order.Holds := by
  w_on; o_law
  refine HandSHeadRun.head_any (r := OpenLaw.row PySem.Challenge.rw_oneheap_k54_rows_in_order) (q := view (OpenLaw.row PySem.Challenge.rw_oneheap_k54_rows_in_order).prog [37]) (H := Lw.hk) (ob := Lw.ob) (M := 1979) (loose := Lw.nm) (d := HandSHeadRun.topDef (OpenLaw.row PySem.Challenge.rw_oneheap_k54_rows_in_order).prog 37) (kwd := []) Lw.ob_eq
    (by kernel_rfl) (fun s => by kernel_rfl) Lw.run (by kernel_rfl) (by kernel_rfl) (by kernel_rfl) (by rfl) (by first | assumption | decide +kernel) (by decide +kernel) ⟨rfl, rfl, rfl, rfl, rfl, by decide +kernel⟩ ?hw ?hc
  case hw => w_witness2
  case hc =>
    refine G.walk_ofT (l := PySem.Challenge.rw_oneheap_k54_rows_in_order) (n := 63) (k := 8) (x := "_law_script") rfl (by decide) (by kernel_rfl) ⟨rfl, by decide, by decide⟩ ?F
    intro w mg fa h Y G hmg0
    obtain ⟨K, KX, c, tb⟩ := Y
    have hmg : mg ("law" : PySem.Str) = some (.ref fa) := by
      have e : (HandSHeadRun.topDef (OpenLaw.row PySem.Challenge.rw_oneheap_k54_rows_in_order).prog 37).name = ("law" : PySem.Str) := by kernel_rfl
      rw [← e]
      exact hmg0
    have T := Lw.tx KX G c.d c.more c.p
    have e : fa = He.ga K "law" := by
      have z := hmg.symm.trans T.g_law
      cases z
      rfl
    subst e
    obtain ⟨fd, hb, hF⟩ := T.law (P := (PySem.Challenge.rw_oneheap_k54_rows_in_order).prog) (w := w)
    exact ⟨K, fd, Lw.sp_law K w, Lw.tabs.map (He.cT K), KX, (fun p hp => by obtain ⟨q, hq, rfl⟩ := List.mem_map.mp hp; exact tb q hq), hb, fun H a ns hl hO hS => Lw.law54 T H a ns hl hO hS, fun base _ _ hT => hF base fun q hq => hT _ (List.mem_map.mpr ⟨q, hq, rfl⟩)⟩
