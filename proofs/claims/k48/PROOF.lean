import PyProof.Rows.All
import Wide.All
import OpenK.AllK
import Wide.FinOn
import KE.KStateDown
import Lean
import HandS.ForMost
import HandS.ForExc
import HandS.More
import HandS.Defaults
import HandS.CallSlots
import HandS.StrMore
import HandS.Text
import HandS.Steps
import HandS.Codes
import HandS.Iter
import HandS.IsInst
import HandS.FStr
import HandS.Wide
import HandS.Head0
import HandS.Head1
import HandS.Head2
import HandS.HeadEnd
import HandS.HeadHook1
import HandS.HeadHook2
import HandS.HeadHook3
import HandS.HeadHook4
import HandS.Conv
import HandS.Style
import KE.KExcSuper
import KE.KExcInit
import KE.KSuper
import HandS.Exc
import HandS.ExcInit
import HandS.ExcField
import HandS.Ends
import KE.KExcIs
import HandS.Property
import KE.KIntText
import HandS.ReplaceLit
import PyProof.StrReplace2
import HandS.OwnEq
import HandS.DictComp
import HandS.SortInts
import KE.KEqNest
import PyProof.ReprRoads
import PyProof.ReprBulk
import PyProof.P3Eq
import KE.KDictLaw
import HandS.DictEq
import PySem.Challenge.RW_oneheap_k48_numbers_leave_contents
set_option Elab.async false
set_option linter.all false
set_option maxRecDepth 100000
set_option maxHeartbeats 4000000
namespace G
open PySem PySem.Spec PyProof.Rows L2

/-! ### what a callee keeps, by its name -/
structure Cl (P : Program) (w : World) (K : PySem.W.Frag) (mg : Str → Option Value) (base : Heap) (k : Nat) (x : Str) (sp : Sp) (dvs : List V) : Prop where
  ex : ∃ (f : Addr) (fd : FuncData) (ps : List Str) (ds : List Value), FnOk P w K mg base (L2.CX P w) k f fd ps sp ∧ mg x = some (.ref f) ∧ PySem.W.keepIn K (.ref f) = true ∧ Binds K fd ps ds ∧ Vals dvs ds
structure Mt (P : Program) (w : World) (K : PySem.W.Frag) (mg : Str → Option Value) (base : Heap) (k : Nat) (C : Addr) (m : Str) (sp : Sp) (dvs : List V) : Prop where
  ex : ∃ (f : Addr) (fd : FuncData) (ps : List Str) (ds : List Value), Cls K C ∧ Meth K C m f ∧ FnOk P w K mg base (L2.CX P w) k f fd ps sp ∧ Binds K fd ps ds ∧ Vals dvs ds
structure Mq (P : Program) (w : World) (K : PySem.W.Frag) (mg : Str → Option Value) (base : Heap) (k : Nat) (x : Str) (C : Addr) (sp : Sp) (dvs : List V) : Prop where
  ex : ∃ (f : Addr) (fd : FuncData) (ps : List Str) (ds : List Value), Mk K C f ∧ FnOk P w K mg base (L2.CX P w) k f fd ps sp ∧ mg x = some (.ref C) ∧ Binds K fd ps ds ∧ Vals dvs ds
/-- a law's end, where its defs may raise -/
theorem walk_ofW {l : PySem.W.OpenLaw} {n k : Nat} {q : Program} {loose : List Str} {XP : (Str → Option Value) → Heap → Prop} {YP : World → Heap → Prop} {d : DefRec} {x : Str}
    (hn : l.most = some n) (hn2 : n ≤ sizeLine) (hdf : d.params.defaults = []) (hr : Room k callerA)
    (F : ∀ (w : World) (mg : Str → Option Value) (fa : Addr) (h : Heap), YP w h → h.Ns mainGlobals mg → mg d.name = some (.ref fa) →
      ∃ (K : PySem.W.Frag) (fd : FuncData) (sp : Sp), K.In h ∧ (∀ (s : Shared) (u : Value), BindsTo s fd ⟨[u], []⟩ [(x, u)]) ∧
        (∀ (H : Hp) (a : Addr) (ns : List Int), ns.length ≤ n → Only H → SqL K H a (ns.map V.int) → sp [.ref a] H (fun v _ => v = .bl true) fun _ _ _ => False) ∧
        ∀ base : Heap, FnOk l.prog w K mg base (L2.CX l.prog w) k fa fd [x] sp) :
    PySem.W.WalkO q loose XP YP l.row.toRowW d [] (fun f vs => PySem.call f vs) := by
  refine Att.attach_call hn hdf fun w s₀ s₁ mg mb fa o pm cd doc a vs ns G Y ho hd hcd hmg hobj hints hlen hg => ?_
  obtain ⟨K, fd, sp, KX, hb, hsp, hF⟩ := F w mg fa _ Y G.T.g hmg
  refine law_call (CX := L2.CX l.prog w) KX G.T.g G.T.b G.T.builtins G.T.nolimit hg hobj hints (Nat.le_trans hlen hn2) hr (fun base _ _ => hF base) hb (fun H hO hS => hsp H a ns hlen hO hS) fun H e s' c => ?_
  obtain ⟨_, _, _, _, _, _, _, _, _, _, _, _, z⟩ := c
  exact z.elim
/-- nothing is let out -/
def Ez : L2.St → XK := fun _ _ _ _ => False
section
variable {X : Cx} {k j : Nat} {C : Addr} {x m : Str} {sp : Sp} {dvs : List V} {p pos apos : Pos} {e o : Expr} {es : List Expr} {ta : TE} {t : TA} {E : L2.St → XK}
theorem pz {σ : L2.St} : PassesAt (L2.CX X.prog X.w) X σ (Ez σ) := fun _ _ _ _ _ _ h => by
  obtain ⟨_, _, _, _, _, _, _, _, _, _, _, _, z⟩ := h
  exact z.elim
theorem pe_cl (c : Cl X.prog X.w X.K X.mg X.base k x sp dvs) (hr : Room j X.A) (hk : k ≤ j) (hx : ∀ σ, PassesAt (L2.CX X.prog X.w) X σ (E σ)) (hg : Gl X x) (ha : PA X (e :: es) t)
    (hdb : (x == ("__debug__" : Str)) = false := by decide) (he : starEach (e :: es) X.env = (false, eval e X.env) :: starEach es X.env := by rfl) (hpl : (backTo pos (starEach es X.env)).any (·.1) = false := by rfl) :
    PE X (.Call (.Name x p) (e :: es) [] pos) (tCallSD sp dvs E t) := by
  obtain ⟨f, fd, ps, ds, F, hm, kp, b, d⟩ := c.ex
  exact pe_callSD F (hr.mono hk) hg hm kp b d hx ha hdb he hpl
theorem pe_mq (c : Mq X.prog X.w X.K X.mg X.base k x C sp dvs) (hr : Room j X.A) (hk : k + 1 ≤ j) (hg : Gl X x) (ha : PA X (e :: es) t)
    (hdb : (x == ("__debug__" : Str)) = false := by decide) (he : starEach (e :: es) X.env = (false, eval e X.env) :: starEach es X.env := by rfl) (hpl : (backTo pos (starEach es X.env)).any (·.1) = false := by rfl) :
    PE X (.Call (.Name x p) (e :: es) [] pos) (tMake C sp dvs E0 t) := by
  obtain ⟨f, fd, ps, ds, M, F, hm, b, d⟩ := c.ex
  exact pe_make M F (hr.mono hk) hg hm b d passL ha hdb he hpl
/-- a constant of the module -/
theorem pe_gc {v : V} (hg : Gl X x) (h : ∃ u, X.mg x = some u ∧ RelV v u) (hd : (x == ("__debug__" : Str)) = false := by decide) : PE X (.Name x pos) (tC v) := by
  obtain ⟨u, hm, r⟩ := h
  exact pe_glob hg hm r hd
end

section
variable {X : Cx} {k j : Nat} {C : Addr} {x m : Str} {sp : Sp} {dvs : List V} {p pos apos : Pos} {e o : Expr} {es : List Expr} {ta : TE} {t : TA} {E : L2.St → XK}
/-- an expression has two readings: either will do -/
def tEor (t u : TE) : TE := fun σ H Q => t σ H Q ∨ u σ H Q
theorem pe_or2 {t u : TE} (h : PE X e t) (h' : PE X e u) : PE X e (tEor t u) := ⟨fun pins s σ H Q I q => q.elim (h.run pins s σ H Q I) (h'.run pins s σ H Q I)⟩
/-- o.m(..), what is raised is wished for at the caller's slots -/
def tMethD (C : Addr) (m : Str) (sp : Sp) (dvs : List V) (E : L2.St → XK) (ta : TE) (t : TA) : TE := fun σ H Q => ta σ H fun x H1 => ∃ a dx fs, x = .ref a ∧ H1 a = some (.ins C dx fs) ∧ fs.lookup m = none ∧
  t σ H1 fun vs H2 => sp (x :: (vs ++ dvs)) H2 Q (E σ)
theorem pe_mt1 {pl : Sem Bool} (c : Mt X.prog X.w X.K X.mg X.base k C m sp dvs) (hr : Room j X.A) (hk : k ≤ j) (hx : ∀ σ, PassesAt (L2.CX X.prog X.w) X σ (E σ)) (he : PE X o ta) (ha : PA X (e :: es) t)
    (hst : starEach (e :: es) X.env = (false, eval e X.env) :: starEach es X.env := by rfl) (hpl : (backTo pos (starEach es X.env)).any (·.1) = false := by rfl)
    (ht : eval (.Call (.Attribute o m apos) (e :: es) [] pos) X.env = (do
      let ov ← eval o X.env
      standAt apos.atName
      let (f, first) ← holding [ov] (getMethod ov m pl)
      callWith pos f first (backTo pos (starEach (e :: es) X.env)) (backToKw pos (keywordEach [] X.env))) := by rfl) :
    PE X (.Call (.Attribute o m apos) (e :: es) [] pos) (tMethD C m sp dvs E ta t) := by
  obtain ⟨f, fd, ps, ds, cl, hm, F, b, d⟩ := c.ex
  refine ⟨fun pins s σ H Q I h => ?_⟩
  refine PySem.W.methodCall_KW (pl := pl) (thn (he.run pins s σ H _ I h) fun u s1 ⟨x, H1, I1, rx, a, dx, fs, ex, ea, l, q⟩ => ?_) ht
  subst ex
  obtain rfl : u = Value.ref a := rx
  refine getmeth_ok I1 ea cl hm l (PySem.W.callWith_K (first := [.ref a]) (h₀ := X.base) I.ok.mod.kin hm.kp (thn (ha.run pos pins s1 σ H1 _ I1 q) fun us s2 ⟨vs, H2, I2, r, q2⟩ => ⟨I2.kIn, ?_⟩) hst hpl)
  exact run_fnSD (us := .ref a :: us) (vs := .ref a :: vs) F (hr.mono hk) b d (hx σ) I2 (.cons rfl r) q2
theorem pe_mt0 {pl : Sem Bool} (c : Mt X.prog X.w X.K X.mg X.base k C m sp dvs) (hr : Room j X.A) (hk : k ≤ j) (hx : ∀ σ, PassesAt (L2.CX X.prog X.w) X σ (E σ)) (he : PE X o ta)
    (ht : eval (.Call (.Attribute o m apos) [] [] pos) X.env = (do
      let ov ← eval o X.env
      standAt apos.atName
      let (f, first) ← holding [ov] (getMethod ov m pl)
      callWith pos f first (backTo pos (starEach [] X.env)) (backToKw pos (keywordEach [] X.env))) := by rfl) :
    PE X (.Call (.Attribute o m apos) [] [] pos) (tMethD C m sp dvs E ta tNil) := by
  obtain ⟨f, fd, ps, ds, cl, hm, F, b, d⟩ := c.ex
  refine ⟨fun pins s σ H Q I h => ?_⟩
  refine PySem.W.methodCall_KW (pl := pl) (thn (he.run pins s σ H _ I h) fun u s1 ⟨x, H1, I1, rx, a, dx, fs, ex, ea, l, q⟩ => ?_) ht
  subst ex
  obtain rfl : u = Value.ref a := rx
  exact getmeth_ok I1 ea cl hm l (PySem.W.callWith_K0 (first := [.ref a]) I1.kIn hm.kp (run_fnSD (us := [.ref a]) (vs := [.ref a]) F (hr.mono hk) b d (hx σ) I1 (.cons rfl .nil) q))
def rAbs : List V → Hp → VK → Prop := fun xs H Q => ∃ i, xs = [.int i] ∧ Q (.int (if i < 0 then -i else i)) H
def rMax2 : List V → Hp → VK → Prop := fun xs H Q => ∃ i j, xs = [.int i, .int j] ∧ Q (.int (if j > i then j else i)) H
def rMin2 : List V → Hp → VK → Prop := fun xs H Q => ∃ i j, xs = [.int i, .int j] ∧ Q (.int (if j < i then j else i)) H
def rFind : V → List V → Hp → VK → Prop := fun x xs H Q => ∃ a b, x = .str a ∧ xs = [.str b] ∧ Q (.int (Txt.find a b)) H
def rListX (K : PySem.W.Frag) : List V → Hp → VK → Prop := fun xs H Q => (∃ p ys, xs = [.ref p] ∧ (SqL K H p ys ∨ SqT K H p ys) ∧ ∀ l, H l = none → Q (.ref l) (upd H l (.lst ys))) ∨ rListD xs H Q
/-- a fact of the head that is told as a Bool -/
def fIs (C D : Str) (b : Bool) (K : PySem.W.Frag) : Bool := decide (PySem.W.kitOne K (.ref (He.ga K C)) (.ref (He.ga K D)) = some b)
def fIsT (C : Str) (D : String) (b : Bool) (K : PySem.W.Frag) : Bool := decide (PySem.W.kitOne K (.ref (He.ga K C)) (.type D) = some b)
def fTIs (D : String) (C : Str) (b : Bool) (K : PySem.W.Frag) : Bool := decide (PySem.W.kitOne K (.type D) (.ref (He.ga K C)) = some b)
def fIn (C : Str) (K : PySem.W.Frag) : Bool := He.eqO (PySem.W.findIn K (.ref (He.ga K C)) "__class__") (some (some (.builtin "object.__class__"))) &&
  (He.eqO (PySem.W.specialIn K (.builtin "object.__class__") "__get__") (some (some (.builtin "getset_descriptor.__get__"))) && (decide (PySem.W.takesIn K (.builtin "object.__class__") = some true) && decide (PySem.W.mroIn K (He.ga K C) (.type "object") = some true)))
theorem fIs_ok {C D : Str} {b : Bool} {K : PySem.W.Frag} (h : fIs C D b K = true) : PySem.W.kitOne K (.ref (He.ga K C)) (.ref (He.ga K D)) = some b := of_decide_eq_true h
theorem fIsT_ok {C : Str} {D : String} {b : Bool} {K : PySem.W.Frag} (h : fIsT C D b K = true) : PySem.W.kitOne K (.ref (He.ga K C)) (.type D) = some b := of_decide_eq_true h
theorem fTIs_ok {C : Str} {D : String} {b : Bool} {K : PySem.W.Frag} (h : fTIs D C b K = true) : PySem.W.kitOne K (.type D) (.ref (He.ga K C)) = some b := of_decide_eq_true h
/-- what isinstance asks of an instance of the class -/
structure InsF (K : PySem.W.Frag) (C : Addr) : Prop where
  ha : PySem.W.findIn K (.ref C) "__class__" = some (some (.builtin "object.__class__"))
  hn : PySem.W.specialIn K (.builtin "object.__class__") "__get__" = some (some (.builtin "getset_descriptor.__get__"))
  htk : PySem.W.takesIn K (.builtin "object.__class__") = some true
  hm : PySem.W.mroIn K C (.type "object") = some true
theorem fIn_ok {C : Str} {K : PySem.W.Frag} (h : fIn C K = true) : InsF K (He.ga K C) := by
  obtain ⟨h1, h2⟩ := He.ba h
  obtain ⟨h2, h3⟩ := He.ba h2
  obtain ⟨h3, h4⟩ := He.ba h3
  exact ⟨He.eqO_ok h1, He.eqO_ok h2, of_decide_eq_true h3, of_decide_eq_true h4⟩
def allB (fs : List (PySem.W.Frag → Bool)) (K : PySem.W.Frag) : Bool := fs.all fun f => f K
theorem allB_at {fs : List (PySem.W.Frag → Bool)} {K : PySem.W.Frag} (h : allB fs K = true) (i : Nat) {f : PySem.W.Frag → Bool} (hf : fs[i]? = some f := by rfl) : f K = true := List.all_eq_true.mp h f (List.mem_of_getElem? hf)
end

/-! ### operators by the values' kinds -/
section
variable {X : Cx}
def MulS (z : Str) (n : Int) : Prop := z.length ≤ 1024 ∧ n ≤ 1024 ∧ -1024 ≤ n
def rMulS : R2 := fun x y H Q => ∃ z n, x = .str z ∧ y = .int n ∧ MulS z n ∧ Q (.str (Txt.mul z n)) H
theorem op_mulS : OpR X (binaryOp .Mult) rMulS := by
  intro pins s σ H x y v u Q I rx ry h
  obtain ⟨z, n, rfl, rfl, ⟨h1, h2, h3⟩, q⟩ := h
  obtain ⟨t, rfl⟩ := rx
  obtain ⟨t', rfl⟩ := ry
  exact SB.mul (mulOk_of 1024 1024 h1 h2 (by omega) (by decide) (by decide)) fun t' k => ⟨.str _, H, I.tok _, ⟨_, rfl⟩, q⟩
def rAddS : R2 := fun x y H Q => ∃ i j, x = .str i ∧ y = .str j ∧ i.length + j.length ≤ sizeLine ∧ Q (.str (i ++ j)) H
/-- a + b: ints, texts, lists, tuples -/
def rAddX (K : PySem.W.Frag) : R2 := fun x y H Q => rI0 (fun i j => .int (i + j)) x y H Q ∨ rAddS x y H Q ∨ rCat x y H Q ∨ rCatT K x y H Q
theorem op_addX : OpR X (binaryOp .Add) (rAddX X.K) := OpR.or op_add (OpR.or op_add_str (OpR.or op_cat op_catT))
def rSubX : R2 := rI0 fun i j => .int (i - j)
theorem op_subX : OpR X (binaryOp .Sub) rSubX := op_sub
def rMulX : R2 := fun x y H Q => rI CMul (fun i j => .int (i * j)) x y H Q ∨ rMulS x y H Q ∨ rRep x y H Q
theorem op_mulX : OpR X (binaryOp .Mult) rMulX := OpR.or op_mul (OpR.or op_mulS op_rep)
def rModX : R2 := fun x y H Q => rI (fun _ j => 0 < j) (fun i j => .int (i % j)) x y H Q ∨ rI (fun _ j => j ≠ 0) (fun i j => .int (i.fmod j)) x y H Q
theorem op_modX : OpR X (binaryOp .Mod) rModX := OpR.or op_mod op_modN
def rDivX : R2 := fun x y H Q => rI CDiv (fun i j => .int (i / j)) x y H Q ∨ rI CDivN (fun i j => .int (i.fdiv j)) x y H Q
theorem op_divX : OpR X (binaryOp .FloorDiv) rDivX := OpR.or op_fdiv op_fdivN
def rInStr : R2 := fun x y H Q => ∃ (c : Nat) (z : Str), x = .str ⟨#[c]⟩ ∧ y = .str z ∧ Q (.bl (decide (c ∈ z.cps.toList))) H
def rNotInStr : R2 := fun x y H Q => ∃ (c : Nat) (z : Str), x = .str ⟨#[c]⟩ ∧ y = .str z ∧ Q (.bl (!decide (c ∈ z.cps.toList))) H
def rInX (K : PySem.W.Frag) : R2 := fun x y H Q => rIn K false x y H Q ∨ rInStr x y H Q
theorem op_inX : OpR X (compareOp .In) (rInX X.K) := OpR.or op_in_seq op_in_sign
def rNotInX (K : PySem.W.Frag) : R2 := fun x y H Q => rIn K true x y H Q ∨ rNotInStr x y H Q
theorem op_notInX : OpR X (compareOp .NotIn) (rNotInX X.K) := OpR.or op_notIn_seq op_notIn_sign
def rLtS : R2 := fun x y H Q => ∃ i j, x = .str i ∧ y = .str j ∧ Q (.bl (decide (i.cps.toList < j.cps.toList))) H
def rLtX (K : PySem.W.Frag) : R2 := fun x y H Q => rI0 (fun i j => .bl (decide (i < j))) x y H Q ∨ rLtS x y H Q ∨ rLtT K x y H Q
def rLeS : R2 := fun x y H Q => ∃ i j, x = .str i ∧ y = .str j ∧ Q (.bl (!decide (j.cps.toList < i.cps.toList))) H
def rLeX : R2 := fun x y H Q => rI0 (fun i j => .bl (decide (i ≤ j))) x y H Q ∨ rLeS x y H Q
def rGtX : R2 := rI0 fun i j => .bl (decide (j < i))
def rGeX : R2 := rI0 fun i j => .bl (decide (j ≤ i))
theorem op_ltX (hu : X.A.units + 64 < cLine) : OpR X (compareOp .Lt) (rLtX X.K) := OpR.or op_lt (OpR.or op_lt_str (op_ltT (by omega)))
theorem op_leX : OpR X (compareOp .LtE) rLeX := OpR.or op_le op_le_str
theorem op_gtX : OpR X (compareOp .Gt) rGtX := op_gt
theorem op_geX : OpR X (compareOp .GtE) rGeX := op_ge
/-- x is None, True, False, an object -/
def isW : V → Bool
  | .non => true
  | .bl _ => true
  | _ => false
def rIsW : R2 := fun x y H Q => isW y = true ∧ Q (.bl (decide (x = y))) H
def rIsNotW : R2 := fun x y H Q => isW y = true ∧ Q (.bl (!decide (x = y))) H
theorem is_b_gen {prog : Program} {w : World} {A : Around} {E : Value → Shared → Prop} {s : Shared} {x : V} {v : Value} {b : Bool} {Q : Value → Shared → Prop} (r : RelV x v) (h : Q (.bool (decide (x = .bl b))) s) : wpAny (model prog w) A (compareOp .Is v (.bool b)) Q E s := by
  cases x with
  | bl c =>
    cases r
    have e : (Value.bool c == Value.bool b) = decide (V.bl c = V.bl b) := by
      cases c <;> cases b <;> decide
    exact wpAny_pure (by rw [← e] at h; exact h)
  | non => cases r; exact wpAny_pure h
  | int i => obtain ⟨t, rfl⟩ := r; exact wpAny_pure h
  | str i => obtain ⟨t, rfl⟩ := r; exact wpAny_pure h
  | byt i => obtain ⟨t, rfl⟩ := r; exact wpAny_pure h
  | flt i => obtain ⟨t, rfl⟩ := r; exact wpAny_pure h
  | ref i => cases r; exact wpAny_pure h
  | ty i => cases r; exact wpAny_pure h
theorem isnot_b_gen {prog : Program} {w : World} {A : Around} {E : Value → Shared → Prop} {s : Shared} {x : V} {v : Value} {b : Bool} {Q : Value → Shared → Prop} (r : RelV x v) (h : Q (.bool (!decide (x = .bl b))) s) : wpAny (model prog w) A (compareOp .IsNot v (.bool b)) Q E s := by
  cases x with
  | bl c =>
    cases r
    have e : (Value.bool c == Value.bool b) = decide (V.bl c = V.bl b) := by
      cases c <;> cases b <;> decide
    exact wpAny_pure (by rw [← e] at h; exact h)
  | non => cases r; exact wpAny_pure h
  | int i => obtain ⟨t, rfl⟩ := r; exact wpAny_pure h
  | str i => obtain ⟨t, rfl⟩ := r; exact wpAny_pure h
  | byt i => obtain ⟨t, rfl⟩ := r; exact wpAny_pure h
  | flt i => obtain ⟨t, rfl⟩ := r; exact wpAny_pure h
  | ref i => cases r; exact wpAny_pure h
  | ty i => cases r; exact wpAny_pure h
theorem op_isW : OpR X (compareOp .Is) rIsW := by
  intro pins s σ H x y v u Q I rx ry h
  obtain ⟨hy, q⟩ := h
  cases y with
  | non => exact op_isN pins s σ H x .non v u Q I rx ry ⟨rfl, q⟩
  | bl b => cases ry; exact is_b_gen rx ⟨.bl _, H, I, rfl, q⟩
  | _ => exact absurd (show false = true from hy) Bool.false_ne_true
theorem op_isNotW : OpR X (compareOp .IsNot) rIsNotW := by
  intro pins s σ H x y v u Q I rx ry h
  obtain ⟨hy, q⟩ := h
  cases y with
  | non => exact op_notN pins s σ H x .non v u Q I rx ry ⟨rfl, q⟩
  | bl b => cases ry; exact isnot_b_gen rx ⟨.bl _, H, I, rfl, q⟩
  | _ => exact absurd (show false = true from hy) Bool.false_ne_true
def rIsO : R2 := fun x y H Q => ∃ a b oa ob, x = .ref a ∧ y = .ref b ∧ H a = some oa ∧ isObj oa = true ∧ H b = some ob ∧ isObj ob = true ∧ Q (.bl (decide (a = b))) H
def rIsNotO : R2 := fun x y H Q => ∃ a b oa ob, x = .ref a ∧ y = .ref b ∧ H a = some oa ∧ isObj oa = true ∧ H b = some ob ∧ isObj ob = true ∧ Q (.bl (!decide (a = b))) H
def rIsX : R2 := fun x y H Q => rIsW x y H Q ∨ rIsO x y H Q
def rIsNotX : R2 := fun x y H Q => rIsNotW x y H Q ∨ rIsNotO x y H Q
theorem op_isX : OpR X (compareOp .Is) rIsX := OpR.or op_isW op_is_ref
theorem op_isNotX : OpR X (compareOp .IsNot) rIsNotX := OpR.or op_isNotW op_isnot_ref
/-- ==: of single values, of data at any depth -/
def rEqX (K : PySem.W.Frag) : R2 := fun x y H Q => rEq x y H Q ∨ rEqD K x y H Q
def rNeX (K : PySem.W.Frag) : R2 := fun x y H Q => rNe x y H Q ∨ rNeD K x y H Q
theorem op_eqX (hu : X.A.units + 64 < cLine) : OpR X (compareOp .Eq) (rEqX X.K) := OpR.or op_eq (op_eqD hu)
theorem op_neX (hu : X.A.units + 64 < cLine) : OpR X (compareOp .NotEq) (rNeX X.K) := OpR.or op_ne (op_neD hu)
/-- a[i:j] of texts and lists -/
def rSlX (K : PySem.W.Frag) : V → Option Int → Option Int → Hp → VK → Prop := fun x lo hi H Q => rSlS x lo hi H Q ∨ rSlL K x lo hi H Q
theorem sl_X : SlR X (rSlX X.K) := SlR.or sl_str sl_list
def rIntX : List V → Hp → VK → Prop := fun xs H Q => ((∃ i, xs = [.int i] ∧ Q (.int i) H) ∨ ∃ k, xs = [.bl k] ∧ Q (.int (b2i k)) H) ∨ ∃ a n, xs = [.str a] ∧ PySem.intText? a = some n ∧ a.length ≤ 640 ∧ Q (.int n) H
end

section
variable {X : Cx}
def rJoin (K : PySem.W.Frag) : V → List V → Hp → VK → Prop := fun x xs H Q => ∃ a p, ∃ ys : List Str, x = .str a ∧ xs = [.ref p] ∧ (SqL K H p (ys.map V.str) ∨ SqT K H p (ys.map V.str)) ∧
  (ys.map (·.length)).sum + ys.length * a.length ≤ 16777216 ∧ Q (.str (Txt.join a ys)) H
def rStarts3 : V → List V → Hp → VK → Prop := fun x xs H Q => ∃ (a b : Str) (i : Int), x = .str a ∧ xs = [.str b, .int i] ∧ Q (.bl (Txt.startswith3 a b i)) H
/-- what a for walks: a list, a tuple, a text -/
def iAny (K : PySem.W.Frag) (te : TE) : TI := fun σ H R => iList K te σ H R ∨ iTup K te σ H R ∨ iStr te σ H R
theorem pi_any {tg e : Expr} {te : TE} (he : PE X e te) : PI X tg e (iAny X.K te) := ⟨fun pins s σ H R I h => by
  rcases h with h | h | h
  · exact (pi_list he).run pins s σ H R I h
  · exact (pi_tup he).run pins s σ H R I h
  · exact (pi_str he).run pins s σ H R I h⟩
end

/-! ### the reading, step by step: each ⟨nx, rt, bk, ct⟩ stands open -/
section
variable {nx bk ct : L2.St → Hp → Prop} {rt : VK} {σ : L2.St} {H : Hp} {Q : VK} {te ta tb tc : TE} {t u : TS} {tt tt' : TT} {K : PySem.W.Frag} {v x y : V} {i : Nat} {r : R2} {TA1 : TA}
theorem g_seq (h : t ⟨u ⟨nx, rt, bk, ct⟩, rt, bk, ct⟩ σ H) : tSeq t u ⟨nx, rt, bk, ct⟩ σ H := h
theorem g_next (h : nx σ H) : tNext ⟨nx, rt, bk, ct⟩ σ H := h
theorem g_brk (h : bk σ H) : tBreak ⟨nx, rt, bk, ct⟩ σ H := h
theorem g_cont (h : ct σ H) : tCont ⟨nx, rt, bk, ct⟩ σ H := h
theorem g_asg (h : te σ H fun x H1 => nx (σ.set i (some x)) H1) : tAsg te (gName i) ⟨nx, rt, bk, ct⟩ σ H := h
theorem g_drop (h : te σ H fun _ H1 => nx σ H1) : tDrop te ⟨nx, rt, bk, ct⟩ σ H := h
theorem g_ret (h : te σ H rt) : tRet te ⟨nx, rt, bk, ct⟩ σ H := h
theorem g_retN (h : rt .non H) : tRetN ⟨nx, rt, bk, ct⟩ σ H := h
theorem g_if (h : tt σ H fun b H1 => if b = true then t ⟨nx, rt, bk, ct⟩ σ H1 else u ⟨nx, rt, bk, ct⟩ σ H1) : tIfS tt t u ⟨nx, rt, bk, ct⟩ σ H := h
theorem g_var (h : σ[i]? = some (some v)) (q : Q v H) : tVar i σ H Q := ⟨v, h, q⟩
theorem g_c (q : Q v H) : tC v σ H Q := q
theorem g_op (h : ta σ H fun x H1 => tb σ H1 fun y H2 => r x y H2 Q) : tOp r ta tb σ H Q := h
theorem g_un {r : V → Hp → VK → Prop} (h : ta σ H fun x H1 => r x H1 Q) : tUn r ta σ H Q := h
theorem g_nil {Q : List V → Hp → Prop} (h : Q [] H) : tNil σ H Q := h
theorem g_cons {Q : List V → Hp → Prop} (h : ta σ H fun x H1 => TA1 σ H1 fun xs H2 => Q (x :: xs) H2) : tCons ta TA1 σ H Q := h
def TestK (x : V) (H : Hp) (Q : Bool → Hp → Prop) : Prop := ∃ k, x = .bl k ∧ Q k H
theorem g_test {Q : Bool → Hp → Prop} (h : te σ H fun x H' => TestK x H' Q) : tTest te σ H Q := h
theorem g_b {Q : Bool → Hp → Prop} (h : te σ H fun x H' => TestK x H' Q) : tB te σ H Q := h
theorem g_k {Q : Bool → Hp → Prop} {b : Bool} (q : Q b H) : TestK (.bl b) H Q := ⟨b, rfl, q⟩
def TruK (K : PySem.W.Frag) (x : V) (H : Hp) (Q : Bool → Hp → Prop) : Prop := ∃ k, TruV K x H k ∧ Q k H
theorem g_tru {Q : Bool → Hp → Prop} (h : te σ H fun x H' => TruK K x H' Q) : tTru K te σ H Q := h
theorem v_truB {Q : Bool → Hp → Prop} {b : Bool} (q : Q b H) : TruK K (.bl b) H Q := ⟨b, rfl, q⟩
theorem v_truN {Q : Bool → Hp → Prop} (q : Q false H) : TruK K .non H Q := ⟨_, rfl, q⟩
theorem v_truI {Q : Bool → Hp → Prop} {i : Int} (q : Q (i != 0) H) : TruK K (.int i) H Q := ⟨_, rfl, q⟩
theorem g_and {Q : Bool → Hp → Prop} (h : tt σ H fun c H1 => if c = true then tt' σ H1 Q else Q false H1) : tAnd tt tt' σ H Q := h
theorem g_or {Q : Bool → Hp → Prop} (h : tt σ H fun c H1 => if c = true then Q true H1 else tt' σ H1 Q) : tOr tt tt' σ H Q := h
theorem g_not {Q : Bool → Hp → Prop} (h : tt σ H fun c H1 => Q (!c) H1) : tNot tt σ H Q := h
theorem g_andV (h : ta σ H fun x H1 => TestK x H1 fun c H1 => if c = true then tb σ H1 Q else Q (.bl false) H1) : tAndV ta tb σ H Q := h
theorem g_orV (h : ta σ H fun x H1 => TestK x H1 fun c H1 => if c = true then Q (.bl true) H1 else tb σ H1 Q) : tOrV ta tb σ H Q := h
theorem g_notV (h : ta σ H fun x H1 => TestK x H1 fun c H1 => Q (.bl (!c)) H1) : tNotV ta σ H Q := h
theorem g_ifE (h : tt σ H fun c H1 => if c = true then ta σ H1 Q else tb σ H1 Q) : tIf tt ta tb σ H Q := h
theorem g_callB {r : List V → Hp → VK → Prop} (h : TA1 σ H fun vs H1 => r vs H1 Q) : tCB r TA1 σ H Q := h
theorem g_call {sp : Sp} {E : L2.St → XK} (h : TA1 σ H fun vs H1 => sp vs H1 Q (E σ)) : tCallSD sp [] E TA1 σ H Q := by
  show TA1 σ H fun vs H1 => sp (vs ++ []) H1 Q (E σ)
  simp only [List.append_nil]
  exact h
theorem g_tup (h : TA1 σ H fun xs H1 => xs.length ≤ sizeLine ∧ ∀ p, H1 p = none → Q (.ref p) (upd H1 p (.tup xs))) : tTup TA1 σ H Q := h
theorem g_lst (h : TA1 σ H fun xs H1 => xs.length ≤ sizeLine ∧ ∀ p, H1 p = none → Q (.ref p) (upd H1 p (.lst xs))) : tLst TA1 σ H Q := h
theorem g_small {xs : List V} {A : Prop} (h : xs.length ≤ 1000) (q : A) : xs.length ≤ sizeLine ∧ A := ⟨Nat.le_of_lt (small1000 h), q⟩
/-! by values -/
theorem v_addI {i j : Int} (q : Q (.int (i + j)) H) : rAddX K (.int i) (.int j) H Q := .inl ⟨_, _, rfl, rfl, q⟩
theorem v_addS {a b : Str} (h : a.length + b.length ≤ sizeLine) (q : Q (.str (a ++ b)) H) : rAddX K (.str a) (.str b) H Q := .inr (.inl ⟨_, _, rfl, rfl, h, q⟩)
theorem v_sub {i j : Int} (q : Q (.int (i - j)) H) : rSubX (.int i) (.int j) H Q := ⟨_, _, rfl, rfl, q⟩
theorem v_mulI {i j : Int} (h : CMul i j) (q : Q (.int (i * j)) H) : rMulX (.int i) (.int j) H Q := .inl ⟨_, _, rfl, rfl, h, q⟩
theorem v_mulS {z : Str} {n : Int} (h : MulS z n) (q : Q (.str (Txt.mul z n)) H) : rMulX (.str z) (.int n) H Q := .inr (.inl ⟨_, _, rfl, rfl, h, q⟩)
theorem v_mod {i j : Int} (h : 0 < j) (q : Q (.int (i % j)) H) : rModX (.int i) (.int j) H Q := .inl ⟨_, _, rfl, rfl, h, q⟩
theorem v_div {i j : Int} (h : CDiv i j) (q : Q (.int (i / j)) H) : rDivX (.int i) (.int j) H Q := .inl ⟨_, _, rfl, rfl, h, q⟩
theorem v_lt {i j : Int} (q : Q (.bl (decide (i < j))) H) : rLtX K (.int i) (.int j) H Q := .inl ⟨_, _, rfl, rfl, q⟩
theorem v_le {i j : Int} (q : Q (.bl (decide (i ≤ j))) H) : rLeX (.int i) (.int j) H Q := .inl ⟨_, _, rfl, rfl, q⟩
theorem v_leS {a b : Str} (q : Q (.bl (!decide (b.cps.toList < a.cps.toList))) H) : rLeX (.str a) (.str b) H Q := .inr ⟨_, _, rfl, rfl, q⟩
theorem v_gt {i j : Int} (q : Q (.bl (decide (j < i))) H) : rGtX (.int i) (.int j) H Q := ⟨_, _, rfl, rfl, q⟩
theorem v_ge {i j : Int} (q : Q (.bl (decide (j ≤ i))) H) : rGeX (.int i) (.int j) H Q := ⟨_, _, rfl, rfl, q⟩
theorem dS {a b : Str} : decide (V.str a = V.str b) = decide (a = b) := by
  by_cases h : a = b
  · rw [h]; simp
  · rw [decide_eq_false h, decide_eq_false]; intro z; exact h (V.str.inj z)
theorem dI {a b : Int} : decide (V.int a = V.int b) = decide (a = b) := by
  by_cases h : a = b
  · rw [h]; simp
  · rw [decide_eq_false h, decide_eq_false]; intro z; exact h (V.int.inj z)
theorem dB {a b : Bool} : decide (V.bl a = V.bl b) = decide (a = b) := by
  by_cases h : a = b
  · rw [h]; simp
  · rw [decide_eq_false h, decide_eq_false]; intro z; exact h (V.bl.inj z)
theorem v_eqI {i j : Int} (q : Q (.bl (decide (i = j))) H) : rEqX K (.int i) (.int j) H Q := .inl ⟨rfl, by rw [dI]; exact q⟩
theorem v_eqS {i j : Str} (q : Q (.bl (decide (i = j))) H) : rEqX K (.str i) (.str j) H Q := .inl ⟨rfl, by rw [dS]; exact q⟩
theorem v_eqB {i j : Bool} (q : Q (.bl (decide (i = j))) H) : rEqX K (.bl i) (.bl j) H Q := .inl ⟨rfl, by rw [dB]; exact q⟩
theorem v_neI {i j : Int} (q : Q (.bl (!decide (i = j))) H) : rNeX K (.int i) (.int j) H Q := .inl ⟨rfl, by rw [dI]; exact q⟩
theorem v_neS {i j : Str} (q : Q (.bl (!decide (i = j))) H) : rNeX K (.str i) (.str j) H Q := .inl ⟨rfl, by rw [dS]; exact q⟩
theorem v_neB {i j : Bool} (q : Q (.bl (!decide (i = j))) H) : rNeX K (.bl i) (.bl j) H Q := .inl ⟨rfl, by rw [dB]; exact q⟩
theorem v_isN (q : Q (.bl (decide (x = .non))) H) : rIsX x .non H Q := .inl ⟨rfl, q⟩
theorem v_isNotN (q : Q (.bl (!decide (x = .non))) H) : rIsNotX x .non H Q := .inl ⟨rfl, q⟩
theorem v_isB {b : Bool} (q : Q (.bl (decide (x = .bl b))) H) : rIsX x (.bl b) H Q := .inl ⟨rfl, q⟩
theorem v_isNotB {b : Bool} (q : Q (.bl (!decide (x = .bl b))) H) : rIsNotX x (.bl b) H Q := .inl ⟨rfl, q⟩
theorem v_eqV (h : scal x y = true) (q : Q (.bl (decide (x = y))) H) : rEqX K x y H Q := .inl ⟨h, q⟩
theorem v_neV (h : scal x y = true) (q : Q (.bl (!decide (x = y))) H) : rNeX K x y H Q := .inl ⟨h, q⟩
theorem v_eqD {d e : PyData} (h1 : Dp K H x d) (h2 : Dp K H y e) (s1 : SeqAt.shaped d = true) (s2 : SeqAt.shaped e = true) (q : Q (.bl (PyData.eqv d e)) H) : rEqX K x y H Q := .inr ⟨_, _, h1, h2, s1, s2, q⟩
theorem v_neD {d e : PyData} (h1 : Dp K H x d) (h2 : Dp K H y e) (s1 : SeqAt.shaped d = true) (s2 : SeqAt.shaped e = true) (q : Q (.bl (!PyData.eqv d e)) H) : rNeX K x y H Q := .inr ⟨_, _, h1, h2, s1, s2, q⟩
theorem v_inL {p : Addr} {xs : List V} (h : SqL K H p xs) (f1 : flatV x = true) (f2 : xs.all flatV = true) (q : Q (.bl (inV x xs)) H) : rInX K x (.ref p) H Q := .inl ⟨p, xs, rfl, .inl h, f1, f2, q⟩
theorem v_notInL {p : Addr} {xs : List V} (h : SqL K H p xs) (f1 : flatV x = true) (f2 : xs.all flatV = true) (q : Q (.bl (!inV x xs)) H) : rNotInX K x (.ref p) H Q := .inl ⟨p, xs, rfl, .inl h, f1, f2, q⟩
theorem v_cat {l b : Addr} {xs zs : List V} (h : H l = some (.lst xs)) (h2 : H b = some (.lst zs)) (hz : xs.length + zs.length ≤ sizeLine) (q : ∀ p, H p = none → Q (.ref p) (upd H p (.lst (xs ++ zs)))) : rAddX K (.ref l) (.ref b) H Q := .inr (.inr (.inl ⟨_, _, _, _, rfl, rfl, h, h2, hz, q⟩))
theorem v_inS {c : Nat} {z : Str} (q : Q (.bl (decide (c ∈ z.cps.toList))) H) : rInX K (.str ⟨#[c]⟩) (.str z) H Q := .inr ⟨_, _, rfl, rfl, q⟩
theorem v_notInS {c : Nat} {z : Str} (q : Q (.bl (!decide (c ∈ z.cps.toList))) H) : rNotInX K (.str ⟨#[c]⟩) (.str z) H Q := .inr ⟨_, _, rfl, rfl, q⟩
theorem v_inT {p : Addr} {xs : List V} (h : H p = some (.tup xs)) (f1 : flatV x = true) (f2 : xs.all flatV = true) (q : Q (.bl (inV x xs)) H) : rInX K x (.ref p) H Q := .inl ⟨p, xs, rfl, .inr (SqT.of h), f1, f2, q⟩
theorem v_notInT {p : Addr} {xs : List V} (h : H p = some (.tup xs)) (f1 : flatV x = true) (f2 : xs.all flatV = true) (q : Q (.bl (!inV x xs)) H) : rNotInX K x (.ref p) H Q := .inl ⟨p, xs, rfl, .inr (SqT.of h), f1, f2, q⟩
theorem v_lenS {z : Str} (h : z.length ≤ sizeLine) (q : Q (.int (z.length : Int)) H) : rLen K [.str z] H Q := ⟨_, _, rfl, ⟨h, rfl⟩, q⟩
theorem v_lenL {p : Addr} {xs : List V} (h : H p = some (.lst xs)) (q : Q (.int (xs.length : Int)) H) : rLen K [.ref p] H Q := ⟨_, _, rfl, .inl ⟨_, SqL.of h, rfl⟩, q⟩
theorem v_lenT {p : Addr} {xs : List V} (h : H p = some (.tup xs)) (q : Q (.int (xs.length : Int)) H) : rLen K [.ref p] H Q := ⟨_, _, rfl, .inr ⟨_, SqT.of h, rfl⟩, q⟩
theorem v_ixL {p : Addr} {xs : List V} {n : Int} (h : H p = some (.lst xs)) (e : atI xs n = some v) (q : Q v H) : rIx K (.ref p) (.int n) H Q := .inl ⟨_, _, _, _, rfl, rfl, SqL.of h, e, q⟩
theorem v_ixT {p : Addr} {xs : List V} {n : Int} (h : H p = some (.tup xs)) (e : atI xs n = some v) (q : Q v H) : rIx K (.ref p) (.int n) H Q := .inr (.inl ⟨_, _, _, _, rfl, rfl, SqT.of h, e, q⟩)
theorem v_ixS {z : Str} {n : Int} {c : Nat} (h : z.length ≤ sizeLine) (e : atI z.cps.toList n = some c) (q : Q (.str ⟨#[c]⟩) H) : rIx K (.str z) (.int n) H Q := .inr (.inr ⟨_, _, _, rfl, rfl, h, e, q⟩)
theorem v_intI {n : Int} (q : Q (.int n) H) : rIntX [.int n] H Q := .inl (.inl ⟨_, rfl, q⟩)
theorem v_intS {a : Str} {n : Int} (h : PySem.intText? a = some n) (hl : a.length ≤ 640) (q : Q (.int n) H) : rIntX [.str a] H Q := .inr ⟨_, _, rfl, h, hl, q⟩
/-! loops -/
def LoopG (J : It) (g : TG) (tb : TS) : TS := fun D σ H => ∃ W : Nat → Nat → L2.St → Hp → Prop, (∃ m, W 0 m σ H) ∧ ∀ i m σ H, W i m σ H →
  (J.stop i H ∧ D.nx σ H) ∨ (J.go i H ∧ ∃ N : L2.St → Hp → Prop, (∀ σ' H', N σ' H' → ∃ m', m' < m ∧ W (i + 1) m' σ' H') ∧ ∀ x H', J.yld i H x H' → g x σ H' fun σ2 H2 => tb { D with nx := N, ct := N, bk := D.nx } σ2 H2)
variable {wi : TI} {g : TG} {tb : TS}
theorem g_for (h : wi σ H fun J H1 => LoopG J g tb ⟨nx, rt, bk, ct⟩ σ H1) : tFor wi g tb ⟨nx, rt, bk, ct⟩ σ H := h
theorem g_name {S : L2.St → Hp → Prop} (h : S (σ.set i (some v)) H) : gName i v σ H S := h
def Rng1 (R : It → Hp → Prop) (vs : List V) (H : Hp) : Prop := ∃ j : Int, vs = [.int j] ∧ -(2 ^ 62) ≤ j ∧ j < 2 ^ 62 ∧ R (Itr 0 j.toNat) H
def Rng2 (R : It → Hp → Prop) (vs : List V) (H : Hp) : Prop := ∃ i j : Int, vs = [.int i, .int j] ∧ (-(2 ^ 62) ≤ i ∧ i < 2 ^ 62 ∧ -(2 ^ 62) ≤ j ∧ j < 2 ^ 62) ∧ R (Itr i (j - i).toNat) H
theorem g_rng1 {R : It → Hp → Prop} (h : TA1 σ H (Rng1 R)) : iRng1 TA1 σ H R := h
theorem g_rng2 {R : It → Hp → Prop} (h : TA1 σ H (Rng2 R)) : iRng2 TA1 σ H R := h
theorem g_rngN {R : It → Hp → Prop} {n : Nat} (hn : n < 2 ^ 62) (h : R (Itr 0 n) H) : Rng1 R [V.int (n : Int)] H := ⟨_, rfl, by omega, by omega, by rw [Int.toNat_natCast]; exact h⟩
theorem g_rngI {R : It → Hp → Prop} {n : Int} (h1 : -(2 ^ 62) ≤ n) (h2 : n < 2 ^ 62) (h : R (Itr 0 n.toNat) H) : Rng1 R [V.int n] H := ⟨_, rfl, h1, h2, h⟩
theorem g_rngT {R : It → Hp → Prop} {m n : Int} (h1 : -(2 ^ 62) ≤ m ∧ m < 2 ^ 62 ∧ -(2 ^ 62) ≤ n ∧ n < 2 ^ 62) (h : R (Itr m (n - m).toNat) H) : Rng2 R [V.int m, V.int n] H := ⟨_, _, rfl, h1, h⟩
def OvL (K : PySem.W.Frag) (R : It → Hp → Prop) (x : V) (H : Hp) : Prop := ∃ a, x = .ref a ∧ (∃ xs, SqL K H a xs) ∧ R (Itl K a) H
def OvT (K : PySem.W.Frag) (R : It → Hp → Prop) (x : V) (H : Hp) : Prop := ∃ a, x = .ref a ∧ (∃ xs, SqT K H a xs) ∧ R (Itt K a) H
def OvS (R : It → Hp → Prop) (x : V) (H : Hp) : Prop := ∃ z, x = .str z ∧ R (Its z) H
theorem gi_list {R : It → Hp → Prop} (h : te σ H (OvL K R)) : iAny K te σ H R := .inl h
theorem gi_tup {R : It → Hp → Prop} (h : te σ H (OvT K R)) : iAny K te σ H R := .inr (.inl h)
theorem gi_str {R : It → Hp → Prop} (h : te σ H (OvS R)) : iAny K te σ H R := .inr (.inr h)
theorem v_ovL {R : It → Hp → Prop} {p : Addr} {xs : List V} (h : SqL K H p xs) (q : R (Itl K p) H) : OvL K R (.ref p) H := ⟨p, rfl, ⟨xs, h⟩, q⟩
theorem v_ovT {R : It → Hp → Prop} {p : Addr} {xs : List V} (h : SqT K H p xs) (q : R (Itt K p) H) : OvT K R (.ref p) H := ⟨p, rfl, ⟨xs, h⟩, q⟩
theorem v_ovS {R : It → Hp → Prop} {z : Str} (q : R (Its z) H) : OvS R (.str z) H := ⟨z, rfl, q⟩
theorem l_range {lo : Int} {n : Nat} (Pv : Nat → L2.St → Hp → Prop) (h0 : Pv 0 σ H) (hs : ∀ i σ H, i < n → Pv i σ H → g (.int (lo + i)) σ H fun σ2 H2 => tb ⟨Pv (i + 1), rt, nx, Pv (i + 1)⟩ σ2 H2)
    (hd : ∀ σ H, Pv n σ H → nx σ H) : LoopG (Itr lo n) g tb ⟨nx, rt, bk, ct⟩ σ H := for_range (D := ⟨nx, rt, bk, ct⟩) Pv h0 hs hd
theorem l_list {a : Addr} {xs : List V} (Pv : Nat → L2.St → Hp → Prop) (h0 : Pv 0 σ H) (hl : ∀ i σ H, i ≤ xs.length → Pv i σ H → SqL K H a xs)
    (hs : ∀ i x σ H, xs[i]? = some x → Pv i σ H → g x σ H fun σ2 H2 => tb ⟨Pv (i + 1), rt, nx, Pv (i + 1)⟩ σ2 H2) (hd : ∀ σ H, Pv xs.length σ H → nx σ H) : LoopG (Itl K a) g tb ⟨nx, rt, bk, ct⟩ σ H := for_list (D := ⟨nx, rt, bk, ct⟩) Pv h0 hl hs hd
theorem l_tup {a : Addr} {xs : List V} (Pv : Nat → L2.St → Hp → Prop) (h0 : Pv 0 σ H) (hl : ∀ i σ H, i ≤ xs.length → Pv i σ H → SqT K H a xs)
    (hs : ∀ i x σ H, xs[i]? = some x → Pv i σ H → g x σ H fun σ2 H2 => tb ⟨Pv (i + 1), rt, nx, Pv (i + 1)⟩ σ2 H2) (hd : ∀ σ H, Pv xs.length σ H → nx σ H) : LoopG (Itt K a) g tb ⟨nx, rt, bk, ct⟩ σ H := for_tup (D := ⟨nx, rt, bk, ct⟩) Pv h0 hl hs hd
theorem l_str {zs : List Nat} (Pv : Nat → L2.St → Hp → Prop) (h0 : Pv 0 σ H) (hs : ∀ i c σ H, zs[i]? = some c → Pv i σ H → g (.str ⟨#[c]⟩) σ H fun σ2 H2 => tb ⟨Pv (i + 1), rt, nx, Pv (i + 1)⟩ σ2 H2)
    (hd : ∀ σ H, Pv zs.length σ H → nx σ H) : LoopG (Its ⟨zs.toArray⟩) g tb ⟨nx, rt, bk, ct⟩ σ H := by
  refine ⟨fun i m σ H => m = zs.length - i ∧ i ≤ zs.length ∧ Pv i σ H, ⟨zs.length, by simp, Nat.zero_le _, h0⟩, ?_⟩
  rintro i m σ H ⟨rfl, hi, p⟩
  by_cases hlt : i < zs.length
  · refine .inr ⟨(by show i < zs.toArray.size; simpa using hlt), Pv (i + 1), fun σ' H' p' => ⟨zs.length - (i + 1), by omega, rfl, hlt, p'⟩, fun x H' y => ?_⟩
    obtain ⟨e, c, hc, ex⟩ := y
    subst e ex
    exact hs i c σ _ (by simpa using hc) p
  · have e : i = zs.length := by omega
    subst e
    exact .inl ⟨(by show zs.toArray.size ≤ zs.length; simp), hd σ H p⟩
theorem g_while (h : ∃ W : Nat → L2.St → Hp → Prop, (∃ m, W m σ H) ∧ ∀ m σ H, W m σ H →
    tt σ H fun b H1 => if b = true then ∃ N : L2.St → Hp → Prop, (∀ σ' H', N σ' H' → ∃ m', m' < m ∧ W m' σ' H') ∧ tb ⟨N, rt, nx, N⟩ σ H1 else nx σ H1) : tWhile tt tb ⟨nx, rt, bk, ct⟩ σ H := h
theorem g_turn {W : Nat → L2.St → Hp → Prop} {m : Nat} (h : tb ⟨fun σ' H' => ∃ m', m' < m ∧ W m' σ' H', rt, nx, fun σ' H' => ∃ m', m' < m ∧ W m' σ' H'⟩ σ H) :
    ∃ N : L2.St → Hp → Prop, (∀ σ' H', N σ' H' → ∃ m', m' < m ∧ W m' σ' H') ∧ tb ⟨N, rt, nx, N⟩ σ H := ⟨_, fun _ _ z => z, h⟩
/-! methods of lists, texts, stores -/
theorem g_bm {T : String} {r : V → List V → Hp → VK → Prop} (h : ta σ H fun x H1 => tyV K T x H1 ∧ TA1 σ H1 fun xs H2 => r x xs H2 Q) : tBM K T r ta TA1 σ H Q := h
theorem g_bm0 {T : String} {r : V → List V → Hp → VK → Prop} (h : ta σ H fun x H1 => tyV K T x H1 ∧ r x [] H1 Q) : tBM0 K T r ta σ H Q := h
theorem g_tyL {p : Addr} {xs : List V} {A : Prop} (h : H p = some (.lst xs)) (q : A) : tyV K "list" (.ref p) H ∧ A := ⟨.inl ⟨rfl, _, SqL.of h⟩, q⟩
theorem g_tyS {z : Str} {A : Prop} (q : A) : tyV K "str" (.str z) H ∧ A := ⟨rfl, q⟩
theorem v_append {l : Addr} {xs : List V} (h : H l = some (.lst xs)) (hl : xs.length < sizeLine) (q : Q .non (upd H l (.lst (xs ++ [y])))) : rAppend (.ref l) [y] H Q := ⟨_, _, _, rfl, rfl, h, hl, q⟩
theorem g_m1 {r : V → List V → Hp → VK → Prop} (h : ta σ H fun x H1 => (∃ a, x = .str a) ∧ tc σ H1 fun y H2 => r x [y] H2 Q) : tM1 r ta tc σ H Q := h
theorem g_isS {z : Str} {A : Prop} (q : A) : (∃ a, V.str z = .str a) ∧ A := ⟨⟨_, rfl⟩, q⟩
theorem v_join {p : Addr} {a : Str} {ys : List Str} (h : H p = some (.lst (ys.map V.str))) (hz : (ys.map (·.length)).sum + ys.length * a.length ≤ 16777216) (q : Q (.str (Txt.join a ys)) H) : rJoin K (.str a) [.ref p] H Q := ⟨_, _, _, rfl, rfl, .inl (SqL.of h), hz, q⟩
theorem v_starts3 {a b : Str} {n : Int} (q : Q (.bl (Txt.startswith3 a b n)) H) : rStarts3 (.str a) [.str b, .int n] H Q := ⟨_, _, _, rfl, rfl, q⟩
theorem g_sl {r : V → Option Int → Option Int → Hp → VK → Prop} {tl th : TO} (h : te σ H fun x H1 => tl σ H1 fun l H2 => th σ H2 fun u H3 => r x l u H3 Q) : tSl r te tl th σ H Q := h
theorem g_no {Q : Option Int → Hp → Prop} (h : Q none H) : tNoPart σ H Q := h
def PartK (x : V) (H : Hp) (Q : Option Int → Hp → Prop) : Prop := ∃ i, x = .int i ∧ Q (some i) H
theorem g_part {Q : Option Int → Hp → Prop} (h : te σ H fun x H1 => PartK x H1 Q) : tPart te σ H Q := h
theorem g_isI {n : Int} {Q : Option Int → Hp → Prop} (h : Q (some n) H) : PartK (.int n) H Q := ⟨_, rfl, h⟩
theorem v_slS {z : Str} {lo hi : Option Int} (h : z.length ≤ sizeLine) (q : Q (.str (cutS z lo hi)) H) : rSlX K (.str z) lo hi H Q := .inl ⟨_, rfl, h, q⟩
theorem v_slL {p : Addr} {xs : List V} {lo hi : Option Int} (h : H p = some (.lst xs)) (q : ∀ p, H p = none → Q (.ref p) (upd H p (.lst (cutV xs lo hi)))) : rSlX K (.ref p) lo hi H Q := .inr ⟨_, _, rfl, SqL.of h, q⟩
theorem g_make {C : Addr} {sp : Sp} {E : XK} (h : TA1 σ H fun vs H1 => ∀ x dx, H1 x = none → H1 dx = none → dx ≠ x → sp (.ref x :: vs) (upd (upd H1 dx (.own x)) x (.ins C dx [])) (fun v H2 => v = .non ∧ Q (.ref x) H2) E) : tMake C sp [] E TA1 σ H Q := by
  show TA1 σ H fun vs H1 => ∀ x dx, H1 x = none → H1 dx = none → dx ≠ x → sp (.ref x :: (vs ++ [])) (upd (upd H1 dx (.own x)) x (.ins C dx [])) (fun v H2 => v = .non ∧ Q (.ref x) H2) E
  simp only [List.append_nil]
  exact h
def FldK (K : PySem.W.Frag) (f : Str) (x : V) (H : Hp) (Q : VK) : Prop := ∃ a C dx fs v, x = .ref a ∧ H a = some (.ins C dx fs) ∧ Cls K C ∧ NoAttr K C f ∧ fs.lookup f = some v ∧ Q v H
theorem g_fld {f : Str} (h : ta σ H fun x H1 => FldK K f x H1 Q) : tFld K ta f σ H Q := h
theorem v_fld {a C dx : Addr} {fs : List (Str × V)} {f : Str} (h : H a = some (.ins C dx fs)) (c : Cls K C) (n : NoAttr K C f) (l : fs.lookup f = some v) (q : Q v H) : FldK K f (.ref a) H Q := ⟨_, _, _, _, _, rfl, h, c, n, l, q⟩
def SfldK (K : PySem.W.Frag) (f : Str) (x y : V) (H : Hp) (S : Hp → Prop) : Prop := ∃ a C dx fs, x = .ref a ∧ H a = some (.ins C dx fs) ∧ Cls K C ∧ NoAttr K C f ∧ fs.length < 1000 ∧ S (upd H a (.ins C dx (putF f y fs)))
theorem g_sfld {tv : TE} {f : Str} (h : tv σ H fun y H1 => ta σ H1 fun x H2 => SfldK K f x y H2 (nx σ)) : sFld K ta tv f ⟨nx, rt, bk, ct⟩ σ H := h
theorem v_sfld {a C dx : Addr} {fs : List (Str × V)} {f : Str} {S : Hp → Prop} (h : H a = some (.ins C dx fs)) (c : Cls K C) (n : NoAttr K C f) (l : fs.length < 1000) (q : S (upd H a (.ins C dx (putF f y fs)))) :
    SfldK K f (.ref a) y H S := ⟨_, _, _, _, rfl, h, c, n, l, q⟩
theorem g_asgG (h : te σ H fun x H1 => g x σ H1 nx) : tAsg te g ⟨nx, rt, bk, ct⟩ σ H := h
theorem g_sub {S : L2.St → Hp → Prop} {to ti : TE} {ts : TSet} (h : to σ H fun o H1 => ti σ H1 fun i H2 => ts o i v H2 fun H3 => S σ H3) : gSub to ti ts v σ H S := h
theorem v_setL {p : Addr} {xs : List V} {n : Int} {j : Nat} {S : Hp → Prop} (h : H p = some (.lst xs)) (e : ixN xs.length n = some j) (q : S (upd H p (.lst (xs.set j v)))) : rSetL (.ref p) (.int n) v H S := ⟨_, _, _, _, rfl, rfl, h, e, q⟩
theorem g_gtup {S : L2.St → Hp → Prop} {n : Nat} {t : TGs} {a : Addr} {xs : List V} (h : H a = some (.tup xs)) (l : xs.length = n) (q : t xs σ H S) : gTup K n t (.ref a) σ H S := ⟨a, xs, rfl, SqT.of h, l, q⟩
theorem g_gcons {S : L2.St → Hp → Prop} {t : TG} {u : TGs} {r : List V} (h : t v σ H fun σ' H' => u r σ' H' S) : gCons t u (v :: r) σ H S := ⟨v, r, rfl, h⟩
theorem g_gnil {S : L2.St → Hp → Prop} (h : S σ H) : gNil [] σ H S := ⟨rfl, h⟩
theorem g_cut (Mid : L2.St → Hp → Prop) (h1 : t ⟨Mid, rt, bk, ct⟩ σ H) (h2 : ∀ σ' H', Mid σ' H' → u ⟨nx, rt, bk, ct⟩ σ' H') : C8.tCut t u ⟨nx, rt, bk, ct⟩ σ H := ⟨Mid, h1, h2⟩
theorem g_thr (h : t ⟨u ⟨nx, rt, bk, ct⟩, rt, bk, ct⟩ σ H) : C8.tCut t u ⟨nx, rt, bk, ct⟩ σ H := ⟨_, h, fun _ _ z => z⟩
theorem v_lenSq {p : Addr} {xs : List V} (h : SqL K H p xs) (q : Q (.int (xs.length : Int)) H) : rLen K [.ref p] H Q := ⟨_, _, rfl, .inl ⟨_, h, rfl⟩, q⟩
theorem v_ixSq {p : Addr} {xs : List V} {n : Int} (h : SqL K H p xs) (e : atI xs n = some v) (q : Q v H) : rIx K (.ref p) (.int n) H Q := .inl ⟨_, _, _, _, rfl, rfl, h, e, q⟩
theorem up_new {p a : Addr} {o u : HO} (h : H a = some u) (n : H p = none) : upd H p o a = some u := by rw [upd_ne (ne_of_none h n)]; exact h
theorem same_new {p : Addr} {o : HO} (n : H p = none) : Same H (upd H p o) := fun _ _ h => up_new h n
/-- all stays but what stands at d -/
def Sb (d : Addr) (H H' : Hp) : Prop := ∀ b o, b ≠ d → H b = some o → H' b = some o
theorem Sb.refl {d : Addr} : Sb d H H := fun _ _ _ h => h
theorem Sb.trans {d : Addr} {H1 H2 : Hp} (a : Sb d H H1) (b : Sb d H1 H2) : Sb d H H2 := fun c o n h => b c o n (a c o n h)
theorem Sb.upd {d : Addr} {o : HO} : Sb d H (L2.upd H d o) := fun b _ n h => by rw [upd_ne n]; exact h
theorem Same.sb {d : Addr} {H1 : Hp} (a : Same H H1) : Sb d H H1 := fun c o _ h => a c o h
theorem atN {α : Type} {xs : List α} {i : Nat} {x : α} {n : Int} (e : n = (i : Int)) (h : xs[i]? = some x) : atI xs n = some x := by rw [e]; exact atI_nat h
theorem iteNT {A B : Prop} (h : B) : if (!true) = true then A else B := by
  rw [if_neg (by decide)]
  exact h
theorem iteNF {A B : Prop} (h : A) : if (!false) = true then A else B := by
  rw [if_pos (by decide)]
  exact h
theorem g_meth {C : Addr} {m : Str} {sp : Sp} {E : L2.St → XK} (h : ta σ H fun x H1 => ∃ a dx fs, x = .ref a ∧ H1 a = some (.ins C dx fs) ∧ fs.lookup m = none ∧ TA1 σ H1 fun vs H2 => sp (x :: vs) H2 Q (E σ)) : tMethD C m sp [] E ta TA1 σ H Q := by
  show ta σ H fun x H1 => ∃ a dx fs, x = .ref a ∧ H1 a = some (.ins C dx fs) ∧ fs.lookup m = none ∧ TA1 σ H1 fun vs H2 => sp (x :: (vs ++ [])) H2 Q (E σ)
  simp only [List.append_nil]
  exact h
theorem v_find {a b : Str} (q : Q (.int (Txt.find a b)) H) : rFind (.str a) [.str b] H Q := ⟨_, _, rfl, rfl, q⟩
theorem v_listL {p : Addr} {ys : List V} (h : SqL K H p ys) (q : ∀ l, H l = none → Q (.ref l) (upd H l (.lst ys))) : rListX K [.ref p] H Q := .inl ⟨_, _, rfl, .inl h, q⟩
theorem v_listT {p : Addr} {ys : List V} (h : SqT K H p ys) (q : ∀ l, H l = none → Q (.ref l) (upd H l (.lst ys))) : rListX K [.ref p] H Q := .inl ⟨_, _, rfl, .inr h, q⟩
/-! comprehensions -/
def LcG (J : It) (g : TG) (tt : TT) (te : TE) (σ0 : L2.St) (vs : List Nat) (D : Addr) (H1 : Hp) (Qd : Hp → Prop) : Prop := ∃ W : Nat → Nat → Hp → Prop, (∃ m, W 0 m (upd H1 D (.lst []))) ∧ ∀ i m H, W i m H →
      (J.stop i H ∧ Qd H) ∨ (J.go i H ∧ ∃ Nx : Hp → Prop, (∀ H', Nx H' → ∃ m', m' < m ∧ W (i + 1) m' H') ∧ ∀ x H', J.yld i H x H' → g x (wipe σ0 vs) H' fun σ2 H2 => wipe σ2 vs = wipe σ0 vs ∧ tt σ2 H2 fun b H3 =>
        if b = true then te σ2 H3 fun y H4 => ∃ acc, H4 D = some (.lst acc) ∧ acc.length < sizeLine ∧ Nx (upd H4 D (.lst (acc ++ [y]))) else Nx H3)
theorem g_lc {vs : List Nat} {g : TG} (h : wi σ H fun J H1 => ∀ D, H1 D = none → LcG J g tt te σ vs D H1 (Q (.ref D))) : tLc wi g tt te vs σ H Q := h
/-- a comprehension's new item -/
def PutC (D : Addr) (y : V) (H4 : Hp) (S : Hp → Prop) : Prop := ∃ acc, H4 D = some (.lst acc) ∧ acc.length < sizeLine ∧ S (upd H4 D (.lst (acc ++ [y])))
theorem v_put {D : Addr} {acc : List V} {S : Hp → Prop} (h : H D = some (.lst acc)) (hl : acc.length < sizeLine) (q : S (upd H D (.lst (acc ++ [y])))) : PutC D y H S := ⟨acc, h, hl, q⟩
theorem c_range {lo : Int} {n : Nat} {g : TG} {vs : List Nat} {D : Addr} {Qd : Hp → Prop} (Pv : Nat → Hp → Prop) (h0 : Pv 0 (upd H D (.lst [])))
    (hs : ∀ i H, i < n → Pv i H → g (.int (lo + i)) (wipe σ vs) H fun σ2 H2 => wipe σ2 vs = wipe σ vs ∧ tt σ2 H2 fun b H3 => if b = true then te σ2 H3 fun y H4 => PutC D y H4 (Pv (i + 1)) else Pv (i + 1) H3) (hd : ∀ H, Pv n H → Qd H) : LcG (Itr lo n) g tt te σ vs D H Qd := lc_range Pv h0 hs hd
theorem c_list {a : Addr} {xs : List V} {g : TG} {vs : List Nat} {D : Addr} {Qd : Hp → Prop} (Pv : Nat → Hp → Prop) (h0 : Pv 0 (upd H D (.lst []))) (hl : ∀ i H, i ≤ xs.length → Pv i H → SqL K H a xs)
    (hs : ∀ i x H, xs[i]? = some x → Pv i H → g x (wipe σ vs) H fun σ2 H2 => wipe σ2 vs = wipe σ vs ∧ tt σ2 H2 fun b H3 => if b = true then te σ2 H3 fun y H4 => PutC D y H4 (Pv (i + 1)) else Pv (i + 1) H3) (hd : ∀ H, Pv xs.length H → Qd H) : LcG (Itl K a) g tt te σ vs D H Qd := lc_list Pv h0 hl hs hd
theorem c_tup {a : Addr} {xs : List V} {g : TG} {vs : List Nat} {D : Addr} {Qd : Hp → Prop} (Pv : Nat → Hp → Prop) (h0 : Pv 0 (upd H D (.lst []))) (hl : ∀ i H, i ≤ xs.length → Pv i H → SqT K H a xs)
    (hs : ∀ i x H, xs[i]? = some x → Pv i H → g x (wipe σ vs) H fun σ2 H2 => wipe σ2 vs = wipe σ vs ∧ tt σ2 H2 fun b H3 => if b = true then te σ2 H3 fun y H4 => PutC D y H4 (Pv (i + 1)) else Pv (i + 1) H3) (hd : ∀ H, Pv xs.length H → Qd H) : LcG (Itt K a) g tt te σ vs D H Qd := lc_tup Pv h0 hl hs hd
theorem g_yes {Q : Bool → Hp → Prop} (h : Q true H) : tYes σ H Q := h
theorem g_chain {tb' : TE} {r' : R2} (h : ta σ H fun x H1 => tb' σ H1 fun y H2 => r x y H2 fun z H3 => TestK z H3 fun k H3 => if k = true then tc σ H3 fun w' H4 => r' y w' H4 Q else Q (.bl false) H3) : tChain r r' ta tb' tc σ H Q := h
/-! isinstance of single values -/
def isI : V → Bool
  | .int _ => true
  | .bl _ => true
  | _ => false
def isS : V → Bool
  | .str _ => true
  | _ => false
def isB : V → Bool
  | .bl _ => true
  | _ => false
theorem isi_flat {c : String} {b : Bool} (h : match x with | .non => kitB "NoneType" c = some b | .bl _ => kitB "bool" c = some b | .int _ => kitB "int" c = some b | .str _ => kitB "str" c = some b | _ => False) (q : Q (.bl b) H) : rIsi K [x, .ty c] H Q := by
  cases x with
  | non => exact ⟨_, _, _, _, b, rfl, .ty c, .base .non, kit_ty h, q⟩
  | bl z => exact ⟨_, _, _, _, b, rfl, .ty c, .base (.bl z), kit_ty h, q⟩
  | int z => exact ⟨_, _, _, _, b, rfl, .ty c, .base (.int z), kit_ty h, q⟩
  | str z => exact ⟨_, _, _, _, b, rfl, .ty c, .base (.str z), kit_ty h, q⟩
  | _ => exact h.elim
theorem v_isiI (f : flatV x = true) (q : Q (.bl (isI x)) H) : rIsi K [x, .ty "int"] H Q := by
  refine isi_flat ?_ q
  cases x with
  | non => exact (by decide +kernel : kitB "NoneType" "int" = some false)
  | bl z => exact (by decide +kernel : kitB "bool" "int" = some true)
  | int z => exact (by decide +kernel : kitB "int" "int" = some true)
  | str z => exact (by decide +kernel : kitB "str" "int" = some false)
  | _ => exact absurd (show false = true from f) Bool.false_ne_true
theorem v_isiS (f : flatV x = true) (q : Q (.bl (isS x)) H) : rIsi K [x, .ty "str"] H Q := by
  refine isi_flat ?_ q
  cases x with
  | non => exact (by decide +kernel : kitB "NoneType" "str" = some false)
  | bl z => exact (by decide +kernel : kitB "bool" "str" = some false)
  | int z => exact (by decide +kernel : kitB "int" "str" = some false)
  | str z => exact (by decide +kernel : kitB "str" "str" = some true)
  | _ => exact absurd (show false = true from f) Bool.false_ne_true
theorem v_isiB (f : flatV x = true) (q : Q (.bl (isB x)) H) : rIsi K [x, .ty "bool"] H Q := by
  refine isi_flat ?_ q
  cases x with
  | non => exact (by decide +kernel : kitB "NoneType" "bool" = some false)
  | bl z => exact (by decide +kernel : kitB "bool" "bool" = some true)
  | int z => exact (by decide +kernel : kitB "int" "bool" = some false)
  | str z => exact (by decide +kernel : kitB "str" "bool" = some false)
  | _ => exact absurd (show false = true from f) Bool.false_ne_true
theorem v_isiL {p : Addr} {xs : List V} (h : H p = some (.lst xs)) (q : Q (.bl true) H) : rIsi K [.ref p, .ty "list"] H Q := ⟨_, _, _, _, true, rfl, .ty _, .base (.lst h), kit_ty (by decide +kernel), q⟩
theorem v_isiO {p C C' dx : Addr} {fs : List (Str × V)} {b : Bool} (h : H p = some (.ins C dx fs)) (cl : Cls K C) (f : InsF K C) (k : PySem.W.kitOne K (.ref C) (.ref C') = some b) (q : Q (.bl b) H) : rIsi K [.ref p, .ref C'] H Q :=
  ⟨_, _, _, _, b, rfl, .own C', .base (.ins h cl f.ha f.hn f.htk f.hm), k, q⟩
theorem v_isiOT {p C dx : Addr} {fs : List (Str × V)} {b : Bool} {c : String} (h : H p = some (.ins C dx fs)) (cl : Cls K C) (f : InsF K C) (k : PySem.W.kitOne K (.ref C) (.type c) = some b) (q : Q (.bl b) H) : rIsi K [.ref p, .ty c] H Q :=
  ⟨_, _, _, _, b, rfl, .ty c, .base (.ins h cl f.ha f.hn f.htk f.hm), k, q⟩
def MethK (C : Addr) (m : Str) (x : V) (H1 : Hp) (S : Hp → Prop) : Prop := ∃ a dx fs, x = .ref a ∧ H1 a = some (.ins C dx fs) ∧ fs.lookup m = none ∧ S H1
theorem g_meth1 {C : Addr} {m : Str} {sp : Sp} {E : L2.St → XK} (h : ta σ H fun x H1 => MethK C m x H1 fun H1 => TA1 σ H1 fun vs H2 => sp (x :: vs) H2 Q (E σ)) : tMethD C m sp [] E ta TA1 σ H Q := g_meth h
theorem v_meth {C a dx : Addr} {m : Str} {fs : List (Str × V)} {S : Hp → Prop} (h : H a = some (.ins C dx fs)) (l : fs.lookup m = none) (q : S H) : MethK C m (.ref a) H S := ⟨_, _, _, rfl, h, l, q⟩
theorem g_orL {te' : TE} (h : te σ H Q) : tEor te te' σ H Q := .inl h
theorem g_orR {te' : TE} (h : te' σ H Q) : tEor te te' σ H Q := .inr h
theorem g_lstRg {a b : TE} (h : a σ H fun x H1 => b σ H1 fun y H2 => ∃ i j, x = .int i ∧ y = .int j ∧ RgOk i j ∧ ∀ q, H2 q = none → Q (.ref q) (upd H2 q (.lst (rgV i j)))) : tLstRg (tRg2 a b) σ H Q := h
theorem ite_same {c A : Prop} [Decidable c] (h : A) : if c then A else A := by
  split <;> exact h
end
end G

/-! an own exception over own classes over ValueError, whose __init__ says super().__init__(f'{..}: {..}') and keeps its two values -/
namespace PySem
namespace FaX
open PySem.W PySem.Calls PyProof.Rows PySem.HandSPX
def fA : Arguments := { posonlyargs := [], args := [{ arg := "self", annotation := none, pos := ⟨6, 17, 6, 21⟩ }, { arg := "place", annotation := none, pos := ⟨6, 23, 6, 28⟩ }, { arg := "reason", annotation := none, pos := ⟨6, 30, 6, 36⟩ }], vararg := none, kwonlyargs := [], kw_defaults := [], kwarg := none, defaults := [] }
def fB : List Stmt := [
  .Expr (.Call (.Attribute (.Call (.Name "super" ⟨7, 8, 7, 13⟩) [] [] ⟨7, 8, 7, 15⟩) "__init__" ⟨7, 8, 7, 24⟩) [.JoinedStr [.FormattedValue (.Name "place" ⟨7, 28, 7, 33⟩) (-1) none ⟨7, 27, 7, 34⟩, .Constant (.str ": ") 0 ⟨7, 34, 7, 36⟩, .FormattedValue (.Name "reason" ⟨7, 37, 7, 43⟩) (-1) none ⟨7, 36, 7, 44⟩] ⟨7, 25, 7, 45⟩] [] ⟨7, 8, 7, 46⟩) ⟨7, 8, 7, 46⟩,
  .Assign [.Attribute (.Name "self" ⟨8, 8, 8, 12⟩) "place" ⟨8, 8, 8, 18⟩] (.Name "place" ⟨8, 21, 8, 26⟩) ⟨8, 8, 8, 26⟩,
  .Assign [.Attribute (.Name "self" ⟨9, 8, 9, 12⟩) "reason" ⟨9, 8, 9, 19⟩] (.Name "reason" ⟨9, 22, 9, 28⟩) ⟨9, 8, 9, 28⟩]
def fS : Scope := { kind := .function, names := [(PySem.Str.ofString "self", .local), (PySem.Str.ofString "place", .local), (PySem.Str.ofString "reason", .local), (PySem.Str.ofString "__class__", .free), (PySem.Str.ofString "super", .globalImplicit)], isGenerator := false, isCoroutine := false, more := [] }
/-- what the written part says of Fault, at C, and of its __init__, at fI -/
structure FaTxt (P : Program) (K : Frag) (mg : Str → Option Value) (C fI : Addr) : Prop where
  gC : mg "Fault" = some (.ref C)
  gS : mg "super" = none
  ini : excInitIn K C He.veBase "ValueError.__new__" = true
  cd : ∃ cd, clsIn K C = some cd ∧ refsVE cd.mro = true ∧ cd.hasDict = true
  sa : findIn K (.ref C) "__setattr__" = some (some (.builtin "object.__setattr__"))
  ga : findIn K (.ref C) "__getattribute__" = some (some (.builtin "BaseException.__getattribute__"))
  gg : findIn K (.ref C) "__getattr__" = some none
  noP : findIn K (.ref C) "place" = some none
  noR : findIn K (.ref C) "reason" = some none
  iC : findIn K (.ref C) "__init__" = some (some (.ref fI))
  tC : typeIn K (.ref fI) = some (.type "function")
  kC : keepIn K (.ref C) = true
  exC : subIn K (.ref C) (.type "BaseException") = some true
  vB : subIn K (.ref C) (.type "ValueError") = some true
  tyC : typeIn K (.ref C) = some (.type "type")
  hdC : hasDictIn K C = true
  te : exmOne K (.ref C) (.ref C) = some true
  sup : ks_superIn K C C "__init__" = some (some (.builtin "ValueError.__init__"))
  self : mroIn K C (.ref C) = some true
  opq : nsIn K cStatics "thirdparty.any" = some none
  top : (P.main.scope.names.lookup ("super" : Str)).isSome = false
  fn : ∃ (oc : Value) (od : Option Addr) (doc pm : Value) (an : Option Addr) (cda : Addr) (ct : Value) (osl : Array (Option Value)) (cc : Addr) (cdo : Obj) (vs : Array Value) (tf : Tok) (co : Obj),
    K.lookup fI = some ⟨oc, od, .func (ksFn "__init__" "Fault.__init__" fA fB fS .none .none doc pm an (.ref cda) ct cc), osl⟩ ∧ codeIn K (.ref cda) "Fault.__init__" = true ∧
    K.lookup cda = some cdo ∧ cdo.data = .fields vs ∧ vs[2]? = some (.str P.main.file tf) ∧ K.lookup cc = some co ∧ co.data = .cell (some (.ref C))
/-- what __init__ leaves of a fresh exception at x -/
structure InitEnd (h h' : Heap) (x C dx t1 : Addr) (v u : Value) : Prop where
  keep : ∀ b o, b ≠ x → h.get? b = some o → h'.get? b = some o
  obj : h'.get? x = some { cls := .ref C, dict := some dx, data := .fields #[.ref t1, .none, .none, .none, .bool false, .none] }
  dbig : h.objs.size ≤ dx
  dne : dx ≠ x
  ns : h'.Ns1 dx (fun y => if y = "reason" then some u else if y = "place" then some v else none)
section
variable {prog : Program} {w : World} {A : Around} {E : Value → Shared → Prop} {R : Result → Shared → Prop} {s : Shared} {K : Frag} {mg mb : Str → Option Value} {C fI : Addr}
theorem ldK {M : Model} {s : Shared} {name : Str} {scope : Scope} {L a cc : Addr} {cd : Value} {m : Str → Option Value} {x : Str} {pos : Pos} {v : Value} {Q : Value → Shared → Prop} {A : Around} {E : Value → Shared → Prop} (hn : s.heap.Ns L m) (hv : m x = some v) (h : Q v s)
    (hk : scope.kind = .function := by rfl) (hl : (ksEnv name scope L a cd cc).kindOf x = some .local := by rfl) (hd : (x == ("__debug__" : Str)) = false := by decide) :
    wpAny M A (eval (.Name x pos) (ksEnv name scope L a cd cc)) Q E s := wpAny_Name (wpAny_loadName_local hk hl hn hv h) hd
theorem fault_init (T : FaTxt prog K mg C fI) {x t0 : Addr} {i : Int} {r : Str} {ti tr : Tok} (X : K.In s.heap) (hlim : s.heap.NoLimit) (hG : s.heap.Ns mainGlobals mg) (hB : s.heap.Ns builtinsNs mb) (hmb : mb "super" = some (.type "super"))
    (hx : s.heap.get? x = some (excO C t0)) (hnx : K.lookup x = none) (hroom : A.depth < recursionLimit) (hi : i.natAbs.log2 < 1920) (hr : r.length ≤ 1000) (hj : (Str.empty ++ toString i ++ ": " ++ r : Str).length ≤ sizeLine)
    (hq : ∀ h' tk dx t1, InitEnd s.heap h' x C dx t1 (.int i ti) (.str r tr) → R (.ok (.ret .none)) { s with heap := h', toks := tk }) :
    codeAny (model prog w) A (.call (.ref fI) ⟨[.ref x, .int i ti, .str r tr], []⟩) R s := by
  obtain ⟨oc, od, doc, pm, an, cda, ct, osl, cc, cdo, vs, tf, co, ho, hcd, hcda, hcdd, hvs, hcc, hccd⟩ := T.fn
  obtain ⟨cd, hcl, hbm, hhd⟩ := T.cd
  have hxL : s.heap.objs.size ≠ x := Nat.ne_of_gt (Heap.lt_size hx)
  refine ks_codeAny_call_defAt (fd := ksFn "__init__" "Fault.__init__" fA fB fS .none .none doc pm an (.ref cda) ct cc) (body := fB) (binds := [("self", .ref x), ("place", .int i ti), ("reason", .str r tr)]) hroom (X _ _ ho) rfl hlim (codeRec_of X hcd) rfl
    (BindsTo.of_eq (by first | rfl | with_unfolding_all rfl)) (by show ∀ x ∈ fS.names, x.2 ≠ .cell; decide) (by show ∀ y ∈ ([("self", .ref x), ("place", .int i ti), ("reason", .str r tr)] : List (Str × Value)), fS.names.lookup y.1 = some .local; intro y hy; simp only [List.mem_cons, List.not_mem_nil, or_false] at hy; rcases hy with rfl | rfl | rfl <;> rfl) (fun h₁ hn k1 => ?_)
  have X1 : K.In h₁ := X.keeps k1
  show wpAt (model prog w) (A.deeper (ksEnv "Fault.__init__" fS s.heap.objs.size fI (.ref cda) cc)) (.func fB (ksEnv "Fault.__init__" fS s.heap.objs.size fI (.ref cda) cc)) (execs fB (ksEnv "Fault.__init__" fS s.heap.objs.size fI (.ref cda) cc)) _ _ _
  unfold fB
  refine ks_wpAt_execs_cons (ks_wpAt_Expr_any (ks_wpAt_MethodCall ?_))
  refine ks_wpAt_super_base (ar := { arg := "self", annotation := none, pos := ⟨6, 17, 6, 21⟩ }) rfl rfl (by decide) rfl (X1 _ _ ho) rfl rfl rfl (X1 _ _ hcda) hcdd hvs (by simp) T.top ?_
  obtain ⟨oD, hD1, hD2⟩ : ∃ oD, h₁.get? C = some oD ∧ oD.data = .cls cd := by
    have hD := hcl
    unfold clsIn at hD
    split at hD
    · rename_i c d cd' sl ho
      cases hD
      exact ⟨_, X1 _ _ ho, rfl⟩
    · cases hD
  refine ks_loadName_global rfl rfl (loadGlobal_builtin (hG.keeps k1) T.gS (hB.keeps k1) hmb ⟨rfl, ?_⟩)
  refine wpAny_loadName_free (c := cc) rfl rfl rfl ⟨_, X1 _ _ hcc, hccd⟩ ?_
  refine wpAny_loadName_local rfl rfl hn (v := .ref x) (by first | rfl | with_unfolding_all rfl | kernel_rfl) ?_
  refine ks_wpAny_isType_cls hD1 hD2 ⟨rfl, ?_⟩
  have hx1 : h₁.get? x = some (excO C t0) := k1 _ _ hx
  refine ks_wpAny_call_super hD1 hD2 hx1 rfl (fun c e => by cases e) (looks_mroIn X1 T.self) (fun h2 e2 k2 => ?_)
  have X2 : K.In h2 := X1.keeps k2
  have hx2 : h2.get? x = some (excO C t0) := k2 _ _ hx1
  have hC2 : Looks (model prog w) h2 (mroOf (.ref C)) cd.mro := fun A Q E s k q => wpAny_bind ((looks_clsIn X2 hcl) A _ E s k (wpAny_pure q))
  have hxC : x ≠ C := fun e => by
    rw [e, hD1] at hx1
    cases hx1
    cases hD2
  have I2 : InstAt h2 x (excO C t0) C none := ⟨hx2, rfl, rfl, trivial⟩
  have hsup : alongIn K "__init__" ((cd.mro.dropWhile (· != .ref C)).drop 1) = some (some (.builtin "ValueError.__init__")) := by
    have h := T.sup
    unfold ks_superIn at h
    rw [hcl] at h
    exact h
  refine kxs_getMethod kxs_ValueError e2 (looks_opaque X2 T.opq) hC2 rfl X2 hsup (I2.type.andThen (looks_subIn X2 T.vB)) hxC (by decide) ?_
  obtain ⟨u, hu⟩ : ∃ u, u = h2.objs.size := ⟨_, rfl⟩
  obtain ⟨h3, eh3⟩ : ∃ h3, h3 = h2.push (kxs_mw "ValueError.__init__" x) := ⟨_, rfl⟩
  have k3 : ∀ b o, h2.get? b = some o → h3.get? b = some o := fun b o e => by rw [eh3]; exact Heap.get?_push_of_some _ e
  have hu3 : h3.get? u = some (kxs_mw "ValueError.__init__" x) := by rw [eh3, hu]; exact Heap.get?_push_at rfl rfl
  rw [← hu, ← eh3]
  show wpAny _ _ (callWith _ (.ref u) [] (backTo _ (starEach [_] _)) []) _ _ _
  refine kxs_callWith (i := "ValueError.__init__") (x := x) rfl (evalArgs_plain ?_)
  have k03 : ∀ b o, s.heap.get? b = some o → h3.get? b = some o := fun b o e => k3 _ _ (k2 _ _ (k1 _ _ e))
  have m1 : (fun y => List.lookup y (List.reverse [(("self" : Str), Value.ref x), ("place", .int i ti), ("reason", .str r tr)])) "self" = some (.ref x) := by first | rfl | with_unfolding_all rfl | kernel_rfl
  have m2 : (fun y => List.lookup y (List.reverse [(("self" : Str), Value.ref x), ("place", .int i ti), ("reason", .str r tr)])) "place" = some (.int i ti) := by first | rfl | with_unfolding_all rfl | kernel_rfl
  have m3 : (fun y => List.lookup y (List.reverse [(("self" : Str), Value.ref x), ("place", .int i ti), ("reason", .str r tr)])) "reason" = some (.str r tr) := by first | rfl | with_unfolding_all rfl | kernel_rfl
  generalize (fun y => List.lookup y (List.reverse [(("self" : Str), Value.ref x), ("place", .int i ti), ("reason", .str r tr)])) = m at hn m1 m2 m3
  have n3 : h3.Ns s.heap.objs.size m := hn.keeps fun b o e => k3 _ _ (k2 _ _ e)
  have la : ∀ x y : Str, (x ++ y).length = x.length + y.length := fun x y => by
    show (x.cps ++ y.cps).size = _
    rw [Array.size_append]
    rfl
  have hj' := hj
  rw [la, la, la] at hj'
  have hx3 : h3.get? x = some (excO C t0) := k3 _ _ hx2
  have L3 : s.heap.objs.size < h3.objs.size := by
    obtain ⟨o, es, ep, e, _⟩ := n3
    exact Heap.lt_size e
  refine spliced_cons (wpAny_JoinedStr (pos := ⟨7, 25, 7, 45⟩) ?_)
  -- the call of the wrapper, whatever the text
  have rest : ∀ (z : Value) (t4 : Nat), wpAny (model prog w) (A.deeper (ksEnv "Fault.__init__" fS s.heap.objs.size fI (.ref cda) cc)) (call (.ref u) [z]) (fun _ s' => wpAt (model prog w) (A.deeper (ksEnv "Fault.__init__" fS s.heap.objs.size fI (.ref cda) cc)) (.func fB (ksEnv "Fault.__init__" fS s.heap.objs.size fI (.ref cda) cc))
      (execs [.Assign [.Attribute (.Name "self" ⟨8, 8, 8, 12⟩) "place" ⟨8, 8, 8, 18⟩] (.Name "place" ⟨8, 21, 8, 26⟩) ⟨8, 8, 8, 26⟩, .Assign [.Attribute (.Name "self" ⟨9, 8, 9, 12⟩) "reason" ⟨9, 8, 9, 19⟩] (.Name "reason" ⟨9, 22, 9, 28⟩) ⟨9, 8, 9, 28⟩] (ksEnv "Fault.__init__" fS s.heap.objs.size fI (.ref cda) cc))
      (fun f s' => R (.ok (.ret (match f with | .ret v => v | _ => .none))) s')
      (fun e s' => wpAny (model prog w) (A.deeper (ksEnv "Fault.__init__" fS s.heap.objs.size fI (.ref cda) cc)) (leaving (ksEnv "Fault.__init__" fS s.heap.objs.size fI (.ref cda) cc) e) (fun _ s'' => R (.error e) s'') (fun e' s'' => R (.error e') s'') s') s')
      (fun e s' => wpAny (model prog w) (A.deeper (ksEnv "Fault.__init__" fS s.heap.objs.size fI (.ref cda) cc)) (leaving (ksEnv "Fault.__init__" fS s.heap.objs.size fI (.ref cda) cc) e) (fun _ s'' => R (.error e) s'') (fun e' s'' => R (.error e') s'') s') { s with heap := h3, toks := t4 } := by
    intro z t4
    obtain ⟨nm, N', qn, bs, bm, hdct, sn, sub, ab, col, dd, c0, c1, c2, c3, c5, hC, hT⟩ := excInit_of (X2.keeps k3) T.ini
    obtain ⟨hp0, g, dr, tk0, os⟩ := s
    refine wpAny_call (codeAny_of_tree ?_)
    show wpAny _ _ (callAny (.ref u) ⟨[z], []⟩) _ _ _
    simp only [callAny]
    refine wpAny_bind (wpAny_load hu3 ?_)
    simp only [kxs_mw, show (Value.type "method-wrapper" == Value.type "method" || Value.type "method-wrapper" == Value.type "builtin_function_or_method" || Value.type "method-wrapper" == Value.type "method-wrapper") = true by decide, if_true]
    refine KFB.if_so (by decide) ?_
    refine wpAny_bind (check_bound_init F.excBase_ValueError.toExcCallFacts hC hx3 rfl ?_)
    refine wpAny_bind (wpAny_pure (wpAny_pure ?_))
    refine ⟨plainId_quiet F.excBase_ValueError.init.plain _, codeAny_builtin F.excBase_ValueError.initEntry ?_⟩
    refine exc_init_tree (cls := .ref C) (t0 := t0) (dv := none) (c2 := .none) (c3 := .none) (b4 := .bool false) hx3 (by rw [sizeLine_eq]; show 1 ≤ 16777216; decide) fun h4 k4 hx4 ht4 => ?_
    have n4 : h4.Ns hp0.objs.size m := by
      obtain ⟨oL, es, ep, hL, r⟩ := n3
      exact ⟨oL, es, ep, k4 _ _ hxL hL, r⟩
    have L4 : hp0.objs.size < h4.objs.size := by
      obtain ⟨o, es, ep, e, _⟩ := n4
      exact Heap.lt_size e
    have kb : ∀ {h h' : Heap}, K.In h → (∀ b o, b ≠ x → h.get? b = some o → h'.get? b = some o) → K.In h' := fun X k a o e => k a o (fun z => by rw [z, hnx] at e; cases e) (X a o e)
    have X4 : K.In h4 := kb (X2.keeps k3) k4
    refine wpAt_of_wpAny (wpAny_execs_cons (plainObj_wpAny_Assign_Attribute ?_))
    refine ldK n4 m2 (ldK n4 m1 ?_)
    refine set_plain X4 (ox := { cls := .ref C, dict := none, data := .fields #[.ref h3.objs.size, .none, .none, .none, .bool false, .none] }) (od := none) ⟨hx4, rfl, rfl, trivial⟩ T.sa ?_
    refine exc_osa X4 hx4 hcl hbm hhd T.noP (fun h5 tk5 dx k5 dn dne hx5 hn5 => ?_)
    have X5 : K.In h5 := kb X4 k5
    have dn' : h4.objs.size ≤ dx := dn
    have n5 : h5.Ns hp0.objs.size m := by
      obtain ⟨oL, es, ep, hL, r⟩ := n4
      exact ⟨oL, es, ep, k5 _ _ hxL hL, r⟩
    refine wpAny_execs_cons (plainObj_wpAny_Assign_Attribute ?_)
    refine ldK n5 m3 (ldK n5 m1 ?_)
    have hw5 : Within (fun y : Str => if y = "place" then some (Value.int i ti) else none) ["place"] := fun y hy => by
      by_cases e : y = "place"
      · rw [e]; exact List.mem_cons_self
      · exact absurd (if_neg e) hy
    obtain ⟨oD5, es5, ep5, hoD5, hdD5, _⟩ := hn5.count hw5
    refine set_plain X5 (ox := { cls := .ref C, dict := some dx, data := .fields #[.ref h3.objs.size, .none, .none, .none, .bool false, .none] }) (od := some oD5) ⟨hx5, rfl, rfl, hoD5⟩ T.sa ?_
    refine OEX.osa_old X5 hx5 hn5 hw5 (by decide) hcl hbm hhd T.noR (fun h6 tk6 k6 hn6 => ?_)
    refine wpAny_execs_nil ?_
    refine hq h6 tk6 dx h3.objs.size ⟨fun b o hb e => ?_, k6 _ _ (Ne.symm dne) hx5, by show hp0.objs.size ≤ dx; omega, dne, hn6⟩
    have lt : b < hp0.objs.size := Heap.lt_size e
    exact k6 _ _ (Nat.ne_of_lt (Nat.lt_of_lt_of_le (Nat.lt_trans lt L4) dn')) (k5 _ _ hb (k4 _ _ hb (k03 _ _ e)))
  refine wpAny_FormattedValue_plain (ldK n3 m2 (wpAny_formatField_int hi ?_))
  refine ⟨toString i, _, rfl, by rw [la]; omega, ?_⟩
  refine Constant_str ?_
  refine ⟨": ", _, rfl, by rw [la, la]; omega, ?_⟩
  refine wpAny_FormattedValue_plain (ldK n3 m3 (wpAny_formatField_str ?_ ?_ (by rw [sizeLine_eq]; omega)))
  · refine ⟨r, _, rfl, hj, ?_⟩
    refine ⟨hj, ?_⟩
    refine spliced_nil ⟨hu3, ?_⟩
    exact rest _ _
  · refine ⟨r, _, rfl, hj, ?_⟩
    refine ⟨hj, ?_⟩
    refine spliced_nil ⟨hu3, ?_⟩
    exact rest _ _
end
end FaX
end PySem

namespace PySem
namespace FaX
open PySem.W PySem.Calls PyProof.Rows PySem.HandSPX
/-- a made Fault -/
structure Made (h h' : Heap) (e C d : Addr) (v u : Value) : Prop where
  keep : ∀ b o, h.get? b = some o → h'.get? b = some o
  new : h.objs.size ≤ e
  obj : ∃ oe vs, h'.get? e = some oe ∧ oe.cls = .ref C ∧ oe.dict = some d ∧ oe.data = .fields vs ∧ vs[1]? = some .none
  dbig : h.objs.size ≤ d
  dne : d ≠ e
  ns : h'.Ns1 d (fun y => if y = "reason" then some u else if y = "place" then some v else none)
section
variable {prog : Program} {w : World} {A : Around} {E : Value → Shared → Prop} {R : Result → Shared → Prop} {s : Shared} {K : Frag} {mg mb : Str → Option Value} {C fI : Addr}
theorem fault_made (T : FaTxt prog K mg C fI) {i : Int} {r : Str} {ti tr : Tok} (X : K.In s.heap) (hlim : s.heap.NoLimit) (hG : s.heap.Ns mainGlobals mg) (hB : s.heap.Ns builtinsNs mb) (hmb : mb "super" = some (.type "super"))
    (hroom : A.depth + 1 < recursionLimit) (hi : i.natAbs.log2 < 1920) (hr : r.length ≤ 1000) (hj : (Str.empty ++ toString i ++ ": " ++ r : Str).length ≤ sizeLine)
    (hq : ∀ h' tk e d, Made s.heap h' e C d (.int i ti) (.str r tr) → R (.ok (.ret (.ref e))) { s with heap := h', toks := tk }) :
    codeAny (model prog w) A (.call (.ref C) ⟨[.int i ti, .str r tr], []⟩) R s := by
  obtain ⟨nm, N', qn, bs, bm, hdct, sn, sub, ab, col, dd, c0, c1, c2, c3, c5, hC, hT⟩ := excInit_of X T.ini
  obtain ⟨hp, g, dr, tk, os⟩ := s
  have k : ∀ b o, hp.get? b = some o → ((hp.push (kdv_tup [.int i ti, .str r tr])).push (excO C hp.objs.size)).get? b = some o := fun b o e => Heap.get?_push_of_some _ (Heap.get?_push_of_some _ e)
  have hget : ((hp.push (kdv_tup [.int i ti, .str r tr])).push (excO C hp.objs.size)).get? (hp.objs.size + 1) = some (excO C hp.objs.size) := by heap_get
  have hnx : K.lookup (hp.objs.size + 1) = none := by
    cases e : K.lookup (hp.objs.size + 1) with
    | none => rfl
    | some o =>
      have z : hp.get? (hp.objs.size + 1) = some o := X _ _ e
      exact absurd (Nat.lt_of_succ_lt (Heap.lt_size z)) (Nat.lt_irrefl _)
  refine call_own F.excBase_ValueError hT hC (looks_findIn X T.iC) (fun self => bind_fn X self T.tC) (by rw [sizeLine_eq]; show 2 ≤ 16777216; decide) ?_
  refine fault_init (s := ⟨(hp.push (kdv_tup [.int i ti, .str r tr])).push (excO C hp.objs.size), g, dr, tk, os⟩) T (X.keeps k) (hlim.keeps k) (hG.keeps k) (hB.keeps k) hmb hget hnx ?_ hi hr hj fun h' tk' dx t1 ⟨k', hx, dn, dne, hns⟩ => ?_
  · show A.depth + 1 < recursionLimit
    exact hroom
  · have old : ∀ b o, hp.get? b = some o → h'.get? b = some o := fun b o e => k' b o (Nat.ne_of_lt (Nat.lt_succ_of_lt (Heap.lt_size e))) (k b o e)
    have z : hp.objs.size + 1 + 1 ≤ dx := by
      first
        | (simpa only [Heap.size_push] using dn)
        | exact dn
        | (have q := dn; rw [Heap.size_push, Heap.size_push] at q; exact q)
    exact ⟨rfl, hq h' tk' (hp.objs.size + 1) dx ⟨old, Nat.le_succ _, ⟨_, _, hx, rfl, rfl, rfl, rfl⟩, Nat.le_trans (Nat.le_trans (Nat.le_succ _) (Nat.le_succ _)) z, dne, hns⟩⟩
end
end FaX
end PySem
namespace L2
open PySem PySem.Spec PyProof.Rows
def faD (i : Int) (r : Str) : List (Str × V) := [("reason", .str r), ("place", .int i)]
theorem relO_fault {v u : V} {v' u' : Value} (r : RelV v v') (r2 : RelV u u') (f : Str) : RelO (List.lookup f [(("reason" : Str), u), ("place", v)]) (if f = "reason" then some u' else if f = "place" then some v' else none) := by
  rw [lookup_put, lookup_put]
  by_cases h : f = "reason"
  · rw [if_pos h, if_pos h]
    exact r2
  · rw [if_neg h, if_neg h]
    by_cases h2 : f = "place"
    · rw [if_pos h2, if_pos h2]
      exact r
    · rw [if_neg h2, if_neg h2]
      exact True.intro
section
variable {X : Cx} {C fI : Addr}
/-- Fault(a, b) -/
def tMkF (C : Addr) (ta : TA) : St → Hp → XK → Prop := fun σ H Q => ta σ H fun vs H1 => ∃ (i : Int) (r : Str), vs = [.int i, .str r] ∧ i.natAbs < 1000000000 ∧ r.length ≤ 1000 ∧ ∀ d, H1 d = none → Q (.ref C) (some d) (upd H1 d (.xd (faD i r)))
theorem pmk_fault {a b : Expr} {ta : TA} {p pos : Pos} {k : Nat} (T : PySem.FaX.FaTxt X.prog X.K X.mg C fI) (hr : Room k X.A) (hk : 1 ≤ k) (ha : PA X [a, b] ta) (hg : Gl X "Fault" := by rfl)
    (he : starEach (a :: [b]) X.env = (false, eval a X.env) :: starEach [b] X.env := by rfl) (hpl : (backTo pos (starEach [b] X.env)).any (·.1) = false := by rfl) :
    PMk X (.Call (.Name "Fault" p) [a, b] [] pos) (tMkF C ta) := by
  intro pins s σ H Q I h
  refine wpAny_Call_Name_kw (ld_glob I hg T.gC ?_)
  refine PySem.W.callWith_K (h₀ := X.base) I.ok.mod.kin T.kC (thn (ha.run pos pins s σ H _ I h) fun us s1 hh => ?_) he hpl
  obtain ⟨vs, H1, I1, r1, i, r, ev, hi, hrl, q1⟩ := hh
  subst ev
  refine ⟨I1.kIn, ?_⟩
  cases r1 with
  | cons rv rn =>
    rename_i v' us'
    cases rn with
    | cons ru rn =>
      rename_i u' us'
      cases rn
      obtain ⟨ti, rfl⟩ := id rv
      obtain ⟨tr, rfl⟩ := id ru
      show wpAny _ _ (call (.ref C) [.int i ti, .str r tr]) _ _ _
      have hlim := I1.nolimit
      have hlog : i.natAbs.log2 < 1920 := by
        have e : i.natAbs.log2 < 30 := by
          by_cases z : i.natAbs = 0
          · rw [z]; decide
          · exact (Nat.log2_lt z).mpr (Nat.lt_trans hi (by decide))
        omega
      have la : ∀ x y : Str, (x ++ y).length = x.length + y.length := fun x y => by
        show (x.cps ++ y.cps).size = _
        rw [Array.size_append]
        rfl
      have hj : (Str.empty ++ toString i ++ ": " ++ r : Str).length ≤ sizeLine := by
        have e := int_text_length_le (k := 1920) (by decide) hlog
        rw [la, la, la, PySem.ofString_length (toString i), sizeLine_eq]
        show 0 + _ + 2 + _ ≤ 16777216
        omega
      obtain ⟨mb, hmb1, hmb2⟩ := I1.ok.mod.blt
      obtain ⟨hp, g, dr, tk, os⟩ := s1
      refine wpAny_call (PySem.FaX.fault_made T I1.kIn hlim (I1.ok.mod.glob.keeps I1.bk) (hmb1.keeps I1.bk) ((hmb2 "super" (by decide)).trans (by first | rfl | decide +kernel | kernel_rfl)) (by have := hr.dp; omega) hlog hrl hj fun h' tk' e d M => ?_)
      show MkP X pins σ Q (.ref e) ⟨h', g, dr, tk', os⟩
      obtain ⟨oe, fv, hoe, hc, hd, hdat, h1⟩ := M.obj
      have hns := M.ns
      obtain ⟨G', g1, g2⟩ := restrict h' fun b => decide (b ≠ e)
      have gk : ∀ b, b ≠ e → G'.get? b = h'.get? b := fun b hb => g1 b (decide_eq_true hb)
      have ge : G'.get? e = none := g2 e (by simp)
      have old : ∀ b o, hp.get? b = some o → G'.get? b = some o := fun b o q => (gk b (Nat.ne_of_lt (Nat.lt_of_lt_of_le (Heap.lt_size q) M.new))).trans (M.keep b o q)
      have ob : ObjOk X.prog X.w (upd H1 d (.xd (faD i r))) G' d (.xd (faD i r)) :=
        ⟨_, hns.at (fun o q => (gk d M.dne).trans q), fun f => relO_fault (v := .int i) (u := .str r) rv ru f⟩
      have J : Inv X pins σ (upd H1 d (.xd (faD i r))) ⟨G', g, dr, tk', os⟩ := I1.laid (t' := tk') old M.dbig ob
      refine ⟨e, oe, fv, ⟨G', g, dr, tk', os⟩, _, .ref C, some d, rfl, J, fun b o q => ?_, ge, hoe, ⟨hc, hd⟩, hdat, h1, ?_, rfl, I1.bare, raises_own T.exC T.tyC, q1 d (I1.hok.fresh M.dbig)⟩
      · by_cases hb : b = e
        · have q' : G'.get? b = some o := q
          rw [hb, ge] at q'; cases q'
        · exact (gk b hb).symm.trans q
      · rw [upd_ne (Ne.symm M.dne)]
        exact I1.hok.fresh M.new
end
end L2
namespace G
open PySem PySem.W PyProof.Rows
/-! ### the head's facts of a class Fault -/
abbrev FnC := Option (Str × Str × Arguments × FuncBody × Scope × Addr × List Str × Addr)
def fnC (K : Frag) (p : Str × Option Str) : FnC := match K.lookup (He.fAd K p) with
  | some ⟨_, _, .func fd, _⟩ => some (fd.name, fd.qualname, fd.params, fd.body, fd.scope, fd.globals, fd.closure.map (·.1), fd.builtins)
  | _ => none
def fnF : FnC := some ("__init__", "Fault.__init__", FaX.fA, .stmts FaX.fB, FaX.fS, mainGlobals, ["__class__"], builtinsNs)
def isNo : Value → Bool
  | .none => true
  | _ => false
theorem isNo_ok {v : Value} (h : isNo v = true) : v = .none := by cases v <;> first | rfl | cases h
def cellB (K : Frag) (cc C : Addr) : Bool := match K.lookup cc with
  | some co => (match co.data with
    | .cell (some (.ref a)) => decide (a = C)
    | _ => false)
  | none => false
theorem cellB_ok {K : Frag} {cc C : Addr} (h : cellB K cc C = true) : ∃ co, K.lookup cc = some co ∧ co.data = .cell (some (.ref C)) := by
  unfold cellB at h
  split at h
  · rename_i co e
    split at h
    · rename_i a e2
      exact ⟨co, e, by rw [e2, of_decide_eq_true h]⟩
    · cases h
  · cases h
def fileB (K : Frag) (cda : Addr) (file : Str) : Bool := match K.lookup cda with
  | some co => (match co.data with
    | .fields vs => (match (vs[2]? : Option Value) with
      | some (Value.str f _) => decide (f = file)
      | _ => false)
    | _ => false)
  | none => false
theorem fileB_ok {K : Frag} {cda : Addr} {file : Str} (h : fileB K cda file = true) : ∃ co vs tf, K.lookup cda = some co ∧ co.data = .fields vs ∧ vs[2]? = some (.str file tf) := by
  unfold fileB at h
  split at h
  · rename_i co e
    split at h
    · rename_i vs e2
      split at h
      · rename_i f tf e3
        exact ⟨co, vs, tf, e, e2, by rw [e3, of_decide_eq_true h]⟩
      · cases h
    · cases h
  · cases h
def codB (K : Frag) (v : Value) (file : Str) : Bool := match v with
  | .ref cda => codeIn K (.ref cda) "Fault.__init__" && fileB K cda file
  | _ => false
def cloB (K : Frag) (l : List (Str × Addr)) (C : Addr) : Bool := match l with
  | [(_, cc)] => cellB K cc C
  | _ => false
def clB (K : Frag) (C : Addr) : Bool := match clsIn K C with
  | some cd => HandSPX.refsVE cd.mro && cd.hasDict
  | none => false
def fuB (K : Frag) (file : Str) : Bool := match K.lookup (He.fAd K ("Fault", some "__init__")) with
  | some ⟨_, _, .func fd, _⟩ => isNo fd.defaults && (isNo fd.kwdefaults && (codB K fd.code file && cloB K fd.closure (He.ga K "Fault")))
  | _ => false
def faBs (file : Str) (K : Frag) : List Bool := [
  He.eqO (nsIn K mainGlobals "Fault") (some (some (.ref (He.ga K "Fault")))),
  He.eqO (nsIn K mainGlobals "super") (some none),
  excInitIn K (He.ga K "Fault") He.veBase "ValueError.__new__",
  clB K (He.ga K "Fault"),
  He.eqO (findIn K (.ref (He.ga K "Fault")) "__setattr__") (some (some (.builtin "object.__setattr__"))),
  He.eqO (findIn K (.ref (He.ga K "Fault")) "__getattribute__") (some (some (.builtin "BaseException.__getattribute__"))),
  He.eqO (findIn K (.ref (He.ga K "Fault")) "__getattr__") (some none),
  He.eqO (findIn K (.ref (He.ga K "Fault")) "place") (some none),
  He.eqO (findIn K (.ref (He.ga K "Fault")) "reason") (some none),
  He.eqO (findIn K (.ref (He.ga K "Fault")) "__init__") (some (some (.ref (He.fAd K ("Fault", some "__init__"))))),
  decide (typeIn K (.ref (He.fAd K ("Fault", some "__init__"))) = some (.type "function")),
  keepIn K (.ref (He.ga K "Fault")),
  decide (subIn K (.ref (He.ga K "Fault")) (.type "BaseException") = some true),
  decide (subIn K (.ref (He.ga K "Fault")) (.type "ValueError") = some true),
  decide (typeIn K (.ref (He.ga K "Fault")) = some (.type "type")),
  hasDictIn K (He.ga K "Fault"),
  decide (exmOne K (.ref (He.ga K "Fault")) (.ref (He.ga K "Fault")) = some true),
  He.eqO (ks_superIn K (He.ga K "Fault") (He.ga K "Fault") "__init__") (some (some (.builtin "ValueError.__init__"))),
  decide (mroIn K (He.ga K "Fault") (.ref (He.ga K "Fault")) = some true),
  He.eqO (nsIn K cStatics "thirdparty.any") (some none),
  fuB K file]
theorem faTxt_of {P : Program} {K : Frag} {h : Heap} {mg : Str → Option Value} (X : K.In h) (Gm : h.Ns mainGlobals mg) (e : fnC K ("Fault", some "__init__") = fnF) (c : (faBs P.main.file K).all id = true) (ht : (P.main.scope.names.lookup ("super" : Str)).isSome = false) :
    FaX.FaTxt P K mg (He.ga K "Fault") (He.fAd K ("Fault", some "__init__")) := by
  have at_ : ∀ (i : Nat) (b : Bool), (faBs P.main.file K)[i]? = some b → b = true := fun i b hb => List.all_eq_true.mp c b (List.mem_of_getElem? hb)
  have hcl : clB K (He.ga K "Fault") = true := at_ 3 _ rfl
  have hfu : fuB K P.main.file = true := at_ 20 _ rfl
  refine {
    gC := mg_of X Gm (He.eqO_ok (at_ 0 _ rfl))
    gS := mg_none_of X Gm (He.eqO_ok (at_ 1 _ rfl))
    ini := at_ 2 _ rfl
    cd := ?_
    sa := He.eqO_ok (at_ 4 _ rfl)
    ga := He.eqO_ok (at_ 5 _ rfl)
    gg := He.eqO_ok (at_ 6 _ rfl)
    noP := He.eqO_ok (at_ 7 _ rfl)
    noR := He.eqO_ok (at_ 8 _ rfl)
    iC := He.eqO_ok (at_ 9 _ rfl)
    tC := of_decide_eq_true (at_ 10 _ rfl)
    kC := at_ 11 _ rfl
    exC := of_decide_eq_true (at_ 12 _ rfl)
    vB := of_decide_eq_true (at_ 13 _ rfl)
    tyC := of_decide_eq_true (at_ 14 _ rfl)
    hdC := at_ 15 _ rfl
    te := of_decide_eq_true (at_ 16 _ rfl)
    sup := He.eqO_ok (at_ 17 _ rfl)
    self := of_decide_eq_true (at_ 18 _ rfl)
    opq := He.eqO_ok (at_ 19 _ rfl)
    top := ht
    fn := ?_ }
  · unfold clB at hcl
    split at hcl
    · rename_i cd e
      obtain ⟨h1, h2⟩ := He.ba hcl
      exact ⟨cd, e, h1, h2⟩
    · cases hcl
  · unfold fuB at hfu
    unfold fnC at e
    split at hfu
    · rename_i oc od fd osl lk
      rw [lk] at e
      obtain ⟨n1, n2, n3, n4, n5, n6, n7, n8, n9, n10, n11, n12, n13, n14, n15⟩ := fd
      obtain ⟨b1, b2⟩ := He.ba hfu
      obtain ⟨b3, b4⟩ := He.ba b2
      obtain ⟨b5, b6⟩ := He.ba b4
      clear hfu b2 b4
      have c1 : n8 = .none := isNo_ok b1
      have c3 : n9 = .none := isNo_ok b3
      have c5 : codB K n13 P.main.file = true := b5
      have c6 : cloB K n7 (He.ga K "Fault") = true := b6
      clear b1 b3 b5 b6
      have e2 : (some (n1, n2, n3, n4, n5, n6, n7.map (·.1), n15) : FnC) = fnF := e
      unfold fnF at e2
      simp only [Option.some.injEq, Prod.mk.injEq] at e2
      obtain ⟨rfl, rfl, rfl, rfl, rfl, rfl, e7, rfl⟩ := e2
      subst c1 c3
      unfold codB at c5
      split at c5
      · rename_i cda
        obtain ⟨k1, k2⟩ := He.ba c5
        obtain ⟨cdo, vs, tf, f1, f2, f3⟩ := fileB_ok k2
        unfold cloB at c6
        split at c6
        · rename_i nm cc
          have e7' : nm = "__class__" := by
            have := e7
            simp at this
            exact this
          subst e7'
          obtain ⟨co, g1, g2⟩ := cellB_ok c6
          exact ⟨oc, od, _, _, _, cda, _, osl, cc, cdo, vs, tf, co, lk, k1, f1, f2, f3, g1, g2⟩
        · cases c6
      · cases c5
    · cases hfu
/-! ### the hook -/
def asY (g : Addr → Option Obj) (n : Nat) : List Addr := cStatics :: He.asD g n
abbrev AlY : Type := He.AlD × FnC × Bool
def obsY (n : Nat) (fa : List He.Fa) (fn : List He.DefD) (ex : Frag → Bool) (file : Str) (g : Addr → Option Obj) : AlY :=
  (He.obsD fa fn (He.frT g (asY g n)), fnC (He.frT g (asY g n)) ("Fault", some "__init__"), ex (He.frT g (asY g n)) && (faBs file (He.frT g (asY g n))).all id)
def valY (fn : List He.DefD) : AlY := (He.valD fn, fnF, true)
structure SaysY (fa : List He.Fa) (fn : List He.DefD) (ex : Frag → Bool) (file : Str) (K : Frag) : Prop where
  d : He.SaysD fa fn K
  f : fnC K ("Fault", some "__init__") = fnF
  more : ex K = true
  b : (faBs file K).all id = true
def hookY (n : Nat) (fa : List He.Fa) (fn : List He.DefD) (ex : Frag → Bool) (file : Str) : Hook where
  α := AlY
  obs := fun s => obsY n fa fn ex file s.heap.get?
  val := fun _ => valY fn
  says := fun _ h => ∃ K : Frag, K.In h ∧ SaysY fa fn ex file K
  of := fun _ _ e => ⟨_, He.frT_in, congrArg (fun z : AlY => z.1) e, congrArg (fun z : AlY => z.2.1) e, (He.ba (congrArg (fun z : AlY => z.2.2) e)).1, (He.ba (congrArg (fun z : AlY => z.2.2) e)).2⟩
  keeps := fun _ _ _ ⟨K, hK, c⟩ k => ⟨K, Frag.In.keeps hK k, c⟩
theorem obsY_eq {n : Nat} {fa : List He.Fa} {fn : List He.DefD} {ex : Frag → Bool} {file : Str} {g : Addr → Option Obj} {s : Shared} (h : ∀ a, g a = s.heap.get? a) : obsY n fa fn ex file g = (hookY n fa fn ex file).obs s := by
  have e : g = s.heap.get? := funext h
  rw [e] <;> rfl
end G
namespace G
open PySem PySem.Spec PyProof.Rows L2
/-- the program's file and its top names -/
class PI (P : Program) : Prop where
  file : P.main.file = "/claim/cut.py"
  top : (P.main.scope.names.lookup ("super" : Str)).isSome = false
/-- Fault's facts, for each such program -/
def FaT (K : PySem.W.Frag) (mg : Str → Option Value) : Prop := ∀ P : Program, PI P → FaX.FaTxt P K mg (He.ga K "Fault") (He.fAd K ("Fault", some "__init__"))
theorem FaT.txt {K : PySem.W.Frag} {mg : Str → Option Value} (T : FaT K mg) (P : Program) [h : PI P] : FaX.FaTxt P K mg (He.ga K "Fault") (He.fAd K ("Fault", some "__init__")) := T P h
theorem SaysY.fau {fa : List He.Fa} {fn : List He.DefD} {ex : PySem.W.Frag → Bool} {K : PySem.W.Frag} {h : Heap} {mg : Str → Option Value} (c : SaysY fa fn ex "/claim/cut.py" K) (X : K.In h) (Gm : h.Ns mainGlobals mg) : FaT K mg := fun P i => by
  refine faTxt_of X Gm c.f ?_ i.top
  rw [i.file]
  exact c.b
/-- raise Fault(a, b) -/
def tRaiseF (C : Addr) (W : WX) (ta : TA) : TS := fun _ σ H => tMkF C ta σ H fun cls d H' => W cls d σ H'
def tTryAs (K : PySem.W.Frag) (c : Value) (i : Nat) (tb : WX → TS) (ts : Addr → Value → Option Addr → TS) (Wout : WX) : TS := fun D σ H => tb (wAs K c i ts Wout D) D σ H
def rIsF (K : PySem.W.Frag) (D a : Addr) (cls : Value) (d : Option Addr) : List V → Hp → VK → Prop := fun xs H Q => ∃ (c : V) (cv : Value) (b : Bool) (dd : Addr) (fs : List (Str × V)), xs = [.ref a, c] ∧ ClsV c cv ∧ cls = .ref D ∧ d = some dd ∧ H dd = some (.xd fs) ∧ PySem.W.kitOne K (.ref D) cv = some b ∧ Q (.bl b) H
section
variable {X : Cx} {C fI : Addr}
theorem ps_raiseF {a b : Expr} {ta : TA} {p pos pos2 : Pos} {k : Nat} {W : WX} (hc : X.calm = true) (tk : Takes X W) (T : FaX.FaTxt X.prog X.K X.mg C fI) (hr : Room k X.A) (hk : 1 ≤ k) (ha : PA X [a, b] ta) (hg : Gl X "Fault" := by rfl)
    (he : starEach (a :: [b]) X.env = (false, eval a X.env) :: starEach [b] X.env := by rfl) (hpl : (backTo pos (starEach [b] X.env)).any (·.1) = false := by rfl) :
    PS X (.Raise (some (.Call (.Name "Fault" p) [a, b] [] pos)) none pos2) (tRaiseF C W ta) := ps_raise hc tk (pmk_fault T hr hk ha hg he hpl)
theorem xfc_of {P : Program} {K : PySem.W.Frag} {mg : Str → Option Value} (T : FaX.FaTxt P K mg C fI) : XfC K C := ⟨T.ga, T.gg, T.exC, T.hdC⟩
theorem call_isF {P : Program} {a : Addr} {oe : Obj} {cls : Value} {d : Option Addr} {pn : List (Addr × Obj)} (T : FaX.FaTxt P X.K X.mg C fI) (F : InsF X.K C) (hz : Zc cls d oe) (hf : ∃ vs, oe.data = .fields vs) : CallR (X.suite a ((a, oe) :: pn)) (.builtin "isinstance") (rIsF X.K C a cls d) := by
  intro pins s σ H xs us Q I r h
  obtain ⟨c, cv, b, dd, fs, rfl, hcv, rfl, rfl, hdd, e, q⟩ := h
  cases r with
  | cons rx rr =>
    cases rr with
    | cons rt rr =>
      cases rr
      cases rx
      have ec := hcv.eq rt
      subst ec
      obtain ⟨hget, _⟩ := I.pin (a, oe) (List.mem_append.mpr (.inl List.mem_cons_self))
      obtain ⟨vs, hv⟩ := hf
      have hx : ObjOk X.prog X.w H s.heap dd (.xd fs) := I.hok dd _ hdd
      obtain ⟨mA, hns, _⟩ := hx
      obtain ⟨od, ho, _⟩ := lookIn_ns hns
      have J : PySem.W.InstAt s.heap a oe C (some od) := ⟨hget, hz.1, by unfold PySem.W.notCls; rw [hv] <;> rfl, by rw [hz.2]; exact ho⟩
      obtain ⟨cd, hcd, _⟩ := T.cd
      exact PySem.W.kia_one (PySem.W.kitx_exc (by rw [hcd]; rfl) T.ga T.gg T.exC F.ha F.hn F.htk F.hm) I.kIn J e (fun z => nomatch z) fun tk => ⟨.bl b, H, I.kept (t' := tk) fun _ _ z => z, rfl, q⟩
end
end G
namespace G
open PySem PySem.Spec PyProof.Rows L2
section
variable {nx bk ct : L2.St → Hp → Prop} {rt : VK} {σ : L2.St} {H : Hp} {Q : VK}
/-- what a raise wants of its values -/
def FauK (C : Addr) (S : Value → Option Addr → Hp → Prop) (vs : List V) (H1 : Hp) : Prop := ∃ (i : Int) (r : Str), vs = [.int i, .str r] ∧ i.natAbs < 1000000000 ∧ r.length ≤ 1000 ∧ ∀ d, H1 d = none → S (.ref C) (some d) (upd H1 d (.xd (faD i r)))
theorem g_raise {C : Addr} {W : WX} {ta : TA} (h : ta σ H (FauK C fun cls d H' => W cls d σ H')) : tRaiseF C W ta ⟨nx, rt, bk, ct⟩ σ H := h
theorem v_fau {C : Addr} {S : Value → Option Addr → Hp → Prop} {i : Int} {r : Str} (h1 : i.natAbs < 1000000000) (h2 : r.length ≤ 1000) (q : ∀ d, H d = none → S (.ref C) (some d) (upd H d (.xd (faD i r)))) : FauK C S [.int i, .str r] H := ⟨i, r, rfl, h1, h2, q⟩
end
end G

/-! ### data that stands still (At), cells that change (HH) -/
namespace G
open PySem PySem.Spec PyProof.Rows L2
inductive D where
  | v (x : V)
  | lst (xs : List D)
  | tup (xs : List D)
  | obj (c : Str) (fs : List (Str × D))
  | dk (kvs : List (Key × D))
abbrev D.i (n : Int) : D := .v (.int n)
abbrev D.t (zs : List Nat) : D := .v (.str ⟨zs.toArray⟩)
abbrev D.b (b : Bool) : D := .v (.bl b)
abbrev D.n : D := .v .non
mutual
def At (K : PySem.W.Frag) (F : Hp) : D → V → Prop
  | .v x, u => u = x
  | .lst xs, u => ∃ a vs, u = .ref a ∧ F a = some (.lst vs) ∧ AtA K F xs vs
  | .tup xs, u => ∃ a vs, u = .ref a ∧ SqT K F a vs ∧ AtA K F xs vs
  | .obj c fs, u => ∃ a dx vs, u = .ref a ∧ F a = some (.ins (He.ga K c) dx vs) ∧ AtF K F fs vs
  | .dk kvs, u => ∃ a od vs, u = .ref a ∧ F a = some (.frz od (.dK vs)) ∧ AtK K F kvs vs
def AtA (K : PySem.W.Frag) (F : Hp) : List D → List V → Prop
  | [], vs => vs = []
  | d :: ds, vs => ∃ u us, vs = u :: us ∧ At K F d u ∧ AtA K F ds us
def AtF (K : PySem.W.Frag) (F : Hp) : List (Str × D) → List (Str × V) → Prop
  | [], vs => vs = []
  | (f, d) :: ds, vs => ∃ u us, vs = (f, u) :: us ∧ At K F d u ∧ AtF K F ds us
def AtK (K : PySem.W.Frag) (F : Hp) : List (Key × D) → List (Key × V) → Prop
  | [], vs => vs = []
  | (f, d) :: ds, vs => ∃ u us, vs = (f, u) :: us ∧ At K F d u ∧ AtK K F ds us
end
theorem Same.sqt {K : PySem.W.Frag} {H H' : Hp} {a : Addr} {xs : List V} (e : Same H H') (h : SqT K H a xs) : SqT K H' a xs := by
  rcases h with (h | ⟨o, h⟩) | h
  · exact .inl (.inl (e _ _ h))
  · exact .inl (.inr ⟨o, e _ _ h⟩)
  · exact .inr h
mutual
theorem At.mono {K : PySem.W.Frag} {F F' : Hp} (s : Same F F') : ∀ {d : D} {u : V}, At K F d u → At K F' d u
  | .v x, u, h => by unfold At at h ⊢; exact h
  | .lst xs, u, h => by
    unfold At at h ⊢
    obtain ⟨a, vs, e, hq, h⟩ := h
    exact ⟨a, vs, e, s _ _ hq, AtA.mono s h⟩
  | .tup xs, u, h => by
    unfold At at h ⊢
    obtain ⟨a, vs, e, hq, h⟩ := h
    exact ⟨a, vs, e, Same.sqt s hq, AtA.mono s h⟩
  | .obj c fs, u, h => by
    unfold At at h ⊢
    obtain ⟨a, dx, vs, e, hq, h⟩ := h
    exact ⟨a, dx, vs, e, s _ _ hq, AtF.mono s h⟩
  | .dk kvs, u, h => by
    unfold At at h ⊢
    obtain ⟨a, od, vs, e, hq, h⟩ := h
    exact ⟨a, od, vs, e, s _ _ hq, AtK.mono s h⟩
theorem AtA.mono {K : PySem.W.Frag} {F F' : Hp} (s : Same F F') : ∀ {ds : List D} {us : List V}, AtA K F ds us → AtA K F' ds us
  | [], us, h => by unfold AtA at h ⊢; exact h
  | d :: ds, us, h => by
    unfold AtA at h ⊢
    obtain ⟨u, us, e, h1, h2⟩ := h
    exact ⟨u, us, e, At.mono s h1, AtA.mono s h2⟩
theorem AtF.mono {K : PySem.W.Frag} {F F' : Hp} (s : Same F F') : ∀ {ds : List (Str × D)} {us : List (Str × V)}, AtF K F ds us → AtF K F' ds us
  | [], us, h => by unfold AtF at h ⊢; exact h
  | (f, d) :: ds, us, h => by
    unfold AtF at h ⊢
    obtain ⟨u, us, e, h1, h2⟩ := h
    exact ⟨u, us, e, At.mono s h1, AtF.mono s h2⟩
theorem AtK.mono {K : PySem.W.Frag} {F F' : Hp} (s : Same F F') : ∀ {ds : List (Key × D)} {us : List (Key × V)}, AtK K F ds us → AtK K F' ds us
  | [], us, h => by unfold AtK at h ⊢; exact h
  | (f, d) :: ds, us, h => by
    unfold AtK at h ⊢
    obtain ⟨u, us, e, h1, h2⟩ := h
    exact ⟨u, us, e, At.mono s h1, AtK.mono s h2⟩
end
section
variable {K : PySem.W.Frag} {F F' H H' : Hp} {u x w : V} {d : D} {ds es : List D} {us vs : List V} {M : List (Addr × HO)}
theorem At.v_ {x : V} : At K F (.v x) u ↔ u = x := by unfold At; exact Iff.rfl
theorem At.of {x : V} : At K F (.v x) x := At.v_.mpr rfl
theorem AtA.nil : AtA K F [] [] := by unfold AtA; rfl
theorem AtA.cons (h : At K F d u) (t : AtA K F ds us) : AtA K F (d :: ds) (u :: us) := by unfold AtA; exact ⟨_, _, rfl, h, t⟩
theorem AtF.nil : AtF K F [] [] := by unfold AtF; rfl
theorem AtF.cons {f : Str} {fs : List (Str × D)} {gs : List (Str × V)} (h : At K F d u) (t : AtF K F fs gs) : AtF K F ((f, d) :: fs) ((f, u) :: gs) := by unfold AtF; exact ⟨_, _, rfl, h, t⟩
theorem AtA.len : ∀ {ds : List D} {us : List V}, AtA K F ds us → us.length = ds.length
  | [], us, h => by unfold AtA at h; rw [h]; rfl
  | d :: ds, us, h => by
    unfold AtA at h
    obtain ⟨u, us, rfl, _, h⟩ := h
    rw [List.length_cons, List.length_cons, AtA.len h]
theorem AtA.get : ∀ {ds : List D} {us : List V} {i : Nat}, AtA K F ds us → ds[i]? = some d → ∃ u, us[i]? = some u ∧ At K F d u
  | [], us, i, h, e => by cases e
  | d' :: ds, us, 0, h, e => by
    unfold AtA at h
    obtain ⟨u, us, rfl, h1, h⟩ := h
    cases e
    exact ⟨u, rfl, h1⟩
  | d' :: ds, us, i + 1, h, e => by
    unfold AtA at h
    obtain ⟨u, us, rfl, h1, h⟩ := h
    exact AtA.get (i := i) h e
theorem AtA.at_ {i : Nat} (h : AtA K F ds us) (e : us[i]? = some u) : ∃ d, ds[i]? = some d ∧ At K F d u := by
  have hi : i < us.length := by
    rcases Nat.lt_or_ge i us.length with z | z
    · exact z
    · rw [List.getElem?_eq_none z] at e; cases e
  have hd : ds[i]? = some (ds[i]'(by rw [← h.len]; exact hi)) := List.getElem?_eq_getElem _
  obtain ⟨u', e', a⟩ := h.get hd
  rw [e] at e'
  cases e'
  exact ⟨_, hd, a⟩
theorem AtA.app : ∀ {ds : List D} {us : List V}, AtA K F ds us → AtA K F es vs → AtA K F (ds ++ es) (us ++ vs)
  | [], us, h, t => by unfold AtA at h; rw [h]; exact t
  | d :: ds, us, h, t => by
    unfold AtA at h
    obtain ⟨u, us, rfl, h1, h⟩ := h
    exact AtA.cons h1 (AtA.app h t)
theorem AtA.snoc (h : AtA K F ds us) (t : At K F d u) : AtA K F (ds ++ [d]) (us ++ [u]) := h.app (AtA.cons t AtA.nil)
theorem AtA.snocM {α : Type} {e : α → D} {xs : List α} {x : α} (h : AtA K F (xs.map e) us) (t : At K F (e x) u) : AtA K F ((xs ++ [x]).map e) (us ++ [u]) := by
  rw [List.map_append]
  exact h.snoc t
theorem AtA.flat {α : Type} {g : α → V} : ∀ {xs : List α} {us : List V}, AtA K F (xs.map fun x => D.v (g x)) us → us = xs.map g
  | [], us, h => by unfold AtA at h; exact h
  | x :: xs, us, h => by
    unfold AtA at h
    obtain ⟨u, us, rfl, h1, h⟩ := h
    rw [At.v_.mp h1, AtA.flat h]
    rfl
theorem AtA.ofFlat {α : Type} {g : α → V} : ∀ {xs : List α}, AtA K F (xs.map fun x => D.v (g x)) (xs.map g)
  | [] => AtA.nil
  | x :: xs => AtA.cons At.of (AtA.ofFlat (xs := xs))
theorem AtF.get {f : Str} : ∀ {fs : List (Str × D)} {gs : List (Str × V)}, AtF K F fs gs → fs.lookup f = some d → ∃ u, gs.lookup f = some u ∧ At K F d u
  | [], gs, h, e => by cases e
  | (g, d') :: fs, gs, h, e => by
    unfold AtF at h
    obtain ⟨u, us, rfl, h1, h⟩ := h
    rw [List.lookup_cons] at e ⊢
    cases c : f == g with
    | true => rw [c] at e; cases e; exact ⟨u, rfl, h1⟩
    | false => rw [c] at e; exact AtF.get h e
theorem At.obj_ {c : Str} {fs : List (Str × D)} (h : At K F (.obj c fs) u) : ∃ a dx vs, u = .ref a ∧ F a = some (.ins (He.ga K c) dx vs) ∧ AtF K F fs vs := by unfold At at h; exact h
theorem At.lstR (h : At K F (.lst ds) u) : ∃ a vs, u = .ref a ∧ F a = some (.lst vs) ∧ AtA K F ds vs := by unfold At at h; exact h
theorem At.lst_ (h : At K F (.lst ds) u) : ∃ a vs, u = .ref a ∧ SqL K F a vs ∧ AtA K F ds vs := by
  obtain ⟨a, vs, e, hq, t⟩ := h.lstR
  exact ⟨a, vs, e, SqL.of hq, t⟩
theorem At.tup_ (h : At K F (.tup ds) u) : ∃ a vs, u = .ref a ∧ SqT K F a vs ∧ AtA K F ds vs := by unfold At at h; exact h
theorem At.mkL {a : Addr} (h : F a = some (.lst vs)) (t : AtA K F ds vs) : At K F (.lst ds) (.ref a) := by unfold At; exact ⟨a, vs, rfl, h, t⟩
theorem At.mkT {a : Addr} (h : SqT K F a vs) (t : AtA K F ds vs) : At K F (.tup ds) (.ref a) := by unfold At; exact ⟨a, vs, rfl, h, t⟩
theorem At.mkO {c : Str} {a dx : Addr} {fs : List (Str × D)} {gs : List (Str × V)} (h : F a = some (.ins (He.ga K c) dx gs)) (t : AtF K F fs gs) : At K F (.obj c fs) (.ref a) := by unfold At; exact ⟨a, dx, gs, rfl, h, t⟩
/-! cells that may change -/
structure HH (F H : Hp) (M : List (Addr × HO)) : Prop where
  sub : Same F H
  nd : (M.map (·.1)).Nodup
  cell : ∀ p ∈ M, H p.1 = some p.2 ∧ F p.1 = none
theorem HH.start : HH H H [] := ⟨Same.refl H, .nil, fun p h => nomatch h⟩
theorem HH.get {i : Nat} {a : Addr} {o : HO} (h : HH F H M) (e : M[i]? = some (a, o)) : H a = some o := (h.cell _ (List.mem_of_getElem? e)).1
theorem HH.out {i : Nat} {a : Addr} {o : HO} (h : HH F H M) (e : M[i]? = some (a, o)) : F a = none := (h.cell _ (List.mem_of_getElem? e)).2
theorem HH.non {p : Addr} (h : HH F H M) (hp : H p = none) : F p = none := by
  cases e : F p with
  | none => rfl
  | some o => rw [h.sub _ _ e] at hp; cases hp
theorem HH.fresh {p : Addr} (h : HH F H M) (hp : H p = none) : p ∉ M.map (·.1) := by
  intro z
  obtain ⟨q, hq, e⟩ := List.mem_map.mp z
  have := (h.cell q hq).1
  rw [e, hp] at this
  cases this
theorem HH.new {p : Addr} {o : HO} (h : HH F H M) (hp : H p = none) : HH F (upd H p o) ((p, o) :: M) := by
  refine ⟨fun b u e => up_new (h.sub _ _ e) hp, List.nodup_cons.mpr ⟨h.fresh hp, h.nd⟩, fun q hq => ?_⟩
  rcases List.mem_cons.mp hq with rfl | hq
  · exact ⟨upd_same, h.non hp⟩
  · obtain ⟨h1, h2⟩ := h.cell q hq
    exact ⟨up_new h1 hp, h2⟩
theorem HH.newF {p : Addr} {o : HO} (h : HH F H M) (hp : H p = none) : HH (upd F p o) (upd H p o) M := by
  refine ⟨fun b u e => ?_, h.nd, fun q hq => ?_⟩
  · unfold upd at e ⊢
    split
    · rename_i z; rw [if_pos z] at e; exact e
    · rename_i z; rw [if_neg z] at e; exact h.sub _ _ e
  · obtain ⟨h1, h2⟩ := h.cell q hq
    have ne : q.1 ≠ p := ne_of_none h1 hp
    exact ⟨by rw [upd_ne ne]; exact h1, by rw [upd_ne ne]; exact h2⟩
theorem HH.grow {p : Addr} {o : HO} (h : HH F H M) (hp : H p = none) : Same F (upd F p o) := same_new (h.non hp)
theorem HH.perm {M' : List (Addr × HO)} (h : HH F H M) (p : List.Perm M M') : HH F H M' :=
  ⟨h.sub, (p.map _).nodup_iff.mp h.nd, fun q hq => h.cell q (p.mem_iff.mpr hq)⟩
theorem HH.swap {a b : Addr × HO} (h : HH F H (a :: b :: M)) : HH F H (b :: a :: M) := h.perm (.swap b a M)
theorem HH.rot {a b c : Addr × HO} (h : HH F H (a :: b :: c :: M)) : HH F H (c :: a :: b :: M) := h.perm ((List.Perm.cons a (.swap c b M)).trans (.swap c a (b :: M)))
theorem HH.new1 {p : Addr} {o : HO} {a : Addr × HO} (h : HH F H (a :: M)) (hp : H p = none) : HH F (upd H p o) (a :: (p, o) :: M) := (h.new hp).swap
theorem HH.drop {a : Addr × HO} (h : HH F H (a :: M)) : HH F H M := ⟨h.sub, (List.nodup_cons.mp h.nd).2, fun q hq => h.cell q (List.mem_cons_of_mem _ hq)⟩
theorem HH.drop1 {a b : Addr × HO} (h : HH F H (a :: b :: M)) : HH F H (a :: M) := h.swap.drop
theorem HH.set0 {a : Addr} {o o' : HO} (h : HH F H ((a, o) :: M)) : HH F (upd H a o') ((a, o') :: M) := by
  have hn := List.nodup_cons.mp h.nd
  have hF : F a = Option.none := h.out (i := 0) rfl
  refine ⟨fun b u e => ?_, List.nodup_cons.mpr hn, fun q hq => ?_⟩
  · rw [upd_ne (ne_of_none e hF)]; exact h.sub _ _ e
  · rcases List.mem_cons.mp hq with rfl | hq
    · exact ⟨upd_same, hF⟩
    · obtain ⟨h1, h2⟩ := h.cell q (List.mem_cons_of_mem _ hq)
      have ne : q.1 ≠ a := fun e => hn.1 (List.mem_map.mpr ⟨q, hq, e⟩)
      exact ⟨by rw [upd_ne ne]; exact h1, h2⟩
theorem HH.set1 {a : Addr} {o o' : HO} {b : Addr × HO} (h : HH F H (b :: (a, o) :: M)) : HH F (upd H a o') (b :: (a, o') :: M) := h.swap.set0.swap
theorem HH.set2 {a : Addr} {o o' : HO} {b c : Addr × HO} (h : HH F H (b :: c :: (a, o) :: M)) : HH F (upd H a o') (b :: c :: (a, o') :: M) := h.rot.set0.perm ((List.Perm.swap b _ _).trans (.cons b (.swap c _ M)))
theorem HH.frz {a : Addr} {o : HO} (h : HH F H ((a, o) :: M)) : HH (upd F a o) H M := by
  have hn := List.nodup_cons.mp h.nd
  refine ⟨fun b u e => ?_, hn.2, fun q hq => ?_⟩
  · by_cases c : b = a
    · rw [c, upd_same] at e; cases e; rw [c]; exact h.get (i := 0) rfl
    · rw [upd_ne c] at e; exact h.sub _ _ e
  · obtain ⟨h1, h2⟩ := h.cell q (List.mem_cons_of_mem _ hq)
    have ne : q.1 ≠ a := fun e => hn.1 (List.mem_map.mpr ⟨q, hq, e⟩)
    exact ⟨h1, by rw [upd_ne ne]; exact h2⟩
theorem HH.frzS {a : Addr} {o : HO} (h : HH F H ((a, o) :: M)) : Same F (upd F a o) := same_new (h.out (i := 0) rfl)
theorem HH.frz1 {a : Addr} {o : HO} {b : Addr × HO} (h : HH F H (b :: (a, o) :: M)) : HH (upd F a o) H (b :: M) := h.swap.frz
theorem HH.frz1S {a : Addr} {o : HO} {b : Addr × HO} (h : HH F H (b :: (a, o) :: M)) : Same F (upd F a o) := h.swap.frzS
/-- something is there, said for data: a list that was frozen -/
theorem frz_lst {a : Addr} {vs : List V} (hF : F a = Option.none) (h : AtA K F ds vs) : At K (upd F a (.lst vs)) (.lst ds) (.ref a) := At.mkL upd_same (h.mono (same_new hF))
/-! rules over At -/
variable {Q : VK} {S : Hp → Prop} {σ : L2.St} {nx bk ct : L2.St → Hp → Prop} {rt : VK}
theorem a_fld {c f : Str} {fs : List (Str × D)} (h : At K F (.obj c fs) x) (hh : HH F H M) (cl : Cls K (He.ga K c)) (n : NoAttr K (He.ga K c) f) (l : fs.lookup f = some d) (q : ∀ w, At K F d w → Q w H) : FldK K f x H Q := by
  obtain ⟨a, dx, vs, rfl, hF, hv⟩ := h.obj_
  obtain ⟨u, hu, ha⟩ := hv.get l
  exact v_fld (hh.sub _ _ hF) cl n hu (q u ha)
theorem a_fldV {c f : Str} {fs : List (Str × D)} (h : At K F (.obj c fs) x) (hh : HH F H M) (cl : Cls K (He.ga K c)) (n : NoAttr K (He.ga K c) f) (l : fs.lookup f = some (.v w)) (q : Q w H) : FldK K f x H Q :=
  a_fld h hh cl n l fun w' e => by rw [At.v_.mp e]; exact q
theorem m_fld {i : Nat} {a C dx : Addr} {fs : List (Str × V)} {f : Str} (hh : HH F H M) (e : M[i]? = some (a, .ins C dx fs)) (cl : Cls K C) (n : NoAttr K C f) (l : fs.lookup f = some w) (q : Q w H) : FldK K f (.ref a) H Q := v_fld (hh.get e) cl n l q
theorem a_tup {ds : List D} (hh : HH F H M) (h : AtA K F ds vs) (q : ∀ F' H' u, Same F F' → HH F' H' M → At K F' (.tup ds) u → Q u H') : ∀ p, H p = none → Q (.ref p) (upd H p (.tup vs)) := fun p hp =>
  q _ _ _ (hh.grow hp) (hh.newF hp) (At.mkT (SqT.of upd_same) (h.mono (hh.grow hp)))
theorem a_lst {ds : List D} (hh : HH F H M) (h : AtA K F ds vs) (q : ∀ F' H' u, Same F F' → HH F' H' M → At K F' (.lst ds) u → Q u H') : ∀ p, H p = none → Q (.ref p) (upd H p (.lst vs)) := fun p hp =>
  q _ _ _ (hh.grow hp) (hh.newF hp) (At.mkL upd_same (h.mono (hh.grow hp)))
theorem a_lenL (hx : At K F (.lst ds) x) (hh : HH F H M) (q : Q (.int (ds.length : Int)) H) : rLen K [x] H Q := by
  obtain ⟨a, vs, rfl, h, t⟩ := hx.lst_
  exact v_lenSq (hh.sub.seq h) (by rw [t.len]; exact q)
theorem a_ixL {n : Int} {i : Nat} (hx : At K F (.lst ds) x) (hh : HH F H M) (en : n = (i : Int)) (e : ds[i]? = some d) (q : ∀ w, At K F d w → Q w H) : rIx K x (.int n) H Q := by
  obtain ⟨a, vs, rfl, h, t⟩ := hx.lst_
  obtain ⟨u, hu, ha⟩ := t.get e
  exact v_ixSq (hh.sub.seq h) (atN en hu) (q u ha)
theorem a_ixT {n : Int} {i : Nat} (hx : At K F (.tup ds) x) (hh : HH F H M) (en : n = (i : Int)) (e : ds[i]? = some d) (q : ∀ w, At K F d w → Q w H) : rIx K x (.int n) H Q := by
  obtain ⟨a, vs, rfl, h, t⟩ := hx.tup_
  obtain ⟨u, hu, ha⟩ := t.get e
  exact .inr (.inl ⟨_, _, _, _, rfl, rfl, Same.sqt hh.sub h, atN en hu, q u ha⟩)
theorem a_forL {α : Type} {e : α → D} {xs : List α} {g : TG} {tb : TS} (hx : At K F (.lst (xs.map e)) x) (hh : HH F H M) (I : List α → L2.St → Hp → Prop) (hF : ∀ r σ H, I r σ H → Same F H) (h0 : I xs σ H)
    (hs : ∀ y r w σ H, At K F (e y) w → I (y :: r) σ H → g w σ H fun σ2 H2 => tb ⟨I r, rt, nx, I r⟩ σ2 H2) (hd : ∀ σ H, I [] σ H → nx σ H) : OvL K (fun J H1 => LoopG J g tb ⟨nx, rt, bk, ct⟩ σ H1) x H := by
  obtain ⟨a, vs, rfl, h, t⟩ := hx.lst_
  have hl : vs.length = xs.length := by rw [t.len, List.length_map]
  refine v_ovL (hh.sub.seq h) (l_list (fun i σ H => I (xs.drop i) σ H) h0 (fun i σ H _ q => (hF _ _ _ q).seq h) (fun i v σ H hv q => ?_) (fun σ H q => hd σ H ?_))
  · obtain ⟨d, hd', ha⟩ := t.at_ hv
    rw [List.getElem?_map] at hd'
    cases ex : xs[i]? with
    | none => rw [ex] at hd'; cases hd'
    | some y =>
      rw [ex] at hd'
      cases hd'
      have hi : i < xs.length := by
        rcases Nat.lt_or_ge i xs.length with z | z
        · exact z
        · rw [List.getElem?_eq_none z] at ex; cases ex
      have q' : I (y :: xs.drop (i + 1)) σ H := by
        have e1 : xs[i] = y := by rw [List.getElem?_eq_getElem hi] at ex; exact Option.some.inj ex
        rw [← e1, List.getElem_cons_drop]
        exact q
      exact hs y _ v σ H ha q'
  · rw [hl, List.drop_length] at q
    exact q
theorem a_forT {α : Type} {e : α → D} {xs : List α} {g : TG} {tb : TS} (hx : At K F (.tup (xs.map e)) x) (hh : HH F H M) (I : List α → L2.St → Hp → Prop) (hF : ∀ r σ H, I r σ H → Same F H) (h0 : I xs σ H)
    (hs : ∀ y r w σ H, At K F (e y) w → I (y :: r) σ H → g w σ H fun σ2 H2 => tb ⟨I r, rt, nx, I r⟩ σ2 H2) (hd : ∀ σ H, I [] σ H → nx σ H) : OvT K (fun J H1 => LoopG J g tb ⟨nx, rt, bk, ct⟩ σ H1) x H := by
  obtain ⟨a, vs, rfl, h, t⟩ := hx.tup_
  have hl : vs.length = xs.length := by rw [t.len, List.length_map]
  refine v_ovT (Same.sqt hh.sub h) (l_tup (fun i σ H => I (xs.drop i) σ H) h0 (fun i σ H _ q => Same.sqt (hF _ _ _ q) h) (fun i v σ H hv q => ?_) (fun σ H q => hd σ H ?_))
  · obtain ⟨d, hd', ha⟩ := t.at_ hv
    rw [List.getElem?_map] at hd'
    cases ex : xs[i]? with
    | none => rw [ex] at hd'; cases hd'
    | some y =>
      rw [ex] at hd'
      cases hd'
      have hi : i < xs.length := by
        rcases Nat.lt_or_ge i xs.length with z | z
        · exact z
        · rw [List.getElem?_eq_none z] at ex; cases ex
      have q' : I (y :: xs.drop (i + 1)) σ H := by
        have e1 : xs[i] = y := by rw [List.getElem?_eq_getElem hi] at ex; exact Option.some.inj ex
        rw [← e1, List.getElem_cons_drop]
        exact q
      exact hs y _ v σ H ha q'
  · rw [hl, List.drop_length] at q
    exact q
def LcK (J : It) (g : TG) (tt : TT) (te : TE) (σ : L2.St) (ws : List Nat) (H1 : Hp) (Q : VK) : Prop := ∀ D, H1 D = Option.none → LcG J g tt te σ ws D H1 (Q (.ref D))
theorem g_lcK {wi : TI} {g : TG} {tt : TT} {te : TE} {ws : List Nat} (h : wi σ H fun J H1 => LcK J g tt te σ ws H1 Q) : tLc wi g tt te ws σ H Q := h
/-- a comprehension over such a list: what is put for each item is told by an optional value -/
theorem a_lcL {α β : Type} {e : α → D} {f : β → D} {xs : List α} {g : TG} {tt : TT} {te : TE} {vs : List Nat} (hx : At K F (.lst (xs.map e)) x) (hh : HH F H M) (hz : xs.length < sizeLine) (r : α → Option β)
    (hs : ∀ y (w : V) F' H' c (P : V → Hp → Prop) (N : Hp → Prop), y ∈ xs → At K F' (e y) w → Same F F' → HH F' H' (c :: M) → (∀ F4 H4 v z, Same F' F4 → HH F4 H4 (c :: M) → r y = some z → At K F4 (f z) v → P v H4) →
      (∀ F4 H4, Same F' F4 → HH F4 H4 (c :: M) → r y = none → N H4) → g w (wipe σ vs) H' fun σ2 H2 => wipe σ2 vs = wipe σ vs ∧ tt σ2 H2 fun b H3 => if b = true then te σ2 H3 (fun v H4 => P v H4) else N H3)
    (q : ∀ F' H' u, Same F F' → HH F' H' M → At K F' (.lst ((xs.filterMap r).map f)) u → Q u H') : OvL K (fun J H1 => LcK J g tt te σ vs H1 Q) x H := by
  obtain ⟨a, us, rfl, h, t⟩ := hx.lst_
  have hl : us.length = xs.length := by rw [t.len, List.length_map]
  refine v_ovL (hh.sub.seq h) fun D hD => ?_
  refine c_list (fun i H' => ∃ F' ws, Same F F' ∧ HH F' H' ((D, .lst ws) :: M) ∧ ws.length ≤ i ∧ AtA K F' (((xs.take i).filterMap r).map f) ws) ⟨F, [], Same.refl F, hh.new hD, Nat.zero_le _, AtA.nil⟩
    (fun i H' _ ⟨F', ws, s, h', _⟩ => h'.sub.seq (s.seq h)) (fun i v H' hv ⟨F', ws, s, h', hw, ha⟩ => ?_) (fun H' ⟨F', ws, s, h', hw, ha⟩ => ?_)
  · obtain ⟨d, hd', hat⟩ := t.at_ hv
    rw [List.getElem?_map] at hd'
    cases ex : xs[i]? with
    | none => rw [ex] at hd'; cases hd'
    | some y =>
      rw [ex] at hd'
      cases hd'
      have hi : i < xs.length := by
        rcases Nat.lt_or_ge i xs.length with z | z
        · exact z
        · rw [List.getElem?_eq_none z] at ex; cases ex
      have e1 : xs[i] = y := by rw [List.getElem?_eq_getElem hi] at ex; exact Option.some.inj ex
      have et : xs.take (i + 1) = xs.take i ++ [y] := by rw [← e1]; exact (List.take_append_getElem hi).symm
      refine hs y v F' H' _ _ _ (e1 ▸ List.getElem_mem hi) (hat.mono s) s h' (fun F4 H4 v z s4 h4 er hz => ?_) (fun F4 H4 s4 h4 er => ?_)
      · refine v_put (h4.get (i := 0) rfl) (by omega) ⟨F4, ws ++ [v], s.trans s4, h4.set0, by rw [List.length_append]; show _ + 1 ≤ _; omega, ?_⟩
        rw [et, List.filterMap_append, List.filterMap_cons, er]
        exact AtA.snocM (ha.mono s4) hz
      · refine ⟨F4, ws, s.trans s4, h4, by omega, ?_⟩
        rw [et, List.filterMap_append, List.filterMap_cons, er]
        show AtA K F4 ((_ ++ []).map f) ws
        rw [List.append_nil]
        exact ha.mono s4
  · rw [hl, List.take_length] at ha
    exact q _ _ _ (s.trans h'.frzS) h'.frz (frz_lst (h'.out (i := 0) rfl) ha)
/-- a while that carries what is left to be computed -/
def WTurn (I : Nat → L2.St → Hp → Prop) (m : Nat) (tb : TS) (rt : VK) (nx : L2.St → Hp → Prop) (σ : L2.St) (H : Hp) : Prop := ∃ N : L2.St → Hp → Prop, (∀ σ' H', N σ' H' → ∃ m', m' < m + 1 ∧ I m' σ' H') ∧ tb ⟨N, rt, nx, N⟩ σ H
theorem g_wt {I : Nat → L2.St → Hp → Prop} {m : Nat} {tb : TS} (h : tb ⟨I m, rt, nx, I m⟩ σ H) : WTurn I m tb rt nx σ H := ⟨I m, fun _ _ z => ⟨m, Nat.lt_succ_self m, z⟩, h⟩
theorem a_while {m : Nat} {tt : TT} {tb : TS} (I : Nat → L2.St → Hp → Prop) (h0 : I m σ H) (hz : ∀ σ H, I 0 σ H → False) (hs : ∀ m σ H, I (m + 1) σ H → tt σ H fun b H1 => if b = true then WTurn I m tb rt nx σ H1 else nx σ H1) :
    tWhile tt tb ⟨nx, rt, bk, ct⟩ σ H := by
  refine g_while ⟨fun m σ H => I m σ H, ⟨m, h0⟩, fun m σ H q => ?_⟩
  cases m with
  | zero => exact (hz _ _ q).elim
  | succ m => exact hs m σ H q
/-! texts as lists of codes -/
end
end G
namespace G
open PySem PySem.Spec PyProof.Rows L2
/-! ### pygen2: constants, properties, tables, the hook -/
abbrev svv (zs : List Nat) : V := .str ⟨zs.toArray⟩
theorem pe_strE {X : Cx} {x z : Str} {j pos} (h : x = z) : PE X (.Constant (.str x) j pos) (tC (.str z)) := by
  subst h
  exact pe_str
theorem tupE {K : PySem.W.Frag} {x : Str} {vs : List He.Dv} {us : List V} (e : vs.map (He.Dv.v K) = us) (h : He.tupB K x vs = true) : ∀ H, SqT K H (He.ga K x) us := fun H => by
  subst e
  exact He.tupB_ok h H
def rSplit : V → List V → Hp → VK → Prop := fun x xs H Q => ∃ a b, x = .str a ∧ xs = [.str b] ∧ (b.length == 0) = false ∧ a.length + 2 ≤ sizeLine ∧ rNewStrs (Txt.split a b) H Q
/-- the getter of a property -/
def pAd (K : PySem.W.Frag) (C m : Str) : Addr := match PySem.W.recIn K (He.ma K (He.ga K C) m) "property" with
  | some (.ref g :: _) => g
  | _ => 0
def recP (K : PySem.W.Frag) (a : Addr) : Bool := match PySem.W.recIn K a "property" with
  | some (.ref _ :: _) => true
  | _ => false
def propF (C m : Str) (K : PySem.W.Frag) : Bool := He.eqO (PySem.W.findIn K (.ref (He.ga K C)) m) (some (some (.ref (He.ma K (He.ga K C) m)))) &&
  (He.eqO (PySem.W.specialIn K (.ref (He.ma K (He.ga K C) m)) "__get__") (some (some (.builtin "property.__get__"))) && (decide (PySem.W.takesIn K (.ref (He.ma K (He.ga K C) m)) = some true) && recP K (He.ma K (He.ga K C) m)))
theorem propF_ok {C m : Str} {K : PySem.W.Frag} (h : propF C m K = true) : PropOf K (He.ga K C) m (He.ma K (He.ga K C) m) (pAd K C m) := by
  obtain ⟨h1, h2⟩ := He.ba h
  obtain ⟨h2, h3⟩ := He.ba h2
  obtain ⟨h3, h4⟩ := He.ba h3
  refine ⟨He.eqO_ok h1, He.eqO_ok h2, of_decide_eq_true h3, ?_⟩
  unfold recP at h4
  unfold pAd
  split at h4
  · rename_i g rest e
    exact ⟨rest, by rw [e]⟩
  · cases h4
structure DefP where
  cls : Str
  name : Str
  qual : Str
  params : Arguments
  body : List Stmt
  scope : Scope
def DefP.val (d : DefP) : He.FnW := some (d.name, d.qual, d.params, .stmts d.body, d.scope, mainGlobals, [], builtinsNs)
def fnA (K : PySem.W.Frag) (a : Addr) : He.FnW := match K.lookup a with
  | some ⟨_, _, .func fd, _⟩ => some (fd.name, fd.qualname, fd.params, fd.body, fd.scope, fd.globals, fd.closure, fd.builtins)
  | _ => none
def DefP.ok (K : PySem.W.Frag) (d : DefP) : Bool := PySem.W.keepIn K (.ref (pAd K d.cls d.name)) && (match K.lookup (pAd K d.cls d.name) with
  | some ⟨_, _, .func fd, _⟩ => PySem.W.codeIn K fd.code d.qual && (He.dflB K fd.defaults [] && He.kwdB K fd.kwdefaults [])
  | _ => false)
theorem DefP.funD {K : PySem.W.Frag} {d : DefP} (e : fnA K (pAd K d.cls d.name) = d.val) (c : d.ok K = true) : ∃ fd, FunD K d.name d.qual d.params d.body d.scope [] [] (pAd K d.cls d.name) fd := by
  obtain ⟨kp, c2⟩ := He.ba c
  unfold fnA at e
  cases q : K.lookup (pAd K d.cls d.name) with
  | none =>
    rw [q] at c2
    cases c2
  | some o =>
    obtain ⟨oc, od, dt, osl⟩ := o
    rw [q] at c2 e
    cases dt with
    | func fd =>
      obtain ⟨n1, n2, n3, n4, n5, n6, n7, n8, n9, n10, n11, n12, n13, n14, n15⟩ := fd
      have e2 : (some (n1, n2, n3, n4, n5, n6, n7, n15) : He.FnW) = some (d.name, d.qual, d.params, .stmts d.body, d.scope, mainGlobals, [], builtinsNs) := e
      simp only [Option.some.injEq, Prod.mk.injEq] at e2
      obtain ⟨h1, h2, h3, h4, h5, h6, h7, h8⟩ := e2
      subst h1 h2 h3 h4 h5 h6 h7 h8
      have c3 : (PySem.W.codeIn K n13 d.qual && (He.dflB K n8 [] && He.kwdB K n9 [])) = true := c2
      obtain ⟨k1, k2⟩ := He.ba c3
      obtain ⟨k3, k4⟩ := He.ba k2
      exact ⟨_, ⟨oc, od, n8, n9, n10, n11, n12, n13, n14, osl, rfl, q, k1, He.dflB_ok k3, He.kwdB_ok k4⟩, kp⟩
    | _ => cases c2
def SaysP (gs : List DefP) (K : PySem.W.Frag) : Prop := (gs.all fun d => d.ok K) = true ∧ (gs.map fun d => fnA K (pAd K d.cls d.name)) = gs.map DefP.val
theorem SaysP.def_ {gs : List DefP} {K : PySem.W.Frag} (c : SaysP gs K) (i : Nat) {d : DefP} (h : gs[i]? = some d := by rfl) : ∃ fd, FunD K d.name d.qual d.params d.body d.scope [] [] (pAd K d.cls d.name) fd := by
  have e2 : (gs.map fun d => fnA K (pAd K d.cls d.name))[i]? = (gs.map DefP.val)[i]? := by rw [c.2]
  rw [List.getElem?_map, List.getElem?_map, h] at e2
  exact DefP.funD (Option.some.inj e2) (List.all_eq_true.mp c.1 d (List.mem_of_getElem? h))
abbrev AlZ : Type := He.AlD × List He.FnW × FnC × Bool
def obsZ (n : Nat) (fa : List He.Fa) (fn : List He.DefD) (gs : List DefP) (ex : PySem.W.Frag → Bool) (fc : PySem.W.Frag → FnC) (fb : PySem.W.Frag → Bool) (g : Addr → Option Obj) : AlZ :=
  (He.obsD fa fn (He.frT g (asY g n)), (gs.map fun d => fnA (He.frT g (asY g n)) (pAd (He.frT g (asY g n)) d.cls d.name)), fc (He.frT g (asY g n)), ex (He.frT g (asY g n)) && (fb (He.frT g (asY g n)) && gs.all fun d => d.ok (He.frT g (asY g n))))
def valZ (fn : List He.DefD) (gs : List DefP) (fcv : FnC) : AlZ := (He.valD fn, gs.map DefP.val, fcv, true)
structure SaysZ (fa : List He.Fa) (fn : List He.DefD) (gs : List DefP) (ex : PySem.W.Frag → Bool) (fc : PySem.W.Frag → FnC) (fcv : FnC) (fb : PySem.W.Frag → Bool) (K : PySem.W.Frag) : Prop where
  d : He.SaysD fa fn K
  p : SaysP gs K
  f : fc K = fcv
  more : ex K = true
  b : fb K = true
def hookZ (n : Nat) (fa : List He.Fa) (fn : List He.DefD) (gs : List DefP) (ex : PySem.W.Frag → Bool) (fc : PySem.W.Frag → FnC) (fcv : FnC) (fb : PySem.W.Frag → Bool) : PySem.W.Hook where
  α := AlZ
  obs := fun s => obsZ n fa fn gs ex fc fb s.heap.get?
  val := fun _ => valZ fn gs fcv
  says := fun _ h => ∃ K : PySem.W.Frag, K.In h ∧ SaysZ fa fn gs ex fc fcv fb K
  of := fun _ _ e => by
    refine ⟨_, He.frT_in, congrArg (fun z : AlZ => z.1) e, ⟨?_, congrArg (fun z : AlZ => z.2.1) e⟩, congrArg (fun z : AlZ => z.2.2.1) e, ?_, ?_⟩
    · exact (He.ba (He.ba (congrArg (fun z : AlZ => z.2.2.2) e)).2).2
    · exact (He.ba (congrArg (fun z : AlZ => z.2.2.2) e)).1
    · exact (He.ba (He.ba (congrArg (fun z : AlZ => z.2.2.2) e)).2).1
  keeps := fun _ _ _ ⟨K, hK, c⟩ k => ⟨K, PySem.W.Frag.In.keeps hK k, c⟩
theorem obsZ_eq {n : Nat} {fa : List He.Fa} {fn : List He.DefD} {gs : List DefP} {ex : PySem.W.Frag → Bool} {fc : PySem.W.Frag → FnC} {fcv : FnC} {fb : PySem.W.Frag → Bool} {g : Addr → Option Obj} {s : Shared} (h : ∀ a, g a = s.heap.get? a) : obsZ n fa fn gs ex fc fb g = (hookZ n fa fn gs ex fc fcv fb).obs s := by
  have e : g = s.heap.get? := funext h
  rw [e] <;> rfl
theorem SaysZ.fau {fa : List He.Fa} {fn : List He.DefD} {gs : List DefP} {ex : PySem.W.Frag → Bool} {K : PySem.W.Frag} {h : Heap} {mg : Str → Option Value}
    (c : SaysZ fa fn gs ex (fun K => fnC K ("Fault", some "__init__")) fnF (fun K => (faBs "/claim/cut.py" K).all id) K) (X : K.In h) (Gm : h.Ns mainGlobals mg) : FaT K mg := fun P i => by
  refine faTxt_of X Gm c.f ?_ i.top
  rw [i.file]
  exact c.b
structure Pt (P : Program) (w : World) (K : PySem.W.Frag) (mg : Str → Option Value) (base : Heap) (k : Nat) (C : Addr) (m : Str) (sp : Sp) : Prop where
  ex : ∃ (p f : Addr) (fd : FuncData) (ps : List Str), Cls K C ∧ PropOf K C m p f ∧ FnOk P w K mg base (L2.CX P w) k f fd ps sp ∧ Binds K fd ps []
theorem pe_pr {X : Cx} {k j : Nat} {C : Addr} {f : Str} {sp : Sp} {e : Expr} {pos : Pos} {ta : TE} (c : Pt X.prog X.w X.K X.mg X.base k C f sp) (hr : Room j X.A) (hk : k + 1 ≤ j) (he : PE X e ta) (hab : attributeBase e f X.env (eval e X.env) = eval e X.env := by rfl) :
    PE X (.Attribute e f pos) (tProp C sp [] E0 ta) := by
  obtain ⟨p, f', fd, ps, cl, hp, F, b⟩ := c.ex
  exact pe_prop he cl hp F (hr.mono hk) b .nil (fun _ _ _ _ _ _ _ h => by
    obtain ⟨_, _, _, _, _, _, _, _, _, _, _, _, z⟩ := h
    exact z.elim) hab
section
variable {X : Cx} {k j : Nat} {C : Addr} {x m : Str} {sp : Sp} {dvs : List V} {p pos : Pos} {E : L2.St → XK}
theorem pe_cl0 (c : Cl X.prog X.w X.K X.mg X.base k x sp dvs) (hr : Room j X.A) (hk : k ≤ j) (hx : ∀ σ, PassesAt (L2.CX X.prog X.w) X σ (E σ)) (hg : Gl X x) (hdb : (x == ("__debug__" : Str)) = false := by decide) :
    PE X (.Call (.Name x p) [] [] pos) (tCallSD sp dvs E tNil) := by
  obtain ⟨f, fd, ps, ds, F, hm, kp, b, d⟩ := c.ex
  refine ⟨fun pins s σ H Q I h => ?_⟩
  refine wpAny_Call_Name_kw (ld_glob I hg hm ?_ hdb)
  exact PySem.W.callWith_K0 I.kIn kp (run_fnSD (us := []) F (hr.mono hk) b d (hx σ) I .nil h)
theorem pe_mq0 (c : Mq X.prog X.w X.K X.mg X.base k x C sp dvs) (hr : Room j X.A) (hk : k + 1 ≤ j) (hg : Gl X x) (hdb : (x == ("__debug__" : Str)) = false := by decide) :
    PE X (.Call (.Name x p) [] [] pos) (tMake C sp dvs E0 tNil) := by
  obtain ⟨f, fd, ps, ds, M, F, hm, b, d⟩ := c.ex
  exact pe_make0 M F (hr.mono hk) hg hm b d passL hdb
end
end G

namespace G
open PySem PySem.Spec PyProof.Rows L2
/-! ### texts by their codes -/
theorem len_svv (zs : List Nat) : (⟨zs.toArray⟩ : Str).length = zs.length := by show zs.toArray.size = _; simp
theorem app_svv (a b : List Nat) : (⟨a.toArray⟩ : Str) ++ ⟨b.toArray⟩ = ⟨(a ++ b).toArray⟩ := by
  show (⟨a.toArray ++ b.toArray⟩ : Str) = _
  simp
theorem svv_inj {a b : List Nat} (h : (⟨a.toArray⟩ : Str) = ⟨b.toArray⟩) : a = b := by
  have z := congrArg (fun s : Str => s.cps.toList) h
  simpa using z
theorem dT {a b : List Nat} : decide ((⟨a.toArray⟩ : Str) = ⟨b.toArray⟩) = decide (a = b) := decide_eq_decide.mpr ⟨svv_inj, fun h => by rw [h]⟩
theorem sl16 : sizeLine = 16777216 := sizeLine_eq
theorem drop_c {α : Type} {zs : List α} {i : Nat} {c : α} (h : zs[i]? = some c) : zs.drop i = c :: zs.drop (i + 1) := by
  obtain ⟨hi, e⟩ := List.getElem?_eq_some_iff.mp h
  rw [List.drop_eq_getElem_cons hi, e]
theorem of_drop {α : Type} {zs : List α} {i : Nat} {c : α} {r : List α} (h : zs.drop i = c :: r) : zs[i]? = some c ∧ zs.drop (i + 1) = r ∧ i < zs.length := by
  have h1 : i < zs.length := by
    rcases Nat.lt_or_ge i zs.length with z | z
    · exact z
    · rw [List.drop_eq_nil_of_le z] at h; cases h
  rw [List.drop_eq_getElem_cons h1] at h
  injection h with h2 h3
  exact ⟨by rw [List.getElem?_eq_getElem h1, h2], h3, h1⟩
theorem inV_t {t : List Nat} : ∀ {xs : List (List Nat)}, inV (svv t) (xs.map svv) = xs.contains t
  | [] => rfl
  | x :: xs => by
    have ih := inV_t (t := t) (xs := xs)
    unfold inV at ih ⊢
    rw [List.map_cons, List.any_cons, ih, List.contains_cons]
    congr 1
    show ((⟨x.toArray⟩ : Str) == ⟨t.toArray⟩) = _
    by_cases h : t = x
    · subst h; simp
    · have : ¬ (⟨x.toArray⟩ : Str) = ⟨t.toArray⟩ := fun z => h (svv_inj z).symm
      rw [beq_eq_false_iff_ne.mpr this, beq_eq_false_iff_ne.mpr h]
theorem flat_t : ∀ {xs : List (List Nat)}, (xs.map svv).all flatV = true
  | [] => rfl
  | x :: xs => by rw [List.map_cons, List.all_cons, flat_t (xs := xs)]; rfl
section
variable {K : PySem.W.Frag} {F F0 F' H H' : Hp} {x y w : V} {d : D} {ds es : List D} {us vs : List V} {M : List (Addr × HO)} {Q : VK} {S : Hp → Prop} {σ : L2.St} {a b zs : List Nat}
theorem v_eqT (q : Q (.bl (decide (a = b))) H) : rEqX K (.str ⟨a.toArray⟩) (.str ⟨b.toArray⟩) H Q := v_eqS (by rw [dT]; exact q)
theorem v_neT (q : Q (.bl (!decide (a = b))) H) : rNeX K (.str ⟨a.toArray⟩) (.str ⟨b.toArray⟩) H Q := v_neS (by rw [dT]; exact q)
theorem v_lenT' (h : zs.length ≤ 16777216) (q : Q (.int (zs.length : Int)) H) : rLen K [.str ⟨zs.toArray⟩] H Q := v_lenS (by rw [len_svv, sl16]; exact h) (by rw [len_svv]; exact q)
theorem v_ixT' {n : Int} {i c : Nat} (h : zs.length ≤ 16777216) (e : n = (i : Int)) (hc : zs[i]? = some c) (q : Q (.str ⟨[c].toArray⟩) H) : rIx K (.str ⟨zs.toArray⟩) (.int n) H Q :=
  v_ixS (c := c) (by rw [len_svv, sl16]; exact h) (atN (i := i) e (by simpa using hc)) q
theorem v_inC {c : Nat} (q : Q (.bl (decide (c ∈ zs))) H) : rInX K (.str ⟨[c].toArray⟩) (.str ⟨zs.toArray⟩) H Q := v_inS (c := c) (by simpa using q)
theorem v_notInC {c : Nat} (q : Q (.bl (!decide (c ∈ zs))) H) : rNotInX K (.str ⟨[c].toArray⟩) (.str ⟨zs.toArray⟩) H Q := v_notInS (c := c) (by simpa using q)
theorem v_addT (h : a.length + b.length ≤ 16777216) (q : Q (.str ⟨(a ++ b).toArray⟩) H) : rAddX K (.str ⟨a.toArray⟩) (.str ⟨b.toArray⟩) H Q :=
  v_addS (by rw [len_svv, len_svv, sl16]; exact h) (by rw [app_svv]; exact q)
theorem cut_svv {p n : Nat} (hp : p ≤ zs.length) : cutS ⟨zs.toArray⟩ (some (p : Int)) (some ((p + n : Nat) : Int)) = ⟨((zs.drop p).take n).toArray⟩ := by
  unfold cutS
  have h1 : HT.sIx (⟨zs.toArray⟩ : Str).length 0 (some (p : Int)) = p := by
    rw [len_svv]
    unfold HT.sIx
    simp only []
    rw [if_neg (by omega)]
    omega
  have h2 : HT.sIx (⟨zs.toArray⟩ : Str).length (⟨zs.toArray⟩ : Str).length (some ((p + n : Nat) : Int)) = min (p + n) zs.length := by
    rw [len_svv]
    unfold HT.sIx
    simp only []
    rw [if_neg (by omega)]
    omega
  rw [h1, h2]
  have e : ((zs.drop p).take (min (p + n) zs.length - p)) = (zs.drop p).take n := by
    rcases Nat.lt_or_ge (p + n) zs.length with z | z
    · rw [show min (p + n) zs.length - p = n by omega]
    · rw [List.take_of_length_le (i := n) (by rw [List.length_drop]; omega), List.take_of_length_le (by rw [List.length_drop]; omega)]
  show (⟨((zs.toArray.toList.drop p).take _).toArray⟩ : Str) = _
  rw [show zs.toArray.toList = zs by simp, e]
theorem v_slT {p n : Nat} {m1 m2 : Int} (h : zs.length ≤ 16777216) (hp : p ≤ zs.length) (e1 : m1 = (p : Int)) (e2 : m2 = ((p + n : Nat) : Int)) (q : Q (.str ⟨((zs.drop p).take n).toArray⟩) H) : rSlX K (.str ⟨zs.toArray⟩) (some m1) (some m2) H Q := by
  subst e1 e2
  exact v_slS (by rw [len_svv, sl16]; exact h) (by rw [cut_svv hp]; exact q)
theorem starts_svv {s : List Nat} {p : Nat} (hp : p ≤ zs.length) : Txt.startswith3 ⟨zs.toArray⟩ ⟨s.toArray⟩ (p : Int) = decide ((zs.drop p).take s.length = s) := by
  have e : (zs.toArray.extract p (p + s.length)).toList = (zs.drop p).take s.length := by
    rw [Array.toList_extract]
    simp [List.extract_eq_take_drop]
  unfold Txt.startswith3
  have f : ∀ n : Nat, fromIndex n (p : Int) = p := fun n => by unfold fromIndex; rw [if_neg (by omega)]; omega
  rw [f, len_svv, len_svv]
  have g : Builtin.Str.subAt ⟨zs.toArray⟩ ⟨s.toArray⟩ p = decide ((zs.drop p).take s.length = s) := by
    unfold Builtin.Str.subAt
    rw [len_svv, ← e, Bool.eq_iff_iff, decide_eq_true_iff, beq_iff_eq]
    constructor
    · intro h; rw [h]
    · intro h
      apply Array.toList_inj.mp
      exact h
  rw [g, Bool.eq_iff_iff, Bool.and_eq_true, decide_eq_true_iff, decide_eq_true_iff]
  refine ⟨fun h => h.2, fun h => ⟨?_, h⟩⟩
  have := congrArg List.length h
  rw [List.length_take, List.length_drop] at this
  omega
end
/-! ### what is computed: a value, a fault at a place, or nothing (never met) -/
inductive Rs (α : Type) where
  | ok (x : α)
  | bad (i : Nat) (z : List Nat)
  | stuck
def Rs.bind {α β : Type} (r : Rs α) (k : α → Rs β) : Rs β := match r with
  | .ok x => k x
  | .bad i z => .bad i z
  | .stuck => .stuck
def Rs.on {α : Type} (r : Rs α) (ok : α → Prop) (bad : Nat → List Nat → Prop) : Prop := match r with
  | .ok x => ok x
  | .bad i z => bad i z
  | .stuck => False
theorem Rs.on_bind {α β : Type} {r : Rs α} {k : α → Rs β} {ok : β → Prop} {bad : Nat → List Nat → Prop} : (r.bind k).on ok bad ↔ r.on (fun x => (k x).on ok bad) bad := by
  cases r <;> exact Iff.rfl
theorem Rs.on.imp {α : Type} {r : Rs α} {ok ok' : α → Prop} {bad bad' : Nat → List Nat → Prop} (h : r.on ok bad) (f : ∀ x, ok x → ok' x) (g : ∀ i z, bad i z → bad' i z) : r.on ok' bad' := by
  cases r with
  | ok x => exact f x h
  | bad i z => exact g i z h
  | stuck => exact h
/-- the next step of what is computed -/
theorem Rs.on.step {α β : Type} {r : Rs α} {k : α → Rs β} {ok : β → Prop} {bad bad' : Nat → List Nat → Prop} {ok' : α → Prop} (h : (r.bind k).on ok bad) (g : ∀ i z, bad i z → bad' i z) (f : ∀ x, (k x).on ok bad → ok' x) : r.on ok' bad' :=
  (Rs.on_bind.mp h).imp f g
/-- a Fault is let out -/
def Er (K : PySem.W.Frag) (E : XK) (F : Hp) (M : List (Addr × HO)) (i : Nat) (z : List Nat) : Prop :=
  ∀ F' H' d, Same F F' → HH F' H' ((d, .xd (faD (i : Int) ⟨z.toArray⟩)) :: M) → E (.ref (He.ga K "Fault")) (some d) H'
theorem Er.mono {K : PySem.W.Frag} {E : XK} {F F1 : Hp} {M : List (Addr × HO)} {i : Nat} {z : List Nat} (h : Er K E F M i z) (s : Same F F1) : Er K E F1 M i z := fun F' H' d s' hh => h F' H' d (s.trans s') hh
theorem Er.up {K : PySem.W.Frag} {E : XK} {F : Hp} {M : List (Addr × HO)} {i : Nat} {z : List Nat} {c : Addr × HO} (h : Er K E F M i z) : Er K E F (c :: M) i z := fun F' H' d s' hh => h F' H' d s' hh.drop1
theorem Er.raise {K : PySem.W.Frag} {E : XK} {F H : Hp} {M : List (Addr × HO)} {i : Nat} {n : Int} {z : List Nat} (h : Er K E F M i z) (hh : HH F H M) (e : n = (i : Int)) (hi : i < 1000000000) (hz : z.length ≤ 1000) :
    FauK (He.ga K "Fault") (fun cls d H => E cls d H) [.int n, .str ⟨z.toArray⟩] H := by
  subst e
  exact v_fau (by omega) (by rw [len_svv]; exact hz) fun d hd => h F _ d (Same.refl F) (hh.new hd)
section
variable {K : PySem.W.Frag} {F F0 F' H H' : Hp} {x y w : V} {d : D} {ds es : List D} {us vs : List V} {M : List (Addr × HO)} {Q : VK} {S : Hp → Prop} {σ : L2.St} {a b zs : List Nat} {nx bk ct : L2.St → Hp → Prop} {rt : VK}
/-! rules at data that stands in a part of the heap -/
theorem s_fld {c f : Str} {fs : List (Str × D)} (h : At K F0 (.obj c fs) x) (s : Same F0 H) (cl : Cls K (He.ga K c)) (n : NoAttr K (He.ga K c) f) (l : fs.lookup f = some d) (q : ∀ w, At K F0 d w → Q w H) : FldK K f x H Q := by
  obtain ⟨a, dx, vs, rfl, hF, hv⟩ := h.obj_
  obtain ⟨u, hu, ha⟩ := hv.get l
  exact v_fld (s _ _ hF) cl n hu (q u ha)
theorem s_isi {c c' : Str} {fs : List (Str × D)} {k : Bool} (h : At K F0 (.obj c fs) x) (s : Same F0 H) (cl : Cls K (He.ga K c)) (f : InsF K (He.ga K c)) (e : PySem.W.kitOne K (.ref (He.ga K c)) (.ref (He.ga K c')) = some k) (q : Q (.bl k) H) : rIsi K [x, .ref (He.ga K c')] H Q := by
  obtain ⟨a, dx, vs, rfl, hF, hv⟩ := h.obj_
  exact v_isiO (s _ _ hF) cl f e q
theorem s_lenL {α : Type} {e : α → D} {xs : List α} (hx : At K F0 (.lst (xs.map e)) x) (s : Same F0 H) (q : Q (.int (xs.length : Int)) H) : rLen K [x] H Q := by
  obtain ⟨a, vs, rfl, h, t⟩ := hx.lst_
  exact v_lenSq (s.seq h) (by rw [t.len, List.length_map]; exact q)
theorem s_ixL {α : Type} {e : α → D} {xs : List α} {y : α} {n : Int} {i : Nat} (hx : At K F0 (.lst (xs.map e)) x) (s : Same F0 H) (en : n = (i : Int)) (ey : xs[i]? = some y) (q : ∀ w, At K F0 (e y) w → Q w H) : rIx K x (.int n) H Q := by
  obtain ⟨a, vs, rfl, h, t⟩ := hx.lst_
  obtain ⟨u, hu, ha⟩ := t.get (i := i) (d := e y) (by rw [List.getElem?_map, ey]; rfl)
  exact v_ixSq (s.seq h) (atN en hu) (q u ha)
theorem s_ixT {n : Int} {i : Nat} (hx : At K F0 (.tup ds) x) (s : Same F0 H) (en : n = (i : Int)) (e : ds[i]? = some d) (q : ∀ w, At K F0 d w → Q w H) : rIx K x (.int n) H Q := by
  obtain ⟨a, vs, rfl, h, t⟩ := hx.tup_
  obtain ⟨u, hu, ha⟩ := t.get e
  exact .inr (.inl ⟨_, _, _, _, rfl, rfl, Same.sqt s h, atN en hu, q u ha⟩)
theorem s_inL {xs : List (List Nat)} (hx : At K F0 (.lst (xs.map D.t)) x) (s : Same F0 H) (q : Q (.bl (xs.contains a)) H) : rInX K (.str ⟨a.toArray⟩) x H Q := by
  obtain ⟨p, vs, rfl, h, t⟩ := hx.lst_
  have e := t.flat (g := svv)
  subst e
  exact v_inL (s.seq h) rfl flat_t (by rw [inV_t]; exact q)
theorem s_notInL {xs : List (List Nat)} (hx : At K F0 (.lst (xs.map D.t)) x) (s : Same F0 H) (q : Q (.bl (!xs.contains a)) H) : rNotInX K (.str ⟨a.toArray⟩) x H Q := by
  obtain ⟨p, vs, rfl, h, t⟩ := hx.lst_
  have e := t.flat (g := svv)
  subst e
  exact v_notInL (s.seq h) rfl flat_t (by rw [inV_t]; exact q)
theorem s_inT {xs : List (List Nat)} (hx : At K F0 (.tup (xs.map D.t)) x) (s : Same F0 H) (q : Q (.bl (xs.contains a)) H) : rInX K (.str ⟨a.toArray⟩) x H Q := by
  obtain ⟨p, vs, rfl, h, t⟩ := hx.tup_
  have e := t.flat (g := svv)
  subst e
  exact .inl ⟨p, _, rfl, .inr (Same.sqt s h), rfl, flat_t, by rw [inV_t]; exact q⟩
theorem s_notInT {xs : List (List Nat)} (hx : At K F0 (.tup (xs.map D.t)) x) (s : Same F0 H) (q : Q (.bl (!xs.contains a)) H) : rNotInX K (.str ⟨a.toArray⟩) x H Q := by
  obtain ⟨p, vs, rfl, h, t⟩ := hx.tup_
  have e := t.flat (g := svv)
  subst e
  exact .inl ⟨p, _, rfl, .inr (Same.sqt s h), rfl, flat_t, by rw [inV_t]; exact q⟩
theorem s_gtup {S : L2.St → Hp → Prop} {n : Nat} {t : TGs} (h : At K F0 (.tup ds) x) (s : Same F0 H) (l : ds.length = n) (q : ∀ us, AtA K F0 ds us → t us σ H S) : gTup K n t x σ H S := by
  obtain ⟨p, vs, rfl, hq, ht⟩ := h.tup_
  exact ⟨p, vs, rfl, Same.sqt s hq, by rw [ht.len, l], q vs ht⟩
/-- a list that is being filled -/
theorem o_append {i : Nat} {l : Addr} {o : HO} (hh : HH F H M) (e : M[i]? = some (l, .lst vs)) (hl : vs.length < 16777216) (q : Q .non (upd H l (.lst (vs ++ [x])))) : tyV K "list" (.ref l) H ∧ rAppend (.ref l) [x] H Q :=
  g_tyL (hh.get e) (v_append (hh.get e) (by rw [sl16]; exact hl) q)
/-! what a making, a tuple, a list wants -/
def MakeK (C : Addr) (sp : Sp) (vs : List V) (Q : VK) (H : Hp) (E : XK) : Prop := ∀ x dx, H x = none → H dx = none → dx ≠ x → sp (.ref x :: vs) (upd (upd H dx (.own x)) x (.ins C dx [])) (fun v H2 => v = .non ∧ Q (.ref x) H2) E
theorem g_makeK {C : Addr} {sp : Sp} {E : XK} {TA1 : TA} (h : TA1 σ H fun vs H1 => MakeK C sp vs Q H1 E) : tMake C sp [] E TA1 σ H Q := g_make h
theorem g_makeD {C : Addr} {sp : Sp} {E : XK} {TA1 : TA} {dvs : List V} (h : TA1 σ H fun vs H1 => MakeK C sp (vs ++ dvs) Q H1 E) : tMake C sp dvs E TA1 σ H Q := h
def TupK (xs : List V) (Q : VK) (H : Hp) : Prop := xs.length ≤ sizeLine ∧ ∀ p, H p = none → Q (.ref p) (upd H p (.tup xs))
def LstK (xs : List V) (Q : VK) (H : Hp) : Prop := xs.length ≤ sizeLine ∧ ∀ p, H p = none → Q (.ref p) (upd H p (.lst xs))
theorem g_tupK {TA1 : TA} (h : TA1 σ H fun xs H1 => TupK xs Q H1) : tTup TA1 σ H Q := h
theorem g_lstK {TA1 : TA} (h : TA1 σ H fun xs H1 => LstK xs Q H1) : tLst TA1 σ H Q := h
theorem s_tup {xs : List V} (hh : HH F H M) (h : AtA K F ds xs) (hl : xs.length ≤ 1000) (q : ∀ F' H' u, Same F F' → HH F' H' M → At K F' (.tup ds) u → Q u H') : TupK xs Q H := ⟨by rw [sl16]; omega, a_tup hh h q⟩
theorem s_lst {xs : List V} (hh : HH F H M) (h : AtA K F ds xs) (hl : xs.length ≤ 1000) (q : ∀ F' H' u, Same F F' → HH F' H' M → At K F' (.lst ds) u → Q u H') : LstK xs Q H := ⟨by rw [sl16]; omega, a_lst hh h q⟩
/-- a list that will be filled -/
theorem o_lst {xs : List V} (hh : HH F H M) (hl : xs.length ≤ 1000) (q : ∀ H' p, HH F H' ((p, .lst xs) :: M) → Q (.ref p) H') : LstK xs Q H := ⟨by rw [sl16]; omega, fun p hp => q _ p (hh.new hp)⟩
theorem o_tup {xs : List V} (hl : xs.length ≤ 1000) (q : ∀ p, H p = none → Q (.ref p) (upd H p (.tup xs))) : TupK xs Q H := ⟨by rw [sl16]; omega, q⟩
/-- a property is read -/
def PropK (C : Addr) (sp : Sp) (dvs : List V) (E : XK) (x : V) (H : Hp) (Q : VK) : Prop := ∃ a dx fs, x = .ref a ∧ H a = some (.ins C dx fs) ∧ sp (.ref a :: dvs) H Q E
theorem g_prop {C : Addr} {sp : Sp} {dvs : List V} {E : XK} {ta : TE} (h : ta σ H fun x H1 => PropK C sp dvs E x H1 Q) : tProp C sp dvs E ta σ H Q := h
theorem v_neg {f : Int → V} {j : Int} (q : Q (f j) H) : rU f (.int j) H Q := ⟨_, rfl, q⟩
/-! an instance is made field by field -/
theorem putF_new {f : Str} {v : V} : ∀ {fs : List (Str × V)}, (fs.map (·.1)).contains f = false → putF f v fs = fs ++ [(f, v)]
  | [], _ => rfl
  | (g, z) :: r, h => by
    rw [List.map_cons, List.contains_cons, Bool.or_eq_false_iff] at h
    have n : ¬ g = f := fun e => by rw [e, beq_self_eq_true] at h; cases h.1
    unfold putF
    rw [if_neg n, putF_new h.2]
    rfl
theorem mk_start {C : Addr} {sp : Sp} {E : XK} (hh : HH F H M) (h : ∀ F' H' v dx, Same F F' → HH F' H' ((v, .ins C dx []) :: M) → sp (.ref v :: vs) H' (fun w H2 => w = .non ∧ Q (.ref v) H2) E) : MakeK C sp vs Q H E := fun v dx hv hdx ne => by
  have hv1 : upd H dx (.own v) v = none := by rw [upd_ne (Ne.symm ne)]; exact hv
  exact h _ _ v dx (hh.grow (p := dx) (o := .own v) hdx) ((hh.newF (p := dx) (o := .own v) hdx).new (o := .ins C dx []) hv1)
theorem s_sfld {C a dx : Addr} {f : Str} {fs : List (Str × V)} (hh : HH F H ((a, .ins C dx fs) :: M)) (cl : Cls K C) (n : NoAttr K C f) (ks : List Str) (e : fs.map (·.1) = ks) (nf : ks.contains f = false) (l : fs.length < 999)
    (q : ∀ H', HH F H' ((a, .ins C dx (fs ++ [(f, y)])) :: M) → S H') : SfldK K f (.ref a) y H S := by
  refine v_sfld (hh.get (i := 0) rfl) cl n (by omega) (q _ ?_)
  rw [putF_new (by rw [e]; exact nf)]
  exact hh.set0
theorem mk_end {c : Str} {v dx : Addr} {fs : List (Str × D)} {gs : List (Str × V)} (hh : HH F H ((v, .ins (He.ga K c) dx gs) :: M)) (ha : AtF K F fs gs) (q : ∀ F' H' u, Same F F' → HH F' H' M → At K F' (.obj c fs) u → Q u H') : Q (.ref v) H :=
  q _ _ _ hh.frzS hh.frz (At.mkO upd_same (ha.mono hh.frzS))
theorem s_listL (hx : At K F0 (.lst ds) x) (hh : HH F H M) (s : Same F0 F) (q : ∀ F' H' u, Same F F' → HH F' H' M → At K F' (.lst ds) u → Q u H') : rListX K [x] H Q := by
  obtain ⟨a, vs, rfl, h, t⟩ := hx.lst_
  refine v_listL (hh.sub.seq (s.seq h)) fun l hl => q _ _ _ (hh.grow hl) (hh.newF hl) (At.mkL upd_same (t.mono (s.trans (hh.grow hl))))
theorem s_listT (hx : At K F0 (.tup ds) x) (hh : HH F H M) (s : Same F0 F) (q : ∀ F' H' u, Same F F' → HH F' H' M → At K F' (.lst ds) u → Q u H') : rListX K [x] H Q := by
  obtain ⟨a, vs, rfl, h, t⟩ := hx.tup_
  refine v_listT (Same.sqt hh.sub (Same.sqt s h)) fun l hl => q _ _ _ (hh.grow hl) (hh.newF hl) (At.mkL upd_same (t.mono (s.trans (hh.grow hl))))
/-- a field of a cell that may change is set anew -/
theorem o_sfld0 {C a dx : Addr} {f : Str} {fs : List (Str × V)} (hh : HH F H ((a, .ins C dx fs) :: M)) (cl : Cls K C) (n : NoAttr K C f) (l : fs.length < 1000) (q : ∀ H', HH F H' ((a, .ins C dx (putF f y fs)) :: M) → S H') : SfldK K f (.ref a) y H S :=
  v_sfld (hh.get (i := 0) rfl) cl n l (q _ hh.set0)
end
section
variable {K : PySem.W.Frag} {F F0 F' H H' : Hp} {x y w : V} {d : D} {ds es : List D} {us vs : List V} {M : List (Addr × HO)} {Q : VK} {S : Hp → Prop} {σ : L2.St} {a b zs : List Nat} {nx bk ct : L2.St → Hp → Prop} {rt : VK}
/-! a cell's list: walked, asked -/
theorem o_lcL {α β : Type} {e : α → D} {f : β → D} {xs : List α} {g : TG} {tt : TT} {te : TE} {ws : List Nat} {l : Addr} {i : Nat} (hh : HH F H M) (hm : M[i]? = some (l, .lst us)) (t : AtA K F (xs.map e) us) (hz : xs.length < 16777216) (r : α → Option β)
    (hs : ∀ y (w : V) F' H' c (P : V → Hp → Prop) (N : Hp → Prop), y ∈ xs → At K F' (e y) w → Same F F' → HH F' H' (c :: M) → (∀ F4 H4 v z, Same F' F4 → HH F4 H4 (c :: M) → r y = some z → At K F4 (f z) v → P v H4) →
      (∀ F4 H4, Same F' F4 → HH F4 H4 (c :: M) → r y = none → N H4) → g w (wipe σ ws) H' fun σ2 H2 => wipe σ2 ws = wipe σ ws ∧ tt σ2 H2 fun b H3 => if b = true then te σ2 H3 (fun v H4 => P v H4) else N H3)
    (q : ∀ F' H' u, Same F F' → HH F' H' M → At K F' (.lst ((xs.filterMap r).map f)) u → Q u H') : OvL K (fun J H1 => LcK J g tt te σ ws H1 Q) (.ref l) H := by
  have hl : us.length = xs.length := by rw [t.len, List.length_map]
  refine v_ovL (SqL.of (hh.get hm)) fun D hD => ?_
  refine c_list (xs := us) (fun i H' => ∃ F' ws, Same F F' ∧ HH F' H' ((D, .lst ws) :: M) ∧ ws.length ≤ i ∧ AtA K F' (((xs.take i).filterMap r).map f) ws) ⟨F, [], Same.refl F, hh.new hD, Nat.zero_le _, AtA.nil⟩
    (fun j H' _ ⟨F', ws, s, h', _⟩ => SqL.of (h'.get (i := i + 1) hm)) (fun i v H' hv ⟨F', ws, s, h', hw, ha⟩ => ?_) (fun H' ⟨F', ws, s, h', hw, ha⟩ => ?_)
  · obtain ⟨d, hd', hat⟩ := t.at_ hv
    rw [List.getElem?_map] at hd'
    cases ex : xs[i]? with
    | none => rw [ex] at hd'; cases hd'
    | some y =>
      rw [ex] at hd'
      cases hd'
      have hi : i < xs.length := by
        rcases Nat.lt_or_ge i xs.length with z | z
        · exact z
        · rw [List.getElem?_eq_none z] at ex; cases ex
      have e1 : xs[i] = y := by rw [List.getElem?_eq_getElem hi] at ex; exact Option.some.inj ex
      have et : xs.take (i + 1) = xs.take i ++ [y] := by rw [← e1]; exact (List.take_append_getElem hi).symm
      refine hs y v F' H' _ _ _ (e1 ▸ List.getElem_mem hi) (hat.mono s) s h' (fun F4 H4 v z s4 h4 er hz => ?_) (fun F4 H4 s4 h4 er => ?_)
      · refine v_put (h4.get (i := 0) rfl) (by rw [sl16]; omega) ⟨F4, ws ++ [v], s.trans s4, h4.set0, by rw [List.length_append]; show _ + 1 ≤ _; omega, ?_⟩
        rw [et, List.filterMap_append, List.filterMap_cons, er]
        exact AtA.snocM (ha.mono s4) hz
      · refine ⟨F4, ws, s.trans s4, h4, by omega, ?_⟩
        rw [et, List.filterMap_append, List.filterMap_cons, er]
        show AtA K F4 ((_ ++ []).map f) ws
        rw [List.append_nil]
        exact ha.mono s4
  · rw [hl, List.take_length] at ha
    exact q _ _ _ (s.trans h'.frzS) h'.frz (frz_lst (h'.out (i := 0) rfl) ha)
theorem o_forL {α : Type} {e : α → D} {xs : List α} {g : TG} {tb : TS} {l : Addr} {i : Nat} (hh : HH F H M) (hm : M[i]? = some (l, .lst us)) (t : AtA K F (xs.map e) us) (I : List α → L2.St → Hp → Prop) (hF : ∀ r σ H, I r σ H → SqL K H l us) (h0 : I xs σ H)
    (hs : ∀ y r w σ H, At K F (e y) w → I (y :: r) σ H → g w σ H fun σ2 H2 => tb ⟨I r, rt, nx, I r⟩ σ2 H2) (hd : ∀ σ H, I [] σ H → nx σ H) : OvL K (fun J H1 => LoopG J g tb ⟨nx, rt, bk, ct⟩ σ H1) (.ref l) H := by
  have hl : us.length = xs.length := by rw [t.len, List.length_map]
  refine v_ovL (SqL.of (hh.get hm)) (l_list (xs := us) (fun i σ H => I (xs.drop i) σ H) h0 (fun i σ H _ q => hF _ _ _ q) (fun i v σ H hv q => ?_) (fun σ H q => hd σ H ?_))
  · obtain ⟨d, hd', ha⟩ := t.at_ hv
    rw [List.getElem?_map] at hd'
    cases ex : xs[i]? with
    | none => rw [ex] at hd'; cases hd'
    | some y =>
      rw [ex] at hd'
      cases hd'
      exact hs y _ v σ H ha (by rw [drop_c ex] at q; exact q)
  · rw [hl, List.drop_length] at q
    exact q
theorem o_lenL {l : Addr} {i : Nat} (hh : HH F H M) (hm : M[i]? = some (l, .lst us)) (q : Q (.int (us.length : Int)) H) : rLen K [.ref l] H Q := v_lenL (hh.get hm) q
theorem o_inL {xs : List (List Nat)} {l : Addr} {i : Nat} (hh : HH F H M) (hm : M[i]? = some (l, .lst us)) (t : AtA K F (xs.map D.t) us) (q : Q (.bl (xs.contains a)) H) : rInX K (.str ⟨a.toArray⟩) (.ref l) H Q := by
  have e := t.flat (g := svv)
  subst e
  exact v_inL (SqL.of (hh.get hm)) rfl flat_t (by rw [inV_t]; exact q)
theorem o_notInL {xs : List (List Nat)} {l : Addr} {i : Nat} (hh : HH F H M) (hm : M[i]? = some (l, .lst us)) (t : AtA K F (xs.map D.t) us) (q : Q (.bl (!xs.contains a)) H) : rNotInX K (.str ⟨a.toArray⟩) (.ref l) H Q := by
  have e := t.flat (g := svv)
  subst e
  exact v_notInL (SqL.of (hh.get hm)) rfl flat_t (by rw [inV_t]; exact q)
/-- a list that will be filled, behind the first cell -/
theorem o_lst1 {xs : List V} {c : Addr × HO} (hh : HH F H (c :: M)) (hl : xs.length ≤ 1000) (q : ∀ H' p, HH F H' (c :: (p, .lst xs) :: M) → Q (.ref p) H') : LstK xs Q H := ⟨by rw [sl16]; omega, fun p hp => q _ p (hh.new1 hp)⟩
theorem o_app0 {l : Addr} (hh : HH F H ((l, .lst vs) :: M)) (hl : vs.length < 16777216) (q : ∀ H', HH F H' ((l, .lst (vs ++ [x])) :: M) → Q .non H') : rAppend (.ref l) [x] H Q := v_append (hh.get (i := 0) rfl) (by rw [sl16]; exact hl) (q _ hh.set0)
theorem o_app1 {l : Addr} {c : Addr × HO} (hh : HH F H (c :: (l, .lst vs) :: M)) (hl : vs.length < 16777216) (q : ∀ H', HH F H' (c :: (l, .lst (vs ++ [x])) :: M) → Q .non H') : rAppend (.ref l) [x] H Q := v_append (hh.get (i := 1) rfl) (by rw [sl16]; exact hl) (q _ hh.set1)
theorem o_app2 {l : Addr} {c c2 : Addr × HO} (hh : HH F H (c :: c2 :: (l, .lst vs) :: M)) (hl : vs.length < 16777216) (q : ∀ H', HH F H' (c :: c2 :: (l, .lst (vs ++ [x])) :: M) → Q .non H') : rAppend (.ref l) [x] H Q := v_append (hh.get (i := 2) rfl) (by rw [sl16]; exact hl) (q _ hh.set2)
theorem o_tyL {l : Addr} {i : Nat} {A : Prop} (hh : HH F H M) (hm : M[i]? = some (l, .lst us)) (q : A) : tyV K "list" (.ref l) H ∧ A := g_tyL (hh.get hm) q
end
section
variable {K : PySem.W.Frag} {F F0 F1 F' H H' : Hp} {x y w : V} {d : D} {ds es : List D} {us vs : List V} {M : List (Addr × HO)} {Q : VK} {S : Hp → Prop} {σ : L2.St} {a b zs : List Nat} {nx bk ct : L2.St → Hp → Prop} {rt : VK}
theorem s_cat (hx : At K F0 (.lst ds) x) (hy : At K F1 (.lst es) y) (hh : HH F H M) (s0 : Same F0 F) (s1 : Same F1 F) (hl : ds.length + es.length ≤ 16777216) (q : ∀ F' H' u, Same F F' → HH F' H' M → At K F' (.lst (ds ++ es)) u → Q u H') : rAddX K x y H Q := by
  obtain ⟨a, vs, rfl, h, t⟩ := hx.lstR
  obtain ⟨b, us, rfl, h2, t2⟩ := hy.lstR
  refine v_cat (hh.sub _ _ (s0 _ _ h)) (hh.sub _ _ (s1 _ _ h2)) (by rw [t.len, t2.len, sl16]; exact hl) fun p hp => q _ _ _ (hh.grow hp) (hh.newF hp) (At.mkL upd_same ((t.mono (s0.trans (hh.grow hp))).app (t2.mono (s1.trans (hh.grow hp)))))
/-- a fault at a token: its place must be small -/
def Rs.badT {α : Type} (p : Nat) (z : List Nat) : Rs α := if p < 1000000000 then .bad p z else .stuck
theorem Er.raiseT {α : Type} {E : XK} {ok : α → Prop} {p : Nat} (q : (Rs.badT p zs : Rs α).on ok (Er K E F0 M)) (s : Same F0 F) (hh : HH F H M) (hz : zs.length ≤ 1000) : FauK (He.ga K "Fault") (fun cls d H => E cls d H) [.int (p : Int), .str ⟨zs.toArray⟩] H := by
  unfold Rs.badT at q
  by_cases h : p < 1000000000
  · rw [if_pos h] at q
    exact Er.raise (Er.mono q s) hh rfl h hz
  · rw [if_neg h] at q
    exact q.elim
end
theorem putF_ne {f g : Str} {v y : V} {fs : List (Str × V)} (n : (g == f) = false) : putF f v ((g, y) :: fs) = (g, y) :: putF f v fs := by
  conv => lhs; unfold putF
  rw [if_neg (fun e => by rw [e, beq_self_eq_true] at n; cases n)]
theorem putF_eq {f : Str} {v y : V} {fs : List (Str × V)} : putF f v ((f, y) :: fs) = (f, v) :: fs := by
  unfold putF
  rw [if_pos rfl]
theorem lk1 {f g : Str} {α : Type} {a : α} {l : List (Str × α)} (h : f = g) : ((g, a) :: l).lookup f = some a := by subst h; rw [List.lookup_cons, beq_self_eq_true]
theorem lk2 {f g : Str} {α : Type} {a : α} {l : List (Str × α)} {r : Option α} (n : (f == g) = false) (h : l.lookup f = r) : ((g, a) :: l).lookup f = r := by rw [List.lookup_cons, n]; exact h
end G

namespace G
open PySem PySem.Spec PyProof.Rows L2
/-! ### f-strings, str of an int, replace -/
def decI (i : Int) : List Nat := ((toString i : String) : Str).cps.toList
theorem decI_str {i : Int} : (((toString i : String) : Str)) = ⟨(decI i).toArray⟩ := by
  unfold decI
  simp
def replL (y z x : List Nat) : List Nat := (Txt.replace ⟨x.toArray⟩ ⟨y.toArray⟩ ⟨z.toArray⟩).cps.toList
theorem replL_str {x y z : List Nat} : Txt.replace ⟨x.toArray⟩ ⟨y.toArray⟩ ⟨z.toArray⟩ = ⟨(replL y z x).toArray⟩ := by
  unfold replL
  simp
def tJoin (ts : List TE) : TE := fun σ H Q => tJs ts Str.empty σ H fun out H1 => Q (.str out) H1
theorem pe_joinE {X : Cx} {v1 v2 : Expr} {rest : List Expr} {ts : List TE} {pos : Pos} (h : PJ X (v1 :: v2 :: rest) ts) : PE X (.JoinedStr (v1 :: v2 :: rest) pos) (tJoin ts) := pe_joined h
def rStrI : List V → Hp → VK → Prop := fun xs H Q => ∃ i, xs = [.int i] ∧ i.natAbs.log2 < 1920 ∧ Q (.str (toString i)) H
def JsT (ts : List TE) (acc : List Nat) (σ : L2.St) (H : Hp) (Q : Str → Hp → Prop) : Prop := tJs ts ⟨acc.toArray⟩ σ H Q
def JsK (ts : List TE) (acc : List Nat) (x : V) (σ : L2.St) (H : Hp) (Q : Str → Hp → Prop) : Prop := ∃ y : List Nat, x = svv y ∧ acc.length + y.length ≤ 16777216 ∧ JsT ts (acc ++ y) σ H Q
def FmtK (x : V) (H : Hp) (Q : VK) : Prop := (∃ y : List Nat, x = svv y ∧ y.length ≤ 16777216 ∧ Q (svv y) H) ∨ ∃ i : Int, x = .int i ∧ i.natAbs.log2 < 1920 ∧ Q (svv (decI i)) H
theorem log2_60 {i : Int} (h : i.natAbs ≤ 1000000000000000000) : i.natAbs.log2 < 60 := by
  by_cases z : i.natAbs = 0
  · rw [z]; decide
  · exact (Nat.log2_lt z).mpr (Nat.lt_of_le_of_lt h (by decide))
theorem log2_small {i : Int} (h : i.natAbs ≤ 1000000000000000000) : i.natAbs.log2 < 1920 := Nat.lt_trans (log2_60 h) (by decide)
section
variable {σ : L2.St} {H : Hp} {Q : VK} {te : TE} {t : TE} {ts : List TE} {acc y : List Nat} {S : Str → Hp → Prop}
theorem g_joinE (h : JsT ts [] σ H fun out H1 => Q (.str out) H1) : tJoin ts σ H Q := h
theorem g_jsN (q : S ⟨acc.toArray⟩ H) : JsT [] acc σ H S := q
theorem g_jsC (h : t σ H fun x H1 => JsK ts acc x σ H1 S) : JsT (t :: ts) acc σ H S := by
  have e : (fun x H1 => JsK ts acc x σ H1 S) = fun x H1 => ∃ y : Str, x = .str y ∧ ((⟨acc.toArray⟩ : Str) ++ y).length ≤ sizeLine ∧ tJs ts ((⟨acc.toArray⟩ : Str) ++ y) σ H1 S := by
    funext x H1
    apply propext
    constructor
    · rintro ⟨y, rfl, hl, q⟩
      refine ⟨_, rfl, ?_, ?_⟩
      · rw [app_svv, len_svv, List.length_append, sl16]; exact hl
      · rw [app_svv]; exact q
    · rintro ⟨⟨ys⟩, rfl, hl, q⟩
      have ey : (⟨ys⟩ : Str) = ⟨ys.toList.toArray⟩ := by simp
      rw [ey, app_svv] at q hl
      rw [len_svv, List.length_append, sl16] at hl
      exact ⟨ys.toList, by rw [← ey], hl, q⟩
  rw [e] at h
  exact h
theorem v_js (hl : acc.length + y.length ≤ 16777216) (q : JsT ts (acc ++ y) σ H S) : JsK ts acc (.str ⟨y.toArray⟩) σ H S := ⟨y, rfl, hl, q⟩
theorem g_fmt (h : te σ H fun x H1 => FmtK x H1 Q) : tFmt te σ H Q := by
  have e : (fun x H1 => FmtK x H1 Q) = fun x H1 => (∃ y : Str, x = .str y ∧ y.length ≤ sizeLine ∧ Q (.str y) H1) ∨ ∃ i : Int, x = .int i ∧ i.natAbs.log2 < 1920 ∧ Q (.str (toString i)) H1 := by
    funext x H1
    apply propext
    constructor
    · rintro (⟨y, rfl, hl, q⟩ | ⟨i, rfl, hl, q⟩)
      · exact .inl ⟨_, rfl, by rw [len_svv, sl16]; exact hl, q⟩
      · exact .inr ⟨i, rfl, hl, by rw [decI_str]; exact q⟩
    · rintro (⟨⟨ys⟩, rfl, hl, q⟩ | ⟨i, rfl, hl, q⟩)
      · have ey : (⟨ys⟩ : Str) = ⟨ys.toList.toArray⟩ := by simp
        rw [ey] at q hl
        rw [len_svv, sl16] at hl
        exact .inl ⟨ys.toList, by rw [← ey], hl, q⟩
      · exact .inr ⟨i, rfl, hl, by rw [decI_str] at q; exact q⟩
  rw [e] at h
  exact h
theorem v_fmtT (hl : y.length ≤ 16777216) (q : Q (svv y) H) : FmtK (.str ⟨y.toArray⟩) H Q := .inl ⟨y, rfl, hl, q⟩
theorem v_fmtI {i : Int} (hl : i.natAbs ≤ 1000000000000000000) (q : Q (svv (decI i)) H) : FmtK (.int i) H Q := .inr ⟨i, rfl, log2_small hl, q⟩
theorem v_strI {i : Int} (hl : i.natAbs ≤ 1000000000000000000) (q : Q (svv (decI i)) H) : rStrI [.int i] H Q := ⟨i, rfl, log2_small hl, by rw [decI_str]; exact q⟩
end
theorem decI_len {i : Int} (hl : i.natAbs ≤ 1000000000000000000) : (decI i).length ≤ 1000 := by
  have e := int_text_length_le (k := 60) (by decide) (log2_60 hl)
  have e2 : (decI i).length = (((toString i : String) : Str)).length := by rw [decI_str, len_svv]
  rw [e2, PySem.ofString_length (toString i)]
  omega
/-! a token is out -/
def NbK (K : PySem.W.Frag) : Prop := PySem.W.nsOkIn K cStatics = true ∧ PySem.W.nsIn K cStatics sharingNotToldKey = some none
def nbF (K : PySem.W.Frag) : Bool := PySem.W.nsOkIn K cStatics && He.eqO (PySem.W.nsIn K cStatics sharingNotToldKey) (some none)
theorem nbF_ok {K : PySem.W.Frag} (h : nbF K = true) : NbK K := by
  obtain ⟨h1, h2⟩ := He.ba h
  exact ⟨h1, He.eqO_ok h2⟩
theorem NbK.none {K : PySem.W.Frag} {h : Heap} (n : NbK K) (X : K.In h) : NoneBooked h :=
  ⟨_, .of_isNs (PySem.W.isNs_of_in X n.1), PySem.W.ns_none_of X (.of_isNs (PySem.W.isNs_of_in X n.1)) n.2⟩
def PE1 (X : Cx) (e : Expr) (t : TE) : Prop :=
  ∀ (pins : List (Addr × Obj)) (s : Shared) (σ : L2.St) (H : Hp) (Q : VK), Inv X pins σ H s → t σ H Q → wpAny (model X.prog X.w) X.A (eval e X.env) (fun v s1 => 1 ≤ s1.toks ∧ EP X pins σ Q v s1) X.xe s
section
variable {X : Cx} {e f : Expr} {te tf : TE} {pos : Pos} {op : Operator}
theorem PE1.pe (h : PE1 X e te) : PE X e te := ⟨fun pins s σ H Q I q => wpAny_mono (h pins s σ H Q I q) (fun _ _ z => z.2) fun _ _ z => z⟩
theorem pe1_strE {x z : Str} {j : Nat} (h : x = z) : PE1 X (.Constant (.str x) j pos) (tC (.str z)) := by
  subst h
  exact fun pins s σ H Q I q => Calls.Constant_str ⟨by show 1 ≤ s.toks + 1; omega, .str x, H, I.tok _, ⟨_, rfl⟩, q⟩
theorem pe1_op {r : R2} (ho : OpR X (binaryOp op) r) (ha : PE1 X e te) (hb : PET X f tf) : PE1 X (.BinOp e op f pos) (tOp r te tf) := by
  intro pins s σ H Q I h
  refine wpAny_BinOp (wpAny_mono (ha pins s σ H _ I h) (fun v s1 q => ?_) fun _ _ z => z)
  obtain ⟨h1, x, H1, I1, r1, q1⟩ := q
  refine wpAny_mono (PySem.wpAny_toks (hb pins s1 σ H1 _ h1 I1 q1)) (fun u s2 q => ?_) fun _ _ z => z.2
  obtain ⟨h2, y, H2, I2, r2, q2⟩ := q
  refine wpAny_mono (PySem.wpAny_toks (ho pins s2 σ H2 x y v u Q I2 r1 r2 q2)) (fun w s3 q => ?_) fun _ _ z => z.2
  exact ⟨Nat.le_trans h1 (Nat.le_trans h2 q.1), q.2⟩
def tReplL (to : TE) (y z : List Nat) : TE := fun σ H Q => to σ H fun v H1 => ∃ x : List Nat, v = svv x ∧ x.length + (x.length + 1) * z.length ≤ 16777216 ∧ Q (svv (replL y z x)) H1
def tReplS (to : TE) (z : List Nat) : TE := fun σ H Q => to σ H fun v H1 => ∃ x : List Nat, v = svv x ∧ x.length + (x.length + 1) * z.length ≤ 16777216 ∧ Q (svv x) H1
theorem pet_replE {o : Expr} {to : TE} {y z : Str} {ys zs : List Nat} {j k : Nat} {c0 c1 apos : Pos} (ho : PET X o to) (ey : y = ⟨ys.toArray⟩) (ez : z = ⟨zs.toArray⟩) (hyz : (y == z) = false := by decide)
    (hst : starEach [.Constant (.str y) j c0, .Constant (.str z) k c1] X.env = [(false, eval (.Constant (.str y) j c0) X.env), (false, eval (.Constant (.str z) k c1) X.env)] := by rfl)
    (hbase : attributeBase o "replace" X.env (eval o X.env) = eval o X.env := by rfl) (hline : (apos.endLine == pos.line) = true := by rfl) :
    PET X (.Call (.Attribute o "replace" apos) [.Constant (.str y) j c0, .Constant (.str z) k c1] [] pos) (tReplL to ys zs) := by
  intro pins s σ H Q h0 I h
  refine CwR.pet_replT ho hyz hst hbase hline pins s σ H Q h0 I ?_
  show to σ H _
  have e : (fun v H1 => ∃ x : List Nat, v = svv x ∧ x.length + (x.length + 1) * zs.length ≤ 16777216 ∧ Q (svv (replL ys zs x)) H1) = fun v H1 => ∃ x, v = .str x ∧ x.length + (x.length + 1) * z.length ≤ 16777216 ∧ Q (.str (Txt.replace x y z)) H1 := by
    funext v H1
    apply propext
    subst ey ez
    rw [len_svv]
    constructor
    · rintro ⟨x, rfl, hl, q⟩
      exact ⟨_, rfl, by rw [len_svv]; exact hl, by rw [replL_str]; exact q⟩
    · rintro ⟨⟨xs⟩, rfl, hl, q⟩
      have ex : (⟨xs⟩ : Str) = ⟨xs.toList.toArray⟩ := by simp
      rw [ex] at q hl
      rw [len_svv] at hl
      rw [replL_str] at q
      exact ⟨xs.toList, by rw [← ex], hl, q⟩
  have h' : to σ H (fun v H1 => ∃ x : List Nat, v = svv x ∧ x.length + (x.length + 1) * zs.length ≤ 16777216 ∧ Q (svv (replL ys zs x)) H1) := h
  rw [e] at h'
  exact h'
theorem pet_replS {o : Expr} {to : TE} {y : Str} {ys : List Nat} {j k : Nat} {c0 c1 apos : Pos} (nb : NbK X.K) (ho : PET X o to) (ey : y = ⟨ys.toArray⟩)
    (hst : starEach [.Constant (.str y) j c0, .Constant (.str y) k c1] X.env = [(false, eval (.Constant (.str y) j c0) X.env), (false, eval (.Constant (.str y) k c1) X.env)] := by rfl)
    (hbase : attributeBase o "replace" X.env (eval o X.env) = eval o X.env := by rfl) (hline : (apos.endLine == pos.line) = true := by rfl) :
    PET X (.Call (.Attribute o "replace" apos) [.Constant (.str y) j c0, .Constant (.str y) k c1] [] pos) (tReplS to ys) := by
  intro pins s σ H Q h0 I h
  have h' : to σ H (fun v H1 => ∃ x : List Nat, v = svv x ∧ x.length + (x.length + 1) * ys.length ≤ 16777216 ∧ Q (svv x) H1) := h
  refine PySem.Call_method2 hbase hst hline (wpAny_mono (PySem.wpAny_toks (ho pins s σ H _ h0 I h')) (fun v s1 q => ?_) fun _ _ z => z.2)
  obtain ⟨hk, v', H1, I1, r1, x, e1, hb, q⟩ := q
  subst e1
  obtain ⟨tx, e2⟩ := r1
  subst e2
  have h1 : 1 ≤ s1.toks := Nat.le_trans h0 hk
  refine ⟨"str", _, PySem.F.plainAttrs_str, PySem.F.slot_str_replace, PySem.F.type_str_replace, typeIs_str _ _ _, (fun _ e => nomatch e), Calls.callWith_builtin rfl (Calls.evalArgs_plain (Calls.spliced_cons ?_))⟩
  refine Calls.Constant_str (Calls.spliced_cons (Calls.Constant_str (Calls.spliced_nil ?_)))
  refine PySem.SC.replaceA (by show s1.toks ≠ 0; omega) (by show s1.toks + 1 ≠ 0; omega) (by show s1.toks ≠ s1.toks + 1; omega) ?_ (fun t' k => ?_) (nb.none I1.kIn)
  · rw [ey, len_svv, len_svv]; exact hb
  · rw [Txt.replace_self]
    exact ⟨svv x, H1, I1.tok k, ⟨t', rfl⟩, q⟩
theorem pet_cmpR {a b : Expr} {ta tb : TE} {op : CmpOp} {r : R2} (ho : OpR X (compareOp op) r) (ha : PET X a ta) (hb : PET X b tb) (hm : behindInMarks op b = false) : PET X (.Compare a [op] [b] pos) (tOp r ta tb) := by
  intro pins s σ H Q h0 I h
  refine wpAny_Compare1 (wpAny_mono (PySem.wpAny_toks (ha pins s σ H _ h0 I h)) (fun v s1 q => ?_) fun _ _ z => z.2) hm
  obtain ⟨hk, x, H1, I1, r1, q1⟩ := q
  exact thn (hb pins s1 σ H1 _ (Nat.le_trans h0 hk) I1 q1) fun u s2 ⟨y, H2, I2, r2, q2⟩ => ho pins s2 σ H2 x y v u Q I2 r1 r2 q2
theorem pet_one {op} (h : PET X e te) : PET X (.BoolOp op [e] pos) te := fun pins s σ H Q h0 I hw => BoolOp_one (h pins s σ H Q h0 I hw)
theorem pet_and {a b : Expr} {rest : List Expr} {ta tb : TE} (ha : PET X a ta) (hb : PET X (.BoolOp .And (b :: rest) pos) tb) : PET X (.BoolOp .And (a :: b :: rest) pos) (tAndV ta tb) := by
  intro pins s σ H Q h0 I h
  refine BoolOp_and (wpAny_mono (PySem.wpAny_toks (ha pins s σ H _ h0 I h)) (fun v s1 q => ?_) fun _ _ z => z.2)
  obtain ⟨hk, x, H1, I1, r1, c, rfl, q1⟩ := q
  cases r1
  refine wpAny_truthy_bool ?_
  cases c with
  | true => exact hb pins s1 σ H1 Q (Nat.le_trans h0 hk) I1 q1
  | false => exact ⟨.bl false, H1, I1, rfl, q1⟩
theorem psst_cut {st : Stmt} {rest : List Stmt} {t u : TS} (h1 : PST X st t) (h2 : PSsT X rest u) : PSsT X (st :: rest) (C8.tCut t u) := by
  intro pins s σ H D h0 I h
  obtain ⟨Mid, ht, hu⟩ := h
  refine wpAny_execs_cons (wpAny_mono (PySem.wpAny_toks (h1 pins s σ H { D with nx := Mid } h0 I ht)) (fun f s1 q => ?_) fun _ _ x => x.2)
  obtain ⟨hk, q⟩ := q
  cases f with
  | next =>
    obtain ⟨σ', H', I', q⟩ := q
    exact h2 pins s1 σ' H' D (Nat.le_trans h0 hk) I' (hu σ' H' q)
  | ret v => exact q
  | brk => exact q
  | cont => exact q
/-- name = e, where e gives out a token; what stands behind may lean on it -/
theorem pss_set1 {i : Nat} {x : Str} {rest : List Stmt} {u : TS} {pos' : Pos} (hN : X.N.Nodup) (hi : X.N[i]? = some x) (hx : Loc X.env.scope x) (he : PE1 X e te) (h2 : PSsT X rest u) (hs : swapsWith e (some (.Name x pos')) pos.line X.env = pure false := by rfl)
    (hf : X.fn x = true ∨ X.env.scope.names.lookup x = some .local := by first | exact .inl rfl | exact .inr rfl | assumption) : PSs X (.Assign [.Name x pos'] e pos :: rest) (tSeq (tAsg te (gName i)) u) := by
  refine ⟨fun pins s σ H D I h => ?_⟩
  refine wpAny_execs_cons (wpAny_Assign_Name (wpAny_mono (he pins s σ H _ I h) (fun v s1 q => ?_) fun _ _ z => z) hs)
  obtain ⟨h1, y, H1, I1, r1, q1⟩ := q
  refine wpAny_mono (PySem.wpAny_toks (store_ok (v := y) (u := v) (Q := fun _ s2 => Inv X pins (σ.set i (some y)) H1 s2) I1 hN hi hx r1 (fun _ I2 => I2) hf)) (fun _ s2 q => ?_) fun _ _ z => z.2
  exact h2 pins s2 _ H1 D (Nat.le_trans h1 q.1) q.2 q1
/-- s.rstrip() -/
def rRstrip : V → List V → Hp → VK → Prop := fun x xs H Q => ∃ a : Str, x = .str a ∧ xs = [] ∧ a.length ≤ sizeLine ∧ Q (.str (Txt.rstrip a)) H
theorem mt_rstripQ : MtR X "str.rstrip" rRstrip := mt_rstrip
theorem v_rstrip {K : PySem.W.Frag} {H : Hp} {Q : VK} {a : Str} (h : a.length ≤ sizeLine) (q : Q (.str (Txt.rstrip a)) H) : tyV K "str" (.str a) H ∧ rRstrip (.str a) [] H Q := ⟨rfl, a, rfl, rfl, h, q⟩
end
end G

namespace GN
open PySem PySem.Spec PyProof.Rows PySem.Builtin
/-! ### != by an own __eq__ (object's __ne__ asks it) -/
section
variable {prog : Program} {w : World} {A : Around} {E : Value → Shared → Prop} {s : Shared} {K : PySem.W.Frag} {x y C f L : Addr} {h₀ : Heap} {m : Str → Option Value} {ox : Obj} {od : Option Obj} {tb : Value}
theorem entry_K (hu : A.units < cLine) (X : K.In s.heap) (I : PySem.W.InstAt s.heap x ox C od) (hs : PySem.W.findIn K (.ref C) "__eq__" = some (some (.ref f))) (hf : PySem.W.isFn K (.ref f) = true) {Q : Fin → Shared → Prop}
    (hcall : wpAny (model prog w) A (call (.ref f) [.ref x, .ref y]) (fun v s' => ∃ b, v = .bool b ∧ Q (.done (.ret (.bool (!b)))) s') E s) :
    wpAny (model prog w) A (Builtin.«object.__ne__» ⟨[.ref x, .ref y], []⟩) Q E s := by
  unfold Builtin.«object.__ne__»
  repeat (first
    | with_reducible refine wpAny_cRoomFor hu ?_
    | (refine wpAny_bind (m := callSpecialIfBound? (.ref x) (Str.ofString "__eq__") [.ref y])
        (PySem.W.ifBound_K X I hs hf (wpAny_mono hcall (fun r s' hr => by
          obtain ⟨b, rfl, hq⟩ := hr
          repeat (first | exact hq | exact wpAny_pure hq | exact wpAny_truthy_bool hq | (refine wpAny_bind (m := truthy (.bool _)) (wpAny_truthy_bool ?_)) | wp_step)) fun _ _ e => e)))
    | wp_step)
theorem ifBound_objNe {M : Model} {args : List Value} {Q : Option Value → Shared → Prop} (X : K.In s.heap) (I : PySem.W.InstAt s.heap x ox C od) (hs : PySem.W.findIn K (.ref C) "__ne__" = some (some (.builtin "object.__ne__")))
    (h : wpAny M A (call (.builtin "object.__ne__") (.ref x :: args)) (fun v => Q (some v)) E s) : wpAny M A (callSpecialIfBound? (.ref x) "__ne__" args) Q E s := by
  simp only [callSpecialIfBound?, bindSpecialIfBound?]
  refine wpAny_holding (wpAny_bind (wpAny_bind (wpAny_bind (I.type.here ((PySem.W.looks_findIn X hs).here ?_)))))
  refine wpAny_bind (wpAny_askSetting (wpAny_ite ?_))
  have fin : wpAny M A (call (.builtin "object.__ne__") ([.ref x] ++ args) >>= fun v => pure (some v)) Q E s := wpAny_bind (wpAny_mono h (fun v s' h' => wpAny_pure h') fun _ _ h' => h')
  split
  · exact wpAny_bind (wpAny_of_eq (F.cmp_object.ne.bind _) (wpAny_pure (by exact fin)))
  · exact wpAny_tryCatch (wpAny_bind (wpAny_of_eq (F.cmp_object.ne.bind _) (wpAny_pure (by exact fin))))
theorem rcNe_K {Q : Value → Shared → Prop} (hu : A.units + 1 < cLine) (X : K.In s.heap) (I : PySem.W.InstAt s.heap x ox C od) (hb : PySem.W.Looks (model prog w) s.heap (typeOf (.ref y)) tb) (hn : PySem.W.notFirst K C tb = true) (hm : PySem.W.mroIn K C (.type "object") = some true)
    (hne : PySem.W.findIn K (.ref C) "__ne__" = some (some (.builtin "object.__ne__"))) (hs : PySem.W.findIn K (.ref C) "__eq__" = some (some (.ref f))) (hf : PySem.W.isFn K (.ref f) = true)
    (h : wpAny (model prog w) A.in1 (call (.ref f) [.ref x, .ref y]) (fun v s' => ∃ b, v = .bool b ∧ Q (.bool (!b)) s') E s) : wpAny (model prog w) A (richCompare .NotEq (.ref x) (.ref y)) Q E s := by
  have one : wpAny (model prog w) A (tryCompare (.ref x) "__ne__" (.ref y)) (fun r s' => ∃ v, r = some v ∧ Q v s') E s := by
    unfold tryCompare
    refine wpAny_bind (ifBound_objNe X I hne (wpAny_call (codeAny_call_builtin F.cmp_object.ne.plain F.cmpEntry_ne (PySem.W.check_slot F.cmpKind_ne F.cmpSplit_ne (I.type.andThen (PySem.W.looks_mroIn X hm)) (F.cmpArgs_ne _ _)
      (entry_K (A := A.in1) hu X I hs hf (wpAny_mono h (fun v s' hv => ?_) fun _ _ e => e))))))
    obtain ⟨b, rfl, hq⟩ := hv
    first | exact ⟨b, rfl, wpAny_pure ⟨_, rfl, hq⟩⟩ | exact ⟨b, rfl, wpAny_pure (wpAny_pure ⟨_, rfl, hq⟩)⟩
  unfold richCompare
  simp only [oneThing_ref]
  refine wpAny_holding (wpAny_bind (wpAny_cRoomFor (Nat.lt_of_succ_lt hu) ?_))
  rw [cmpInfo_NotEq]
  dsimp only
  refine wpAny_bind (I.type.here (wpAny_bind (hb.here ?_)))
  split
  · rename_i q
    have e : PySem.W.subIn K tb (.ref C) = some false := by
      rcases Bool.or_eq_true_iff.mp hn with e | e
      · rw [beq_iff_eq.mp e] at q; simp at q
      · exact beq_iff_eq.mp e
    refine wpAny_bind ((PySem.W.looks_subIn X e).here ?_)
    simp only [Bool.false_eq_true, if_false]
    refine wpAny_bind (wpAny_mono one (fun r s' z => ?_) fun _ _ e => e)
    obtain ⟨v, rfl, hq⟩ := z
    exact wpAny_pure hq
  · refine wpAny_bind (wpAny_pure ?_)
    simp only [Bool.false_eq_true, if_false]
    refine wpAny_bind (wpAny_mono one (fun r s' z => ?_) fun _ _ e => e)
    obtain ⟨v, rfl, hq⟩ := z
    exact wpAny_pure hq
end
end GN
namespace L2
open PySem PySem.Spec PyProof.Rows
section
variable {X : Cx} {n : Nat}
/-- a != b: instances of the class at C (its own __eq__ promises sp), and of the class at D -/
def rNeO (K : PySem.W.Frag) (C : Addr) (sp : Sp) (E : XK) : R2 := fun x y H Q => ∃ a b dx fs D dy gs, x = .ref a ∧ y = .ref b ∧ H a = some (.ins C dx fs) ∧ H b = some (.ins D dy gs) ∧ PySem.W.notFirst K C (.ref D) = true ∧ sp [.ref a, .ref b] H (fun v H' => ∃ t, v = .bl t ∧ Q (.bl (!t)) H') E
theorem op_neO {CX : CXT} {C f : Addr} {fd : FuncData} {ps : List Str} {sp : Sp} {E : XK} (F : FnOk X.prog X.w X.K X.mg X.base CX n f fd ps sp) (hm : PySem.W.mroIn X.K C (.type "object") = some true)
    (hne : PySem.W.findIn X.K (.ref C) "__ne__" = some (some (.builtin "object.__ne__"))) (hs : PySem.W.findIn X.K (.ref C) "__eq__" = some (some (.ref f))) (hf : PySem.W.isFn X.K (.ref f) = true) (hb : Binds X.K fd ps []) (hx : Passes CX X E) (hr : Room (n + 1) X.A) :
    OpR X (compareOp .NotEq) (rNeO X.K C sp E) := by
  intro pins s σ H x y v u Q I rx ry hq
  obtain ⟨a, b, dx, fs, D, dy, gs, rfl, rfl, ha, hb', hnf, hsp⟩ := hq
  cases rx
  cases ry
  obtain ⟨mA, J, _⟩ := ins_get I.hok ha
  obtain ⟨mB, J', _⟩ := ins_get I.hok hb'
  obtain ⟨od, J, _⟩ := J.look
  obtain ⟨od', J', _⟩ := J'.look
  show wpAny (model X.prog X.w) X.A (richCompare .NotEq (.ref a) (.ref b)) (EP X pins σ Q) X.xe s
  refine GN.rcNe_K (tb := .ref D) hr.in1.units0 I.kIn J J'.type hnf hm hne hs hf ?_
  have hl := F.len _ _ _ _ hsp
  have r2 : Vals [V.ref a, V.ref b] [Value.ref a, Value.ref b] := .cons rfl (.cons rfl .nil)
  refine wpAny_call (codeAny_mono (F.run X.A.in1 X.stack s H ⟨[.ref a, .ref b], []⟩ [.ref a, .ref b] [.ref a, .ref b] _ E hr.in1 I.env0.in1 (by
    have := hb s [.ref a, .ref b] I.kIn (by simpa using hl)
    simpa using this) r2 hsp) fun r s' hq => ?_)
  cases r with
  | error e => exact hx pins σ H s e s' I hq
  | ok fl =>
    cases fl with
    | ret w =>
      obtain ⟨z, H', I', rz, t, ez, hQ⟩ := I.after hq
      subst ez
      cases rz
      exact ⟨t, rfl, .bl (!t), H', I', rfl, hQ⟩
    | next => exact False.elim hq
    | brk => exact False.elim hq
    | cont => exact False.elim hq
def NeF (K : PySem.W.Frag) (C : Addr) : Prop := PySem.W.mroIn K C (.type "object") = some true ∧ PySem.W.findIn K (.ref C) "__ne__" = some (some (.builtin "object.__ne__"))
def neFB (c : Str) (K : PySem.W.Frag) : Bool := (PySem.W.mroIn K (He.ga K c) (.type "object") == some true) && (PySem.W.findIn K (.ref (He.ga K c)) "__ne__" == some (some (.builtin "object.__ne__")))
theorem neF_ok {K : PySem.W.Frag} {c : Str} (h : neFB c K = true) : NeF K (He.ga K c) := by
  unfold neFB at h
  rw [Bool.and_eq_true] at h
  exact ⟨beq_iff_eq.mp h.1, beq_iff_eq.mp h.2⟩
def rOr2 (r r' : R2) : R2 := fun x y H Q => r x y H Q ∨ r' x y H Q
theorem op_or2 {f : Value → Value → Sem Value} {r r' : R2} (h : OpR X f r) (h' : OpR X f r') : OpR X f (rOr2 r r') := fun pins s σ H x y v u Q I rx ry q => q.elim (h pins s σ H x y v u Q I rx ry) (h' pins s σ H x y v u Q I rx ry)
theorem op_neMt {j : Nat} {C : Addr} {sp : Sp} (c : G.Mt X.prog X.w X.K X.mg X.base n C "__eq__" sp []) (nf : NeF X.K C) (hr : Room j X.A) (hk : n + 1 ≤ j) : OpR X (compareOp .NotEq) (rNeO X.K C sp E0) := by
  obtain ⟨f, fd, ps, ds, cl, hm, F, b, d⟩ := c.ex
  cases d
  exact op_neO F nf.1 nf.2 hm.at_ hm.fn b passL (hr.mono hk)
end
end L2

namespace G
open PySem PySem.Spec PyProof.Rows L2
/-! ### defs that are called where no repr is under way -/
structure FnG (P : Program) (w : World) (K : PySem.W.Frag) (mg : Str → Option Value) (base : Heap) (k : Nat) (f : Addr) (fd : FuncData) (ps : List Str) (sp : Sp) : Prop where
  len : ∀ vs H Q E, sp vs H Q E → vs.length = ps.length
  go : ∀ (A : Around) (fr : List Env) (s : Shared) (H : Hp) (ar : Args) (us : List Value) (vs : List V) (Q : VK) (E : XK), A.guards = some [] → Room k A → Env0 P w K mg base A fr s H →
    BindsTo s fd ar (ps.zip us) → Vals vs us → sp vs H Q E → codeAny (model P w) A (.call (.ref f) ar) (CR (L2.CX P w) fr P w H s Q E) s
theorem FnG.of {P : Program} {w : World} {K : PySem.W.Frag} {mg : Str → Option Value} {base : Heap} {k : Nat} {f : Addr} {fd : FuncData} {ps : List Str} {sp : Sp} (F : FnOk P w K mg base (L2.CX P w) k f fd ps sp) : FnG P w K mg base k f fd ps sp :=
  ⟨F.len, fun A fr s H ar us vs Q E _ hr => F.run A fr s H ar us vs Q E hr⟩
/-- such a def, by its body -/
theorem fnG {P : Program} {w : World} {K : PySem.W.Frag} {mg : Str → Option Value} {base : Heap} {x qual : Str} {params : Arguments} {body : List Stmt} {sc : Scope} {dvs : List V} {kws : List (Str × V)} {f : Addr} {fd : FuncData} {N ps : List Str} {k : Nat} {sp : Sp}
    (F : FunD K x qual params body sc dvs kws f fd) (S : FnScope N ps sc) (len : ∀ vs H Q E, sp vs H Q E → vs.length = ps.length)
    (hb : ∀ (cd : Value) (A : Around) (fr : List Env) (s : Shared) (H : Hp) (vs : List V) (Q : VK) (E : XK), (A.deeper (envOfC qual sc s.heap.objs.size f cd)).guards = some [] → Room k (A.deeper (envOfC qual sc s.heap.objs.size f cd)) → sp vs H Q E →
      ∃ t, PSs (cxOf (L2.CX P w) P w K mg base N qual sc f cd A fr s H E) body t ∧ t ⟨fun _ H' => Q .non H', Q, fun _ _ => False, fun _ _ => False⟩ (start N vs) H) : FnG P w K mg base (k + 1) f fd ps sp := by
  obtain ⟨_, _, _, _, _, _, _, cd, _, _, rfl, lk, hcd, _, _⟩ := F.ex
  refine ⟨len, fun A fr s H ar us vs Q E hg hr e0 bi rv hsp => ?_⟩
  have old : ∀ b o, base.get? b = some o → s.heap.get? b = some o := fun b o e => (e0.bs b o e).1
  have hk : ∀ y ∈ ps.zip us, sc.names.lookup y.1 = some .local ∨ (sc.names.lookup y.1 = some .cell ∧ ((cellsFrom (s.heap.objs.size + 1) sc.names []).lookup y.1).isSome = true) := by
    rintro ⟨n, v⟩ hy
    exact (S.par n (List.of_mem_zip hy).1).imp id fun q => ⟨q, PySem.W.cellsFrom_some _ _ _ (.inl q)⟩
  refine codeAny_call_function hr.depth (e0.mod.kin.keeps old _ _ lk) rfl S.co S.gen rfl (PySem.W.codeRec_of (e0.mod.kin.keeps old) hcd) (bi _ _ _ _ (wpAny_newFunctionEnv_cells S.kind hk fun env he s1 x => ?_))
  subst he
  obtain ⟨t, ht, hq⟩ := hb cd A fr s H vs Q E hg (hr.deeper _) hsp
  refine ⟨(e0.mod.nolimit.keeps old).keeps x.toInCall.keep, codeAny_func (wpAny_mono (ht.run [] s1 _ H _ (inv_start S hr.hd e0 (len _ _ _ _ hsp) rv x) hq) (fun fl s' z => ?_) fun _ _ z => z)⟩
  cases fl with
  | ret u =>
    obtain ⟨v, _, H', J, r, q⟩ := z
    exact ⟨v, H', J.os, J.bare, J.base, J.hok, r, q⟩
  | next =>
    obtain ⟨_, H', J, q⟩ := z
    exact ⟨.non, H', J.os, J.bare, J.base, J.hok, rfl, q⟩
  | brk => exact z.elim fun _ z => z.elim fun _ z => z.2.elim
  | cont => exact z.elim fun _ z => z.elim fun _ z => z.2.elim
structure ClG (P : Program) (w : World) (K : PySem.W.Frag) (mg : Str → Option Value) (base : Heap) (k : Nat) (x : Str) (sp : Sp) (dvs : List V) : Prop where
  ex : ∃ (f : Addr) (fd : FuncData) (ps : List Str) (ds : List Value), FnG P w K mg base k f fd ps sp ∧ mg x = some (.ref f) ∧ PySem.W.keepIn K (.ref f) = true ∧ Binds K fd ps ds ∧ Vals dvs ds
section
variable {X : Cx} {k j : Nat} {x : Str} {sp : Sp} {dvs : List V} {p pos : Pos} {e : Expr} {es : List Expr} {t : TA} {E : L2.St → XK}
theorem pe_clg (c : ClG X.prog X.w X.K X.mg X.base k x sp dvs) (gd : X.A.guards = some []) (hr : Room j X.A) (hk : k ≤ j) (hx : ∀ σ, PassesAt (L2.CX X.prog X.w) X σ (E σ)) (hg : Gl X x) (ha : PA X (e :: es) t)
    (hdb : (x == ("__debug__" : Str)) = false := by decide) (he : starEach (e :: es) X.env = (false, eval e X.env) :: starEach es X.env := by rfl) (hpl : (backTo pos (starEach es X.env)).any (·.1) = false := by rfl) :
    PE X (.Call (.Name x p) (e :: es) [] pos) (tCallSD sp dvs E t) := by
  obtain ⟨f, fd, ps, ds, F, hm, kp, b, d⟩ := c.ex
  refine ⟨fun pins s σ H Q I h => wpAny_Call_Name_kw (ld_glob I hg hm (PySem.W.callWith_K (h₀ := X.base) I.ok.mod.kin kp (thn (ha.run pos pins s σ H _ I h) fun us s1 z => ?_) he hpl) hdb)⟩
  obtain ⟨vs, H1, I1, r, q⟩ := z
  have r2 : Vals (vs ++ dvs) (us ++ ds) := r.append d
  refine ⟨I1.kIn, wpAny_call (codeAny_mono (F.go X.A X.stack s1 H1 ⟨us, []⟩ (us ++ ds) (vs ++ dvs) Q (E σ) gd (hr.mono hk) I1.env0 (b s1 us I1.kIn (by rw [← r2.length]; exact F.len _ _ _ _ q)) r2 q) fun res s2 z => ?_)⟩
  cases res with
  | error e => exact hx σ pins H1 s1 e s2 I1 z
  | ok fl =>
    cases fl with
    | ret u => exact I1.after z
    | next => exact z.elim
    | brk => exact z.elim
    | cont => exact z.elim
end
/-! ### repr -/
def keyP : L2.Key → PyData
  | .inl i => .int i
  | .inr z => .str z
/-- data that repr may be asked of: flat, lists and tuples of such, a dict of such -/
inductive Dq (K : PySem.W.Frag) (H : Hp) : V → PyData → Prop
  | p {v : V} {d : PyData} : Dp K H v d → Dq K H v d
  | d {a : Addr} {kvs : List (L2.Key × V)} {ds : List PyData} : Rd H a (.dK kvs) → DpAll K H (kvs.map (·.2)) ds → Dq K H (.ref a) (.dict ((kvs.map fun kv => keyP kv.1).zip ds))
def rRepr (K : PySem.W.Frag) : List V → Hp → VK → Prop := fun xs H Q => ∃ v d, xs = [v] ∧ Dq K H v d ∧ d.showable = true ∧ d.leavesShort 13 = true ∧ d.bulk ≤ 2 ^ 20 ∧ d.depth ≤ 60 ∧ Q (.str d.shown) H
mutual
theorem Dp.nod {K : PySem.W.Frag} {H : Hp} : ∀ {v : V} {d : PyData}, Dp K H v d → d.hasDict = false
  | _, _, .non => by simp only [PyData.hasDict]
  | _, _, .bl _ => by simp only [PyData.hasDict]
  | _, _, .int _ => by simp only [PyData.hasDict]
  | _, _, .str _ => by simp only [PyData.hasDict]
  | _, _, .lst _ h => by rw [PyData.hasDict]; exact DpAll.nod h
  | _, _, .tup _ h => by rw [PyData.hasDict]; exact DpAll.nod h
theorem DpAll.nod {K : PySem.W.Frag} {H : Hp} : ∀ {vs : List V} {ds : List PyData}, DpAll K H vs ds → PyData.hasDictAll ds = false
  | _, _, .nil => by simp only [PyData.hasDictAll]
  | _, _, .cons h t => by rw [PyData.hasDictAll, Dp.nod h, DpAll.nod t]; rfl
end
theorem DpAll.len {K : PySem.W.Frag} {H : Hp} : ∀ {vs : List V} {ds : List PyData}, DpAll K H vs ds → vs.length = ds.length
  | _, _, .nil => rfl
  | _, _, .cons _ t => congrArg Nat.succ (DpAll.len t)
theorem zip_fst {α β : Type} : ∀ {xs : List α} {ys : List β}, xs.length = ys.length → (xs.zip ys).map (·.1) = xs
  | [], [], _ => rfl
  | [], _ :: _, h => nomatch h
  | _ :: _, [], h => nomatch h
  | x :: xs, y :: ys, h => by rw [List.zip_cons_cons, List.map_cons, zip_fst (Nat.succ.inj h)]
theorem zip_snd {α β : Type} : ∀ {xs : List α} {ys : List β}, xs.length = ys.length → (xs.zip ys).map (·.2) = ys
  | [], [], _ => rfl
  | [], _ :: _, h => nomatch h
  | _ :: _, [], h => nomatch h
  | x :: xs, y :: ys, h => by rw [List.zip_cons_cons, List.map_cons, zip_snd (Nat.succ.inj h)]
/-- a dict's entries are read -/
theorem ents {P : Program} {w : World} {h : Heap} : ∀ {es : List DictEntry} {vs : List (L2.Key × Value)}, Pairs (mixKind P w) es vs → (∃ as, ReadsAll h (es.map (·.key)) (vs.map fun p => keyP p.1) as) ∧ es.map (·.val) = vs.map (·.2)
  | _, _, .nil => ⟨⟨_, .nil⟩, rfl⟩
  | _, _, .cons (e := e) (kv := kv) h1 h2 t => by
    obtain ⟨⟨as, q1⟩, q2⟩ := ents (P := P) (w := w) (h := h) t
    obtain ⟨k, v⟩ := kv
    refine ⟨?_, by rw [List.map_cons, List.map_cons, q2, h2]⟩
    rcases keyIs_shape (k := k) (v := e.key) (show keyIs k e.key = true from h1) with ⟨i, t, e1, e2⟩ | ⟨i, t, e1, e2⟩
    · refine ⟨[] ++ as, ?_⟩
      rw [List.map_cons, List.map_cons, e2]
      show ReadsAll h _ (keyP k :: _) _
      rw [e1]
      exact .cons (.int i t) q1
    · refine ⟨[] ++ as, ?_⟩
      rw [List.map_cons, List.map_cons, e2]
      show ReadsAll h _ (keyP k :: _) _
      rw [e1]
      exact .cons (.str i t) q1
theorem kv_vals {vs : List (L2.Key × Value)} {kvs : List (L2.Key × V)} (r : KV kvs vs) : Vals (kvs.map (·.2)) (vs.map (·.2)) := by
  induction r with
  | nil => exact .nil
  | cons h _ ih => exact .cons h.2 ih
section
variable {X : Cx} {pins : List (Addr × Obj)} {σ : L2.St} {H : Hp} {s : Shared} {Q : VK}
theorem call_repr (gd : X.A.guards = some []) (hu : X.A.units + 64 < cLine) : CallR X (.builtin "repr") (rRepr X.K) := by
  intro pins s σ H xs us Q I r h
  obtain ⟨v, d, rfl, hd, hs, hl, hw, hdp, q⟩ := h
  obtain ⟨u, rfl, ru⟩ := vals1 r
  have hz : d.shown.length ≤ sizeLine := PyData.shown_fits_bulk (by decide) (by decide) hl hw
  cases hd with
  | p hd =>
    cases hd with
    | non =>
      obtain rfl : u = .none := ru
      exact PySem.P.repr_of_none ⟨.str _, H, I.tok _, ⟨_, rfl⟩, q⟩
    | bl b =>
      obtain rfl : u = .bool b := ru
      refine PySem.P.repr_of_bool ⟨.str _, H, I.tok _, ⟨_, rfl⟩, ?_⟩
      have e : (PyData.bool b).shown = (if b then "True" else "False" : Str) := by rw [PyData.shown]
      rw [e] at q
      exact q
    | int i =>
      obtain ⟨t, rfl⟩ : ∃ t, u = .int i t := ru
      have hs' : i.natAbs.log2 < 1920 := by simpa [PyData.showable] using hs
      refine PySem.P.repr_of_int hs' ⟨.str _, H, I.tok _, ⟨_, rfl⟩, ?_⟩
      rw [PyData.shown] at q
      exact q
    | str z =>
      obtain ⟨t, rfl⟩ : ∃ t, u = .str z t := ru
      rw [PyData.shown] at q hz
      exact PySem.P.repr_of_str ⟨.str _, H, I.tok _, ⟨_, rfl⟩, q⟩ hz
    | lst h1 h2 =>
      have hd2 := L2.Dp.lst h1 h2
      obtain ⟨as, rr⟩ := L2.Dp.reads I _ _ u hd2 ru
      cases ru
      exact repr_of_reads' rr hs (PyData.noDict_hsm (Dp.nod hd2)) gd (by omega) (fun _ _ e => e) (fun h' u tk hk => ⟨.str _, H, I.kept hk, ⟨_, rfl⟩, q⟩) hz
    | tup h1 h2 =>
      have hd2 := L2.Dp.tup h1 h2
      obtain ⟨as, rr⟩ := L2.Dp.reads I _ _ u hd2 ru
      cases ru
      exact repr_of_reads' rr hs (PyData.noDict_hsm (Dp.nod hd2)) gd (by omega) (fun _ _ e => e) (fun h' u tk hk => ⟨.str _, H, I.kept hk, ⟨_, rfl⟩, q⟩) hz
  | d hr hv =>
    rename_i a kvs ds
    cases ru
    obtain ⟨_, hsys, vs, rel, dd⟩ := dk_rd I.hok hr
    obtain ⟨o, es, ep, ho, hx, hdat, hko, hpa, hnd⟩ := dd
    obtain ⟨⟨as, ra⟩, ev⟩ := ents (P := X.prog) (w := X.w) (h := s.heap) hpa
    have rv := kv_vals rel
    rw [← ev] at rv
    obtain ⟨bs, rb⟩ := L2.Dp.readsAll I _ _ _ hv rv
    have ek : (vs.map fun p => keyP p.1) = kvs.map fun kv => keyP kv.1 := by
      have e := congrArg (List.map keyP) rel.keys
      rw [List.map_map, List.map_map] at e
      exact e.symm
    rw [ek] at ra
    have hlen : (kvs.map fun kv => keyP kv.1).length = ds.length := by rw [List.length_map, ← DpAll.len hv, List.length_map]
    generalize hD : (kvs.map fun kv => keyP kv.1).zip ds = D at hs hl hw hdp q hz ⊢
    have e1 : D.map (·.1) = kvs.map fun kv => keyP kv.1 := by rw [← hD]; exact zip_fst hlen
    have e2 : D.map (·.2) = ds := by rw [← hD]; exact zip_snd hlen
    rw [← e1] at ra
    rw [← e2] at rb
    have nod2 : PyData.hasDictAll (D.map (·.2)) = false := by rw [e2]; exact DpAll.nod hv
    have nod1 : PyData.hasDictAll (D.map (·.1)) = false := by
      rw [e1]
      generalize kvs = l
      induction l with
      | nil => simp only [List.map_nil, PyData.hasDictAll]
      | cons p l ih =>
        rw [List.map_cons, PyData.hasDictAll, ih]
        cases p.1 <;> rfl
    rw [PyData.shown] at hz q
    obtain ⟨sk, sv⟩ := PyData.showableKv_split D (by simpa [PyData.showable] using hs)
    obtain ⟨b1, m1, k1⟩ := ReprAllK.of_readsAll (prog := X.prog) (w := X.w) ra sk (fun z => by rw [nod1] at z; cases z) fun t ht => by
      obtain ⟨p, hp, l⟩ := PyData.shownKv_key_le D t ht
      exact Nat.le_trans l (Nat.le_trans (dictText_mem_le hp) hz)
    obtain ⟨b2, m2, k2⟩ := ReprAllK.of_readsAll (prog := X.prog) (w := X.w) rb sv (fun z => by rw [nod2] at z; cases z) fun t ht => by
      obtain ⟨p, hp, l⟩ := PyData.shownKv_val_le D t ht
      exact Nat.le_trans l (Nat.le_trans (dictText_mem_le hp) hz)
    rw [PyData.depth] at hdp
    have fit : (dictText (PyData.shownKv D)).length ≤ sizeLine := hz
    have far : a ∉ b1 ++ b2 := not_mem_of_deeper (n := PyData.depthKv D) (.dict ho hx.1 hdat ra rb) (by rw [PyData.depth]; exact Nat.lt_succ_self _) ((m1.mono (PyData.depthAll_keys_le D)).append (m2.mono (PyData.depthAll_vals_le D)))
    rw [PyData.shownKv_eq] at q fit
    refine call_repr_slot (T := "dict") (by omega) ⟨o, ho, hx.1⟩ F.slot_dict_repr (call_dict_reprK (g := []) (d := PyData.depthKv D) ho hx.1 hdat hsys far (ReprEntriesK.of_two es.toList _ _
      (k1.more_le (fun b hb => List.mem_append_left _ hb) (PyData.depthAll_keys_le D)) (k2.more_le (fun b hb => List.mem_append_right _ hb) (PyData.depthAll_vals_le D))) gd (fun b _ => Clear.nil b) (by show X.A.units + 1 + _ < _; omega) (fun _ _ e => e)
      (fun h' u tk hk => ⟨_, _, rfl, .str _, H, I.kept hk, ⟨_, rfl⟩, q⟩) fit)
end
end G

namespace G
open PySem PySem.Spec PyProof.Rows L2
/-! ### the law's own call, where its defs ask repr -/
section
variable {P : Program} {w : World} {K : PySem.W.Frag} {mg mb : Str → Option Value} {k : Nat} {fa a : Addr} {fd : FuncData} {x : Str} {sp : Sp} {s1 : Shared} {vs : List Value} {ns : List Int}
def LawEnd (s1 : Shared) : Result → Shared → Prop := fun r s' => r = .ok (.ret (.bool true)) ∧ OldK s1.heap s'.heap ∧ s'.os = s1.os ∧ AllBare s'.gens
theorem law_core (KX : K.In s1.heap) (hns : s1.heap.Ns mainGlobals mg) (hb : s1.heap.Ns builtinsNs mb) (hbb : ∀ x : Str, x ≠ "__name__" → mb x = bootBuiltins x) (hlim : s1.heap.NoLimit) (hg : s1.gens = #[])
    (ha : s1.heap.get? a = some { cls := .type "list", data := .seq vs.toArray }) (hr : Room k callerA) (F : ∀ base : Heap, FnG P w K mg base k fa fd [x] sp) (bi : ∀ (s : Shared) (u : Value), BindsTo s fd ⟨[u], []⟩ [(x, u)])
    (H : Hp) (hO : Only H) (hok : HOk P w H s1.heap) (hA : ∀ b, H b ≠ none → b = a) (hK : H a ≠ none → K.lookup a = none) (hsp : sp [.ref a] H (fun v _ => v = .bl true) fun _ _ _ => False) :
    codeAny (model P w) callerA (.call (.ref fa) ⟨[.ref a], []⟩) (LawEnd s1) s1 := by
  have out : ∀ {b : Addr} {o : Obj}, s1.heap.get? b = some o → (b = a → False) → (hidT s1.heap H).get? b = some o := fun {b o} e n => hidT_get e (by
    cases q : H b with
    | none => rfl
    | some u => exact (n (hA b (by rw [q]; intro z; cases z))).elim)
  have nsO : ∀ {b : Addr} {m : Str → Option Value}, s1.heap.Ns b m → (hidT s1.heap H).Ns b m := fun {b m} z => by
    obtain ⟨o, es, ep, e, d, r⟩ := z
    refine ⟨o, es, ep, out e fun z => ?_, d, r⟩
    rw [z, ha] at e
    cases e
    cases d
  have kin : K.In (hidT s1.heap H) := fun b o e => hidT_get (KX b o e) (by
    cases q : H b with
    | none => rfl
    | some u =>
      have z := hA b (by rw [q]; intro z; cases z)
      subst z
      rw [hK (by rw [q]; intro z; cases z)] at e
      cases e)
  obtain ⟨mc, l1, l2⟩ := hlim
  have e0 : Env0 P w K mg (hidT s1.heap H) callerA [] s1 H := by
    refine ⟨rfl, ⟨kin, nsO hns, ⟨mb, nsO hb, hbb⟩, ⟨mc, nsO l1, l2⟩⟩, fun b o e => of_hidT e, Nat.le_of_eq (hidT_size _ _), trivial, ?_, hok, .of_eq hg⟩
    intro b z
    cases (show b ∈ ([] : List Addr) from z)
  refine codeAny_mono ((F _).go callerA [] s1 H ⟨[.ref a], []⟩ [.ref a] [.ref a] _ _ rfl hr e0 (bi s1 (.ref a)) (.cons rfl .nil) hsp) fun r s' h => ?_
  cases r with
  | error e =>
    obtain ⟨_, _, _, _, _, _, _, _, _, _, _, _, z⟩ := h
    exact z.elim
  | ok fl =>
    cases fl with
    | next => exact h.elim
    | brk => exact h.elim
    | cont => exact h.elim
    | ret u =>
      obtain ⟨v, H', os, bare, un, hok', r', q⟩ := h
      obtain rfl : v = .bl true := q
      obtain rfl : u = Value.bool true := r'
      refine ⟨rfl, OldK.of_keep fun b o e => ?_, os, bare⟩
      rcases hO b with z | ⟨ob, xs, z⟩
      · refine un.keep b o e z ?_ ?_
        · intro z
          cases (show b ∈ ([] : List Addr) from z)
        · intro z
          cases z
      · have z2 := un.frzs b ob _ z
        have e1 := (hok b _ z).1
        have e2 := (hok' b _ z2).1
        rw [e] at e1
        cases e1
        exact e2
theorem law_callG (KX : K.In s1.heap) (hns : s1.heap.Ns mainGlobals mg) (hb : s1.heap.Ns builtinsNs mb) (hbb : ∀ x : Str, x ≠ "__name__" → mb x = bootBuiltins x) (hlim : s1.heap.NoLimit) (hg : s1.gens = #[])
    (ha : s1.heap.get? a = some { cls := .type "list", data := .seq vs.toArray }) (hi : IntsAre vs ns) (hl : ns.length ≤ sizeLine) (hr : Room k callerA) (F : ∀ base : Heap, FnG P w K mg base k fa fd [x] sp)
    (bi : ∀ (s : Shared) (u : Value), BindsTo s fd ⟨[u], []⟩ [(x, u)]) (hsp : ∀ H : Hp, Only H → SqL K H a (ns.map V.int) → sp [.ref a] H (fun v _ => v = .bl true) fun _ _ _ => False) :
    codeAny (model P w) callerA (.call (.ref fa) ⟨[.ref a], []⟩) (LawEnd s1) s1 := by
  have rv := vals_ints hi
  cases hk : K.lookup a with
  | some o =>
    have e := KX a o hk
    rw [ha] at e
    cases e
    have o0 : Only (fun _ => none) := fun _ => .inl rfl
    have sq : SqL K (fun _ => none) a (ns.map V.int) := .inr ⟨_, vs.toArray, _, hk, rfl, rfl, rfl, by rw [List.size_toArray, hi.length]; exact hl, by simpa using rv⟩
    exact law_core KX hns hb hbb hlim hg ha hr F bi _ o0 (fun b u z => nomatch (show (none : Option HO) = some u from z)) (fun b z => (z rfl).elim) (fun z => (z rfl).elim) (hsp _ o0 sq)
  | none =>
    generalize hH : (fun b => if b = a then some (HO.frz { cls := .type "list", data := .seq vs.toArray } (.lst (ns.map V.int))) else none : Hp) = H
    have at_ : H a = some (.frz { cls := .type "list", data := .seq vs.toArray } (.lst (ns.map V.int))) := by rw [← hH]; exact if_pos rfl
    have el : ∀ b, b ≠ a → H b = none := fun b n => by rw [← hH]; exact if_neg n
    have o1 : Only H := fun b => by
      by_cases z : b = a
      · rw [z]; exact .inr ⟨_, _, at_⟩
      · exact .inl (el b z)
    refine law_core KX hns hb hbb hlim hg ha hr F bi H o1 (fun b u z => ?_) (fun b z => ?_) (fun _ => hk) (hsp H o1 (.inl (.inr ⟨_, at_⟩)))
    · by_cases n : b = a
      · subst n
        rw [at_] at z
        cases z
        exact ⟨ha, by rw [List.length_map]; exact hl, vs, _, rv, ha⟩
      · rw [el b n] at z
        cases z
    · by_cases n : b = a
      · exact n
      · exact (z (el b n)).elim
end
theorem walk_ofG {l : PySem.W.OpenLaw} {n k : Nat} {q : Program} {loose : List Str} {XP : (Str → Option Value) → Heap → Prop} {YP : World → Heap → Prop} {d : DefRec} {x : Str}
    (hn : l.most = some n) (hn2 : n ≤ sizeLine) (hdf : d.params.defaults = []) (hr : Room k callerA)
    (F : ∀ (w : World) (mg : Str → Option Value) (fa : Addr) (h : Heap), YP w h → h.Ns mainGlobals mg → mg d.name = some (.ref fa) →
      ∃ (K : PySem.W.Frag) (fd : FuncData) (sp : Sp), K.In h ∧ (∀ (s : Shared) (u : Value), BindsTo s fd ⟨[u], []⟩ [(x, u)]) ∧
        (∀ (H : Hp) (a : Addr) (ns : List Int), ns.length ≤ n → Only H → SqL K H a (ns.map V.int) → sp [.ref a] H (fun v _ => v = .bl true) fun _ _ _ => False) ∧
        ∀ base : Heap, FnG l.prog w K mg base k fa fd [x] sp) :
    PySem.W.WalkO q loose XP YP l.row.toRowW d [] (fun f vs => PySem.call f vs) := by
  refine Att.attach_call hn hdf fun w s₀ s₁ mg mb fa o pm cd doc a vs ns G Y ho hd hcd hmg hobj hints hlen hg => ?_
  obtain ⟨K, fd, sp, KX, hb, hsp, hF⟩ := F w mg fa _ Y G.T.g hmg
  exact law_callG KX G.T.g G.T.b G.T.builtins G.T.nolimit hg hobj hints (Nat.le_trans hlen hn2) hr hF hb fun H hO hS => hsp H a ns hlen hO hS
end G

/-! ### own ==, own !=, of an instance and any value -/
namespace GN
open PySem PySem.Spec PyProof.Rows PySem.Builtin
section
variable {prog : Program} {w : World} {A : Around} {E : Value → Shared → Prop} {s : Shared} {K : PySem.W.Frag} {x C f L : Addr} {y : Value} {h₀ : Heap} {m : Str → Option Value} {ox : Obj} {od : Option Obj} {tb : Value}
theorem entry_V (hu : A.units < cLine) (X : K.In s.heap) (I : PySem.W.InstAt s.heap x ox C od) (hs : PySem.W.findIn K (.ref C) "__eq__" = some (some (.ref f))) (hf : PySem.W.isFn K (.ref f) = true) {Q : Fin → Shared → Prop}
    (hcall : wpAny (model prog w) A (call (.ref f) [.ref x, y]) (fun v s' => ∃ b, v = .bool b ∧ Q (.done (.ret (.bool (!b)))) s') E s) :
    wpAny (model prog w) A (Builtin.«object.__ne__» ⟨[.ref x, y], []⟩) Q E s := by
  unfold Builtin.«object.__ne__»
  repeat (first
    | with_reducible refine wpAny_cRoomFor hu ?_
    | (refine wpAny_bind (m := callSpecialIfBound? (.ref x) (Str.ofString "__eq__") [y])
        (PySem.W.ifBound_K X I hs hf (wpAny_mono hcall (fun r s' hr => by
          obtain ⟨b, rfl, hq⟩ := hr
          repeat (first | exact hq | exact wpAny_pure hq | exact wpAny_truthy_bool hq | (refine wpAny_bind (m := truthy (.bool _)) (wpAny_truthy_bool ?_)) | wp_step)) fun _ _ e => e)))
    | wp_step)
theorem rcNe_V {Q : Value → Shared → Prop} (hu : A.units + 1 < cLine) (X : K.In s.heap) (I : PySem.W.InstAt s.heap x ox C od) (hb : PySem.W.Looks (model prog w) s.heap (typeOf y) tb) (hn : PySem.W.notFirst K C tb = true) (hm : PySem.W.mroIn K C (.type "object") = some true)
    (hne : PySem.W.findIn K (.ref C) "__ne__" = some (some (.builtin "object.__ne__"))) (hs : PySem.W.findIn K (.ref C) "__eq__" = some (some (.ref f))) (hf : PySem.W.isFn K (.ref f) = true)
    (h : wpAny (model prog w) A.in1 (call (.ref f) [.ref x, y]) (fun v s' => ∃ b, v = .bool b ∧ Q (.bool (!b)) s') E s) : wpAny (model prog w) A (richCompare .NotEq (.ref x) y) Q E s := by
  have one : wpAny (model prog w) A (tryCompare (.ref x) "__ne__" y) (fun r s' => ∃ v, r = some v ∧ Q v s') E s := by
    unfold tryCompare
    refine wpAny_bind (ifBound_objNe X I hne (wpAny_call (codeAny_call_builtin F.cmp_object.ne.plain F.cmpEntry_ne (PySem.W.check_slot F.cmpKind_ne F.cmpSplit_ne (I.type.andThen (PySem.W.looks_mroIn X hm)) (F.cmpArgs_ne _ _)
      (entry_V (A := A.in1) hu X I hs hf (wpAny_mono h (fun v s' hv => ?_) fun _ _ e => e))))))
    obtain ⟨b, rfl, hq⟩ := hv
    first | exact ⟨b, rfl, wpAny_pure ⟨_, rfl, hq⟩⟩ | exact ⟨b, rfl, wpAny_pure (wpAny_pure ⟨_, rfl, hq⟩)⟩
  unfold richCompare
  simp only [oneThing_ref]
  refine wpAny_holding (wpAny_bind (wpAny_cRoomFor (Nat.lt_of_succ_lt hu) ?_))
  rw [cmpInfo_NotEq]
  dsimp only
  refine wpAny_bind (I.type.here (wpAny_bind (hb.here ?_)))
  split
  · rename_i q
    have e : PySem.W.subIn K tb (.ref C) = some false := by
      rcases Bool.or_eq_true_iff.mp hn with e | e
      · rw [beq_iff_eq.mp e] at q; simp at q
      · exact beq_iff_eq.mp e
    refine wpAny_bind ((PySem.W.looks_subIn X e).here ?_)
    simp only [Bool.false_eq_true, if_false]
    refine wpAny_bind (wpAny_mono one (fun r s' z => ?_) fun _ _ e => e)
    obtain ⟨v, rfl, hq⟩ := z
    exact wpAny_pure hq
  · refine wpAny_bind (wpAny_pure ?_)
    simp only [Bool.false_eq_true, if_false]
    refine wpAny_bind (wpAny_mono one (fun r s' z => ?_) fun _ _ e => e)
    obtain ⟨v, rfl, hq⟩ := z
    exact wpAny_pure hq
end
end GN
namespace G
open PySem PySem.Spec PyProof.Rows L2
/-- y's type, and that its own == does not come first -/
def OwnR (K : PySem.W.Frag) (C : Addr) (y : V) (H : Hp) : Prop := (∃ b D dy gs, y = .ref b ∧ H b = some (.ins D dy gs) ∧ PySem.W.notFirst K C (.ref D) = true) ∨ ((∃ i, y = .int i) ∧ PySem.W.notFirst K C (.type "int") = true)
/-- x == y (neg: !=), x an instance of the class at C, whose own == promises sp -/
def rOwn (neg : Bool) (K : PySem.W.Frag) (C : Addr) (sp : Sp) : R2 := fun x y H Q => ∃ a dx fs, x = .ref a ∧ H a = some (.ins C dx fs) ∧ OwnR K C y H ∧ sp [.ref a, y] H (fun v H' => ∃ t, v = .bl t ∧ Q (.bl (if neg then !t else t)) H') E0
def NeF2 (K : PySem.W.Frag) (C : Addr) : Prop := NeF K C ∧ PySem.W.notFirst K C (.ref C) = true ∧ PySem.W.notFirst K C (.type "int") = true
def neF2B (c : Str) (K : PySem.W.Frag) : Bool := neFB c K && (PySem.W.notFirst K (He.ga K c) (.ref (He.ga K c)) && PySem.W.notFirst K (He.ga K c) (.type "int"))
theorem neF2_ok {K : PySem.W.Frag} {c : Str} (h : neF2B c K = true) : NeF2 K (He.ga K c) := by
  unfold neF2B at h
  rw [Bool.and_eq_true, Bool.and_eq_true] at h
  exact ⟨neF_ok h.1, h.2.1, h.2.2⟩
section
variable {X : Cx} {n j : Nat} {C : Addr} {sp : Sp}
theorem looks_int {M : Model} {h : Heap} {u : Value} {i : Int} (r : RelV (.int i) u) : PySem.W.Looks M h (typeOf u) (.type "int") := by
  obtain ⟨t, rfl⟩ := r
  exact PySem.W.Looks.of_pure rfl
theorem own_call (c : Mt X.prog X.w X.K X.mg X.base n C "__eq__" sp []) (hr : Room j X.A) (hk : n + 1 ≤ j) {pins : List (Addr × Obj)} {s : Shared} {σ : L2.St} {H : Hp} {a : Addr} {y : V} {u : Value} {R : V → Hp → Prop} (I : Inv X pins σ H s) (ry : RelV y u)
    (hsp : sp [.ref a, y] H R E0) (A : Around) (hA : A = X.A ∨ A = X.A.in1) : ∃ f, Meth X.K C "__eq__" f ∧ wpAny (model X.prog X.w) A (call (.ref f) [.ref a, u]) (EP X pins σ R) X.xe s := by
  obtain ⟨f, fd, ps, ds, cl, hm, F, b, d⟩ := c.ex
  cases d
  refine ⟨f, hm, ?_⟩
  have hl := F.len _ _ _ _ hsp
  have rm : Room n A := by
    rcases hA with rfl | rfl
    · exact hr.mono (by omega)
    · exact (hr.mono hk).in1
  have e0 : Env0 X.prog X.w X.K X.mg X.base A X.stack s H := by
    rcases hA with rfl | rfl
    · exact I.env0
    · exact I.env0.in1
  have bi := b s [.ref a, u] I.kIn (by simpa using hl)
  rw [List.append_nil] at bi
  refine wpAny_call (codeAny_mono (F.run A X.stack s H ⟨[.ref a, u], []⟩ [.ref a, u] [.ref a, y] R E0 rm e0 bi (.cons rfl (.cons ry .nil)) hsp) fun r s' hq => ?_)
  cases r with
  | error e => exact (passL (X := X)) pins σ H s e s' I hq
  | ok fl =>
    cases fl with
    | ret w => exact I.after hq
    | next => exact hq.elim
    | brk => exact hq.elim
    | cont => exact hq.elim
theorem op_own {op : CmpOp} {neg : Bool} (hop : (op = .Eq ∧ neg = false) ∨ (op = .NotEq ∧ neg = true)) (c : Mt X.prog X.w X.K X.mg X.base n C "__eq__" sp []) (nf : NeF2 X.K C) (hr : Room j X.A) (hk : n + 1 ≤ j) : OpR X (compareOp op) (rOwn neg X.K C sp) := by
  intro pins s σ H x y v u Q I rx ry hq
  obtain ⟨a, dx, fs, rfl, ha, hy, hsp⟩ := hq
  cases rx
  obtain ⟨mA, J, _⟩ := ins_get I.hok ha
  obtain ⟨od, J, _⟩ := J.look
  obtain ⟨m, hF⟩ := I.fr
  obtain ⟨tb, hb, hn⟩ : ∃ tb, PySem.W.Looks (model X.prog X.w) s.heap (typeOf u) tb ∧ PySem.W.notFirst X.K C tb = true := by
    rcases hy with ⟨b, D, dy, gs, rfl, hb', hn⟩ | ⟨⟨i, rfl⟩, hn⟩
    · cases ry
      obtain ⟨mB, J', _⟩ := ins_get I.hok hb'
      obtain ⟨od', J', _⟩ := J'.look
      exact ⟨_, J'.type, hn⟩
    · exact ⟨_, looks_int ry, hn⟩
  rcases hop with ⟨rfl, rfl⟩ | ⟨rfl, rfl⟩
  · obtain ⟨f, hm, hc⟩ := own_call c hr hk I ry hsp X.A (.inl rfl)
    show wpAny (model X.prog X.w) X.A (richCompare .Eq (.ref a) u) (EP X pins σ Q) X.xe s
    refine PySem.W.cmp_K (op := .Eq) (tb := tb) hr.units0 hF I.ok.mod.kin J hb hn hm.at_ hm.fn (wpAny_mono hc (fun r s' z => ?_) fun _ _ e => e)
    obtain ⟨v, H', I', rv, t, rfl, q⟩ := z
    cases rv
    exact ⟨.bl t, H', I', rfl, q⟩
  · obtain ⟨f, hm, hc⟩ := own_call c hr hk I ry hsp X.A.in1 (.inr rfl)
    show wpAny (model X.prog X.w) X.A (richCompare .NotEq (.ref a) u) (EP X pins σ Q) X.xe s
    refine GN.rcNe_V (tb := tb) (hr.mono hk).in1.units0 I.kIn J hb hn nf.1.1 nf.1.2 hm.at_ hm.fn (wpAny_mono hc (fun r s' z => ?_) fun _ _ e => e)
    obtain ⟨v, H', I', rv, t, rfl, q⟩ := z
    cases rv
    exact ⟨t, rfl, .bl (!t), H', I', rfl, q⟩
end
end G

namespace G
open PySem PySem.Spec PyProof.Rows L2
/-! ### dicts that stand still (frz), dicts that are being filled (cells) -/
def FzK (Q : VK) : VK := fun v H => Q v H ∨ ∃ a kvs, v = .ref a ∧ H a = some (.dK kvs) ∧ ∀ od, Q v (upd H a (.frz od (.dK kvs)))
/-- from here on the dict is only read, if that is wished -/
def tFz (t : TE) : TE := fun σ H Q => t σ H (FzK Q)
theorem pe_fz {X : Cx} {e : Expr} {t : TE} (h : PE X e t) : PE X e (tFz t) := ⟨fun pins s σ H Q I q => thn (h.run pins s σ H _ I q) fun u s1 z => by
  obtain ⟨v, H1, I1, r, q⟩ := z
  rcases q with q | ⟨a, kvs, rfl, ha, q⟩
  · exact ⟨v, H1, I1, r, q⟩
  · obtain ⟨od, I2⟩ := I1.lock ha True.intro
    exact ⟨_, _, I2, r, q od⟩⟩
abbrev kT (z : List Nat) : L2.Key := .inr ⟨z.toArray⟩
abbrev kI (n : Int) : L2.Key := .inl n
def valD (kvs : List (L2.Key × D)) (k : L2.Key) : Option D := (kvs.find? fun kv => decide (kv.1 = k)).map (·.2)
theorem valD_pos {k : L2.Key} {d : D} {r : List (L2.Key × D)} : valD ((k, d) :: r) k = some d := by unfold valD; rw [List.find?_cons, decide_eq_true rfl]; rfl
theorem valD_neg {j k : L2.Key} {d : D} {r : List (L2.Key × D)} (n : j ≠ k) : valD ((j, d) :: r) k = valD r k := by unfold valD; rw [List.find?_cons, decide_eq_false n]
section
variable {K : PySem.W.Frag} {F F0 F1 F' H H' : Hp} {x y w u v : V} {d : D} {ds es : List D} {us vs : List V} {M : List (Addr × HO)} {Q : VK} {S : Hp → Prop} {σ : L2.St} {nx bk ct : L2.St → Hp → Prop} {rt : VK} {td ty tv : TE}
theorem g_fz (h : td σ H (FzK Q)) : tFz td σ H Q := h
theorem fz_no (q : Q x H) : FzK Q x H := .inl q
theorem o_fz {a : Addr} {kvs : List (L2.Key × V)} (hh : HH F H ((a, .dK kvs) :: M)) (q : ∀ F' H' od, Same F F' → HH F' H' M → F' a = some (.frz od (.dK kvs)) → Q (.ref a) H') : FzK Q (.ref a) H :=
  .inr ⟨a, kvs, rfl, hh.get (i := 0) rfl, fun od => q _ _ od hh.set0.frzS hh.set0.frz upd_same⟩
theorem AtK.nil : AtK K F [] [] := by unfold AtK; rfl
theorem AtK.cons {k : L2.Key} {ks : List (L2.Key × D)} {gs : List (L2.Key × V)} (h : At K F d u) (t : AtK K F ks gs) : AtK K F ((k, d) :: ks) ((k, u) :: gs) := by unfold AtK; exact ⟨_, _, rfl, h, t⟩
theorem AtK.ni {gs : List (L2.Key × V)} (h : AtK K F [] gs) : gs = [] := by unfold AtK at h; exact h
theorem AtK.ci {k : L2.Key} {ks : List (L2.Key × D)} {gs : List (L2.Key × V)} (h : AtK K F ((k, d) :: ks) gs) : ∃ u us, gs = (k, u) :: us ∧ At K F d u ∧ AtK K F ks us := by unfold AtK at h; exact h
theorem AtK.snoc {k : L2.Key} : ∀ {ks : List (L2.Key × D)} {gs : List (L2.Key × V)}, AtK K F ks gs → At K F d u → AtK K F (ks ++ [(k, d)]) (gs ++ [(k, u)])
  | [], gs, h, t => by rw [h.ni]; exact AtK.cons t AtK.nil
  | (j, e) :: ks, gs, h, t => by
    obtain ⟨z, us, rfl, h1, h2⟩ := h.ci
    exact AtK.cons h1 (AtK.snoc h2 t)
theorem AtK.keys : ∀ {ks : List (L2.Key × D)} {gs : List (L2.Key × V)}, AtK K F ks gs → gs.map (·.1) = ks.map (·.1)
  | [], gs, h => by rw [h.ni]; rfl
  | (j, e) :: ks, gs, h => by
    obtain ⟨z, us, rfl, _, h2⟩ := h.ci
    rw [List.map_cons, List.map_cons, AtK.keys h2]
theorem AtK.vals : ∀ {ks : List (L2.Key × D)} {gs : List (L2.Key × V)}, AtK K F ks gs → AtA K F (ks.map (·.2)) (gs.map (·.2))
  | [], gs, h => by rw [h.ni]; exact AtA.nil
  | (j, e) :: ks, gs, h => by
    obtain ⟨z, us, rfl, h1, h2⟩ := h.ci
    exact AtA.cons h1 (AtK.vals h2)
theorem AtK.len {ks : List (L2.Key × D)} {gs : List (L2.Key × V)} (h : AtK K F ks gs) : gs.length = ks.length := by
  have := congrArg List.length h.keys
  rw [List.length_map, List.length_map] at this
  exact this
theorem AtK.val {k : L2.Key} : ∀ {ks : List (L2.Key × D)} {gs : List (L2.Key × V)}, AtK K F ks gs → valD ks k = some d → ∃ u, valV gs k = some u ∧ At K F d u
  | [], gs, h, e => by cases e
  | (j, e) :: ks, gs, h, q => by
    obtain ⟨z, us, rfl, h1, h2⟩ := h.ci
    by_cases c : j = k
    · subst c
      rw [valD_pos] at q
      cases q
      exact ⟨z, valV_pos rfl, h1⟩
    · rw [valD_neg c] at q
      rw [valV_neg (p := (j, z)) c]
      exact AtK.val h2 q
theorem AtK.non {k : L2.Key} : ∀ {ks : List (L2.Key × D)} {gs : List (L2.Key × V)}, AtK K F ks gs → valD ks k = none → valV gs k = none
  | [], gs, h, e => by rw [h.ni]; rfl
  | (j, e) :: ks, gs, h, q => by
    obtain ⟨z, us, rfl, h1, h2⟩ := h.ci
    by_cases c : j = k
    · subst c
      rw [valD_pos] at q
      cases q
    · rw [valD_neg c] at q
      rw [valV_neg (p := (j, z)) c]
      exact AtK.non h2 q
theorem At.dk_ {ks : List (L2.Key × D)} (h : At K F (.dk ks) u) : ∃ a od vs, u = .ref a ∧ F a = some (.frz od (.dK vs)) ∧ AtK K F ks vs := by unfold At at h; exact h
theorem At.mkK {a : Addr} {od : Obj} {ks : List (L2.Key × D)} {vs : List (L2.Key × V)} (h : F a = some (.frz od (.dK vs))) (t : AtK K F ks vs) : At K F (.dk ks) (.ref a) := by unfold At; exact ⟨a, od, vs, rfl, h, t⟩
theorem At.dkR {ks : List (L2.Key × D)} (h : At K F0 (.dk ks) u) (s : Same F0 H) : ∃ a od vs, u = .ref a ∧ H a = some (.frz od (.dK vs)) ∧ Rd H a (.dK vs) ∧ AtK K F0 ks vs := by
  obtain ⟨a, od, vs, e, h1, h2⟩ := h.dk_
  exact ⟨a, od, vs, e, s _ _ h1, .inr ⟨od, s _ _ h1⟩, h2⟩
/-! d[k], k in d, d.get(k) -/
def DgK (Q : VK) (x y : V) (H : Hp) : Prop := ∃ a v, x = .ref a ∧ DGet H a y (some v) ∧ Q v H
def DiK (neg : Bool) (Q : VK) (x y : V) (H : Hp) : Prop := ∃ a o, x = .ref a ∧ DGet H a y o ∧ Q (.bl (if neg then !o.isSome else o.isSome)) H
def DhK (x : V) (H : Hp) (A : Prop) : Prop := ∃ a, x = .ref a ∧ IsD H a ∧ A
theorem g_dget (h : td σ H fun x H1 => ty σ H1 fun y H2 => DgK Q x y H2) : tDGet td ty σ H Q := h
theorem g_din (h : ty σ H fun y H1 => td σ H1 fun x H2 => DiK false Q x y H2) : tDIn ty td σ H Q := h
theorem g_dnin (h : ty σ H fun y H1 => td σ H1 fun x H2 => DiK true Q x y H2) : tDNotIn ty td σ H Q := h
/-- d.get(k): the dict's address is told twice -/
def DeK (Q : VK) (a : Addr) (y : V) (H : Hp) : Prop := ∃ o, DGet H a y o ∧ Q (o.getD .non) H
def DfK (ty : TE) (σ : L2.St) (Q : VK) (x : V) (H : Hp) : Prop := ∃ a, x = .ref a ∧ IsD H a ∧ ty σ H fun y H2 => DeK Q a y H2
theorem g_dget1 (h : td σ H fun x H1 => DfK ty σ Q x H1) : tDGet1 td ty σ H Q := h
theorem v_dget {a : Addr} {kvs : List (L2.Key × V)} {k : L2.Key} (h : Rd H a (.dK kvs)) (e : valV kvs k = some v) (q : Q v H) : DgK Q (.ref a) (kV k) H := ⟨a, v, rfl, .inl ⟨kvs, k, h, rfl, e.symm⟩, q⟩
theorem v_din {neg : Bool} {a : Addr} {kvs : List (L2.Key × V)} {k : L2.Key} (h : Rd H a (.dK kvs)) (q : Q (.bl (if neg then !(valV kvs k).isSome else (valV kvs k).isSome)) H) : DiK neg Q (.ref a) (kV k) H := ⟨a, _, rfl, .inl ⟨kvs, k, h, rfl, rfl⟩, q⟩
theorem s_dgetT {ks : List (L2.Key × D)} {z : List Nat} (h : At K F0 (.dk ks) x) (s : Same F0 H) (e : valD ks (kT z) = some d) (q : ∀ w, At K F0 d w → Q w H) : DgK Q x (.str ⟨z.toArray⟩) H := by
  obtain ⟨a, od, vs, rfl, _, h1, h2⟩ := h.dkR s
  obtain ⟨u, eu, hu⟩ := h2.val e
  exact v_dget (k := kT z) h1 eu (q u hu)
theorem s_dgetI {ks : List (L2.Key × D)} {n : Int} (h : At K F0 (.dk ks) x) (s : Same F0 H) (e : valD ks (kI n) = some d) (q : ∀ w, At K F0 d w → Q w H) : DgK Q x (.int n) H := by
  obtain ⟨a, od, vs, rfl, _, h1, h2⟩ := h.dkR s
  obtain ⟨u, eu, hu⟩ := h2.val e
  exact v_dget (k := kI n) h1 eu (q u hu)
theorem isS_AtK {k : L2.Key} {ks : List (L2.Key × D)} {gs : List (L2.Key × V)} (h : AtK K F ks gs) : (valV gs k).isSome = (valD ks k).isSome := by
  cases e : valD ks k with
  | none => rw [h.non e]; rfl
  | some d =>
    obtain ⟨u, eu, _⟩ := h.val e
    rw [eu]
    rfl
theorem s_dinI {neg : Bool} {ks : List (L2.Key × D)} {n : Int} (h : At K F0 (.dk ks) x) (s : Same F0 H) (q : Q (.bl (if neg then !(valD ks (kI n)).isSome else (valD ks (kI n)).isSome)) H) : DiK neg Q x (.int n) H := by
  obtain ⟨a, od, vs, rfl, _, h1, h2⟩ := h.dkR s
  refine v_din (k := kI n) h1 ?_
  rw [isS_AtK h2]
  exact q
theorem s_dgetD {ks : List (L2.Key × D)} (h : At K F0 (.dk ks) x) (s : Same F0 H) (q : ∀ a, (∀ {H' : Hp} {Q : VK} {n : Int}, Same F0 H' → (valD ks (kI n) = none → Q .non H') → (∀ d w, valD ks (kI n) = some d → At K F0 d w → Q w H') → DeK Q a (.int n) H') → ty σ H fun y H2 => DeK Q a y H2) : DfK ty σ Q x H := by
  obtain ⟨a, od, vs, rfl, hf, hv⟩ := h.dk_
  refine ⟨a, rfl, .inl ⟨vs, .inr ⟨od, s _ _ hf⟩⟩, q a fun {H' Q n} s' q1 q2 => ?_⟩
  refine ⟨valV vs (kI n), .inl ⟨vs, kI n, .inr ⟨od, s' _ _ hf⟩, rfl, rfl⟩, ?_⟩
  cases e : valD ks (kI n) with
  | none => rw [hv.non e]; exact q1 e
  | some d =>
    obtain ⟨u, eu, hu⟩ := hv.val e
    rw [eu]
    exact q2 d u e hu
/-! {}, d[k] = v -/
def DnK (Q : VK) (H : Hp) : Prop := ∀ p, H p = none → Q (.ref p) (upd H p (.dK []))
theorem g_dnew (h : DnK Q H) : tDNewK σ H Q := h
theorem o_dnew (hh : HH F H M) (q : ∀ H' p, HH F H' ((p, .dK []) :: M) → Q (.ref p) H') : DnK Q H := fun p hp => q _ p (hh.new hp)
theorem o_dnew1 {c : Addr × HO} (hh : HH F H (c :: M)) (q : ∀ H' p, HH F H' (c :: (p, .dK []) :: M) → Q (.ref p) H') : DnK Q H := fun p hp => q _ p (hh.new1 hp)
def DpK (S : Hp → Prop) (x y v : V) (H : Hp) : Prop := ∃ a H4, x = .ref a ∧ DPut H a y v H4 ∧ S H4
theorem g_dput (h : tv σ H fun v H1 => td σ H1 fun x H2 => ty σ H2 fun y H3 => DpK (nx σ) x y v H3) : sDPut td ty tv ⟨nx, rt, bk, ct⟩ σ H := h
theorem o_dput0 {a : Addr} {kvs : List (L2.Key × V)} {k : L2.Key} (hh : HH F H ((a, .dK kvs) :: M)) (l : kvs.length < 1000000) (q : ∀ H', HH F H' ((a, .dK (putK kvs k v)) :: M) → S H') : DpK S (.ref a) (kV k) v H :=
  ⟨a, _, rfl, DPut.k (hh.get (i := 0) rfl) (by rw [sl16]; omega), q _ hh.set0⟩
theorem o_dput1 {a : Addr} {c : Addr × HO} {kvs : List (L2.Key × V)} {k : L2.Key} (hh : HH F H (c :: (a, .dK kvs) :: M)) (l : kvs.length < 1000000) (q : ∀ H', HH F H' (c :: (a, .dK (putK kvs k v)) :: M) → S H') : DpK S (.ref a) (kV k) v H :=
  ⟨a, _, rfl, DPut.k (hh.get (i := 1) rfl) (by rw [sl16]; omega), q _ hh.set1⟩
/-! walks over keys -/
def OvK (R : It → Hp → Prop) (x : V) (H : Hp) : Prop := ∃ d o, x = .ref d ∧ ((∃ kvs, H d = some (.frz o (.dK kvs)) ∧ R (Itk d o kvs) H) ∨ ∃ kvs, H d = some (.frz o (.dT kvs)) ∧ R (Itkt d o kvs) H)
theorem gi_keys {R : It → Hp → Prop} (h : td σ H (OvK R)) : iKeys td σ H R := h
theorem v_ovK {R : It → Hp → Prop} {p : Addr} {o : Obj} {kvs : List (L2.Key × V)} (h : H p = some (.frz o (.dK kvs))) (q : R (Itk p o kvs) H) : OvK R (.ref p) H := ⟨p, o, rfl, .inl ⟨kvs, h, q⟩⟩
theorem l_keys {p : Addr} {o : Obj} {kvs : List (L2.Key × V)} {g : TG} {tb : TS} (Pv : Nat → L2.St → Hp → Prop) (h0 : Pv 0 σ H) (hl : ∀ i σ H, Pv i σ H → H p = some (.frz o (.dK kvs)))
    (hs : ∀ i k v σ H, kvs[i]? = some (k, v) → Pv i σ H → g (kV k) σ H fun σ2 H2 => tb ⟨Pv (i + 1), rt, nx, Pv (i + 1)⟩ σ2 H2) (hd : ∀ σ H, Pv kvs.length σ H → nx σ H) : LoopG (Itk p o kvs) g tb ⟨nx, rt, bk, ct⟩ σ H := by
  refine ⟨fun i m σ H => m = kvs.length - i ∧ i ≤ kvs.length ∧ Pv i σ H, ⟨kvs.length, by simp, Nat.zero_le _, h0⟩, ?_⟩
  rintro i m σ H ⟨rfl, hi, q⟩
  by_cases hlt : i < kvs.length
  · refine .inr ⟨⟨hl i σ H q, hlt⟩, Pv (i + 1), fun σ' H' q' => ⟨kvs.length - (i + 1), by omega, rfl, hlt, q'⟩, fun x H' z => ?_⟩
    obtain ⟨rfl, k, v, e, rfl⟩ := z
    exact hs i k v σ H' e q
  · obtain rfl : i = kvs.length := by omega
    exact .inl ⟨⟨hl _ σ H q, Nat.le_refl _⟩, hd σ H q⟩
theorem AtK.drop : ∀ {ks : List (L2.Key × D)} {gs : List (L2.Key × V)} (i : Nat), AtK K F ks gs → AtK K F (ks.drop i) (gs.drop i)
  | ks, gs, 0, h => h
  | [], gs, i + 1, h => by rw [h.ni]; exact AtK.nil
  | (j, e) :: ks, gs, i + 1, h => by
    obtain ⟨z, us, rfl, _, h2⟩ := h.ci
    exact AtK.drop i h2
theorem a_forK {ks : List (L2.Key × D)} {g : TG} {tb : TS} (hx : At K F0 (.dk ks) x) (s : Same F0 H) (I : List (L2.Key × D) → L2.St → Hp → Prop) (hF : ∀ r σ H, I r σ H → Same F0 H) (h0 : I ks σ H)
    (hs : ∀ k d r σ H, I ((k, d) :: r) σ H → g (kV k) σ H fun σ2 H2 => tb ⟨I r, rt, nx, I r⟩ σ2 H2) (hd : ∀ σ H, I [] σ H → nx σ H) : OvK (fun J H1 => LoopG J g tb ⟨nx, rt, bk, ct⟩ σ H1) x H := by
  obtain ⟨a, od, vs, rfl, hf, hv⟩ := hx.dk_
  refine v_ovK (s _ _ hf) (l_keys (fun i σ H => I (ks.drop i) σ H) h0 (fun i σ H q => hF _ _ _ q _ _ hf) (fun i k v σ H e q => ?_) fun σ H q => hd σ H ?_)
  · have h2 := hv.drop i
    rw [drop_c e] at h2
    cases hk : ks.drop i with
    | nil => rw [hk] at h2; cases h2.ni
    | cons p r =>
      obtain ⟨j, d⟩ := p
      rw [hk] at h2 q
      obtain ⟨z, us, ez, _, _⟩ := h2.ci
      cases ez
      have er : ks.drop (i + 1) = r := by rw [← List.drop_drop, hk]; rfl
      show g (kV k) σ H fun σ2 H2 => tb ⟨I (ks.drop (i + 1)), rt, nx, I (ks.drop (i + 1))⟩ σ2 H2
      rw [er]
      exact hs k d r σ H q
  · rw [hv.len, List.drop_length] at q
    exact q
/-! dict comprehensions -/
def PutDK (D : Addr) (y z : V) (H5 : Hp) (S : Hp → Prop) : Prop := ∃ kvs k, y = kV k ∧ H5 D = some (.dK kvs) ∧ kvs.length < sizeLine ∧ S (upd H5 D (.dK (putK kvs k z)))
def DcG (J : It) (g : TG) (tt : TT) (tk tv : TE) (σ : L2.St) (vs : List Nat) (D : Addr) (H1 : Hp) (Qd : Hp → Prop) : Prop := ∃ W : Nat → Nat → Hp → Prop, (∃ m, W 0 m (upd H1 D (.dK []))) ∧ ∀ i m H, W i m H →
  (J.stop i H ∧ Qd H) ∨ (J.go i H ∧ ∃ Nx : Hp → Prop, (∀ H', Nx H' → ∃ m', m' < m ∧ W (i + 1) m' H') ∧ ∀ x H', J.yld i H x H' → g x (wipe σ vs) H' fun σ2 H2 => wipe σ2 vs = wipe σ vs ∧ tt σ2 H2 fun b H3 =>
    if b = true then tk σ2 H3 fun y H4 => tv σ2 H4 fun z H5 => PutDK D y z H5 Nx else Nx H3)
def DcK (J : It) (g : TG) (tt : TT) (tk tv : TE) (σ : L2.St) (ws : List Nat) (H1 : Hp) (Q : VK) : Prop := ∀ D, H1 D = Option.none → DcG J g tt tk tv σ ws D H1 (Q (.ref D))
theorem g_dcK {wi : TI} {g : TG} {tt : TT} {tk : TE} {ws : List Nat} (h : wi σ H fun J H1 => DcK J g tt tk tv σ ws H1 Q) : tDc wi g tt tk tv ws σ H Q := h
theorem v_putD {D : Addr} {kvs : List (L2.Key × V)} {k : L2.Key} (h : H D = some (.dK kvs)) (l : kvs.length < 1000000) (q : S (upd H D (.dK (putK kvs k v)))) : PutDK D (kV k) v H S := ⟨kvs, k, rfl, h, by rw [sl16]; omega, q⟩
theorem dc_keys {p : Addr} {o : Obj} {kvs : List (L2.Key × V)} {g : TG} {tt : TT} {tk : TE} {ws : List Nat} {D : Addr} {Qd : Hp → Prop} (Pv : Nat → Hp → Prop) (h0 : Pv 0 (upd H D (.dK []))) (hl : ∀ i H, Pv i H → H p = some (.frz o (.dK kvs)))
    (hs : ∀ i k v H, kvs[i]? = some (k, v) → Pv i H → g (kV k) (wipe σ ws) H fun σ2 H2 => wipe σ2 ws = wipe σ ws ∧ tt σ2 H2 fun b H3 => if b = true then tk σ2 H3 fun y H4 => tv σ2 H4 fun z H5 => PutDK D y z H5 (Pv (i + 1)) else Pv (i + 1) H3)
    (hd : ∀ H, Pv kvs.length H → Qd H) : DcG (Itk p o kvs) g tt tk tv σ ws D H Qd := by
  refine ⟨fun i m H => m = kvs.length - i ∧ i ≤ kvs.length ∧ Pv i H, ⟨kvs.length, by simp, Nat.zero_le _, h0⟩, ?_⟩
  rintro i m H ⟨rfl, hi, q⟩
  by_cases hlt : i < kvs.length
  · refine .inr ⟨⟨hl i H q, hlt⟩, Pv (i + 1), fun H' q' => ⟨kvs.length - (i + 1), by omega, rfl, hlt, q'⟩, fun x H' z => ?_⟩
    obtain ⟨rfl, k, v, e, rfl⟩ := z
    exact hs i k v H' e q
  · obtain rfl : i = kvs.length := by omega
    exact .inl ⟨⟨hl _ H q, Nat.le_refl _⟩, hd H q⟩
theorem dc_list {a : Addr} {xs : List V} {g : TG} {tt : TT} {tk : TE} {ws : List Nat} {D : Addr} {Qd : Hp → Prop} (Pv : Nat → Hp → Prop) (h0 : Pv 0 (upd H D (.dK []))) (hl : ∀ i H, Pv i H → SqL K H a xs)
    (hs : ∀ i x H, xs[i]? = some x → Pv i H → g x (wipe σ ws) H fun σ2 H2 => wipe σ2 ws = wipe σ ws ∧ tt σ2 H2 fun b H3 => if b = true then tk σ2 H3 fun y H4 => tv σ2 H4 fun z H5 => PutDK D y z H5 (Pv (i + 1)) else Pv (i + 1) H3)
    (hd : ∀ H, Pv xs.length H → Qd H) : DcG (Itl K a) g tt tk tv σ ws D H Qd := by
  refine ⟨fun i m H => m = xs.length - i ∧ i ≤ xs.length ∧ Pv i H, ⟨xs.length, by simp, Nat.zero_le _, h0⟩, ?_⟩
  rintro i m H ⟨rfl, hi, p⟩
  have q := hl i H p
  by_cases hlt : i < xs.length
  · refine .inr ⟨⟨xs, xs[i], q, by simp [hlt]⟩, Pv (i + 1), fun H' p' => ⟨xs.length - (i + 1), by omega, rfl, hlt, p'⟩, fun x H' y => ?_⟩
    obtain ⟨e, y⟩ := y
    subst e
    exact hs i x _ (y xs q) p
  · have e : i = xs.length := by omega
    subst e
    exact .inl ⟨⟨xs, q, Nat.le_refl _⟩, hd H p⟩
/-! list(d), sorted(ints) -/
def rListDk : List V → Hp → VK → Prop := fun xs H Q => ∃ (a : Addr) (kvs : List (L2.Key × V)), xs = [.ref a] ∧ Rd H a (.dK kvs) ∧ ∀ p, H p = Option.none → Q (.ref p) (upd H p (.lst (kvs.map fun kv => kV kv.1)))
theorem map_kVI : ∀ {ks : List (L2.Key × V)} {ns : List Int}, ks.map (·.1) = ns.map Sum.inl → (ks.map fun kv => kV kv.1) = ns.map V.int
  | [], [], _ => rfl
  | [], _ :: _, e => nomatch e
  | _ :: _, [], e => nomatch e
  | k :: ks, n :: ns, e => by
    rw [List.map_cons, List.map_cons, List.cons.injEq] at e
    rw [List.map_cons, List.map_cons, map_kVI e.2, e.1]
    rfl
theorem s_listK {ks : List (L2.Key × D)} {ns : List Int} (hx : At K F0 (.dk ks) x) (hh : HH F H M) (s : Same F0 F) (ek : ks.map (·.1) = ns.map Sum.inl) (q : ∀ F' H' u, Same F F' → HH F' H' M → At K F' (.lst (ns.map D.i)) u → Q u H') : rListDk [x] H Q := by
  obtain ⟨a, od, vs, rfl, _, hr, hv⟩ := hx.dkR (s.trans hh.sub)
  refine ⟨a, vs, rfl, hr, fun p hp => ?_⟩
  rw [map_kVI (hv.keys.trans ek)]
  exact q _ _ _ (hh.grow hp) (hh.newF hp) (At.mkL upd_same (AtA.ofFlat (g := V.int)))
def srt (ns : List Int) : List Int := ns.mergeSort fun a b => decide (a ≤ b)
theorem srt_perm {ns : List Int} : (srt ns).Perm ns := List.mergeSort_perm _ _
theorem srt_ord {ns : List Int} : (srt ns).Pairwise (· ≤ ·) := by
  have h := List.pairwise_mergeSort (le := fun a b : Int => decide (a ≤ b)) (fun a b c h1 h2 => decide_eq_true (Int.le_trans (of_decide_eq_true h1) (of_decide_eq_true h2))) (fun a b => by
    rcases Int.le_total a b with h | h
    · rw [decide_eq_true h]; rfl
    · rw [decide_eq_true h]; simp) ns
  exact h.imp fun z => of_decide_eq_true z
theorem srt_uniq {ns ms : List Int} (p : ms.Perm ns) (o : ms.Pairwise (· ≤ ·)) : ms = srt ns := List.Perm.eq_of_pairwise (le := fun a b : Int => a ≤ b) (fun a b _ _ h1 h2 => Int.le_antisymm h1 h2) o srt_ord (p.trans srt_perm.symm)
theorem s_sorted {ns : List Int} (hx : At K F0 (.lst (ns.map D.i)) x) (hh : HH F H M) (s : Same F0 F) (q : ∀ F' H' u, Same F F' → HH F' H' M → At K F' (.lst ((srt ns).map D.i)) u → Q u H') : rSortedI K [x] H Q := by
  obtain ⟨a, vs, rfl, h, t⟩ := hx.lst_
  have e := t.flat (g := V.int)
  subst e
  refine ⟨a, ns, rfl, (s.trans hh.sub).seq h, fun ms p pe po hp => ?_⟩
  rw [srt_uniq pe po]
  exact q _ _ _ (hh.grow hp) (hh.newF hp) (At.mkL upd_same (AtA.ofFlat (g := V.int)))
end
theorem call_listDk {X : Cx} (hc : X.calm = true) : CallR X (.type "list") rListDk := call_listD hc
theorem u1 {k : Nat} {A : Around} (r : Room k A) : A.units + 1 < cLine := by have := r.units; omega
/-! dicts compared -/
def rEqDk (K : PySem.W.Frag) : R2 := fun x y H Q => ∃ a b ks ls ds es, x = .ref a ∧ y = .ref b ∧ Rd H a (.dK ks) ∧ Rd H b (.dK ls) ∧ ks.map (·.1) = ls.map (·.1) ∧ DpAll K H (ks.map (·.2)) ds ∧ DpAll K H (ls.map (·.2)) es ∧ PyData.canLayAll0 ds = true ∧ PyData.canLayAll0 es = true ∧
  PyData.depthAll ds ≤ 60 ∧ Q (.bl (PyData.eqvAll ds es)) H
theorem hits_of {P : Program} {w : World} {A : Around} {s : Shared} {kb : List (L2.Key × Value)} (hn : (kb.map (·.1)).Nodup) (hu : A.units + 60 < cLine) : ∀ {ra rb : List (L2.Key × Value)} {ds es : List PyData} {as bs : List Addr}, ra.map (·.1) = rb.map (·.1) → (∀ p ∈ rb, p ∈ kb) →
    ReadsAll s.heap (ra.map (·.2)) ds as → ReadsAll s.heap (rb.map (·.2)) es bs → PyData.canLayAll0 ds = true → PyData.canLayAll0 es = true → PyData.depthAll ds ≤ 60 → PySem.W.KeqHitsIn P w A s kb ra (PyData.eqvAll ds es)
  | [], [], _, _, _, _, _, _, r1, r2, _, _, _ => by
    cases r1
    cases r2
    rw [PyData.eqvAll]
    exact .nil
  | [], _ :: _, _, _, _, _, e, _, _, _, _, _, _ => nomatch e
  | _ :: _, [], _, _, _, _, e, _, _, _, _, _, _ => nomatch e
  | (k, v) :: ra, (j, u) :: rb, _, _, _, _, e, hm, r1, r2, c1, c2, hd => by
    rw [List.map_cons, List.map_cons, List.cons.injEq] at e
    obtain ⟨e1, e2⟩ := e
    have e1 : k = j := e1
    subst e1
    cases r1 with
    | cons q1 t1 =>
      cases r2 with
      | cons q2 t2 =>
        rw [PyData.canLayAll0, Bool.and_eq_true] at c1 c2
        rw [PyData.depthAll] at hd
        rw [PyData.eqvAll]
        refine .hit (PySem.valueAt_of_mem hn (hm _ (List.mem_cons_self ..))) ((SeqAt.eqAt_reads _ _ A s _ _ _ _ q1 q2 c1.1 c2.1 (by omega)).inModel P w) ?_
        exact hits_of hn hu e2 (fun p hp => hm p (List.mem_cons_of_mem _ hp)) t1 t2 c1.2 c2.2 (by omega)
theorem op_eqDk {X : Cx} (hu : X.A.units + 64 < cLine) : OpR X (compareOp .Eq) (rEqDk X.K) := by
  intro pins s σ H x y v u Q I rx ry h
  obtain ⟨a, b, ks, ls, ds, es, rfl, rfl, ha, hb, ek, h1, h2, c1, c2, hd, q⟩ := h
  cases rx
  cases ry
  obtain ⟨_, ya, va, ra, da⟩ := dk_rd I.hok ha
  obtain ⟨_, yb, vb, rb, db⟩ := dk_rd I.hok hb
  obtain ⟨as, q1⟩ := L2.Dp.readsAll I _ _ _ h1 (kv_vals ra)
  obtain ⟨bs, q2⟩ := L2.Dp.readsAll I _ _ _ h2 (kv_vals rb)
  have ekv : va.map (·.1) = vb.map (·.1) := by rw [← ra.keys, ← rb.keys]; exact ek
  have hnd : (vb.map (·.1)).Nodup := db.elim fun _ z => z.elim fun _ z => z.elim fun _ z => z.2.2.2.2.2
  have hl : va.length = vb.length := by have := congrArg List.length ekv; rw [List.length_map, List.length_map] at this; exact this
  refine PySem.W.keq_eqIn (knd := mixKind X.prog X.w) ya yb da db (by omega) (fun _ => hits_of hnd (by show X.A.units + 1 + 60 < _; omega) ekv (fun p hp => hp) q1 q2 c1 c2 hd) ?_
  rw [hl, beq_self_eq_true, Bool.true_and]
  exact ⟨.bl _, H, I, rfl, q⟩
end G

/-! ### == of dicts whose values have an own == (the state goes on, the abstract heap stays) -/
namespace GN
open PySem PySem.Spec PyProof.Rows L2
section
variable {X : Cx} {pins : List (Addr × Obj)} {σ : L2.St} {H : Hp} {A : Around} {s : Shared}
/-- == inside a builtin tells r and leaves the abstract heap -/
def EqB (X : Cx) (pins : List (Addr × Obj)) (σ : L2.St) (A : Around) (H : Hp) (v u : Value) (r : Bool) : Prop := ∀ s, Inv X pins σ H s → wpAny (model X.prog X.w) A (eqBool v u) (fun b s' => b = r ∧ Inv X pins σ H s') X.xe s
inductive Hits (X : Cx) (pins : List (Addr × Obj)) (σ : L2.St) (A : Around) (H : Hp) (kb : List (L2.Key × Value)) : List (L2.Key × Value) → Bool → Prop
  | nil : Hits X pins σ A H kb [] true
  | hit {k : L2.Key} {v y : Value} {r : List (L2.Key × Value)} {e b : Bool} : valueAt kb k = some y → EqB X pins σ A H v y e → Hits X pins σ A H kb r b → Hits X pins σ A H kb ((k, v) :: r) (e && b)
theorem Hits.inv {kb : List (L2.Key × Value)} {k : L2.Key} {v : Value} {r : List (L2.Key × Value)} {b : Bool} (h : Hits X pins σ A H kb ((k, v) :: r) b) : ∃ y e b', valueAt kb k = some y ∧ EqB X pins σ A H v y e ∧ Hits X pins σ A H kb r b' ∧ b = (e && b') := by
  cases h with
  | hit h1 h2 h3 => exact ⟨_, _, _, h1, h2, h3, rfl⟩
/-- a dict's object, the same in every state -/
structure Std (X : Cx) (pins : List (Addr × Obj)) (σ : L2.St) (H : Hp) (a : Addr) (es : Array DictEntry) (ka : List (L2.Key × Value)) : Prop where
  sys : (a == sysModules) = false
  ex : ∃ (oa : Obj) (ep : Nat), (∀ s, Inv X pins σ H s → s.heap.get? a = some oa) ∧ oa.ExactDict ∧ oa.data = .dict es ep
  keys : KeysOf (mixKind X.prog X.w) es
  prs : Pairs (mixKind X.prog X.w) es.toList ka
  nd : (ka.map (·.1)).Nodup
theorem Std.len {a : Addr} {es : Array DictEntry} {ka : List (L2.Key × Value)} (h : Std X pins σ H a es ka) : ka.length = es.size := by rw [← h.prs.length]; exact Array.length_toList
theorem Std.dict {a : Addr} {es : Array DictEntry} {ka : List (L2.Key × Value)} (h : Std X pins σ H a es ka) (I : Inv X pins σ H s) : s.heap.DictOf (mixKind X.prog X.w) a ka := by
  obtain ⟨oa, ep, g, x, d⟩ := h.ex
  exact ⟨oa, es, ep, g s I, x, d, h.keys, h.prs, h.nd⟩
theorem samePairsI {nm : String} {a b : Addr} {es es' : Array DictEntry} {ka kb : List (L2.Key × Value)} {r : Bool} (I : Inv X pins σ H s) (da : Std X pins σ H a es ka) (db : Std X pins σ H b es' kb) (hits : ka.length = kb.length → Hits X pins σ A H kb ka r) :
    wpAny (model X.prog X.w) A (Builtin.Dict.samePairs nm a b) (fun q s' => q = (ka.length == kb.length && r) ∧ Inv X pins σ H s') X.xe s := by
  have hla := da.len
  have hlb := db.len
  obtain ⟨oa, ep, ga, _, hda⟩ := da.ex
  obtain ⟨ob, ep', gb, _, hdb⟩ := db.ex
  have hfind : ∀ k, findBy (mixKind X.prog X.w).is es' k = valueAt kb k := fun k => by
    rw [← db.prs.find k]
    clear hlb db hdb
    obtain ⟨l⟩ := es'
    simp [findBy]
  unfold Builtin.Dict.samePairs Builtin.Dict.showsAll
  rw [if_neg (show ¬ (a == sysModules) = true by rw [da.sys]; exact Bool.false_ne_true), if_neg (show ¬ (b == sysModules) = true by rw [db.sys]; exact Bool.false_ne_true)]
  refine wpAny_bind (wpAny_pure (wpAny_bind (wpAny_pure ?_)))
  refine wpAny_bind (wpAny_dictEntries (ga s I) hda ?_)
  dsimp only
  refine wpAny_bind (wpAny_dictEntries (gb s I) hdb ?_)
  by_cases hsz : es.size = es'.size
  case neg =>
    rw [if_pos (by simpa using hsz)]
    have hbf : (ka.length == kb.length) = false := by rw [hla, hlb]; simpa using hsz
    exact wpAny_bind (wpAny_rule (wpAny_pure ⟨by rw [hbf, Bool.false_and], I⟩))
  case pos =>
    have hbt : (ka.length == kb.length) = true := by rw [hla, hlb, hsz]; exact beq_self_eq_true _
    have hits' := hits (by rw [hla, hlb]; exact hsz)
    rw [if_neg (by rw [hsz]; simp), hbt, Bool.true_and]
    refine wpAny_bind (wpAny_dictEpoch (ga s I) hda ?_)
    refine wpAny_bind ?_
    rw [Std.Legacy.Range.forIn_eq_forIn_range']
    simp only [Std.Legacy.Range.size, Nat.sub_zero, Nat.add_sub_cancel, Nat.div_one]
    refine wpAny_forIn_list _
      (fun rest q s' => Inv X pins σ H s' ∧ q = (none, ()) ∧ ∃ i b', rest = List.range' i (es.size - i) ∧ i ≤ es.size ∧ Hits X pins σ A H kb (ka.drop i) b' ∧ b' = r)
      _ ?_ ?_ _ _ ⟨I, rfl, 0, r, by simp, Nat.zero_le _, hits', rfl⟩
    · clear I
      rintro x rest q s' ⟨I, rfl, i, b', hr, hi, hpre, rfl⟩
      have hlt : i < es.size := by
        rcases Nat.lt_or_ge i es.size with h | h
        · exact h
        · rw [Nat.sub_eq_zero_of_le h] at hr; simp at hr
      obtain ⟨rfl, hrest⟩ : x = i ∧ rest = List.range' (i + 1) (es.size - (i + 1)) := by
        have e : es.size - i = (es.size - (i + 1)) + 1 := by omega
        rw [e, List.range'_succ] at hr
        injection hr with h1 h2
        exact ⟨h1, h2⟩
      refine wpAny_bind (wpAny_dictEntries (ga _ I) hda ?_)
      rw [Array.getElem?_eq_getElem hlt]
      have hlt' : x < ka.length := by rw [hla]; exact hlt
      obtain ⟨k, v, hkv⟩ : ∃ k v, ka[x] = (k, v) := ⟨_, _, rfl⟩
      have hdrop : ka.drop x = (k, v) :: ka.drop (x + 1) := by rw [← hkv]; exact List.drop_eq_getElem_cons hlt'
      obtain ⟨hkey, hval⟩ := da.prs.get? (i := x) (e := es[x]) (k := k) (v := v) (by rw [Array.getElem?_toList]; exact Array.getElem?_eq_getElem hlt) (by rw [List.getElem?_eq_getElem hlt', hkv])
      obtain ⟨k', hk', hh⟩ := da.keys es[x] (Array.getElem_mem hlt)
      have ekk : k' = k := (mixKind X.prog X.w).inj _ _ _ hk' hkey
      rw [ekk] at hh
      rw [hdrop] at hpre
      show wpAny _ _ (holding [es[x].key, es[x].val] _ >>= _) _ _ _
      rw [hh]
      refine wpAny_bind (wpAny_holding (wpAny_bind (wpAny_dictFind_of hkey (gb _ I) hdb db.keys ?_)))
      obtain ⟨y, e, b'', hy, he, hrr, er⟩ := hpre.inv
      cases hj : es'.findIdx? fun e => (mixKind X.prog X.w).is k e.key with
      | none =>
        have hn : valueAt kb k = none := by rw [← hfind k, findBy_of_findIdx?, hj]
        rw [hn] at hy; exact nomatch hy
      | some j =>
        obtain ⟨hjlt, _, _⟩ := Array.findIdx?_eq_some_iff_getElem.mp hj
        have hv' : valueAt kb k = some es'[j].val := by
          rw [← hfind k, findBy_of_findIdx?, hj]
          simp [Array.getElem?_eq_getElem hjlt]
        refine wpAny_bind (wpAny_dictEntries (gb _ I) hdb ?_)
        rw [Array.getElem?_eq_getElem hjlt]
        have ey : es'[j].val = y := Option.some.inj (hv'.symm.trans hy)
        rw [← ey, ← hval] at he
        refine wpAny_holding (wpAny_mono (he _ I) (fun q s'' z => ?_) fun _ _ z => z)
        obtain ⟨rfl, I''⟩ := z
        cases q with
        | false =>
          show wpAny _ _ (if (!false) = true then _ else _) _ _ _
          rw [if_pos (by decide)]
          exact wpAny_pure (wpAny_pure ⟨by rw [er]; rfl, I''⟩)
        | true =>
          show wpAny _ _ (if (!true) = true then _ else _) _ _ _
          rw [if_neg (by decide)]
          refine wpAny_bind (wpAny_dictEpoch (ga _ I'') hda ?_)
          rw [if_neg (by simp)]
          exact wpAny_pure ⟨I'', rfl, x + 1, b'', hrest, hlt, hrr, by rw [er, Bool.true_and]⟩
    · rintro q s' ⟨I, rfl, i, b', hr, hi, hpre, rfl⟩
      have hin : i = es.size := by
        rcases Nat.lt_or_ge i es.size with h | h
        · have e : es.size - i = (es.size - (i + 1)) + 1 := by omega
          rw [e, List.range'_succ] at hr; exact nomatch hr
        · exact Nat.le_antisymm hi h
      refine wpAny_pure ?_
      rw [hin, ← hla, List.drop_length] at hpre
      cases hpre
      exact ⟨rfl, I⟩
theorem rcI_dicts {a b : Addr} {es es' : Array DictEntry} {ka kb : List (L2.Key × Value)} {r : Bool} (I : Inv X pins σ H s) (da : Std X pins σ H a es ka) (db : Std X pins σ H b es' kb) (hu : A.units < cLine) (hits : ka.length = kb.length → Hits X pins σ A.in1 H kb ka r) :
    wpAny (model X.prog X.w) A (richCompare .Eq (.ref a) (.ref b)) (fun v s' => ∃ q, v = .bool q ∧ q = (ka.length == kb.length && r) ∧ Inv X pins σ H s') X.xe s := by
  have ta := (da.dict I).typeIs
  have tb := (db.dict I).typeIs
  refine wpAny_richCompare_same_room (op := .Eq) ta tb PySem.F.slot_dict_eq (wpAny_call_entry PySem.F.slot_dict_eq ta PySem.F.entry_dict_eq ?_ (PySem.F.args_dict_eq_2 _ _)) hu
  show wpAny _ _ (Builtin.Dict.dictSlotArgs "__eq__" ⟨[.ref a, .ref b], []⟩ >>= _) _ _ s
  refine wpAny_bind ?_
  unfold Builtin.Dict.dictSlotArgs
  refine wpAny_bind (wpAny_notOrdered_dict ta ?_)
  show wpAny _ _ (pure (Value.ref a, Value.ref b)) _ _ s
  refine wpAny_pure ?_
  refine wpAny_bind (wpAny_isInstance (T := "dict") tb PySem.F.sub_dict_dict ?_)
  simp only [Bool.not_true, Bool.false_eq_true, if_false]
  refine wpAny_bind (wpAny_pure (wpAny_bind (wpAny_pure ?_)))
  refine wpAny_bind (wpAny_mono (samePairsI I da db hits) (fun q s' z => ?_) fun _ _ z => z)
  obtain ⟨rfl, I'⟩ := z
  refine wpAny_pure ⟨_, rfl, ?_, ?_⟩
  · exact fun x => nomatch x
  · exact ⟨_, rfl, by simp, I'⟩
theorem eqB_dicts {a b : Addr} {es es' : Array DictEntry} {ka kb : List (L2.Key × Value)} {r : Bool} (da : Std X pins σ H a es ka) (db : Std X pins σ H b es' kb) (hu : A.units < cLine) (hits : ka.length = kb.length → Hits X pins σ A.in1 H kb ka r)
    (hs : a = b → (ka.length == kb.length && r) = true) : EqB X pins σ A H (.ref a) (.ref b) (ka.length == kb.length && r) := fun s I => by
  by_cases h : a = b
  · have e := hs h
    generalize (ka.length == kb.length && r) = q at e ⊢
    subst e
    unfold eqBool
    refine wpAny_holding (wpAny_ite_split (fun _ => wpAny_bind (wpAny_rule (wpAny_pure ⟨rfl, I⟩))) fun z => absurd (by rw [h]; exact beq_self_eq_true _) z)
  · refine GQ.eqBool_refG h (wpAny_mono (rcI_dicts I da db hu hits) (fun v s' z => ?_) fun _ _ z => z)
    obtain ⟨q, rfl, rfl, I'⟩ := z
    exact ⟨_, rfl, rfl, I'⟩
end
end GN
namespace G
open PySem PySem.Spec PyProof.Rows L2 GN
/-! as the walks tell it -/
inductive HitV (D : V → V → Bool → Prop) (kb : List (L2.Key × V)) : List (L2.Key × V) → Bool → Prop
  | nil : HitV D kb [] true
  | hit {k : L2.Key} {v u : V} {r : List (L2.Key × V)} {e b : Bool} : valV kb k = some u → D v u e → HitV D kb r b → HitV D kb ((k, v) :: r) (e && b)
/-- two instances of the class at C that its own == calls equal, changing nothing -/
def TEq (C : Addr) (sp : Sp) (H : Hp) (x y : V) (r : Bool) : Prop := r = true ∧ ∃ a dx fs b dy gs, x = .ref a ∧ y = .ref b ∧ H a = some (.ins C dx fs) ∧ H b = some (.ins C dy gs) ∧ sp [.ref a, .ref b] H (fun v H1 => v = .bl true ∧ H1 = H) E0
/-- two frozen dicts of such -/
def DEq (D : V → V → Bool → Prop) (H : Hp) (x y : V) (r : Bool) : Prop := ∃ a b oa ob ka kb q, x = .ref a ∧ y = .ref b ∧ H a = some (.frz oa (.dK ka)) ∧ H b = some (.frz ob (.dK kb)) ∧ (ka.length = kb.length → HitV D kb ka q) ∧ (a = b → q = true) ∧ r = (ka.length == kb.length && q)
/-- dicts of dicts of instances; a dict that may still change is looked at, too -/
def rEqPP (C : Addr) (sp : Sp) : R2 := fun x y H Q => (∃ r, DEq (DEq (TEq C sp H) H) H x y r ∧ Q (.bl r) H) ∨
  ∃ d kvs, H d = some (.dK kvs) ∧ ∃ r, (∀ od, DEq (DEq (TEq C sp (upd H d (.frz od (.dK kvs)))) (upd H d (.frz od (.dK kvs)))) (upd H d (.frz od (.dK kvs))) x y r) ∧ Q (.bl r) H
section
variable {X : Cx} {pins : List (Addr × Obj)} {σ : L2.St} {H : Hp} {A : Around} {s : Shared} {n m j : Nat} {C : Addr} {sp : Sp} {D : V → V → Bool → Prop}
theorem std_of {a : Addr} {oa : Obj} {kvs : List (L2.Key × V)} (I : Inv X pins σ H s) (h : H a = some (.frz oa (.dK kvs))) : ∃ es ka, KV kvs ka ∧ Std X pins σ H a es ka := by
  obtain ⟨_, sys, va, ra, o, es, ep, g, x, d, k, p, nd⟩ := dk_rd I.hok (.inr ⟨oa, h⟩)
  have e := (I.hok a _ h).1
  rw [g] at e
  cases e
  exact ⟨es, va, ra, sys, ⟨oa, ep, fun s' I' => (I'.hok a _ h).1, x, d⟩, k, p, nd⟩
theorem hits_V {kb : List (L2.Key × V)} {vb : List (L2.Key × Value)} (rb : KV kb vb) (hD : ∀ v u e v' u', D v u e → RelV v v' → RelV u u' → EqB X pins σ A H v' u' e) {ka : List (L2.Key × V)} {r : Bool} (h : HitV D kb ka r) : ∀ {va : List (L2.Key × Value)}, KV ka va → Hits X pins σ A H vb va r := by
  induction h with
  | nil =>
    intro va ra
    cases ra
    exact .nil
  | hit h1 h2 _ ih =>
    rename_i k v u r' e b _
    intro va ra
    cases ra with
    | cons q t =>
      rename_i p vs
      obtain ⟨k', w⟩ := p
      obtain ⟨q1, q2⟩ := q
      have q1 : k = k' := q1
      subst q1
      obtain ⟨w', hw, rw'⟩ := RelO.some_of (v := u) (o := valueAt vb k) (by rw [← h1]; exact rb.val k)
      exact .hit hw (hD v u e w w' h2 q2 rw') (ih t)
theorem kv_len {ks : List (L2.Key × V)} {vs : List (L2.Key × Value)} (r : KV ks vs) : vs.length = ks.length := by
  have := congrArg List.length r.keys
  rw [List.length_map, List.length_map] at this
  exact this.symm
theorem eqB_thing (c : Mt X.prog X.w X.K X.mg X.base n C "__eq__" sp []) (sb : L2.Sub X m A) (hm : n ≤ m) {v u : V} {v' u' : Value} {r : Bool} (h : TEq C sp H v u r) (rv : RelV v v') (ru : RelV u u') : EqB X pins σ A H v' u' r := by
  obtain ⟨rfl, a, dx, fs, b, dy, gs, rfl, rfl, ha, hb, hsp⟩ := h
  cases rv
  cases ru
  intro s I
  by_cases z : a = b
  · unfold eqBool
    refine wpAny_holding (wpAny_ite_split (fun _ => wpAny_bind (wpAny_rule (wpAny_pure ⟨rfl, I⟩))) fun q => absurd (by rw [z]; exact beq_self_eq_true _) q)
  obtain ⟨f, fd, ps, ds, cl, hme, F, bi, d⟩ := c.ex
  cases d
  obtain ⟨mA, J, _⟩ := ins_get I.hok ha
  obtain ⟨mB, J', _⟩ := ins_get I.hok hb
  obtain ⟨od, J, _⟩ := J.look
  obtain ⟨od', J', _⟩ := J'.look
  obtain ⟨mm, hF⟩ := I.fr
  refine GQ.eqBool_refG z ?_
  refine PySem.W.cmp_K (op := .Eq) (tb := .ref C) sb.room.units0 hF I.ok.mod.kin J J'.type (by simp [PySem.W.notFirst]) hme.at_ hme.fn ?_
  have hl := F.len _ _ _ _ hsp
  have e0 : Env0 X.prog X.w X.K X.mg X.base A X.stack s H := by
    have e := I.env0
    exact ⟨by rw [sb.fr]; exact e.frames, e.mod, e.bs, e.bsz, e.funs, e.frf, e.hok, e.bare⟩
  have b2 := bi s [.ref a, .ref b] I.kIn (by simpa using hl)
  rw [List.append_nil] at b2
  have r2 : Vals [V.ref a, V.ref b] [Value.ref a, Value.ref b] := .cons rfl (.cons rfl .nil)
  refine wpAny_call (codeAny_mono (F.run A X.stack s H ⟨[.ref a, .ref b], []⟩ [.ref a, .ref b] [.ref a, .ref b] _ E0 (sb.room.mono hm) e0 b2 r2 hsp) fun r s' hq => ?_)
  cases r with
  | error e => exact (passL (X := X)) pins σ H s e s' I hq
  | ok fl =>
    cases fl with
    | ret w =>
      obtain ⟨w1, H', I', rz, rfl, eH⟩ := I.after hq
      cases rz
      subst eH
      exact ⟨true, rfl, rfl, I'⟩
    | next => exact hq.elim
    | brk => exact hq.elim
    | cont => exact hq.elim
theorem eqB_deq (sb : L2.Sub X (m + 1) A) (hD : ∀ v u e v' u', D v u e → RelV v v' → RelV u u' → EqB X pins σ A.in1 H v' u' e) {x y : V} {v u : Value} {r : Bool} (h : DEq D H x y r) (rx : RelV x v) (ry : RelV y u) : EqB X pins σ A H v u r := by
  obtain ⟨a, b, oa, ob, ka, kb, q, rfl, rfl, ha, hb, hi, hs, rfl⟩ := h
  cases rx
  cases ry
  intro s I
  obtain ⟨es, va, ra, da⟩ := std_of I ha
  obtain ⟨es', vb, rb, db⟩ := std_of I hb
  rw [← kv_len ra, ← kv_len rb] at hi ⊢
  refine eqB_dicts da db sb.room.units0 (fun e => hits_V rb hD (hi e) ra) (fun e => ?_) s I
  subst e
  rw [ha] at hb
  cases hb
  rw [hs rfl, kv_len ra, kv_len rb, beq_self_eq_true]
  rfl
theorem run_eqPP (c : Mt X.prog X.w X.K X.mg X.base n C "__eq__" sp []) (hr : Room j X.A) (hk : n + 3 ≤ j) (I : Inv X pins σ H s) {x y : V} {v u : Value} {r : Bool} (h : DEq (DEq (TEq C sp H) H) H x y r) (rx : RelV x v) (ry : RelV y u) :
    wpAny (model X.prog X.w) X.A (richCompare .Eq v u) (fun w s' => w = .bool r ∧ Inv X pins σ H s') X.xe s := by
  obtain ⟨a, b, oa, ob, ka, kb, q, rfl, rfl, ha, hb, hi, hs, rfl⟩ := h
  cases rx
  cases ry
  obtain ⟨es, va, ra, da⟩ := std_of I ha
  obtain ⟨es', vb, rb, db⟩ := std_of I hb
  rw [← kv_len ra, ← kv_len rb] at hi ⊢
  have sb : L2.Sub X (n + 3) X.A := ⟨hr.mono hk, rfl⟩
  refine wpAny_mono (rcI_dicts I da db sb.room.units0 fun e => hits_V rb (fun v u e v' u' d rv ru => eqB_deq (m := n + 1) sb.in1 (fun v u e v' u' d rv ru => eqB_thing c (m := n + 1) sb.in1.in1 (Nat.le_succ n) d rv ru) d rv ru) (hi e) ra) (fun w s' z => ?_) fun _ _ z => z
  obtain ⟨q', rfl, rfl, I'⟩ := z
  exact ⟨rfl, I'⟩
theorem op_eqPP (c : Mt X.prog X.w X.K X.mg X.base n C "__eq__" sp []) (hr : Room j X.A) (hk : n + 3 ≤ j) : OpR X (compareOp .Eq) (rEqPP C sp) := by
  intro pins s σ H x y v u Q I rx ry hq
  show wpAny (model X.prog X.w) X.A (richCompare .Eq v u) (EP X pins σ Q) X.xe s
  rcases hq with ⟨r, h, q⟩ | ⟨d, kvs, hd, r, h, q⟩
  · refine wpAny_mono (run_eqPP c hr hk I h rx ry) (fun w s' z => ?_) fun _ _ z => z
    obtain ⟨rfl, I'⟩ := z
    exact ⟨.bl r, H, I', rfl, q⟩
  · have nf := I.nofrz hd True.intro
    obtain ⟨od, I1⟩ := I.lock hd True.intro
    refine wpAny_mono (run_eqPP c hr hk I1 (h od) rx ry) (fun w s' z => ?_) fun _ _ z => z
    obtain ⟨rfl, I2⟩ := z
    have I3 := I2.unlock upd_same nf
    have eH : upd (upd H d (.frz od (.dK kvs))) d (.dK kvs) = H := by
      funext c
      by_cases e : c = d
      · rw [e, upd_same, hd]
      · rw [upd_ne e, upd_ne e]
    rw [eH] at I3
    exact ⟨.bl r, H, I3, rfl, q⟩
end
/-! a dict that is a cell, looked through as if it stood still -/
def tLk (t : TE) : TE := fun σ H Q => t σ H Q ∨ ∃ d kvs, H d = some (.dK kvs) ∧ ∀ od, t σ (upd H d (.frz od (.dK kvs))) (fun v H1 => H1 d = some (.frz od (.dK kvs)) ∧ Q v (upd H1 d (.dK kvs)))
theorem pe_lk {X : Cx} {e : Expr} {t : TE} (h : PE X e t) : PE X e (tLk t) := ⟨fun pins s σ H Q I q => by
  rcases q with q | ⟨d, kvs, hd, q⟩
  · exact h.run pins s σ H Q I q
  · have nf := I.nofrz hd True.intro
    obtain ⟨od, I1⟩ := I.lock hd True.intro
    refine thn (h.run pins s σ _ _ I1 (q od)) fun u s1 z => ?_
    obtain ⟨v, H1, I2, r, h1, q1⟩ := z
    exact ⟨v, _, I2.unlock h1 nf, r, q1⟩⟩
theorem g_lk {t : TE} {σ : L2.St} {H : Hp} {Q : VK} (h : tLk t σ H Q) : tLk t σ H Q := h
theorem lk_no {t : TE} {σ : L2.St} {H : Hp} {Q : VK} (h : t σ H Q) : tLk t σ H Q := .inl h
theorem lk_yes {t : TE} {σ : L2.St} {F H : Hp} {Q : VK} {M : List (Addr × HO)} {d : Addr} {kvs : List (L2.Key × V)} (hh : HH F H ((d, .dK kvs) :: M)) (q : ∀ od H1, HH F H1 ((d, .frz od (.dK kvs)) :: M) → t σ H1 (fun v H1 => H1 d = some (.frz od (.dK kvs)) ∧ Q v (upd H1 d (.dK kvs)))) : tLk t σ H Q :=
  .inr ⟨d, kvs, hh.get (i := 0) rfl, fun od => q od _ hh.set0⟩
theorem HH.frzAll {F H : Hp} {M : List (Addr × HO)} : ∀ {C : List (Addr × HO)}, HH F H (C ++ M) → ∃ F', Same F F' ∧ HH F' H M ∧ ∀ c ∈ C, F' c.1 = some c.2
  | [], h => ⟨F, Same.refl F, h, fun _ z => nomatch z⟩
  | c :: C, h => by
    obtain ⟨a, o⟩ := c
    have h1 : HH F H ((a, o) :: (C ++ M)) := h
    obtain ⟨F', s, h', hc⟩ := HH.frzAll h1.frz
    refine ⟨F', h1.frzS.trans s, h', fun c hm => ?_⟩
    rcases List.mem_cons.mp hm with rfl | hm
    · exact s _ _ upd_same
    · exact hc c hm
end G

namespace Lw
open PySem PySem.Spec PyProof.Rows L2 G
def top (i : Nat) : Stmt := PySem.Challenge.pw_oneheap_k48_numbers_leave_contents.main.body.getD i (.Pass ⟨0, 0, 0, 0⟩)
abbrev s__law_cells : Stmt := top 22
abbrev s_Kind_init : Stmt := inClass (top 19) 0
abbrev s_Field_init : Stmt := inClass (top 18) 0
abbrev s_IntSort_init : Stmt := inClass (top 2) 0
abbrev s_TextSort_init : Stmt := inClass (top 3) 0
abbrev s_RefSort_init : Stmt := inClass (top 4) 0
abbrev s_ListSort_init : Stmt := inClass (top 5) 0
abbrev s_Schema_init : Stmt := inClass (top 20) 0
abbrev s__law_schema : Stmt := top 27
abbrev s__law_draw : Stmt := top 23
abbrev s__law_pick : Stmt := top 24
abbrev s__law_rules : Stmt := top 26
abbrev s_content_copy : Stmt := top 9
abbrev s_Thing_init : Stmt := inClass (top 8) 0
abbrev s__law_number : Stmt := top 28
abbrev s__law_list : Stmt := top 29
abbrev s__law_contents : Stmt := top 30
abbrev s__law_picture : Stmt := top 31
abbrev s__law_shown : Stmt := top 32
abbrev s_is_link : Stmt := top 6
abbrev s_cleared : Stmt := top 12
abbrev s_cleared_thing : Stmt := top 15
abbrev s_Schema_kind_of : Stmt := inClass (top 20) 1
abbrev s_without_numbers : Stmt := top 16
abbrev s__law_names : Stmt := top 25
abbrev s__law_due : Stmt := top 33
abbrev s_Thing_copied : Stmt := inClass (top 8) 1
abbrev s_picture_copy : Stmt := top 10
abbrev s_Heap_init : Stmt := inClass (top 14) 0
abbrev s_Heap_copied : Stmt := inClass (top 14) 2
abbrev s_Thing_eq : Stmt := inClass (top 8) 2
abbrev s_Heap_eq : Stmt := inClass (top 14) 3
abbrev s_Heap_picture_of : Stmt := inClass (top 14) 1
abbrev s_law : Stmt := top 34
/-- "t" -/
def q_t : List Nat := [116]
theorem e_t : ("t" : Str) = ⟨q_t.toArray⟩ := by decide +kernel
/-- "a" -/
def q_a : List Nat := [97]
theorem e_a : ("a" : Str) = ⟨q_a.toArray⟩ := by decide +kernel
/-- "A" -/
def q_A : List Nat := [65]
theorem e_A : ("A" : Str) = ⟨q_A.toArray⟩ := by decide +kernel
/-- "l" -/
def q_l : List Nat := [108]
theorem e_l : ("l" : Str) = ⟨q_l.toArray⟩ := by decide +kernel
/-- "B" -/
def q_B : List Nat := [66]
theorem e_B : ("B" : Str) = ⟨q_B.toArray⟩ := by decide +kernel
/-- "r" -/
def q_r : List Nat := [114]
theorem e_r : ("r" : Str) = ⟨q_r.toArray⟩ := by decide +kernel
/-- "q" -/
def q_q : List Nat := [113]
theorem e_q : ("q" : Str) = ⟨q_q.toArray⟩ := by decide +kernel
/-- "m" -/
def q_m : List Nat := [109]
theorem e_m : ("m" : Str) = ⟨q_m.toArray⟩ := by decide +kernel
/-- "p" -/
def q_p : List Nat := [112]
theorem e_p : ("p" : Str) = ⟨q_p.toArray⟩ := by decide +kernel
/-- "takes" -/
def q_takes : List Nat := [116, 97, 107, 101, 115]
theorem e_takes : ("takes" : Str) = ⟨q_takes.toArray⟩ := by decide +kernel
/-- "refuses" -/
def q_refuses : List Nat := [114, 101, 102, 117, 115, 101, 115]
theorem e_refuses : ("refuses" : Str) = ⟨q_refuses.toArray⟩ := by decide +kernel
/-- "clears" -/
def q_clears : List Nat := [99, 108, 101, 97, 114, 115]
theorem e_clears : ("clears" : Str) = ⟨q_clears.toArray⟩ := by decide +kernel
/-- "ab" -/
def q_ab : List Nat := [97, 98]
theorem e_ab : ("ab" : Str) = ⟨q_ab.toArray⟩ := by decide +kernel
/-- "b" -/
def q_b : List Nat := [98]
theorem e_b : ("b" : Str) = ⟨q_b.toArray⟩ := by decide +kernel
/-- "" -/
def q_empty : List Nat := []
theorem e_empty : ("" : Str) = ⟨q_empty.toArray⟩ := by decide +kernel
/-! ### readings -/
/-- _law_cells: 0 _law_script, 1 _law_count, 2 _law_cells_here, 3 _law_k, 4 _law_cell -/
def t__law_cells (K : PySem.W.Frag) : TS :=
  (tSeq (tAsg (tLst tNil) (gName 2)) (tSeq (tFor (iRng1 (tCons (tVar 1) tNil)) (gName 3) (tSeq (tAsg (tOp (rAddX K) (tOp rMulX (tC (.int 11)) (tVar 3)) (tC (.int 5))) (gName 4)) (C8.tCut (tIfS (tTest (tOp (rLtX K) (tVar 3) (tCB (rLen K) (tCons (tVar 0) tNil)))) (tSeq (tAsg (tCB rIntX (tCons (tOp (rIx K) (tVar 0) (tVar 3)) tNil)) (gName 4)) (tIfS (tTest (tOp (rLtX K) (tVar 4) (tC (.int 0)))) (tAsg (tOp rSubX (tC (.int 1)) (tOp rMulX (tC (.int 2)) (tVar 4))) (gName 4)) tNext)) tNext) (C8.tCut (tIfS (tTest (tOp (rLtX K) (tVar 4) (tC (.int 1000000000)))) (tSeq (tAsg (tOp rModX (tCB rIntX (tCons (tOp (rAddX K) (tOp (rAddX K) (tOp rMulX (tCB rIntX (tCons (tVar 4) tNil)) (tC (.int 48271))) (tOp rMulX (tC (.int 17)) (tVar 3))) (tC (.int 3))) tNil)) (tC (.int 2147483647))) (gName 4)) (tAsg (tOp rModX (tCB rIntX (tCons (tOp (rAddX K) (tOp rMulX (tCB rIntX (tCons (tVar 4) tNil)) (tC (.int 2862933555777941757))) (tC (.int 3037000493))) tNil)) (tC (.int 18446744073709551557))) (gName 4))) tNext) (tDrop (tBM K "list" rAppend (tVar 2) (tCons (tVar 4) tNil))))))) (tRet (tVar 2))))
def sp__law_cells (K : PySem.W.Frag) : Sp := fun vs H Q E => vs.length = 2 ∧ t__law_cells K ⟨fun _ H' => Q .non H', Q, fun _ _ => False, fun _ _ => False⟩ (start ["_law_script", "_law_count", "_law_cells_here", "_law_k", "_law_cell"] vs) H
/-- Kind.__init__: 0 self, 1 name, 2 fields, 3 key_rows, 4 names -/
def t_Kind_init (K : PySem.W.Frag) : TS :=
  (tSeq (sFld K (tVar 0) (tVar 1) ("name" : Str)) (tSeq (sFld K (tVar 0) (tCB (rListX K) (tCons (tVar 2) tNil)) ("fields" : Str)) (sFld K (tVar 0) (tLc (iAny K (tVar 3)) (gName 4) tYes (tCB (rListX K) (tCons (tVar 4) tNil)) [4]) ("key_rows" : Str))))
def sp_Kind_init (K : PySem.W.Frag) : Sp := fun vs H Q E => vs.length = 4 ∧ t_Kind_init K ⟨fun _ H' => Q .non H', Q, fun _ _ => False, fun _ _ => False⟩ (start ["self", "name", "fields", "key_rows", "names"] vs) H
/-- Field.__init__: 0 self, 1 name, 2 shape, 3 needed -/
def t_Field_init (K : PySem.W.Frag) : TS :=
  (tSeq (sFld K (tVar 0) (tVar 1) ("name" : Str)) (tSeq (sFld K (tVar 0) (tVar 2) ("shape" : Str)) (sFld K (tVar 0) (tVar 3) ("needed" : Str))))
def sp_Field_init (K : PySem.W.Frag) : Sp := fun vs H Q E => vs.length = 4 ∧ t_Field_init K ⟨fun _ H' => Q .non H', Q, fun _ _ => False, fun _ _ => False⟩ (start ["self", "name", "shape", "needed"] vs) H
/-- IntSort.__init__: 0 self, 1 low, 2 high -/
def t_IntSort_init (K : PySem.W.Frag) : TS :=
  (tSeq (sFld K (tVar 0) (tVar 1) ("low" : Str)) (sFld K (tVar 0) (tVar 2) ("high" : Str)))
def sp_IntSort_init (K : PySem.W.Frag) : Sp := fun vs H Q E => vs.length = 3 ∧ t_IntSort_init K ⟨fun _ H' => Q .non H', Q, fun _ _ => False, fun _ _ => False⟩ (start ["self", "low", "high"] vs) H
/-- TextSort.__init__: 0 self, 1 longest, 2 without -/
def t_TextSort_init (K : PySem.W.Frag) : TS :=
  (tSeq (sFld K (tVar 0) (tVar 1) ("longest" : Str)) (sFld K (tVar 0) (tVar 2) ("without" : Str)))
def sp_TextSort_init (K : PySem.W.Frag) : Sp := fun vs H Q E => vs.length = 3 ∧ t_TextSort_init K ⟨fun _ H' => Q .non H', Q, fun _ _ => False, fun _ _ => False⟩ (start ["self", "longest", "without"] vs) H
/-- RefSort.__init__: 0 self, 1 kinds, 2 rule -/
def t_RefSort_init (K : PySem.W.Frag) : TS :=
  (tSeq (sFld K (tVar 0) (tCB (rListX K) (tCons (tVar 1) tNil)) ("kinds" : Str)) (sFld K (tVar 0) (tVar 2) ("rule" : Str)))
def sp_RefSort_init (K : PySem.W.Frag) : Sp := fun vs H Q E => vs.length = 3 ∧ t_RefSort_init K ⟨fun _ H' => Q .non H', Q, fun _ _ => False, fun _ _ => False⟩ (start ["self", "kinds", "rule"] vs) H
/-- ListSort.__init__: 0 self, 1 kinds -/
def t_ListSort_init (K : PySem.W.Frag) : TS :=
  (sFld K (tVar 0) (tCB (rListX K) (tCons (tVar 1) tNil)) ("kinds" : Str))
def sp_ListSort_init (K : PySem.W.Frag) : Sp := fun vs H Q E => vs.length = 2 ∧ t_ListSort_init K ⟨fun _ H' => Q .non H', Q, fun _ _ => False, fun _ _ => False⟩ (start ["self", "kinds"] vs) H
/-- Schema.__init__: 0 self, 1 kinds -/
def t_Schema_init (K : PySem.W.Frag) : TS :=
  (sFld K (tVar 0) (tCB (rListX K) (tCons (tVar 1) tNil)) ("kinds" : Str))
def sp_Schema_init (K : PySem.W.Frag) : Sp := fun vs H Q E => vs.length = 2 ∧ t_Schema_init K ⟨fun _ H' => Q .non H', Q, fun _ _ => False, fun _ _ => False⟩ (start ["self", "kinds"] vs) H
/-- _law_schema: 0 _law_rules_here, 1 _law_needed, 2 _law_first, 3 _law_second -/
def t__law_schema (K : PySem.W.Frag) : TS :=
  (tSeq (tAsg (tMake (He.ga K ("Kind" : Str)) (sp_Kind_init K) [] E0 (tCons (tC (.str ⟨q_A.toArray⟩)) (tCons (tLst (tCons (tMake (He.ga K ("Field" : Str)) (sp_Field_init K) [] E0 (tCons (tC (.str ⟨q_a.toArray⟩)) (tCons (tMake (He.ga K ("IntSort" : Str)) (sp_IntSort_init K) [] E0 (tCons (tC (.int 0)) (tCons (tC (.int 9)) tNil))) (tCons (tVar 1) tNil)))) (tCons (tMake (He.ga K ("Field" : Str)) (sp_Field_init K) [(.bl false)] E0 (tCons (tC (.str ⟨q_t.toArray⟩)) (tCons (tMake (He.ga K ("TextSort" : Str)) (sp_TextSort_init K) [.non] E0 (tCons (tC (.int 4)) tNil)) tNil))) (tCons (tMake (He.ga K ("Field" : Str)) (sp_Field_init K) [(.bl false)] E0 (tCons (tC (.str ⟨q_r.toArray⟩)) (tCons (tMake (He.ga K ("RefSort" : Str)) (sp_RefSort_init K) [] E0 (tCons (tLst (tCons (tC (.str ⟨q_A.toArray⟩)) (tCons (tC (.str ⟨q_B.toArray⟩)) tNil))) (tCons (tOp (rIx K) (tVar 0) (tC (.int 0))) tNil))) tNil))) (tCons (tMake (He.ga K ("Field" : Str)) (sp_Field_init K) [(.bl false)] E0 (tCons (tC (.str ⟨q_l.toArray⟩)) (tCons (tMake (He.ga K ("ListSort" : Str)) (sp_ListSort_init K) [] E0 (tCons (tLst (tCons (tC (.str ⟨q_A.toArray⟩)) tNil)) tNil)) tNil))) tNil))))) (tCons (tLst (tCons (tLst (tCons (tC (.str ⟨q_a.toArray⟩)) (tCons (tC (.str ⟨q_t.toArray⟩)) tNil))) tNil)) tNil)))) (gName 2)) (tSeq (tAsg (tMake (He.ga K ("Kind" : Str)) (sp_Kind_init K) [] E0 (tCons (tC (.str ⟨q_B.toArray⟩)) (tCons (tLst (tCons (tMake (He.ga K ("Field" : Str)) (sp_Field_init K) [] E0 (tCons (tC (.str ⟨q_p.toArray⟩)) (tCons (tMake (He.ga K ("RefSort" : Str)) (sp_RefSort_init K) [] E0 (tCons (tLst (tCons (tC (.str ⟨q_A.toArray⟩)) tNil)) (tCons (tOp (rIx K) (tVar 0) (tC (.int 1))) tNil))) (tCons (tVar 1) tNil)))) (tCons (tMake (He.ga K ("Field" : Str)) (sp_Field_init K) [(.bl false)] E0 (tCons (tC (.str ⟨q_q.toArray⟩)) (tCons (tMake (He.ga K ("RefSort" : Str)) (sp_RefSort_init K) [] E0 (tCons (tLst (tCons (tC (.str ⟨q_B.toArray⟩)) tNil)) (tCons (tOp (rIx K) (tVar 0) (tC (.int 2))) tNil))) tNil))) (tCons (tMake (He.ga K ("Field" : Str)) (sp_Field_init K) [(.bl false)] E0 (tCons (tC (.str ⟨q_m.toArray⟩)) (tCons (tMake (He.ga K ("ListSort" : Str)) (sp_ListSort_init K) [] E0 (tCons (tLst (tCons (tC (.str ⟨q_A.toArray⟩)) (tCons (tC (.str ⟨q_B.toArray⟩)) tNil))) tNil)) tNil))) tNil)))) (tCons (tLst (tCons (tLst (tCons (tC (.str ⟨q_q.toArray⟩)) tNil)) tNil)) tNil)))) (gName 3)) (tRet (tMake (He.ga K ("Schema" : Str)) (sp_Schema_init K) [] E0 (tCons (tLst (tCons (tVar 2) (tCons (tVar 3) tNil))) tNil)))))
def sp__law_schema (K : PySem.W.Frag) : Sp := fun vs H Q E => vs.length = 2 ∧ t__law_schema K ⟨fun _ H' => Q .non H', Q, fun _ _ => False, fun _ _ => False⟩ (start ["_law_rules_here", "_law_needed", "_law_first", "_law_second"] vs) H
/-- _law_draw: 0 _law_draws, 1 _law_bound, 2 _law_amount -/
def t__law_draw (K : PySem.W.Frag) : TS :=
  (C8.tCut (tIfS (tAnd (tTest (tOp (rEqX K) (tOp (rIx K) (tVar 0) (tC (.int 0))) (tC (.int 0)))) (tTest (tOp rGtX (tCB (rLen K) (tCons (tVar 0) tNil)) (tC (.int 1))))) (tDrop (tBM K "list" (fun x vs H Q => rPop x vs H Q ∨ rPopAt x vs H Q) (tVar 0) (tCons (tC (.int 0)) tNil))) tNext) (tSeq (tAsg (tOp rModX (tCB rIntX (tCons (tOp (rIx K) (tVar 0) (tC (.int 0))) tNil)) (tVar 1)) (gName 2)) (tSeq (tAsg (tOp rDivX (tOp (rIx K) (tVar 0) (tC (.int 0))) (tVar 1)) (gSub (tVar 0) (tC (.int 0)) rSetL)) (tRet (tVar 2)))))
def sp__law_draw (K : PySem.W.Frag) : Sp := fun vs H Q E => vs.length = 2 ∧ t__law_draw K ⟨fun _ H' => Q .non H', Q, fun _ _ => False, fun _ _ => False⟩ (start ["_law_draws", "_law_bound", "_law_amount"] vs) H
/-- _law_pick: 0 _law_draws, 1 _law_row -/
def t__law_pick (K : PySem.W.Frag) : TS :=
  (tRet (tOp (rIx K) (tVar 1) (tCallSD (sp__law_draw K) [] Ez (tCons (tVar 0) (tCons (tCB (rLen K) (tCons (tVar 1) tNil)) tNil)))))
def sp__law_pick (K : PySem.W.Frag) : Sp := fun vs H Q E => vs.length = 2 ∧ t__law_pick K ⟨fun _ H' => Q .non H', Q, fun _ _ => False, fun _ _ => False⟩ (start ["_law_draws", "_law_row"] vs) H
/-- _law_rules: 0 _law_draws, 1 _law_turn -/
def t__law_rules (K : PySem.W.Frag) : TS :=
  (tRet (tLc (iRng1 (tCons (tC (.int 3)) tNil)) (gName 1) tYes (tCallSD (sp__law_pick K) [] Ez (tCons (tVar 0) (tCons (tLst (tCons (tC (.str ⟨q_clears.toArray⟩)) (tCons (tC (.str ⟨q_refuses.toArray⟩)) (tCons (tC (.str ⟨q_takes.toArray⟩)) tNil)))) tNil))) [1]))
def sp__law_rules (K : PySem.W.Frag) : Sp := fun vs H Q E => vs.length = 1 ∧ t__law_rules K ⟨fun _ H' => Q .non H', Q, fun _ _ => False, fun _ _ => False⟩ (start ["_law_draws", "_law_turn"] vs) H
/-- content_copy: 0 content -/
def t_content_copy (K : PySem.W.Frag) : TS :=
  (tSeq (tIfS (tTru K (tCB (rIsi K) (tCons (tVar 0) (tCons (tC (.ty "list")) tNil)))) (tRet (tCB (rListX K) (tCons (tVar 0) tNil))) tNext) (tRet (tVar 0)))
def sp_content_copy (K : PySem.W.Frag) : Sp := fun vs H Q E => vs.length = 1 ∧ t_content_copy K ⟨fun _ H' => Q .non H', Q, fun _ _ => False, fun _ _ => False⟩ (start ["content"] vs) H
/-- Thing.__init__: 0 self, 1 kind, 2 contents, 3 name -/
def t_Thing_init (K : PySem.W.Frag) : TS :=
  (tSeq (sFld K (tVar 0) (tVar 1) ("kind" : Str)) (sFld K (tVar 0) (tFz (tDc (iKeys (tVar 2)) (gName 3) tYes (tVar 3) (tCallSD (sp_content_copy K) [] Ez (tCons (tDGet (tVar 2) (tVar 3)) tNil)) [3])) ("contents" : Str)))
def sp_Thing_init (K : PySem.W.Frag) : Sp := fun vs H Q E => vs.length = 3 ∧ t_Thing_init K ⟨fun _ H' => Q .non H', Q, fun _ _ => False, fun _ _ => False⟩ (start ["self", "kind", "contents", "name"] vs) H
/-- _law_number: 0 _law_draws, 1 _law_digit -/
def t__law_number (K : PySem.W.Frag) : TS :=
  (tSeq (tAsg (tCallSD (sp__law_draw K) [] Ez (tCons (tVar 0) (tCons (tC (.int 10)) tNil))) (gName 1)) (tSeq (tIfS (tTest (tOp (rEqX K) (tVar 1) (tC (.int 0)))) (tRet (tC .non)) tNext) (tRet (tVar 1))))
def sp__law_number (K : PySem.W.Frag) : Sp := fun vs H Q E => vs.length = 1 ∧ t__law_number K ⟨fun _ H' => Q .non H', Q, fun _ _ => False, fun _ _ => False⟩ (start ["_law_draws", "_law_digit"] vs) H
/-- _law_list: 0 _law_draws, 1 _law_row, 2 _law_turn, 3 _law_digit -/
def t__law_list (K : PySem.W.Frag) : TS :=
  (tSeq (tAsg (tLst tNil) (gName 1)) (tSeq (tFor (iRng1 (tCons (tCallSD (sp__law_draw K) [] Ez (tCons (tVar 0) (tCons (tC (.int 5)) tNil))) tNil)) (gName 2) (tSeq (tAsg (tOp (rAddX K) (tC (.int 1)) (tCallSD (sp__law_draw K) [] Ez (tCons (tVar 0) (tCons (tC (.int 9)) tNil)))) (gName 3)) (tIfS (tTest (tOp (rNotInX K) (tVar 3) (tVar 1))) (tDrop (tBM K "list" rAppend (tVar 1) (tCons (tVar 3) tNil))) tNext))) (tRet (tVar 1))))
def sp__law_list (K : PySem.W.Frag) : Sp := fun vs H Q E => vs.length = 1 ∧ t__law_list K ⟨fun _ H' => Q .non H', Q, fun _ _ => False, fun _ _ => False⟩ (start ["_law_draws", "_law_row", "_law_turn", "_law_digit"] vs) H
/-- _law_contents: 0 _law_draws, 1 _law_kind, 2 _law_known -/
def t__law_contents (K : PySem.W.Frag) : TS :=
  (tSeq (tAsg tDNewK (gName 2)) (tSeq (tIfS (tTest (tOp (rEqX K) (tVar 1) (tC (.str ⟨q_A.toArray⟩)))) (tSeq (sDPut (tVar 2) (tC (.str ⟨q_a.toArray⟩)) (tCallSD (sp__law_pick K) [] Ez (tCons (tVar 0) (tCons (tLst (tCons (tC .non) (tCons (tC (.int 0)) (tCons (tC (.int 1)) (tCons (tC (.int 2)) (tCons (tC (.int 9)) tNil)))))) tNil)))) (tSeq (sDPut (tVar 2) (tC (.str ⟨q_t.toArray⟩)) (tCallSD (sp__law_pick K) [] Ez (tCons (tVar 0) (tCons (tLst (tCons (tC .non) (tCons (tC (.str ⟨q_empty.toArray⟩)) (tCons (tC (.str ⟨q_b.toArray⟩)) (tCons (tC (.str ⟨q_ab.toArray⟩)) tNil))))) tNil)))) (tSeq (sDPut (tVar 2) (tC (.str ⟨q_r.toArray⟩)) (tCallSD (sp__law_number K) [] Ez (tCons (tVar 0) tNil))) (tSeq (sDPut (tVar 2) (tC (.str ⟨q_l.toArray⟩)) (tCallSD (sp__law_list K) [] Ez (tCons (tVar 0) tNil))) (tRet (tFz (tVar 2))))))) tNext) (tSeq (sDPut (tVar 2) (tC (.str ⟨q_p.toArray⟩)) (tCallSD (sp__law_number K) [] Ez (tCons (tVar 0) tNil))) (tSeq (sDPut (tVar 2) (tC (.str ⟨q_q.toArray⟩)) (tCallSD (sp__law_number K) [] Ez (tCons (tVar 0) tNil))) (tSeq (sDPut (tVar 2) (tC (.str ⟨q_m.toArray⟩)) (tCallSD (sp__law_list K) [] Ez (tCons (tVar 0) tNil))) (tRet (tFz (tVar 2))))))))
def sp__law_contents (K : PySem.W.Frag) : Sp := fun vs H Q E => vs.length = 2 ∧ t__law_contents K ⟨fun _ H' => Q .non H', Q, fun _ _ => False, fun _ _ => False⟩ (start ["_law_draws", "_law_kind", "_law_known"] vs) H
/-- _law_picture: 0 _law_draws, 1 _law_picture_here, 2 _law_turn, 3 _law_number_here, 4 _law_kind -/
def t__law_picture (K : PySem.W.Frag) : TS :=
  (tSeq (tAsg tDNewK (gName 1)) (tSeq (tFor (iRng1 (tCons (tCallSD (sp__law_draw K) [] Ez (tCons (tVar 0) (tCons (tC (.int 8)) tNil))) tNil)) (gName 2) (tSeq (tAsg (tOp (rAddX K) (tC (.int 1)) (tCallSD (sp__law_draw K) [] Ez (tCons (tVar 0) (tCons (tC (.int 9)) tNil)))) (gName 3)) (tSeq (tAsg (tCallSD (sp__law_pick K) [] Ez (tCons (tVar 0) (tCons (tLst (tCons (tC (.str ⟨q_A.toArray⟩)) (tCons (tC (.str ⟨q_B.toArray⟩)) tNil))) tNil))) (gName 4)) (sDPut (tVar 1) (tVar 3) (tMake (He.ga K ("Thing" : Str)) (sp_Thing_init K) [] E0 (tCons (tVar 4) (tCons (tCallSD (sp__law_contents K) [] Ez (tCons (tVar 0) (tCons (tVar 4) tNil))) tNil))))))) (tRet (tFz (tVar 1)))))
def sp__law_picture (K : PySem.W.Frag) : Sp := fun vs H Q E => vs.length = 1 ∧ t__law_picture K ⟨fun _ H' => Q .non H', Q, fun _ _ => False, fun _ _ => False⟩ (start ["_law_draws", "_law_picture_here", "_law_turn", "_law_number_here", "_law_kind"] vs) H
/-- _law_shown: 0 _law_picture_here, 1 _law_number_here -/
def t__law_shown (K : PySem.W.Frag) : TS :=
  (tRet (tLc (iAny K (tCB (rSortedI K) (tCons (tCB rListDk (tCons (tVar 0) tNil)) tNil))) (gName 1) tYes (tTup (tCons (tVar 1) (tCons (tFld K (tDGet (tVar 0) (tVar 1)) ("kind" : Str)) (tCons (tCB (rRepr K) (tCons (tFld K (tDGet (tVar 0) (tVar 1)) ("contents" : Str)) tNil)) tNil)))) [1]))
def sp__law_shown (K : PySem.W.Frag) : Sp := fun vs H Q E => vs.length = 1 ∧ t__law_shown K ⟨fun _ H' => Q .non H', Q, fun _ _ => False, fun _ _ => False⟩ (start ["_law_picture_here", "_law_number_here"] vs) H
/-- is_link: 0 sort -/
def t_is_link (K : PySem.W.Frag) : TS :=
  (tRet (tOrV (tCB (rIsi K) (tCons (tVar 0) (tCons (tC (.ref (He.ga K ("RefSort" : Str)))) tNil))) (tCB (rIsi K) (tCons (tVar 0) (tCons (tC (.ref (He.ga K ("ListSort" : Str)))) tNil)))))
def sp_is_link (K : PySem.W.Frag) : Sp := fun vs H Q E => vs.length = 1 ∧ t_is_link K ⟨fun _ H' => Q .non H', Q, fun _ _ => False, fun _ _ => False⟩ (start ["sort"] vs) H
/-- cleared: 0 content, 1 going, 2 number -/
def t_cleared (K : PySem.W.Frag) : TS :=
  (tSeq (tIfS (tTru K (tCB (rIsi K) (tCons (tVar 0) (tCons (tC (.ty "list")) tNil)))) (tRet (tLc (iAny K (tVar 0)) (gName 2) (tTest (tOp (rNotInX K) (tVar 2) (tVar 1))) (tVar 2) [2])) tNext) (tSeq (tIfS (tTest (tOp (rInX K) (tVar 0) (tVar 1))) (tRet (tC .non)) tNext) (tRet (tVar 0))))
def sp_cleared (K : PySem.W.Frag) : Sp := fun vs H Q E => vs.length = 2 ∧ t_cleared K ⟨fun _ H' => Q .non H', Q, fun _ _ => False, fun _ _ => False⟩ (start ["content", "going", "number"] vs) H
/-- cleared_thing: 0 kind, 1 thing, 2 gone, 3 contents, 4 field, 5 content -/
def t_cleared_thing (K : PySem.W.Frag) : TS :=
  (tSeq (tAsg tDNewK (gName 3)) (tSeq (tFor (iAny K (tFld K (tVar 0) ("fields" : Str))) (gName 4) (tSeq (tAsg (tDGet (tFld K (tVar 1) ("contents" : Str)) (tFld K (tVar 4) ("name" : Str))) (gName 5)) (C8.tCut (tIfS (tTru K (tCallSD (sp_is_link K) [] Ez (tCons (tFld K (tVar 4) ("shape" : Str)) tNil))) (tAsg (tCallSD (sp_cleared K) [] Ez (tCons (tVar 5) (tCons (tVar 2) tNil))) (gName 5)) tNext) (sDPut (tVar 3) (tFld K (tVar 4) ("name" : Str)) (tVar 5))))) (tRet (tMake (He.ga K ("Thing" : Str)) (sp_Thing_init K) [] E0 (tCons (tFld K (tVar 1) ("kind" : Str)) (tCons (tFz (tVar 3)) tNil))))))
def sp_cleared_thing (K : PySem.W.Frag) : Sp := fun vs H Q E => vs.length = 3 ∧ t_cleared_thing K ⟨fun _ H' => Q .non H', Q, fun _ _ => False, fun _ _ => False⟩ (start ["kind", "thing", "gone", "contents", "field", "content"] vs) H
/-- Schema.kind_of: 0 self, 1 name, 2 kind -/
def t_Schema_kind_of (K : PySem.W.Frag) : TS :=
  (tSeq (tFor (iAny K (tFld K (tVar 0) ("kinds" : Str))) (gName 2) (tIfS (tTest (tOp (rEqX K) (tFld K (tVar 2) ("name" : Str)) (tVar 1))) (tRet (tVar 2)) tNext)) (tRet (tC .non)))
def sp_Schema_kind_of (K : PySem.W.Frag) : Sp := fun vs H Q E => vs.length = 2 ∧ t_Schema_kind_of K ⟨fun _ H' => Q .non H', Q, fun _ _ => False, fun _ _ => False⟩ (start ["self", "name", "kind"] vs) H
/-- without_numbers: 0 schema, 1 picture, 2 gone, 3 made, 4 number, 5 thing -/
def t_without_numbers (K : PySem.W.Frag) : TS :=
  (tSeq (tAsg tDNewK (gName 3)) (tSeq (tFor (iKeys (tVar 1)) (gName 4) (tSeq (tAsg (tDGet (tVar 1) (tVar 4)) (gName 5)) (sDPut (tVar 3) (tVar 4) (tCallSD (sp_cleared_thing K) [] Ez (tCons (tMethD (He.ga K ("Schema" : Str)) ("kind_of" : Str) (sp_Schema_kind_of K) [] Ez (tVar 0) (tCons (tFld K (tVar 5) ("kind" : Str)) tNil)) (tCons (tVar 5) (tCons (tVar 2) tNil))))))) (tRet (tFz (tVar 3)))))
def sp_without_numbers (K : PySem.W.Frag) : Sp := fun vs H Q E => vs.length = 3 ∧ t_without_numbers K ⟨fun _ H' => Q .non H', Q, fun _ _ => False, fun _ _ => False⟩ (start ["schema", "picture", "gone", "made", "number", "thing"] vs) H
/-- _law_names: 0 _law_kind -/
def t__law_names (K : PySem.W.Frag) : TS :=
  (tSeq (tIfS (tTest (tOp (rEqX K) (tVar 0) (tC (.str ⟨q_A.toArray⟩)))) (tRet (tLst (tCons (tC (.str ⟨q_a.toArray⟩)) (tCons (tC (.str ⟨q_t.toArray⟩)) (tCons (tC (.str ⟨q_r.toArray⟩)) (tCons (tC (.str ⟨q_l.toArray⟩)) tNil)))))) tNext) (tRet (tLst (tCons (tC (.str ⟨q_p.toArray⟩)) (tCons (tC (.str ⟨q_q.toArray⟩)) (tCons (tC (.str ⟨q_m.toArray⟩)) tNil))))))
def sp__law_names (K : PySem.W.Frag) : Sp := fun vs H Q E => vs.length = 1 ∧ t__law_names K ⟨fun _ H' => Q .non H', Q, fun _ _ => False, fun _ _ => False⟩ (start ["_law_kind"] vs) H
/-- _law_due: 0 _law_picture_here, 1 _law_gone, 2 _law_rows, 3 _law_number_here, 4 _law_thing, 5 _law_known, 6 _law_name, 7 _law_content, 8 _law_other -/
def t__law_due (K : PySem.W.Frag) : TS :=
  (tSeq (tAsg (tLst tNil) (gName 2)) (tSeq (tFor (iAny K (tCB (rSortedI K) (tCons (tCB rListDk (tCons (tVar 0) tNil)) tNil))) (gName 3) (tSeq (tAsg (tDGet (tVar 0) (tVar 3)) (gName 4)) (tSeq (tAsg tDNewK (gName 5)) (tSeq (tFor (iAny K (tCallSD (sp__law_names K) [] Ez (tCons (tFld K (tVar 4) ("kind" : Str)) tNil))) (gName 6) (tSeq (tAsg (tDGet (tFld K (tVar 4) ("contents" : Str)) (tVar 6)) (gName 7)) (C8.tCut (tIfS (tAnd (tTest (tOp (rInX K) (tVar 6) (tLst (tCons (tC (.str ⟨q_r.toArray⟩)) (tCons (tC (.str ⟨q_p.toArray⟩)) (tCons (tC (.str ⟨q_q.toArray⟩)) tNil)))))) (tTest (tOp (rInX K) (tVar 7) (tVar 1)))) (tAsg (tC .non) (gName 7)) tNext) (C8.tCut (tIfS (tTest (tOp (rInX K) (tVar 6) (tLst (tCons (tC (.str ⟨q_l.toArray⟩)) (tCons (tC (.str ⟨q_m.toArray⟩)) tNil))))) (tAsg (tLc (iAny K (tVar 7)) (gName 8) (tTest (tOp (rNotInX K) (tVar 8) (tVar 1))) (tVar 8) [8]) (gName 7)) tNext) (sDPut (tVar 5) (tVar 6) (tVar 7)))))) (tDrop (tBM K "list" rAppend (tVar 2) (tCons (tTup (tCons (tVar 3) (tCons (tFld K (tVar 4) ("kind" : Str)) (tCons (tCB (rRepr K) (tCons (tFz (tVar 5)) tNil)) tNil)))) tNil))))))) (tRet (tVar 2))))
def sp__law_due (K : PySem.W.Frag) : Sp := fun vs H Q E => vs.length = 2 ∧ t__law_due K ⟨fun _ H' => Q .non H', Q, fun _ _ => False, fun _ _ => False⟩ (start ["_law_picture_here", "_law_gone", "_law_rows", "_law_number_here", "_law_thing", "_law_known", "_law_name", "_law_content", "_law_other"] vs) H
/-- Thing.copied: 0 self -/
def t_Thing_copied (K : PySem.W.Frag) : TS :=
  (tRet (tMake (He.ga K ("Thing" : Str)) (sp_Thing_init K) [] E0 (tCons (tFld K (tVar 0) ("kind" : Str)) (tCons (tFld K (tVar 0) ("contents" : Str)) tNil))))
def sp_Thing_copied (K : PySem.W.Frag) : Sp := fun vs H Q E => vs.length = 1 ∧ t_Thing_copied K ⟨fun _ H' => Q .non H', Q, fun _ _ => False, fun _ _ => False⟩ (start ["self"] vs) H
/-- picture_copy: 0 picture, 1 number -/
def t_picture_copy (K : PySem.W.Frag) : TS :=
  (tRet (tFz (tLk (tDc (iKeys (tVar 0)) (gName 1) tYes (tVar 1) (tMethD (He.ga K ("Thing" : Str)) ("copied" : Str) (sp_Thing_copied K) [] Ez (tDGet (tVar 0) (tVar 1)) tNil) [1]))))
def sp_picture_copy (K : PySem.W.Frag) : Sp := fun vs H Q E => vs.length = 1 ∧ t_picture_copy K ⟨fun _ H' => Q .non H', Q, fun _ _ => False, fun _ _ => False⟩ (start ["picture", "number"] vs) H
/-- Heap.__init__: 0 self, 1 pictures, 2 number -/
def t_Heap_init (K : PySem.W.Frag) : TS :=
  (sFld K (tVar 0) (tFz (tDc (iKeys (tVar 1)) (gName 2) tYes (tVar 2) (tCallSD (sp_picture_copy K) [] Ez (tCons (tDGet (tVar 1) (tVar 2)) tNil)) [2])) ("pictures" : Str))
def sp_Heap_init (K : PySem.W.Frag) : Sp := fun vs H Q E => vs.length = 2 ∧ t_Heap_init K ⟨fun _ H' => Q .non H', Q, fun _ _ => False, fun _ _ => False⟩ (start ["self", "pictures", "number"] vs) H
/-- Heap.copied: 0 self -/
def t_Heap_copied (K : PySem.W.Frag) : TS :=
  (tRet (tMake (He.ga K ("Heap" : Str)) (sp_Heap_init K) [] E0 (tCons (tFld K (tVar 0) ("pictures" : Str)) tNil)))
def sp_Heap_copied (K : PySem.W.Frag) : Sp := fun vs H Q E => vs.length = 1 ∧ t_Heap_copied K ⟨fun _ H' => Q .non H', Q, fun _ _ => False, fun _ _ => False⟩ (start ["self"] vs) H
/-- Thing.__eq__: 0 self, 1 other -/
def t_Thing_eq (K : PySem.W.Frag) : TS :=
  (tSeq (tIfS (tNot (tTru K (tCB (rIsi K) (tCons (tVar 1) (tCons (tC (.ref (He.ga K ("Thing" : Str)))) tNil))))) (tRet (tC (.bl false))) tNext) (tRet (tAndV (tOp (rEqX K) (tFld K (tVar 0) ("kind" : Str)) (tFld K (tVar 1) ("kind" : Str))) (tOp (rEqDk K) (tFld K (tVar 0) ("contents" : Str)) (tFld K (tVar 1) ("contents" : Str))))))
def sp_Thing_eq (K : PySem.W.Frag) : Sp := fun vs H Q E => vs.length = 2 ∧ t_Thing_eq K ⟨fun _ H' => Q .non H', Q, fun _ _ => False, fun _ _ => False⟩ (start ["self", "other"] vs) H
/-- Heap.__eq__: 0 self, 1 other -/
def t_Heap_eq (K : PySem.W.Frag) : TS :=
  (tSeq (tIfS (tNot (tTru K (tCB (rIsi K) (tCons (tVar 1) (tCons (tC (.ref (He.ga K ("Heap" : Str)))) tNil))))) (tRet (tC (.bl false))) tNext) (tRet (tOp (rEqPP (He.ga K ("Thing" : Str)) (sp_Thing_eq K)) (tFld K (tVar 0) ("pictures" : Str)) (tFld K (tVar 1) ("pictures" : Str)))))
def sp_Heap_eq (K : PySem.W.Frag) : Sp := fun vs H Q E => vs.length = 2 ∧ t_Heap_eq K ⟨fun _ H' => Q .non H', Q, fun _ _ => False, fun _ _ => False⟩ (start ["self", "other"] vs) H
/-- Heap.picture_of: 0 self, 1 number -/
def t_Heap_picture_of (K : PySem.W.Frag) : TS :=
  (tRet (tDGet (tFld K (tVar 0) ("pictures" : Str)) (tVar 1)))
def sp_Heap_picture_of (K : PySem.W.Frag) : Sp := fun vs H Q E => vs.length = 2 ∧ t_Heap_picture_of K ⟨fun _ H' => Q .non H', Q, fun _ _ => False, fun _ _ => False⟩ (start ["self", "number"] vs) H
/-- law: 0 _law_script, 1 _law_draws, 2 _law_schema_here, 3 _law_picture_here, 4 _law_kept, 5 _law_gone, 6 _law_turn, 7 _law_found, 8 _law_heap, 9 _law_other, 10 _law_number_here, 11 _law_row, 12 _law_mine -/
def t_law (K : PySem.W.Frag) : TS :=
  (tSeq (tAsg (tCallSD (sp__law_cells K) [] Ez (tCons (tVar 0) (tCons (tC (.int 35)) tNil))) (gName 1)) (tSeq (tAsg (tCallSD (sp__law_schema K) [] Ez (tCons (tCallSD (sp__law_rules K) [] Ez (tCons (tVar 1) tNil)) (tCons (tC (.bl false)) tNil))) (gName 2)) (tSeq (tAsg (tCallSD (sp__law_picture K) [] Ez (tCons (tVar 1) tNil)) (gName 3)) (tSeq (tAsg (tCallSD (sp__law_shown K) [] Ez (tCons (tVar 3) tNil)) (gName 4)) (tSeq (tAsg (tLc (iRng1 (tCons (tCallSD (sp__law_draw K) [] Ez (tCons (tVar 1) (tCons (tC (.int 5)) tNil))) tNil)) (gName 6) tYes (tOp (rAddX K) (tC (.int 1)) (tCallSD (sp__law_draw K) [] Ez (tCons (tVar 1) (tCons (tC (.int 9)) tNil)))) [6]) (gName 5)) (tSeq (tAsg (tCallSD (sp_without_numbers K) [] Ez (tCons (tVar 2) (tCons (tVar 3) (tCons (tVar 5) tNil)))) (gName 7)) (tSeq (tIfS (tOr (tTest (tOp (rNeX K) (tCallSD (sp__law_shown K) [] Ez (tCons (tVar 7) tNil)) (tCallSD (sp__law_due K) [] Ez (tCons (tVar 3) (tCons (tVar 5) tNil))))) (tTest (tOp (rNeX K) (tCallSD (sp__law_shown K) [] Ez (tCons (tVar 3) tNil)) (tVar 4)))) (tRet (tC (.bl false))) tNext) (tSeq (tAsg (tMake (He.ga K ("Heap" : Str)) (sp_Heap_init K) [] E0 (tCons (tFz (tDisp [((tC (.int 3)), (tVar 3)), ((tC (.int 4)), (tVar 7))])) tNil)) (gName 8)) (tSeq (tAsg (tMethD (He.ga K ("Heap" : Str)) ("copied" : Str) (sp_Heap_copied K) [] Ez (tVar 8) tNil) (gName 9)) (tSeq (tIfS (tOr (tTest (tOp (rOwn true K (He.ga K ("Heap" : Str)) (sp_Heap_eq K)) (tVar 9) (tVar 8))) (tOr (tTest (tOp (rOwn false K (He.ga K ("Heap" : Str)) (sp_Heap_eq K)) (tVar 8) (tC (.int 3)))) (tOr (tTest (tOp (rOwn true K (He.ga K ("Heap" : Str)) (sp_Heap_eq K)) (tVar 8) (tMake (He.ga K ("Heap" : Str)) (sp_Heap_init K) [] E0 (tCons (tFz (tDisp [((tC (.int 4)), (tVar 7)), ((tC (.int 3)), (tVar 3))])) tNil)))) (tTest (tOp (rOwn false K (He.ga K ("Heap" : Str)) (sp_Heap_eq K)) (tVar 8) (tMake (He.ga K ("Heap" : Str)) (sp_Heap_init K) [] E0 (tCons (tFz (tDisp [((tC (.int 3)), (tVar 3))])) tNil))))))) (tRet (tC (.bl false))) tNext) (tSeq (tFor (iAny K (tCB (rSortedI K) (tCons (tCB rListDk (tCons (tVar 3) tNil)) tNil))) (gName 10) (tSeq (tAsg (tDGet (tFld K (tDGet (tVar 3) (tVar 10)) ("contents" : Str)) (tIf (tTest (tOp (rEqX K) (tFld K (tDGet (tVar 3) (tVar 10)) ("kind" : Str)) (tC (.str ⟨q_A.toArray⟩)))) (tC (.str ⟨q_l.toArray⟩)) (tC (.str ⟨q_m.toArray⟩)))) (gName 11)) (tDrop (tBM K "list" rAppend (tVar 11) (tCons (tC (.int 99)) tNil))))) (tSeq (tIfS (tOr (tTest (tOp (rNeX K) (tCallSD (sp__law_shown K) [] Ez (tCons (tMethD (He.ga K ("Heap" : Str)) ("picture_of" : Str) (sp_Heap_picture_of K) [] Ez (tVar 8) (tCons (tC (.int 3)) tNil)) tNil)) (tVar 4))) (tTest (tOp (rOwn true K (He.ga K ("Heap" : Str)) (sp_Heap_eq K)) (tVar 9) (tVar 8)))) (tRet (tC (.bl false))) tNext) (tSeq (tAsg (tMethD (He.ga K ("Heap" : Str)) ("picture_of" : Str) (sp_Heap_picture_of K) [] Ez (tVar 8) (tCons (tC (.int 4)) tNil)) (gName 12)) (tSeq (tDrop (tDPop2 (tVar 12) (tC (.int 1)) (tC .non))) (tRet (tAndV (tOp (rEqX K) (tOp (rOwn false K (He.ga K ("Heap" : Str)) (sp_Heap_eq K)) (tVar 9) (tVar 8)) (tDNotIn (tC (.int 1)) (tVar 7))) (tOp (rEqX K) (tCallSD (sp__law_shown K) [] Ez (tCons (tMethD (He.ga K ("Heap" : Str)) ("picture_of" : Str) (sp_Heap_picture_of K) [] Ez (tVar 9) (tCons (tC (.int 3)) tNil)) tNil)) (tVar 4))))))))))))))))))
def sp_law (K : PySem.W.Frag) : Sp := fun vs H Q E => vs.length = 1 ∧ t_law K ⟨fun _ H' => Q .non H', Q, fun _ _ => False, fun _ _ => False⟩ (start ["_law_script", "_law_draws", "_law_schema_here", "_law_picture_here", "_law_kept", "_law_gone", "_law_turn", "_law_found", "_law_heap", "_law_other", "_law_number_here", "_law_row", "_law_mine"] vs) H
/-! ### the scopes -/
theorem sc__law_cells : FnScope ["_law_script", "_law_count", "_law_cells_here", "_law_k", "_law_cell"] ["_law_script", "_law_count"] (defScope s__law_cells) := ⟨rfl, rfl, rfl, by decide +kernel, rfl, by decide +kernel, by decide +kernel⟩
theorem sc_Kind_init : FnScope ["self", "name", "fields", "key_rows", "names"] ["self", "name", "fields", "key_rows"] (defScope s_Kind_init) := ⟨rfl, rfl, rfl, by decide +kernel, rfl, by decide +kernel, by decide +kernel⟩
theorem sc_Field_init : FnScope ["self", "name", "shape", "needed"] ["self", "name", "shape", "needed"] (defScope s_Field_init) := ⟨rfl, rfl, rfl, by decide +kernel, rfl, by decide +kernel, by decide +kernel⟩
theorem sc_IntSort_init : FnScope ["self", "low", "high"] ["self", "low", "high"] (defScope s_IntSort_init) := ⟨rfl, rfl, rfl, by decide +kernel, rfl, by decide +kernel, by decide +kernel⟩
theorem sc_TextSort_init : FnScope ["self", "longest", "without"] ["self", "longest", "without"] (defScope s_TextSort_init) := ⟨rfl, rfl, rfl, by decide +kernel, rfl, by decide +kernel, by decide +kernel⟩
theorem sc_RefSort_init : FnScope ["self", "kinds", "rule"] ["self", "kinds", "rule"] (defScope s_RefSort_init) := ⟨rfl, rfl, rfl, by decide +kernel, rfl, by decide +kernel, by decide +kernel⟩
theorem sc_ListSort_init : FnScope ["self", "kinds"] ["self", "kinds"] (defScope s_ListSort_init) := ⟨rfl, rfl, rfl, by decide +kernel, rfl, by decide +kernel, by decide +kernel⟩
theorem sc_Schema_init : FnScope ["self", "kinds"] ["self", "kinds"] (defScope s_Schema_init) := ⟨rfl, rfl, rfl, by decide +kernel, rfl, by decide +kernel, by decide +kernel⟩
theorem sc__law_schema : FnScope ["_law_rules_here", "_law_needed", "_law_first", "_law_second"] ["_law_rules_here", "_law_needed"] (defScope s__law_schema) := ⟨rfl, rfl, rfl, by decide +kernel, rfl, by decide +kernel, by decide +kernel⟩
theorem sc__law_draw : FnScope ["_law_draws", "_law_bound", "_law_amount"] ["_law_draws", "_law_bound"] (defScope s__law_draw) := ⟨rfl, rfl, rfl, by decide +kernel, rfl, by decide +kernel, by decide +kernel⟩
theorem sc__law_pick : FnScope ["_law_draws", "_law_row"] ["_law_draws", "_law_row"] (defScope s__law_pick) := ⟨rfl, rfl, rfl, by decide +kernel, rfl, by decide +kernel, by decide +kernel⟩
theorem sc__law_rules : FnScope ["_law_draws", "_law_turn"] ["_law_draws"] (defScope s__law_rules) := ⟨rfl, rfl, rfl, by decide +kernel, rfl, by decide +kernel, by decide +kernel⟩
theorem sc_content_copy : FnScope ["content"] ["content"] (defScope s_content_copy) := ⟨rfl, rfl, rfl, by decide +kernel, rfl, by decide +kernel, by decide +kernel⟩
theorem sc_Thing_init : FnScope ["self", "kind", "contents", "name"] ["self", "kind", "contents"] (defScope s_Thing_init) := ⟨rfl, rfl, rfl, by decide +kernel, rfl, by decide +kernel, by decide +kernel⟩
theorem sc__law_number : FnScope ["_law_draws", "_law_digit"] ["_law_draws"] (defScope s__law_number) := ⟨rfl, rfl, rfl, by decide +kernel, rfl, by decide +kernel, by decide +kernel⟩
theorem sc__law_list : FnScope ["_law_draws", "_law_row", "_law_turn", "_law_digit"] ["_law_draws"] (defScope s__law_list) := ⟨rfl, rfl, rfl, by decide +kernel, rfl, by decide +kernel, by decide +kernel⟩
theorem sc__law_contents : FnScope ["_law_draws", "_law_kind", "_law_known"] ["_law_draws", "_law_kind"] (defScope s__law_contents) := ⟨rfl, rfl, rfl, by decide +kernel, rfl, by decide +kernel, by decide +kernel⟩
theorem sc__law_picture : FnScope ["_law_draws", "_law_picture_here", "_law_turn", "_law_number_here", "_law_kind"] ["_law_draws"] (defScope s__law_picture) := ⟨rfl, rfl, rfl, by decide +kernel, rfl, by decide +kernel, by decide +kernel⟩
theorem sc__law_shown : FnScope ["_law_picture_here", "_law_number_here"] ["_law_picture_here"] (defScope s__law_shown) := ⟨rfl, rfl, rfl, by decide +kernel, rfl, by decide +kernel, by decide +kernel⟩
theorem sc_is_link : FnScope ["sort"] ["sort"] (defScope s_is_link) := ⟨rfl, rfl, rfl, by decide +kernel, rfl, by decide +kernel, by decide +kernel⟩
theorem sc_cleared : FnScope ["content", "going", "number"] ["content", "going"] (defScope s_cleared) := ⟨rfl, rfl, rfl, by decide +kernel, rfl, by decide +kernel, by decide +kernel⟩
theorem sc_cleared_thing : FnScope ["kind", "thing", "gone", "contents", "field", "content"] ["kind", "thing", "gone"] (defScope s_cleared_thing) := ⟨rfl, rfl, rfl, by decide +kernel, rfl, by decide +kernel, by decide +kernel⟩
theorem sc_Schema_kind_of : FnScope ["self", "name", "kind"] ["self", "name"] (defScope s_Schema_kind_of) := ⟨rfl, rfl, rfl, by decide +kernel, rfl, by decide +kernel, by decide +kernel⟩
theorem sc_without_numbers : FnScope ["schema", "picture", "gone", "made", "number", "thing"] ["schema", "picture", "gone"] (defScope s_without_numbers) := ⟨rfl, rfl, rfl, by decide +kernel, rfl, by decide +kernel, by decide +kernel⟩
theorem sc__law_names : FnScope ["_law_kind"] ["_law_kind"] (defScope s__law_names) := ⟨rfl, rfl, rfl, by decide +kernel, rfl, by decide +kernel, by decide +kernel⟩
theorem sc__law_due : FnScope ["_law_picture_here", "_law_gone", "_law_rows", "_law_number_here", "_law_thing", "_law_known", "_law_name", "_law_content", "_law_other"] ["_law_picture_here", "_law_gone"] (defScope s__law_due) := ⟨rfl, rfl, rfl, by decide +kernel, rfl, by decide +kernel, by decide +kernel⟩
theorem sc_Thing_copied : FnScope ["self"] ["self"] (defScope s_Thing_copied) := ⟨rfl, rfl, rfl, by decide +kernel, rfl, by decide +kernel, by decide +kernel⟩
theorem sc_picture_copy : FnScope ["picture", "number"] ["picture"] (defScope s_picture_copy) := ⟨rfl, rfl, rfl, by decide +kernel, rfl, by decide +kernel, by decide +kernel⟩
theorem sc_Heap_init : FnScope ["self", "pictures", "number"] ["self", "pictures"] (defScope s_Heap_init) := ⟨rfl, rfl, rfl, by decide +kernel, rfl, by decide +kernel, by decide +kernel⟩
theorem sc_Heap_copied : FnScope ["self"] ["self"] (defScope s_Heap_copied) := ⟨rfl, rfl, rfl, by decide +kernel, rfl, by decide +kernel, by decide +kernel⟩
theorem sc_Thing_eq : FnScope ["self", "other"] ["self", "other"] (defScope s_Thing_eq) := ⟨rfl, rfl, rfl, by decide +kernel, rfl, by decide +kernel, by decide +kernel⟩
theorem sc_Heap_eq : FnScope ["self", "other"] ["self", "other"] (defScope s_Heap_eq) := ⟨rfl, rfl, rfl, by decide +kernel, rfl, by decide +kernel, by decide +kernel⟩
theorem sc_Heap_picture_of : FnScope ["self", "number"] ["self", "number"] (defScope s_Heap_picture_of) := ⟨rfl, rfl, rfl, by decide +kernel, rfl, by decide +kernel, by decide +kernel⟩
theorem sc_law : FnScope ["_law_script", "_law_draws", "_law_schema_here", "_law_picture_here", "_law_kept", "_law_gone", "_law_turn", "_law_found", "_law_heap", "_law_other", "_law_number_here", "_law_row", "_law_mine"] ["_law_script"] (defScope s_law) := ⟨rfl, rfl, rfl, by decide +kernel, rfl, by decide +kernel, by decide +kernel⟩
/-! ### what the top left -/
structure Tx (K : PySem.W.Frag) (mg : Str → Option Value) : Prop where
  d__law_cells : ∃ fd, FunD K "_law_cells" "_law_cells" (defArgs s__law_cells) (defBody s__law_cells) (defScope s__law_cells) [] [] (He.fAd K ("_law_cells", none)) fd
  d_Kind_init : ∃ fd, FunD K "__init__" "Kind.__init__" (defArgs s_Kind_init) (defBody s_Kind_init) (defScope s_Kind_init) [] [] (He.fAd K ("Kind", some "__init__")) fd
  d_Field_init : ∃ fd, FunD K "__init__" "Field.__init__" (defArgs s_Field_init) (defBody s_Field_init) (defScope s_Field_init) [(.bl false)] [] (He.fAd K ("Field", some "__init__")) fd
  d_IntSort_init : ∃ fd, FunD K "__init__" "IntSort.__init__" (defArgs s_IntSort_init) (defBody s_IntSort_init) (defScope s_IntSort_init) [] [] (He.fAd K ("IntSort", some "__init__")) fd
  d_TextSort_init : ∃ fd, FunD K "__init__" "TextSort.__init__" (defArgs s_TextSort_init) (defBody s_TextSort_init) (defScope s_TextSort_init) [.non] [] (He.fAd K ("TextSort", some "__init__")) fd
  d_RefSort_init : ∃ fd, FunD K "__init__" "RefSort.__init__" (defArgs s_RefSort_init) (defBody s_RefSort_init) (defScope s_RefSort_init) [] [] (He.fAd K ("RefSort", some "__init__")) fd
  d_ListSort_init : ∃ fd, FunD K "__init__" "ListSort.__init__" (defArgs s_ListSort_init) (defBody s_ListSort_init) (defScope s_ListSort_init) [] [] (He.fAd K ("ListSort", some "__init__")) fd
  d_Schema_init : ∃ fd, FunD K "__init__" "Schema.__init__" (defArgs s_Schema_init) (defBody s_Schema_init) (defScope s_Schema_init) [] [] (He.fAd K ("Schema", some "__init__")) fd
  d__law_schema : ∃ fd, FunD K "_law_schema" "_law_schema" (defArgs s__law_schema) (defBody s__law_schema) (defScope s__law_schema) [] [] (He.fAd K ("_law_schema", none)) fd
  d__law_draw : ∃ fd, FunD K "_law_draw" "_law_draw" (defArgs s__law_draw) (defBody s__law_draw) (defScope s__law_draw) [] [] (He.fAd K ("_law_draw", none)) fd
  d__law_pick : ∃ fd, FunD K "_law_pick" "_law_pick" (defArgs s__law_pick) (defBody s__law_pick) (defScope s__law_pick) [] [] (He.fAd K ("_law_pick", none)) fd
  d__law_rules : ∃ fd, FunD K "_law_rules" "_law_rules" (defArgs s__law_rules) (defBody s__law_rules) (defScope s__law_rules) [] [] (He.fAd K ("_law_rules", none)) fd
  d_content_copy : ∃ fd, FunD K "content_copy" "content_copy" (defArgs s_content_copy) (defBody s_content_copy) (defScope s_content_copy) [] [] (He.fAd K ("content_copy", none)) fd
  d_Thing_init : ∃ fd, FunD K "__init__" "Thing.__init__" (defArgs s_Thing_init) (defBody s_Thing_init) (defScope s_Thing_init) [] [] (He.fAd K ("Thing", some "__init__")) fd
  d__law_number : ∃ fd, FunD K "_law_number" "_law_number" (defArgs s__law_number) (defBody s__law_number) (defScope s__law_number) [] [] (He.fAd K ("_law_number", none)) fd
  d__law_list : ∃ fd, FunD K "_law_list" "_law_list" (defArgs s__law_list) (defBody s__law_list) (defScope s__law_list) [] [] (He.fAd K ("_law_list", none)) fd
  d__law_contents : ∃ fd, FunD K "_law_contents" "_law_contents" (defArgs s__law_contents) (defBody s__law_contents) (defScope s__law_contents) [] [] (He.fAd K ("_law_contents", none)) fd
  d__law_picture : ∃ fd, FunD K "_law_picture" "_law_picture" (defArgs s__law_picture) (defBody s__law_picture) (defScope s__law_picture) [] [] (He.fAd K ("_law_picture", none)) fd
  d__law_shown : ∃ fd, FunD K "_law_shown" "_law_shown" (defArgs s__law_shown) (defBody s__law_shown) (defScope s__law_shown) [] [] (He.fAd K ("_law_shown", none)) fd
  d_is_link : ∃ fd, FunD K "is_link" "is_link" (defArgs s_is_link) (defBody s_is_link) (defScope s_is_link) [] [] (He.fAd K ("is_link", none)) fd
  d_cleared : ∃ fd, FunD K "cleared" "cleared" (defArgs s_cleared) (defBody s_cleared) (defScope s_cleared) [] [] (He.fAd K ("cleared", none)) fd
  d_cleared_thing : ∃ fd, FunD K "cleared_thing" "cleared_thing" (defArgs s_cleared_thing) (defBody s_cleared_thing) (defScope s_cleared_thing) [] [] (He.fAd K ("cleared_thing", none)) fd
  d_Schema_kind_of : ∃ fd, FunD K "kind_of" "Schema.kind_of" (defArgs s_Schema_kind_of) (defBody s_Schema_kind_of) (defScope s_Schema_kind_of) [] [] (He.fAd K ("Schema", some "kind_of")) fd
  d_without_numbers : ∃ fd, FunD K "without_numbers" "without_numbers" (defArgs s_without_numbers) (defBody s_without_numbers) (defScope s_without_numbers) [] [] (He.fAd K ("without_numbers", none)) fd
  d__law_names : ∃ fd, FunD K "_law_names" "_law_names" (defArgs s__law_names) (defBody s__law_names) (defScope s__law_names) [] [] (He.fAd K ("_law_names", none)) fd
  d__law_due : ∃ fd, FunD K "_law_due" "_law_due" (defArgs s__law_due) (defBody s__law_due) (defScope s__law_due) [] [] (He.fAd K ("_law_due", none)) fd
  d_Thing_copied : ∃ fd, FunD K "copied" "Thing.copied" (defArgs s_Thing_copied) (defBody s_Thing_copied) (defScope s_Thing_copied) [] [] (He.fAd K ("Thing", some "copied")) fd
  d_picture_copy : ∃ fd, FunD K "picture_copy" "picture_copy" (defArgs s_picture_copy) (defBody s_picture_copy) (defScope s_picture_copy) [] [] (He.fAd K ("picture_copy", none)) fd
  d_Heap_init : ∃ fd, FunD K "__init__" "Heap.__init__" (defArgs s_Heap_init) (defBody s_Heap_init) (defScope s_Heap_init) [] [] (He.fAd K ("Heap", some "__init__")) fd
  d_Heap_copied : ∃ fd, FunD K "copied" "Heap.copied" (defArgs s_Heap_copied) (defBody s_Heap_copied) (defScope s_Heap_copied) [] [] (He.fAd K ("Heap", some "copied")) fd
  d_Thing_eq : ∃ fd, FunD K "__eq__" "Thing.__eq__" (defArgs s_Thing_eq) (defBody s_Thing_eq) (defScope s_Thing_eq) [] [] (He.fAd K ("Thing", some "__eq__")) fd
  d_Heap_eq : ∃ fd, FunD K "__eq__" "Heap.__eq__" (defArgs s_Heap_eq) (defBody s_Heap_eq) (defScope s_Heap_eq) [] [] (He.fAd K ("Heap", some "__eq__")) fd
  d_Heap_picture_of : ∃ fd, FunD K "picture_of" "Heap.picture_of" (defArgs s_Heap_picture_of) (defBody s_Heap_picture_of) (defScope s_Heap_picture_of) [] [] (He.fAd K ("Heap", some "picture_of")) fd
  d_law : ∃ fd, FunD K "law" "law" (defArgs s_law) (defBody s_law) (defScope s_law) [] [] (He.fAd K ("law", none)) fd
  g__law_cells : mg "_law_cells" = some (.ref (He.ga K "_law_cells"))
  g__law_schema : mg "_law_schema" = some (.ref (He.ga K "_law_schema"))
  g__law_draw : mg "_law_draw" = some (.ref (He.ga K "_law_draw"))
  g__law_pick : mg "_law_pick" = some (.ref (He.ga K "_law_pick"))
  g__law_rules : mg "_law_rules" = some (.ref (He.ga K "_law_rules"))
  g_content_copy : mg "content_copy" = some (.ref (He.ga K "content_copy"))
  g__law_number : mg "_law_number" = some (.ref (He.ga K "_law_number"))
  g__law_list : mg "_law_list" = some (.ref (He.ga K "_law_list"))
  g__law_contents : mg "_law_contents" = some (.ref (He.ga K "_law_contents"))
  g__law_picture : mg "_law_picture" = some (.ref (He.ga K "_law_picture"))
  g__law_shown : mg "_law_shown" = some (.ref (He.ga K "_law_shown"))
  g_is_link : mg "is_link" = some (.ref (He.ga K "is_link"))
  g_cleared : mg "cleared" = some (.ref (He.ga K "cleared"))
  g_cleared_thing : mg "cleared_thing" = some (.ref (He.ga K "cleared_thing"))
  g_without_numbers : mg "without_numbers" = some (.ref (He.ga K "without_numbers"))
  g__law_names : mg "_law_names" = some (.ref (He.ga K "_law_names"))
  g__law_due : mg "_law_due" = some (.ref (He.ga K "_law_due"))
  g_picture_copy : mg "picture_copy" = some (.ref (He.ga K "picture_copy"))
  g_law : mg "law" = some (.ref (He.ga K "law"))
  b_int : mg "int" = none
  b_isinstance : mg "isinstance" = none
  b_len : mg "len" = none
  b_list : mg "list" = none
  b_range : mg "range" = none
  b_repr : mg "repr" = none
  b_sorted : mg "sorted" = none
  gc_IntSort : mg "IntSort" = some (.ref (He.ga K "IntSort"))
  cl_IntSort : Cls K (He.ga K "IntSort")
  mk_IntSort : Mk K (He.ga K "IntSort") (He.fAd K ("IntSort", some "__init__"))
  no_IntSort_high : NoAttr K (He.ga K "IntSort") "high"
  no_IntSort_low : NoAttr K (He.ga K "IntSort") "low"
  gc_TextSort : mg "TextSort" = some (.ref (He.ga K "TextSort"))
  cl_TextSort : Cls K (He.ga K "TextSort")
  mk_TextSort : Mk K (He.ga K "TextSort") (He.fAd K ("TextSort", some "__init__"))
  no_TextSort_longest : NoAttr K (He.ga K "TextSort") "longest"
  no_TextSort_without : NoAttr K (He.ga K "TextSort") "without"
  gc_RefSort : mg "RefSort" = some (.ref (He.ga K "RefSort"))
  cl_RefSort : Cls K (He.ga K "RefSort")
  mk_RefSort : Mk K (He.ga K "RefSort") (He.fAd K ("RefSort", some "__init__"))
  no_RefSort_kinds : NoAttr K (He.ga K "RefSort") "kinds"
  no_RefSort_rule : NoAttr K (He.ga K "RefSort") "rule"
  gc_ListSort : mg "ListSort" = some (.ref (He.ga K "ListSort"))
  cl_ListSort : Cls K (He.ga K "ListSort")
  mk_ListSort : Mk K (He.ga K "ListSort") (He.fAd K ("ListSort", some "__init__"))
  no_ListSort_kinds : NoAttr K (He.ga K "ListSort") "kinds"
  gc_Thing : mg "Thing" = some (.ref (He.ga K "Thing"))
  cl_Thing : Cls K (He.ga K "Thing")
  me_Thing_eq : Meth K (He.ga K "Thing") "__eq__" (He.fAd K ("Thing", some "__eq__"))
  me_Thing_copied : Meth K (He.ga K "Thing") "copied" (He.fAd K ("Thing", some "copied"))
  mk_Thing : Mk K (He.ga K "Thing") (He.fAd K ("Thing", some "__init__"))
  no_Thing_contents : NoAttr K (He.ga K "Thing") "contents"
  no_Thing_kind : NoAttr K (He.ga K "Thing") "kind"
  gc_Heap : mg "Heap" = some (.ref (He.ga K "Heap"))
  cl_Heap : Cls K (He.ga K "Heap")
  me_Heap_eq : Meth K (He.ga K "Heap") "__eq__" (He.fAd K ("Heap", some "__eq__"))
  me_Heap_copied : Meth K (He.ga K "Heap") "copied" (He.fAd K ("Heap", some "copied"))
  me_Heap_picture_of : Meth K (He.ga K "Heap") "picture_of" (He.fAd K ("Heap", some "picture_of"))
  mk_Heap : Mk K (He.ga K "Heap") (He.fAd K ("Heap", some "__init__"))
  no_Heap_pictures : NoAttr K (He.ga K "Heap") "pictures"
  gc_Field : mg "Field" = some (.ref (He.ga K "Field"))
  cl_Field : Cls K (He.ga K "Field")
  mk_Field : Mk K (He.ga K "Field") (He.fAd K ("Field", some "__init__"))
  no_Field_name : NoAttr K (He.ga K "Field") "name"
  no_Field_needed : NoAttr K (He.ga K "Field") "needed"
  no_Field_shape : NoAttr K (He.ga K "Field") "shape"
  gc_Kind : mg "Kind" = some (.ref (He.ga K "Kind"))
  cl_Kind : Cls K (He.ga K "Kind")
  mk_Kind : Mk K (He.ga K "Kind") (He.fAd K ("Kind", some "__init__"))
  no_Kind_fields : NoAttr K (He.ga K "Kind") "fields"
  no_Kind_key_rows : NoAttr K (He.ga K "Kind") "key_rows"
  no_Kind_name : NoAttr K (He.ga K "Kind") "name"
  gc_Schema : mg "Schema" = some (.ref (He.ga K "Schema"))
  cl_Schema : Cls K (He.ga K "Schema")
  me_Schema_kind_of : Meth K (He.ga K "Schema") "kind_of" (He.fAd K ("Schema", some "kind_of"))
  mk_Schema : Mk K (He.ga K "Schema") (He.fAd K ("Schema", some "__init__"))
  no_Schema_kinds : NoAttr K (He.ga K "Schema") "kinds"
  if_IntSort : InsF K (He.ga K "IntSort")
  it_IntSort_list : PySem.W.kitOne K (.ref (He.ga K "IntSort")) (.type "list") = some false
  is_IntSort_Heap : PySem.W.kitOne K (.ref (He.ga K "IntSort")) (.ref (He.ga K "Heap")) = some false
  is_IntSort_ListSort : PySem.W.kitOne K (.ref (He.ga K "IntSort")) (.ref (He.ga K "ListSort")) = some false
  is_IntSort_RefSort : PySem.W.kitOne K (.ref (He.ga K "IntSort")) (.ref (He.ga K "RefSort")) = some false
  is_IntSort_Thing : PySem.W.kitOne K (.ref (He.ga K "IntSort")) (.ref (He.ga K "Thing")) = some false
  if_TextSort : InsF K (He.ga K "TextSort")
  it_TextSort_list : PySem.W.kitOne K (.ref (He.ga K "TextSort")) (.type "list") = some false
  is_TextSort_Heap : PySem.W.kitOne K (.ref (He.ga K "TextSort")) (.ref (He.ga K "Heap")) = some false
  is_TextSort_ListSort : PySem.W.kitOne K (.ref (He.ga K "TextSort")) (.ref (He.ga K "ListSort")) = some false
  is_TextSort_RefSort : PySem.W.kitOne K (.ref (He.ga K "TextSort")) (.ref (He.ga K "RefSort")) = some false
  is_TextSort_Thing : PySem.W.kitOne K (.ref (He.ga K "TextSort")) (.ref (He.ga K "Thing")) = some false
  if_RefSort : InsF K (He.ga K "RefSort")
  it_RefSort_list : PySem.W.kitOne K (.ref (He.ga K "RefSort")) (.type "list") = some false
  is_RefSort_Heap : PySem.W.kitOne K (.ref (He.ga K "RefSort")) (.ref (He.ga K "Heap")) = some false
  is_RefSort_ListSort : PySem.W.kitOne K (.ref (He.ga K "RefSort")) (.ref (He.ga K "ListSort")) = some false
  is_RefSort_RefSort : PySem.W.kitOne K (.ref (He.ga K "RefSort")) (.ref (He.ga K "RefSort")) = some true
  is_RefSort_Thing : PySem.W.kitOne K (.ref (He.ga K "RefSort")) (.ref (He.ga K "Thing")) = some false
  if_ListSort : InsF K (He.ga K "ListSort")
  it_ListSort_list : PySem.W.kitOne K (.ref (He.ga K "ListSort")) (.type "list") = some false
  is_ListSort_Heap : PySem.W.kitOne K (.ref (He.ga K "ListSort")) (.ref (He.ga K "Heap")) = some false
  is_ListSort_ListSort : PySem.W.kitOne K (.ref (He.ga K "ListSort")) (.ref (He.ga K "ListSort")) = some true
  is_ListSort_RefSort : PySem.W.kitOne K (.ref (He.ga K "ListSort")) (.ref (He.ga K "RefSort")) = some false
  is_ListSort_Thing : PySem.W.kitOne K (.ref (He.ga K "ListSort")) (.ref (He.ga K "Thing")) = some false
  if_Thing : InsF K (He.ga K "Thing")
  it_Thing_list : PySem.W.kitOne K (.ref (He.ga K "Thing")) (.type "list") = some false
  is_Thing_Heap : PySem.W.kitOne K (.ref (He.ga K "Thing")) (.ref (He.ga K "Heap")) = some false
  is_Thing_ListSort : PySem.W.kitOne K (.ref (He.ga K "Thing")) (.ref (He.ga K "ListSort")) = some false
  is_Thing_RefSort : PySem.W.kitOne K (.ref (He.ga K "Thing")) (.ref (He.ga K "RefSort")) = some false
  is_Thing_Thing : PySem.W.kitOne K (.ref (He.ga K "Thing")) (.ref (He.ga K "Thing")) = some true
  if_Heap : InsF K (He.ga K "Heap")
  it_Heap_list : PySem.W.kitOne K (.ref (He.ga K "Heap")) (.type "list") = some false
  is_Heap_Heap : PySem.W.kitOne K (.ref (He.ga K "Heap")) (.ref (He.ga K "Heap")) = some true
  is_Heap_ListSort : PySem.W.kitOne K (.ref (He.ga K "Heap")) (.ref (He.ga K "ListSort")) = some false
  is_Heap_RefSort : PySem.W.kitOne K (.ref (He.ga K "Heap")) (.ref (He.ga K "RefSort")) = some false
  is_Heap_Thing : PySem.W.kitOne K (.ref (He.ga K "Heap")) (.ref (He.ga K "Thing")) = some false
  if_Field : InsF K (He.ga K "Field")
  it_Field_list : PySem.W.kitOne K (.ref (He.ga K "Field")) (.type "list") = some false
  is_Field_Heap : PySem.W.kitOne K (.ref (He.ga K "Field")) (.ref (He.ga K "Heap")) = some false
  is_Field_ListSort : PySem.W.kitOne K (.ref (He.ga K "Field")) (.ref (He.ga K "ListSort")) = some false
  is_Field_RefSort : PySem.W.kitOne K (.ref (He.ga K "Field")) (.ref (He.ga K "RefSort")) = some false
  is_Field_Thing : PySem.W.kitOne K (.ref (He.ga K "Field")) (.ref (He.ga K "Thing")) = some false
  if_Kind : InsF K (He.ga K "Kind")
  it_Kind_list : PySem.W.kitOne K (.ref (He.ga K "Kind")) (.type "list") = some false
  is_Kind_Heap : PySem.W.kitOne K (.ref (He.ga K "Kind")) (.ref (He.ga K "Heap")) = some false
  is_Kind_ListSort : PySem.W.kitOne K (.ref (He.ga K "Kind")) (.ref (He.ga K "ListSort")) = some false
  is_Kind_RefSort : PySem.W.kitOne K (.ref (He.ga K "Kind")) (.ref (He.ga K "RefSort")) = some false
  is_Kind_Thing : PySem.W.kitOne K (.ref (He.ga K "Kind")) (.ref (He.ga K "Thing")) = some false
  if_Schema : InsF K (He.ga K "Schema")
  it_Schema_list : PySem.W.kitOne K (.ref (He.ga K "Schema")) (.type "list") = some false
  is_Schema_Heap : PySem.W.kitOne K (.ref (He.ga K "Schema")) (.ref (He.ga K "Heap")) = some false
  is_Schema_ListSort : PySem.W.kitOne K (.ref (He.ga K "Schema")) (.ref (He.ga K "ListSort")) = some false
  is_Schema_RefSort : PySem.W.kitOne K (.ref (He.ga K "Schema")) (.ref (He.ga K "RefSort")) = some false
  is_Schema_Thing : PySem.W.kitOne K (.ref (He.ga K "Schema")) (.ref (He.ga K "Thing")) = some false
  ti_NoneType_Heap : PySem.W.kitOne K (.type "NoneType") (.ref (He.ga K "Heap")) = some false
  ti_bool_Heap : PySem.W.kitOne K (.type "bool") (.ref (He.ga K "Heap")) = some false
  ti_int_Heap : PySem.W.kitOne K (.type "int") (.ref (He.ga K "Heap")) = some false
  ti_str_Heap : PySem.W.kitOne K (.type "str") (.ref (He.ga K "Heap")) = some false
  ti_list_Heap : PySem.W.kitOne K (.type "list") (.ref (He.ga K "Heap")) = some false
  ti_tuple_Heap : PySem.W.kitOne K (.type "tuple") (.ref (He.ga K "Heap")) = some false
  ti_dict_Heap : PySem.W.kitOne K (.type "dict") (.ref (He.ga K "Heap")) = some false
  ti_NoneType_ListSort : PySem.W.kitOne K (.type "NoneType") (.ref (He.ga K "ListSort")) = some false
  ti_bool_ListSort : PySem.W.kitOne K (.type "bool") (.ref (He.ga K "ListSort")) = some false
  ti_int_ListSort : PySem.W.kitOne K (.type "int") (.ref (He.ga K "ListSort")) = some false
  ti_str_ListSort : PySem.W.kitOne K (.type "str") (.ref (He.ga K "ListSort")) = some false
  ti_list_ListSort : PySem.W.kitOne K (.type "list") (.ref (He.ga K "ListSort")) = some false
  ti_tuple_ListSort : PySem.W.kitOne K (.type "tuple") (.ref (He.ga K "ListSort")) = some false
  ti_dict_ListSort : PySem.W.kitOne K (.type "dict") (.ref (He.ga K "ListSort")) = some false
  ti_NoneType_RefSort : PySem.W.kitOne K (.type "NoneType") (.ref (He.ga K "RefSort")) = some false
  ti_bool_RefSort : PySem.W.kitOne K (.type "bool") (.ref (He.ga K "RefSort")) = some false
  ti_int_RefSort : PySem.W.kitOne K (.type "int") (.ref (He.ga K "RefSort")) = some false
  ti_str_RefSort : PySem.W.kitOne K (.type "str") (.ref (He.ga K "RefSort")) = some false
  ti_list_RefSort : PySem.W.kitOne K (.type "list") (.ref (He.ga K "RefSort")) = some false
  ti_tuple_RefSort : PySem.W.kitOne K (.type "tuple") (.ref (He.ga K "RefSort")) = some false
  ti_dict_RefSort : PySem.W.kitOne K (.type "dict") (.ref (He.ga K "RefSort")) = some false
  ti_NoneType_Thing : PySem.W.kitOne K (.type "NoneType") (.ref (He.ga K "Thing")) = some false
  ti_bool_Thing : PySem.W.kitOne K (.type "bool") (.ref (He.ga K "Thing")) = some false
  ti_int_Thing : PySem.W.kitOne K (.type "int") (.ref (He.ga K "Thing")) = some false
  ti_str_Thing : PySem.W.kitOne K (.type "str") (.ref (He.ga K "Thing")) = some false
  ti_list_Thing : PySem.W.kitOne K (.type "list") (.ref (He.ga K "Thing")) = some false
  ti_tuple_Thing : PySem.W.kitOne K (.type "tuple") (.ref (He.ga K "Thing")) = some false
  ti_dict_Thing : PySem.W.kitOne K (.type "dict") (.ref (He.ga K "Thing")) = some false
  nq_Heap : NeF2 K (He.ga K "Heap")
/-! ### each def keeps its reading -/
section
variable {P : Program} {w : World} {K : PySem.W.Frag} {mg : Str → Option Value} {base : Heap}
theorem fn__law_cells (T : Tx K mg) {fd : FuncData} (F : FunD K "_law_cells" "_law_cells" (defArgs s__law_cells) (defBody s__law_cells) (defScope s__law_cells) [] [] (He.fAd K ("_law_cells", none)) fd) : FnOk P w K mg base (L2.CX P w) 1 (He.fAd K ("_law_cells", none)) fd ["_law_script", "_law_count"] (sp__law_cells K) := by
  refine F.ok sc__law_cells (fun vs H Q E h => h.1) (fun cdv A outer s H vs Q E hr h => ⟨_, ?_, h.2⟩)
  refine PSs.nox ?_
  exact (pss_cons (ps_set (i := 2) sc__law_cells.nd rfl (by first | exact Or.inl rfl | exact Or.inr rfl) (pe_lst pa_nil))
        (pss_cons (ps_for PassesOwn.never rfl (pi_range1 rfl T.b_range (pa_cons (pv 1) pa_nil)) (pg_name (i := 3) sc__law_cells.nd rfl (by first | exact Or.inl rfl | exact Or.inr rfl))
        (pss_cons (ps_set (i := 4) sc__law_cells.nd rfl (by first | exact Or.inl rfl | exact Or.inr rfl) (pe_op op_addX (pe_op op_mulX pe_int (pv 3)) pe_int))
        (C8.pss_cut (ps_if (pt_cmpR (op_ltX hr.units) (pv 3) (pe_callB call_len (by rfl) T.b_len boot_len (pa_cons (pv 0) pa_nil)) (nomark _))
        (pss_cons (ps_set (i := 4) sc__law_cells.nd rfl (by first | exact Or.inl rfl | exact Or.inr rfl) (pe_callTy (CallR.or call_int1 call_int_str) (by rfl) T.b_int (by decide +kernel) (pa_cons (pe_ix ix_seq (pv 0) (pv 3) fun _ _ => rfl) pa_nil)))
        (pss_one (ps_if (pt_cmpR (op_ltX hr.units) (pv 4) pe_int (nomark _))
        (pss_one (ps_set (i := 4) sc__law_cells.nd rfl (by first | exact Or.inl rfl | exact Or.inr rfl) (pe_op op_subX pe_int (pe_op op_mulX pe_int (pv 4)))))
        pss_nil)))
        pss_nil)
        (C8.pss_cut (ps_if (pt_cmpR (op_ltX hr.units) (pv 4) pe_int (nomark _))
        (pss_cons (ps_set (i := 4) sc__law_cells.nd rfl (by first | exact Or.inl rfl | exact Or.inr rfl) (pe_op op_modX (pe_callTy (CallR.or call_int1 call_int_str) (by rfl) T.b_int (by decide +kernel) (pa_cons (pe_op op_addX (pe_op op_addX (pe_op op_mulX (pe_callTy (CallR.or call_int1 call_int_str) (by rfl) T.b_int (by decide +kernel) (pa_cons (pv 4) pa_nil)) pe_int) (pe_op op_mulX pe_int (pv 3))) pe_int) pa_nil)) pe_int))
        (pss_one (ps_set (i := 4) sc__law_cells.nd rfl (by first | exact Or.inl rfl | exact Or.inr rfl) (pe_op op_modX (pe_callTy (CallR.or call_int1 call_int_str) (by rfl) T.b_int (by decide +kernel) (pa_cons (pe_op op_addX (pe_op op_mulX (pe_callTy (CallR.or call_int1 call_int_str) (by rfl) T.b_int (by decide +kernel) (pa_cons (pv 4) pa_nil)) pe_int) pe_int) pa_nil)) pe_int))))
        pss_nil)
        (pss_one (ps_expr (pe_bm PySem.F.plainAttrs_list PySem.F.slot_list_append PySem.F.type_list_append mt_append (pv 2) (pa_cons (pv 4) pa_nil))))))))
        (pss_one (ps_ret (pv 2)))))
theorem Tx.ok__law_cells (T : Tx K mg) : Cl P w K mg base 1 "_law_cells" (sp__law_cells K) [] := by
  obtain ⟨fd, F⟩ := T.d__law_cells
  have ok := fn__law_cells (P := P) (w := w) (base := base) T F
  exact ⟨_, fd, _, [], ok, T.g__law_cells, F.kp, (FunD.bindsN F fun _ _ _ _ _ _ us hl => match us, hl with | [_, _], _ => rfl), .nil⟩
theorem fn_Kind_init (T : Tx K mg) {fd : FuncData} (F : FunD K "__init__" "Kind.__init__" (defArgs s_Kind_init) (defBody s_Kind_init) (defScope s_Kind_init) [] [] (He.fAd K ("Kind", some "__init__")) fd) : FnOk P w K mg base (L2.CX P w) 1 (He.fAd K ("Kind", some "__init__")) fd ["self", "name", "fields", "key_rows"] (sp_Kind_init K) := by
  refine F.ok sc_Kind_init (fun vs H Q E h => h.1) (fun cdv A outer s H vs Q E hr h => ⟨_, ?_, h.2⟩)
  refine PSs.nox ?_
  exact (pss_cons (ps_fld (pv 0) (pv 1) rfl)
        (pss_cons (ps_fld (pv 0) (pe_callTy (CallR.or call_list_of (call_list_dK rfl)) (by rfl) T.b_list (by decide +kernel) (pa_cons (pv 2) pa_nil)) rfl)
        (pss_one (ps_fld (pv 0) (pe_lc (own := [("names", 4)]) rfl sc_Kind_init.nd (pi_any (pv 3)) (blkOk_by (N := ["self", "name", "fields", "key_rows", "names"]) (sc := defScope s_Kind_init) (own := [("names", 4)]) (by decide +kernel)) (fun _ _ _ _ _ => (pg_name (i := 4) sc_Kind_init.nd rfl (by first | exact Or.inl rfl | exact Or.inr rfl))) (fun _ _ _ _ _ => pts_nil) (fun _ _ _ _ _ => (pe_callTy (CallR.or call_list_of (call_list_dK rfl)) (by rfl) T.b_list (by decide +kernel) (pa_cons (pv 4) pa_nil)))) rfl))))
theorem Tx.ok_Kind_init (T : Tx K mg) : Mq P w K mg base 1 "Kind" (He.ga K ("Kind" : Str)) (sp_Kind_init K) [] := by
  obtain ⟨fd, F⟩ := T.d_Kind_init
  have ok := fn_Kind_init (P := P) (w := w) (base := base) T F
  exact ⟨_, fd, _, [], T.mk_Kind, ok, T.gc_Kind, (FunD.bindsN F fun _ _ _ _ _ _ us hl => match us, hl with | [_, _, _, _], _ => rfl), .nil⟩
theorem fn_Field_init (T : Tx K mg) {fd : FuncData} (F : FunD K "__init__" "Field.__init__" (defArgs s_Field_init) (defBody s_Field_init) (defScope s_Field_init) [(.bl false)] [] (He.fAd K ("Field", some "__init__")) fd) : FnOk P w K mg base (L2.CX P w) 1 (He.fAd K ("Field", some "__init__")) fd ["self", "name", "shape", "needed"] (sp_Field_init K) := by
  refine F.ok sc_Field_init (fun vs H Q E h => h.1) (fun cdv A outer s H vs Q E hr h => ⟨_, ?_, h.2⟩)
  refine PSs.nox ?_
  exact (pss_cons (ps_fld (pv 0) (pv 1) rfl)
        (pss_cons (ps_fld (pv 0) (pv 2) rfl)
        (pss_one (ps_fld (pv 0) (pv 3) rfl))))
theorem Tx.ok_Field_init (T : Tx K mg) : Mq P w K mg base 1 "Field" (He.ga K ("Field" : Str)) (sp_Field_init K) [] := by
  obtain ⟨fd, F⟩ := T.d_Field_init
  have ok := fn_Field_init (P := P) (w := w) (base := base) T F
  obtain ⟨ds, hv, b⟩ := FunD.binds1 (ps := ["self", "name", "shape", "needed"]) F 4 1 (by simp) (by simp) fun T kV doc pm an cdv ct us its hu hi => match us, its, hu, hi with | [_, _, _, _], [_], _, _ => ⟨_, rfl, rfl⟩
  exact ⟨_, fd, _, ds, T.mk_Field, ok, T.gc_Field, b, hv⟩
theorem Tx.ok_Field_init_1 (T : Tx K mg) : Mq P w K mg base 1 "Field" (He.ga K ("Field" : Str)) (sp_Field_init K) [(.bl false)] := by
  obtain ⟨fd, F⟩ := T.d_Field_init
  have ok := fn_Field_init (P := P) (w := w) (base := base) T F
  obtain ⟨ds, hv, b⟩ := FunD.binds1 (ps := ["self", "name", "shape", "needed"]) F 3 0 (by simp) (by simp) fun T kV doc pm an cdv ct us its hu hi => match us, its, hu, hi with | [_, _, _], [_], _, _ => ⟨_, rfl, rfl⟩
  exact ⟨_, fd, _, ds, T.mk_Field, ok, T.gc_Field, b, hv⟩
theorem fn_IntSort_init (T : Tx K mg) {fd : FuncData} (F : FunD K "__init__" "IntSort.__init__" (defArgs s_IntSort_init) (defBody s_IntSort_init) (defScope s_IntSort_init) [] [] (He.fAd K ("IntSort", some "__init__")) fd) : FnOk P w K mg base (L2.CX P w) 1 (He.fAd K ("IntSort", some "__init__")) fd ["self", "low", "high"] (sp_IntSort_init K) := by
  refine F.ok sc_IntSort_init (fun vs H Q E h => h.1) (fun cdv A outer s H vs Q E hr h => ⟨_, ?_, h.2⟩)
  refine PSs.nox ?_
  exact (pss_cons (ps_fld (pv 0) (pv 1) rfl)
        (pss_one (ps_fld (pv 0) (pv 2) rfl)))
theorem Tx.ok_IntSort_init (T : Tx K mg) : Mq P w K mg base 1 "IntSort" (He.ga K ("IntSort" : Str)) (sp_IntSort_init K) [] := by
  obtain ⟨fd, F⟩ := T.d_IntSort_init
  have ok := fn_IntSort_init (P := P) (w := w) (base := base) T F
  exact ⟨_, fd, _, [], T.mk_IntSort, ok, T.gc_IntSort, (FunD.bindsN F fun _ _ _ _ _ _ us hl => match us, hl with | [_, _, _], _ => rfl), .nil⟩
theorem fn_TextSort_init (T : Tx K mg) {fd : FuncData} (F : FunD K "__init__" "TextSort.__init__" (defArgs s_TextSort_init) (defBody s_TextSort_init) (defScope s_TextSort_init) [.non] [] (He.fAd K ("TextSort", some "__init__")) fd) : FnOk P w K mg base (L2.CX P w) 1 (He.fAd K ("TextSort", some "__init__")) fd ["self", "longest", "without"] (sp_TextSort_init K) := by
  refine F.ok sc_TextSort_init (fun vs H Q E h => h.1) (fun cdv A outer s H vs Q E hr h => ⟨_, ?_, h.2⟩)
  refine PSs.nox ?_
  exact (pss_cons (ps_fld (pv 0) (pv 1) rfl)
        (pss_one (ps_fld (pv 0) (pv 2) rfl)))
theorem Tx.ok_TextSort_init_1 (T : Tx K mg) : Mq P w K mg base 1 "TextSort" (He.ga K ("TextSort" : Str)) (sp_TextSort_init K) [.non] := by
  obtain ⟨fd, F⟩ := T.d_TextSort_init
  have ok := fn_TextSort_init (P := P) (w := w) (base := base) T F
  obtain ⟨ds, hv, b⟩ := FunD.binds1 (ps := ["self", "longest", "without"]) F 2 0 (by simp) (by simp) fun T kV doc pm an cdv ct us its hu hi => match us, its, hu, hi with | [_, _], [_], _, _ => ⟨_, rfl, rfl⟩
  exact ⟨_, fd, _, ds, T.mk_TextSort, ok, T.gc_TextSort, b, hv⟩
theorem fn_RefSort_init (T : Tx K mg) {fd : FuncData} (F : FunD K "__init__" "RefSort.__init__" (defArgs s_RefSort_init) (defBody s_RefSort_init) (defScope s_RefSort_init) [] [] (He.fAd K ("RefSort", some "__init__")) fd) : FnOk P w K mg base (L2.CX P w) 1 (He.fAd K ("RefSort", some "__init__")) fd ["self", "kinds", "rule"] (sp_RefSort_init K) := by
  refine F.ok sc_RefSort_init (fun vs H Q E h => h.1) (fun cdv A outer s H vs Q E hr h => ⟨_, ?_, h.2⟩)
  refine PSs.nox ?_
  exact (pss_cons (ps_fld (pv 0) (pe_callTy (CallR.or call_list_of (call_list_dK rfl)) (by rfl) T.b_list (by decide +kernel) (pa_cons (pv 1) pa_nil)) rfl)
        (pss_one (ps_fld (pv 0) (pv 2) rfl)))
theorem Tx.ok_RefSort_init (T : Tx K mg) : Mq P w K mg base 1 "RefSort" (He.ga K ("RefSort" : Str)) (sp_RefSort_init K) [] := by
  obtain ⟨fd, F⟩ := T.d_RefSort_init
  have ok := fn_RefSort_init (P := P) (w := w) (base := base) T F
  exact ⟨_, fd, _, [], T.mk_RefSort, ok, T.gc_RefSort, (FunD.bindsN F fun _ _ _ _ _ _ us hl => match us, hl with | [_, _, _], _ => rfl), .nil⟩
theorem fn_ListSort_init (T : Tx K mg) {fd : FuncData} (F : FunD K "__init__" "ListSort.__init__" (defArgs s_ListSort_init) (defBody s_ListSort_init) (defScope s_ListSort_init) [] [] (He.fAd K ("ListSort", some "__init__")) fd) : FnOk P w K mg base (L2.CX P w) 1 (He.fAd K ("ListSort", some "__init__")) fd ["self", "kinds"] (sp_ListSort_init K) := by
  refine F.ok sc_ListSort_init (fun vs H Q E h => h.1) (fun cdv A outer s H vs Q E hr h => ⟨_, ?_, h.2⟩)
  refine PSs.nox ?_
  exact (pss_one (ps_fld (pv 0) (pe_callTy (CallR.or call_list_of (call_list_dK rfl)) (by rfl) T.b_list (by decide +kernel) (pa_cons (pv 1) pa_nil)) rfl))
theorem Tx.ok_ListSort_init (T : Tx K mg) : Mq P w K mg base 1 "ListSort" (He.ga K ("ListSort" : Str)) (sp_ListSort_init K) [] := by
  obtain ⟨fd, F⟩ := T.d_ListSort_init
  have ok := fn_ListSort_init (P := P) (w := w) (base := base) T F
  exact ⟨_, fd, _, [], T.mk_ListSort, ok, T.gc_ListSort, (FunD.bindsN F fun _ _ _ _ _ _ us hl => match us, hl with | [_, _], _ => rfl), .nil⟩
theorem fn_Schema_init (T : Tx K mg) {fd : FuncData} (F : FunD K "__init__" "Schema.__init__" (defArgs s_Schema_init) (defBody s_Schema_init) (defScope s_Schema_init) [] [] (He.fAd K ("Schema", some "__init__")) fd) : FnOk P w K mg base (L2.CX P w) 1 (He.fAd K ("Schema", some "__init__")) fd ["self", "kinds"] (sp_Schema_init K) := by
  refine F.ok sc_Schema_init (fun vs H Q E h => h.1) (fun cdv A outer s H vs Q E hr h => ⟨_, ?_, h.2⟩)
  refine PSs.nox ?_
  exact (pss_one (ps_fld (pv 0) (pe_callTy (CallR.or call_list_of (call_list_dK rfl)) (by rfl) T.b_list (by decide +kernel) (pa_cons (pv 1) pa_nil)) rfl))
theorem Tx.ok_Schema_init (T : Tx K mg) : Mq P w K mg base 1 "Schema" (He.ga K ("Schema" : Str)) (sp_Schema_init K) [] := by
  obtain ⟨fd, F⟩ := T.d_Schema_init
  have ok := fn_Schema_init (P := P) (w := w) (base := base) T F
  exact ⟨_, fd, _, [], T.mk_Schema, ok, T.gc_Schema, (FunD.bindsN F fun _ _ _ _ _ _ us hl => match us, hl with | [_, _], _ => rfl), .nil⟩
theorem fn__law_schema (T : Tx K mg) {fd : FuncData} (F : FunD K "_law_schema" "_law_schema" (defArgs s__law_schema) (defBody s__law_schema) (defScope s__law_schema) [] [] (He.fAd K ("_law_schema", none)) fd) : FnOk P w K mg base (L2.CX P w) 3 (He.fAd K ("_law_schema", none)) fd ["_law_rules_here", "_law_needed"] (sp__law_schema K) := by
  refine F.ok sc__law_schema (fun vs H Q E h => h.1) (fun cdv A outer s H vs Q E hr h => ⟨_, ?_, h.2⟩)
  refine PSs.nox ?_
  exact (pss_cons (ps_set (i := 2) sc__law_schema.nd rfl (by first | exact Or.inl rfl | exact Or.inr rfl) (pe_mq (T.ok_Kind_init) hr (by decide) rfl (pa_cons (pe_strE e_A) (pa_cons (pe_lst (pa_cons (pe_mq (T.ok_Field_init) hr (by decide) rfl (pa_cons (pe_strE e_a) (pa_cons (pe_mq (T.ok_IntSort_init) hr (by decide) rfl (pa_cons pe_int (pa_cons pe_int pa_nil))) (pa_cons (pv 1) pa_nil)))) (pa_cons (pe_mq (T.ok_Field_init_1) hr (by decide) rfl (pa_cons (pe_strE e_t) (pa_cons (pe_mq (T.ok_TextSort_init_1) hr (by decide) rfl (pa_cons pe_int pa_nil)) pa_nil))) (pa_cons (pe_mq (T.ok_Field_init_1) hr (by decide) rfl (pa_cons (pe_strE e_r) (pa_cons (pe_mq (T.ok_RefSort_init) hr (by decide) rfl (pa_cons (pe_lst (pa_cons (pe_strE e_A) (pa_cons (pe_strE e_B) pa_nil))) (pa_cons (pe_ix ix_seq (pv 0) pe_int fun _ _ => rfl) pa_nil))) pa_nil))) (pa_cons (pe_mq (T.ok_Field_init_1) hr (by decide) rfl (pa_cons (pe_strE e_l) (pa_cons (pe_mq (T.ok_ListSort_init) hr (by decide) rfl (pa_cons (pe_lst (pa_cons (pe_strE e_A) pa_nil)) pa_nil)) pa_nil))) pa_nil))))) (pa_cons (pe_lst (pa_cons (pe_lst (pa_cons (pe_strE e_a) (pa_cons (pe_strE e_t) pa_nil))) pa_nil)) pa_nil)))))
        (pss_cons (ps_set (i := 3) sc__law_schema.nd rfl (by first | exact Or.inl rfl | exact Or.inr rfl) (pe_mq (T.ok_Kind_init) hr (by decide) rfl (pa_cons (pe_strE e_B) (pa_cons (pe_lst (pa_cons (pe_mq (T.ok_Field_init) hr (by decide) rfl (pa_cons (pe_strE e_p) (pa_cons (pe_mq (T.ok_RefSort_init) hr (by decide) rfl (pa_cons (pe_lst (pa_cons (pe_strE e_A) pa_nil)) (pa_cons (pe_ix ix_seq (pv 0) pe_int fun _ _ => rfl) pa_nil))) (pa_cons (pv 1) pa_nil)))) (pa_cons (pe_mq (T.ok_Field_init_1) hr (by decide) rfl (pa_cons (pe_strE e_q) (pa_cons (pe_mq (T.ok_RefSort_init) hr (by decide) rfl (pa_cons (pe_lst (pa_cons (pe_strE e_B) pa_nil)) (pa_cons (pe_ix ix_seq (pv 0) pe_int fun _ _ => rfl) pa_nil))) pa_nil))) (pa_cons (pe_mq (T.ok_Field_init_1) hr (by decide) rfl (pa_cons (pe_strE e_m) (pa_cons (pe_mq (T.ok_ListSort_init) hr (by decide) rfl (pa_cons (pe_lst (pa_cons (pe_strE e_A) (pa_cons (pe_strE e_B) pa_nil))) pa_nil)) pa_nil))) pa_nil)))) (pa_cons (pe_lst (pa_cons (pe_lst (pa_cons (pe_strE e_q) pa_nil)) pa_nil)) pa_nil)))))
        (pss_one (ps_ret (pe_mq (T.ok_Schema_init) hr (by decide) rfl (pa_cons (pe_lst (pa_cons (pv 2) (pa_cons (pv 3) pa_nil))) pa_nil))))))
theorem Tx.ok__law_schema (T : Tx K mg) : Cl P w K mg base 3 "_law_schema" (sp__law_schema K) [] := by
  obtain ⟨fd, F⟩ := T.d__law_schema
  have ok := fn__law_schema (P := P) (w := w) (base := base) T F
  exact ⟨_, fd, _, [], ok, T.g__law_schema, F.kp, (FunD.bindsN F fun _ _ _ _ _ _ us hl => match us, hl with | [_, _], _ => rfl), .nil⟩
theorem fn__law_draw (T : Tx K mg) {fd : FuncData} (F : FunD K "_law_draw" "_law_draw" (defArgs s__law_draw) (defBody s__law_draw) (defScope s__law_draw) [] [] (He.fAd K ("_law_draw", none)) fd) : FnOk P w K mg base (L2.CX P w) 1 (He.fAd K ("_law_draw", none)) fd ["_law_draws", "_law_bound"] (sp__law_draw K) := by
  refine F.ok sc__law_draw (fun vs H Q E h => h.1) (fun cdv A outer s H vs Q E hr h => ⟨_, ?_, h.2⟩)
  refine PSs.nox ?_
  exact (C8.pss_cut (ps_if (PW.pt (pw_and (pt_cmpR (op_eqX hr.units) (pe_ix ix_seq (pv 0) pe_int fun _ _ => rfl) pe_int (nomark _)) (pw_and1 (pt_cmpR op_gtX (pe_callB call_len (by rfl) T.b_len boot_len (pa_cons (pv 0) pa_nil)) pe_int (nomark _)))))
        (pss_one (ps_expr (pe_bm PySem.F.plainAttrs_list PySem.F.slot_list_pop PySem.F.type_list_pop (MtR.or mt_pop mt_popAt) (pv 0) (pa_cons pe_int pa_nil))))
        pss_nil)
        (pss_cons (ps_set (i := 2) sc__law_draw.nd rfl (by first | exact Or.inl rfl | exact Or.inr rfl) (pe_op op_modX (pe_callTy (CallR.or call_int1 call_int_str) (by rfl) T.b_int (by decide +kernel) (pa_cons (pe_ix ix_seq (pv 0) pe_int fun _ _ => rfl) pa_nil)) (pv 1)))
        (pss_cons (ps_asg (pe_op op_divX (pe_ix ix_seq (pv 0) pe_int fun _ _ => rfl) (pv 1)) (pg_sub (pv 0) pe_int set_list))
        (pss_one (ps_ret (pv 2))))))
theorem Tx.ok__law_draw (T : Tx K mg) : Cl P w K mg base 1 "_law_draw" (sp__law_draw K) [] := by
  obtain ⟨fd, F⟩ := T.d__law_draw
  have ok := fn__law_draw (P := P) (w := w) (base := base) T F
  exact ⟨_, fd, _, [], ok, T.g__law_draw, F.kp, (FunD.bindsN F fun _ _ _ _ _ _ us hl => match us, hl with | [_, _], _ => rfl), .nil⟩
theorem fn__law_pick (T : Tx K mg) {fd : FuncData} (F : FunD K "_law_pick" "_law_pick" (defArgs s__law_pick) (defBody s__law_pick) (defScope s__law_pick) [] [] (He.fAd K ("_law_pick", none)) fd) : FnOk P w K mg base (L2.CX P w) 2 (He.fAd K ("_law_pick", none)) fd ["_law_draws", "_law_row"] (sp__law_pick K) := by
  refine F.ok sc__law_pick (fun vs H Q E h => h.1) (fun cdv A outer s H vs Q E hr h => ⟨_, ?_, h.2⟩)
  refine PSs.nox ?_
  exact (pss_one (ps_ret (pe_ix ix_seq (pv 1) (pe_cl (T.ok__law_draw) hr (by decide) (fun _ => pz) rfl (pa_cons (pv 0) (pa_cons (pe_callB call_len (by rfl) T.b_len boot_len (pa_cons (pv 1) pa_nil)) pa_nil))) fun _ _ => rfl)))
theorem Tx.ok__law_pick (T : Tx K mg) : Cl P w K mg base 2 "_law_pick" (sp__law_pick K) [] := by
  obtain ⟨fd, F⟩ := T.d__law_pick
  have ok := fn__law_pick (P := P) (w := w) (base := base) T F
  exact ⟨_, fd, _, [], ok, T.g__law_pick, F.kp, (FunD.bindsN F fun _ _ _ _ _ _ us hl => match us, hl with | [_, _], _ => rfl), .nil⟩
theorem fn__law_rules (T : Tx K mg) {fd : FuncData} (F : FunD K "_law_rules" "_law_rules" (defArgs s__law_rules) (defBody s__law_rules) (defScope s__law_rules) [] [] (He.fAd K ("_law_rules", none)) fd) : FnOk P w K mg base (L2.CX P w) 3 (He.fAd K ("_law_rules", none)) fd ["_law_draws"] (sp__law_rules K) := by
  refine F.ok sc__law_rules (fun vs H Q E h => h.1) (fun cdv A outer s H vs Q E hr h => ⟨_, ?_, h.2⟩)
  refine PSs.nox ?_
  exact (pss_one (ps_ret (pe_lc (own := [("_law_turn", 1)]) rfl sc__law_rules.nd (pi_range1 rfl T.b_range (pa_cons pe_int pa_nil)) (blkOk_by (N := ["_law_draws", "_law_turn"]) (sc := defScope s__law_rules) (own := [("_law_turn", 1)]) (by decide +kernel)) (fun _ _ _ _ _ => (pg_name (i := 1) sc__law_rules.nd rfl (by first | exact Or.inl rfl | exact Or.inr rfl))) (fun _ _ _ _ _ => pts_nil) (fun _ _ _ _ _ => (pe_cl (T.ok__law_pick) hr (by decide) (fun _ => pz) rfl (pa_cons (pv 0) (pa_cons (pe_lst (pa_cons (pe_strE e_clears) (pa_cons (pe_strE e_refuses) (pa_cons (pe_strE e_takes) pa_nil)))) pa_nil)))))))
theorem Tx.ok__law_rules (T : Tx K mg) : Cl P w K mg base 3 "_law_rules" (sp__law_rules K) [] := by
  obtain ⟨fd, F⟩ := T.d__law_rules
  have ok := fn__law_rules (P := P) (w := w) (base := base) T F
  exact ⟨_, fd, _, [], ok, T.g__law_rules, F.kp, (FunD.bindsN F fun _ _ _ _ _ _ us hl => match us, hl with | [_], _ => rfl), .nil⟩
theorem fn_content_copy (T : Tx K mg) {fd : FuncData} (F : FunD K "content_copy" "content_copy" (defArgs s_content_copy) (defBody s_content_copy) (defScope s_content_copy) [] [] (He.fAd K ("content_copy", none)) fd) : FnOk P w K mg base (L2.CX P w) 1 (He.fAd K ("content_copy", none)) fd ["content"] (sp_content_copy K) := by
  refine F.ok sc_content_copy (fun vs H Q E h => h.1) (fun cdv A outer s H vs Q E hr h => ⟨_, ?_, h.2⟩)
  refine PSs.nox ?_
  exact (pss_cons (ps_if (pt_truth (pe_callB call_isi (by rfl) T.b_isinstance (by decide +kernel) (pa_cons (pv 0) (pa_cons (pe_bltn (by rfl) T.b_list (by decide +kernel) rfl) pa_nil))) fun _ => rfl)
        (pss_one (ps_ret (pe_callTy (CallR.or call_list_of (call_list_dK rfl)) (by rfl) T.b_list (by decide +kernel) (pa_cons (pv 0) pa_nil))))
        pss_nil)
        (pss_one (ps_ret (pv 0))))
theorem Tx.ok_content_copy (T : Tx K mg) : Cl P w K mg base 1 "content_copy" (sp_content_copy K) [] := by
  obtain ⟨fd, F⟩ := T.d_content_copy
  have ok := fn_content_copy (P := P) (w := w) (base := base) T F
  exact ⟨_, fd, _, [], ok, T.g_content_copy, F.kp, (FunD.bindsN F fun _ _ _ _ _ _ us hl => match us, hl with | [_], _ => rfl), .nil⟩
theorem fn_Thing_init (T : Tx K mg) {fd : FuncData} (F : FunD K "__init__" "Thing.__init__" (defArgs s_Thing_init) (defBody s_Thing_init) (defScope s_Thing_init) [] [] (He.fAd K ("Thing", some "__init__")) fd) : FnOk P w K mg base (L2.CX P w) 2 (He.fAd K ("Thing", some "__init__")) fd ["self", "kind", "contents"] (sp_Thing_init K) := by
  refine F.ok sc_Thing_init (fun vs H Q E h => h.1) (fun cdv A outer s H vs Q E hr h => ⟨_, ?_, h.2⟩)
  refine PSs.nox ?_
  exact (pss_cons (ps_fld (pv 0) (pv 1) rfl)
        (pss_one (ps_fld (pv 0) (pe_fz (pe_dc (own := [("name", 3)]) rfl sc_Thing_init.nd (pi_keys (pv 2)) (blkOk_by (N := ["self", "kind", "contents", "name"]) (sc := defScope s_Thing_init) (own := [("name", 3)]) (by decide +kernel)) (fun _ _ _ _ _ => (pg_name (i := 3) sc_Thing_init.nd rfl (by first | exact Or.inl rfl | exact Or.inr rfl))) (fun _ _ _ _ _ => pts_nil) (fun _ _ _ _ _ => (pv 3)) (fun _ _ _ _ _ => (pe_cl (T.ok_content_copy) hr (by decide) (fun _ => pz) rfl (pa_cons (pe_dget (u1 hr) (pv 2) (pv 3) fun _ _ => rfl) pa_nil))))) rfl)))
theorem Tx.ok_Thing_init (T : Tx K mg) : Mq P w K mg base 2 "Thing" (He.ga K ("Thing" : Str)) (sp_Thing_init K) [] := by
  obtain ⟨fd, F⟩ := T.d_Thing_init
  have ok := fn_Thing_init (P := P) (w := w) (base := base) T F
  exact ⟨_, fd, _, [], T.mk_Thing, ok, T.gc_Thing, (FunD.bindsN F fun _ _ _ _ _ _ us hl => match us, hl with | [_, _, _], _ => rfl), .nil⟩
theorem fn__law_number (T : Tx K mg) {fd : FuncData} (F : FunD K "_law_number" "_law_number" (defArgs s__law_number) (defBody s__law_number) (defScope s__law_number) [] [] (He.fAd K ("_law_number", none)) fd) : FnOk P w K mg base (L2.CX P w) 2 (He.fAd K ("_law_number", none)) fd ["_law_draws"] (sp__law_number K) := by
  refine F.ok sc__law_number (fun vs H Q E h => h.1) (fun cdv A outer s H vs Q E hr h => ⟨_, ?_, h.2⟩)
  refine PSs.nox ?_
  exact (pss_cons (ps_set (i := 1) sc__law_number.nd rfl (by first | exact Or.inl rfl | exact Or.inr rfl) (pe_cl (T.ok__law_draw) hr (by decide) (fun _ => pz) rfl (pa_cons (pv 0) (pa_cons pe_int pa_nil))))
        (pss_cons (ps_if (pt_cmpR (op_eqX hr.units) (pv 1) pe_int (nomark _))
        (pss_one (ps_ret pe_non))
        pss_nil)
        (pss_one (ps_ret (pv 1)))))
theorem Tx.ok__law_number (T : Tx K mg) : Cl P w K mg base 2 "_law_number" (sp__law_number K) [] := by
  obtain ⟨fd, F⟩ := T.d__law_number
  have ok := fn__law_number (P := P) (w := w) (base := base) T F
  exact ⟨_, fd, _, [], ok, T.g__law_number, F.kp, (FunD.bindsN F fun _ _ _ _ _ _ us hl => match us, hl with | [_], _ => rfl), .nil⟩
theorem fn__law_list (T : Tx K mg) {fd : FuncData} (F : FunD K "_law_list" "_law_list" (defArgs s__law_list) (defBody s__law_list) (defScope s__law_list) [] [] (He.fAd K ("_law_list", none)) fd) : FnOk P w K mg base (L2.CX P w) 2 (He.fAd K ("_law_list", none)) fd ["_law_draws"] (sp__law_list K) := by
  refine F.ok sc__law_list (fun vs H Q E h => h.1) (fun cdv A outer s H vs Q E hr h => ⟨_, ?_, h.2⟩)
  refine PSs.nox ?_
  exact (pss_cons (ps_set (i := 1) sc__law_list.nd rfl (by first | exact Or.inl rfl | exact Or.inr rfl) (pe_lst pa_nil))
        (pss_cons (ps_for PassesOwn.never rfl (pi_range1 rfl T.b_range (pa_cons (pe_cl (T.ok__law_draw) hr (by decide) (fun _ => pz) rfl (pa_cons (pv 0) (pa_cons pe_int pa_nil))) pa_nil)) (pg_name (i := 2) sc__law_list.nd rfl (by first | exact Or.inl rfl | exact Or.inr rfl))
        (pss_cons (ps_set (i := 3) sc__law_list.nd rfl (by first | exact Or.inl rfl | exact Or.inr rfl) (pe_op op_addX pe_int (pe_cl (T.ok__law_draw) hr (by decide) (fun _ => pz) rfl (pa_cons (pv 0) (pa_cons pe_int pa_nil)))))
        (pss_one (ps_if (pt_cmpR op_notInX (pv 3) (pv 1) (by rfl))
        (pss_one (ps_expr (pe_bm PySem.F.plainAttrs_list PySem.F.slot_list_append PySem.F.type_list_append mt_append (pv 1) (pa_cons (pv 3) pa_nil))))
        pss_nil))))
        (pss_one (ps_ret (pv 1)))))
theorem Tx.ok__law_list (T : Tx K mg) : Cl P w K mg base 2 "_law_list" (sp__law_list K) [] := by
  obtain ⟨fd, F⟩ := T.d__law_list
  have ok := fn__law_list (P := P) (w := w) (base := base) T F
  exact ⟨_, fd, _, [], ok, T.g__law_list, F.kp, (FunD.bindsN F fun _ _ _ _ _ _ us hl => match us, hl with | [_], _ => rfl), .nil⟩
theorem fn__law_contents (T : Tx K mg) {fd : FuncData} (F : FunD K "_law_contents" "_law_contents" (defArgs s__law_contents) (defBody s__law_contents) (defScope s__law_contents) [] [] (He.fAd K ("_law_contents", none)) fd) : FnOk P w K mg base (L2.CX P w) 3 (He.fAd K ("_law_contents", none)) fd ["_law_draws", "_law_kind"] (sp__law_contents K) := by
  refine F.ok sc__law_contents (fun vs H Q E h => h.1) (fun cdv A outer s H vs Q E hr h => ⟨_, ?_, h.2⟩)
  refine PSs.nox ?_
  exact (pss_cons (ps_set (i := 2) sc__law_contents.nd rfl (by first | exact Or.inl rfl | exact Or.inr rfl) pe_dnewK)
        (pss_cons (ps_if (pt_cmpR (op_eqX hr.units) (pv 1) (pe_strE e_A) (nomark _))
        (pss_cons (ps_dput (u1 hr) (pv 2) (pe_strE e_a) (pe_cl (T.ok__law_pick) hr (by decide) (fun _ => pz) rfl (pa_cons (pv 0) (pa_cons (pe_lst (pa_cons pe_non (pa_cons pe_int (pa_cons pe_int (pa_cons pe_int (pa_cons pe_int pa_nil)))))) pa_nil))) rfl)
        (pss_cons (ps_dput (u1 hr) (pv 2) (pe_strE e_t) (pe_cl (T.ok__law_pick) hr (by decide) (fun _ => pz) rfl (pa_cons (pv 0) (pa_cons (pe_lst (pa_cons pe_non (pa_cons (pe_strE e_empty) (pa_cons (pe_strE e_b) (pa_cons (pe_strE e_ab) pa_nil))))) pa_nil))) rfl)
        (pss_cons (ps_dput (u1 hr) (pv 2) (pe_strE e_r) (pe_cl (T.ok__law_number) hr (by decide) (fun _ => pz) rfl (pa_cons (pv 0) pa_nil)) rfl)
        (pss_cons (ps_dput (u1 hr) (pv 2) (pe_strE e_l) (pe_cl (T.ok__law_list) hr (by decide) (fun _ => pz) rfl (pa_cons (pv 0) pa_nil)) rfl)
        (pss_one (ps_ret (pe_fz (pv 2))))))))
        pss_nil)
        (pss_cons (ps_dput (u1 hr) (pv 2) (pe_strE e_p) (pe_cl (T.ok__law_number) hr (by decide) (fun _ => pz) rfl (pa_cons (pv 0) pa_nil)) rfl)
        (pss_cons (ps_dput (u1 hr) (pv 2) (pe_strE e_q) (pe_cl (T.ok__law_number) hr (by decide) (fun _ => pz) rfl (pa_cons (pv 0) pa_nil)) rfl)
        (pss_cons (ps_dput (u1 hr) (pv 2) (pe_strE e_m) (pe_cl (T.ok__law_list) hr (by decide) (fun _ => pz) rfl (pa_cons (pv 0) pa_nil)) rfl)
        (pss_one (ps_ret (pe_fz (pv 2)))))))))
theorem Tx.ok__law_contents (T : Tx K mg) : Cl P w K mg base 3 "_law_contents" (sp__law_contents K) [] := by
  obtain ⟨fd, F⟩ := T.d__law_contents
  have ok := fn__law_contents (P := P) (w := w) (base := base) T F
  exact ⟨_, fd, _, [], ok, T.g__law_contents, F.kp, (FunD.bindsN F fun _ _ _ _ _ _ us hl => match us, hl with | [_, _], _ => rfl), .nil⟩
theorem fn__law_picture (T : Tx K mg) {fd : FuncData} (F : FunD K "_law_picture" "_law_picture" (defArgs s__law_picture) (defBody s__law_picture) (defScope s__law_picture) [] [] (He.fAd K ("_law_picture", none)) fd) : FnOk P w K mg base (L2.CX P w) 4 (He.fAd K ("_law_picture", none)) fd ["_law_draws"] (sp__law_picture K) := by
  refine F.ok sc__law_picture (fun vs H Q E h => h.1) (fun cdv A outer s H vs Q E hr h => ⟨_, ?_, h.2⟩)
  refine PSs.nox ?_
  exact (pss_cons (ps_set (i := 1) sc__law_picture.nd rfl (by first | exact Or.inl rfl | exact Or.inr rfl) pe_dnewK)
        (pss_cons (ps_for PassesOwn.never rfl (pi_range1 rfl T.b_range (pa_cons (pe_cl (T.ok__law_draw) hr (by decide) (fun _ => pz) rfl (pa_cons (pv 0) (pa_cons pe_int pa_nil))) pa_nil)) (pg_name (i := 2) sc__law_picture.nd rfl (by first | exact Or.inl rfl | exact Or.inr rfl))
        (pss_cons (ps_set (i := 3) sc__law_picture.nd rfl (by first | exact Or.inl rfl | exact Or.inr rfl) (pe_op op_addX pe_int (pe_cl (T.ok__law_draw) hr (by decide) (fun _ => pz) rfl (pa_cons (pv 0) (pa_cons pe_int pa_nil)))))
        (pss_cons (ps_set (i := 4) sc__law_picture.nd rfl (by first | exact Or.inl rfl | exact Or.inr rfl) (pe_cl (T.ok__law_pick) hr (by decide) (fun _ => pz) rfl (pa_cons (pv 0) (pa_cons (pe_lst (pa_cons (pe_strE e_A) (pa_cons (pe_strE e_B) pa_nil))) pa_nil))))
        (pss_one (ps_dput (u1 hr) (pv 1) (pv 3) (pe_mq (T.ok_Thing_init) hr (by decide) rfl (pa_cons (pv 4) (pa_cons (pe_cl (T.ok__law_contents) hr (by decide) (fun _ => pz) rfl (pa_cons (pv 0) (pa_cons (pv 4) pa_nil))) pa_nil))) rfl)))))
        (pss_one (ps_ret (pe_fz (pv 1))))))
theorem Tx.ok__law_picture (T : Tx K mg) : Cl P w K mg base 4 "_law_picture" (sp__law_picture K) [] := by
  obtain ⟨fd, F⟩ := T.d__law_picture
  have ok := fn__law_picture (P := P) (w := w) (base := base) T F
  exact ⟨_, fd, _, [], ok, T.g__law_picture, F.kp, (FunD.bindsN F fun _ _ _ _ _ _ us hl => match us, hl with | [_], _ => rfl), .nil⟩
theorem fn__law_shown (T : Tx K mg) {fd : FuncData} (F : FunD K "_law_shown" "_law_shown" (defArgs s__law_shown) (defBody s__law_shown) (defScope s__law_shown) [] [] (He.fAd K ("_law_shown", none)) fd) : FnG P w K mg base 1 (He.fAd K ("_law_shown", none)) fd ["_law_picture_here"] (sp__law_shown K) := by
  refine fnG F sc__law_shown (fun vs H Q E h => h.1) (fun cdv A outer s H vs Q E gd hr h => ⟨_, ?_, h.2⟩)
  refine PSs.nox ?_
  exact (pss_one (ps_ret (pe_lc (own := [("_law_number_here", 1)]) rfl sc__law_shown.nd (pi_any (pe_callB cr_sortedI (by rfl) T.b_sorted (by decide +kernel) (pa_cons (pe_callTy (call_listDk rfl) (by rfl) T.b_list (by decide +kernel) (pa_cons (pv 0) pa_nil)) pa_nil))) (blkOk_by (N := ["_law_picture_here", "_law_number_here"]) (sc := defScope s__law_shown) (own := [("_law_number_here", 1)]) (by decide +kernel)) (fun _ _ _ _ _ => (pg_name (i := 1) sc__law_shown.nd rfl (by first | exact Or.inl rfl | exact Or.inr rfl))) (fun _ _ _ _ _ => pts_nil) (fun _ _ _ _ _ => (pe_tup (pa_cons (pv 1) (pa_cons (pe_fld (pe_dget (u1 hr) (pv 0) (pv 1) fun _ _ => rfl) rfl) (pa_cons (pe_callB (call_repr gd hr.units) (by rfl) T.b_repr (by decide +kernel) (pa_cons (pe_fld (pe_dget (u1 hr) (pv 0) (pv 1) fun _ _ => rfl) rfl) pa_nil)) pa_nil))))))))
theorem Tx.ok__law_shown (T : Tx K mg) : ClG P w K mg base 1 "_law_shown" (sp__law_shown K) [] := by
  obtain ⟨fd, F⟩ := T.d__law_shown
  have ok := fn__law_shown (P := P) (w := w) (base := base) T F
  exact ⟨_, fd, _, [], ok, T.g__law_shown, F.kp, (FunD.bindsN F fun _ _ _ _ _ _ us hl => match us, hl with | [_], _ => rfl), .nil⟩
theorem fn_is_link (T : Tx K mg) {fd : FuncData} (F : FunD K "is_link" "is_link" (defArgs s_is_link) (defBody s_is_link) (defScope s_is_link) [] [] (He.fAd K ("is_link", none)) fd) : FnOk P w K mg base (L2.CX P w) 1 (He.fAd K ("is_link", none)) fd ["sort"] (sp_is_link K) := by
  refine F.ok sc_is_link (fun vs H Q E h => h.1) (fun cdv A outer s H vs Q E hr h => ⟨_, ?_, h.2⟩)
  refine PSs.nox ?_
  exact (pss_one (ps_ret (pe_or (pe_callB call_isi (by rfl) T.b_isinstance (by decide +kernel) (pa_cons (pv 0) (pa_cons (pe_glob rfl T.gc_RefSort rfl) pa_nil))) (pe_one (pe_callB call_isi (by rfl) T.b_isinstance (by decide +kernel) (pa_cons (pv 0) (pa_cons (pe_glob rfl T.gc_ListSort rfl) pa_nil)))))))
theorem Tx.ok_is_link (T : Tx K mg) : Cl P w K mg base 1 "is_link" (sp_is_link K) [] := by
  obtain ⟨fd, F⟩ := T.d_is_link
  have ok := fn_is_link (P := P) (w := w) (base := base) T F
  exact ⟨_, fd, _, [], ok, T.g_is_link, F.kp, (FunD.bindsN F fun _ _ _ _ _ _ us hl => match us, hl with | [_], _ => rfl), .nil⟩
theorem fn_cleared (T : Tx K mg) {fd : FuncData} (F : FunD K "cleared" "cleared" (defArgs s_cleared) (defBody s_cleared) (defScope s_cleared) [] [] (He.fAd K ("cleared", none)) fd) : FnOk P w K mg base (L2.CX P w) 1 (He.fAd K ("cleared", none)) fd ["content", "going"] (sp_cleared K) := by
  refine F.ok sc_cleared (fun vs H Q E h => h.1) (fun cdv A outer s H vs Q E hr h => ⟨_, ?_, h.2⟩)
  refine PSs.nox ?_
  exact (pss_cons (ps_if (pt_truth (pe_callB call_isi (by rfl) T.b_isinstance (by decide +kernel) (pa_cons (pv 0) (pa_cons (pe_bltn (by rfl) T.b_list (by decide +kernel) rfl) pa_nil))) fun _ => rfl)
        (pss_one (ps_ret (pe_lc (own := [("number", 2)]) rfl sc_cleared.nd (pi_any (pv 0)) (blkOk_by (N := ["content", "going", "number"]) (sc := defScope s_cleared) (own := [("number", 2)]) (by decide +kernel)) (fun _ _ _ _ _ => (pg_name (i := 2) sc_cleared.nd rfl (by first | exact Or.inl rfl | exact Or.inr rfl))) (fun _ _ _ _ _ => pts_one (pt_cmpR op_notInX (pv 2) (pv 1) (by rfl))) (fun _ _ _ _ _ => (pv 2)))))
        pss_nil)
        (pss_cons (ps_if (pt_cmpR op_inX (pv 0) (pv 1) (by rfl))
        (pss_one (ps_ret pe_non))
        pss_nil)
        (pss_one (ps_ret (pv 0)))))
theorem Tx.ok_cleared (T : Tx K mg) : Cl P w K mg base 1 "cleared" (sp_cleared K) [] := by
  obtain ⟨fd, F⟩ := T.d_cleared
  have ok := fn_cleared (P := P) (w := w) (base := base) T F
  exact ⟨_, fd, _, [], ok, T.g_cleared, F.kp, (FunD.bindsN F fun _ _ _ _ _ _ us hl => match us, hl with | [_, _], _ => rfl), .nil⟩
theorem fn_cleared_thing (T : Tx K mg) {fd : FuncData} (F : FunD K "cleared_thing" "cleared_thing" (defArgs s_cleared_thing) (defBody s_cleared_thing) (defScope s_cleared_thing) [] [] (He.fAd K ("cleared_thing", none)) fd) : FnOk P w K mg base (L2.CX P w) 4 (He.fAd K ("cleared_thing", none)) fd ["kind", "thing", "gone"] (sp_cleared_thing K) := by
  refine F.ok sc_cleared_thing (fun vs H Q E h => h.1) (fun cdv A outer s H vs Q E hr h => ⟨_, ?_, h.2⟩)
  refine PSs.nox ?_
  exact (pss_cons (ps_set (i := 3) sc_cleared_thing.nd rfl (by first | exact Or.inl rfl | exact Or.inr rfl) pe_dnewK)
        (pss_cons (ps_for PassesOwn.never rfl (pi_any (pe_fld (pv 0) rfl)) (pg_name (i := 4) sc_cleared_thing.nd rfl (by first | exact Or.inl rfl | exact Or.inr rfl))
        (pss_cons (ps_set (i := 5) sc_cleared_thing.nd rfl (by first | exact Or.inl rfl | exact Or.inr rfl) (pe_dget (u1 hr) (pe_fld (pv 1) rfl) (pe_fld (pv 4) rfl) fun _ _ => rfl))
        (C8.pss_cut (ps_if (pt_truth (pe_cl (T.ok_is_link) hr (by decide) (fun _ => pz) rfl (pa_cons (pe_fld (pv 4) rfl) pa_nil)) fun _ => rfl)
        (pss_one (ps_set (i := 5) sc_cleared_thing.nd rfl (by first | exact Or.inl rfl | exact Or.inr rfl) (pe_cl (T.ok_cleared) hr (by decide) (fun _ => pz) rfl (pa_cons (pv 5) (pa_cons (pv 2) pa_nil)))))
        pss_nil)
        (pss_one (ps_dput (u1 hr) (pv 3) (pe_fld (pv 4) rfl) (pv 5) rfl)))))
        (pss_one (ps_ret (pe_mq (T.ok_Thing_init) hr (by decide) rfl (pa_cons (pe_fld (pv 1) rfl) (pa_cons (pe_fz (pv 3)) pa_nil)))))))
theorem Tx.ok_cleared_thing (T : Tx K mg) : Cl P w K mg base 4 "cleared_thing" (sp_cleared_thing K) [] := by
  obtain ⟨fd, F⟩ := T.d_cleared_thing
  have ok := fn_cleared_thing (P := P) (w := w) (base := base) T F
  exact ⟨_, fd, _, [], ok, T.g_cleared_thing, F.kp, (FunD.bindsN F fun _ _ _ _ _ _ us hl => match us, hl with | [_, _, _], _ => rfl), .nil⟩
theorem fn_Schema_kind_of (T : Tx K mg) {fd : FuncData} (F : FunD K "kind_of" "Schema.kind_of" (defArgs s_Schema_kind_of) (defBody s_Schema_kind_of) (defScope s_Schema_kind_of) [] [] (He.fAd K ("Schema", some "kind_of")) fd) : FnOk P w K mg base (L2.CX P w) 1 (He.fAd K ("Schema", some "kind_of")) fd ["self", "name"] (sp_Schema_kind_of K) := by
  refine F.ok sc_Schema_kind_of (fun vs H Q E h => h.1) (fun cdv A outer s H vs Q E hr h => ⟨_, ?_, h.2⟩)
  refine PSs.nox ?_
  exact (pss_cons (ps_for PassesOwn.never rfl (pi_any (pe_fld (pv 0) rfl)) (pg_name (i := 2) sc_Schema_kind_of.nd rfl (by first | exact Or.inl rfl | exact Or.inr rfl))
        (pss_one (ps_if (pt_cmpR (op_eqX hr.units) (pe_fld (pv 2) rfl) (pv 1) (nomark _))
        (pss_one (ps_ret (pv 2)))
        pss_nil)))
        (pss_one (ps_ret pe_non)))
theorem Tx.ok_Schema_kind_of (T : Tx K mg) : Mt P w K mg base 1 (He.ga K ("Schema" : Str)) "kind_of" (sp_Schema_kind_of K) [] := by
  obtain ⟨fd, F⟩ := T.d_Schema_kind_of
  have ok := fn_Schema_kind_of (P := P) (w := w) (base := base) T F
  exact ⟨_, fd, _, [], T.cl_Schema, T.me_Schema_kind_of, ok, (FunD.bindsN F fun _ _ _ _ _ _ us hl => match us, hl with | [_, _], _ => rfl), .nil⟩
theorem fn_without_numbers (T : Tx K mg) {fd : FuncData} (F : FunD K "without_numbers" "without_numbers" (defArgs s_without_numbers) (defBody s_without_numbers) (defScope s_without_numbers) [] [] (He.fAd K ("without_numbers", none)) fd) : FnOk P w K mg base (L2.CX P w) 5 (He.fAd K ("without_numbers", none)) fd ["schema", "picture", "gone"] (sp_without_numbers K) := by
  refine F.ok sc_without_numbers (fun vs H Q E h => h.1) (fun cdv A outer s H vs Q E hr h => ⟨_, ?_, h.2⟩)
  refine PSs.nox ?_
  exact (pss_cons (ps_set (i := 3) sc_without_numbers.nd rfl (by first | exact Or.inl rfl | exact Or.inr rfl) pe_dnewK)
        (pss_cons (ps_for PassesOwn.never rfl (pi_keys (pv 1)) (pg_name (i := 4) sc_without_numbers.nd rfl (by first | exact Or.inl rfl | exact Or.inr rfl))
        (pss_cons (ps_set (i := 5) sc_without_numbers.nd rfl (by first | exact Or.inl rfl | exact Or.inr rfl) (pe_dget (u1 hr) (pv 1) (pv 4) fun _ _ => rfl))
        (pss_one (ps_dput (u1 hr) (pv 3) (pv 4) (pe_cl (T.ok_cleared_thing) hr (by decide) (fun _ => pz) rfl (pa_cons (pe_mt1 (T.ok_Schema_kind_of) hr (by decide) (fun _ => pz) (pv 0) (pa_cons (pe_fld (pv 5) rfl) pa_nil)) (pa_cons (pv 5) (pa_cons (pv 2) pa_nil)))) rfl))))
        (pss_one (ps_ret (pe_fz (pv 3))))))
theorem Tx.ok_without_numbers (T : Tx K mg) : Cl P w K mg base 5 "without_numbers" (sp_without_numbers K) [] := by
  obtain ⟨fd, F⟩ := T.d_without_numbers
  have ok := fn_without_numbers (P := P) (w := w) (base := base) T F
  exact ⟨_, fd, _, [], ok, T.g_without_numbers, F.kp, (FunD.bindsN F fun _ _ _ _ _ _ us hl => match us, hl with | [_, _, _], _ => rfl), .nil⟩
theorem fn__law_names (T : Tx K mg) {fd : FuncData} (F : FunD K "_law_names" "_law_names" (defArgs s__law_names) (defBody s__law_names) (defScope s__law_names) [] [] (He.fAd K ("_law_names", none)) fd) : FnOk P w K mg base (L2.CX P w) 1 (He.fAd K ("_law_names", none)) fd ["_law_kind"] (sp__law_names K) := by
  refine F.ok sc__law_names (fun vs H Q E h => h.1) (fun cdv A outer s H vs Q E hr h => ⟨_, ?_, h.2⟩)
  refine PSs.nox ?_
  exact (pss_cons (ps_if (pt_cmpR (op_eqX hr.units) (pv 0) (pe_strE e_A) (nomark _))
        (pss_one (ps_ret (pe_lst (pa_cons (pe_strE e_a) (pa_cons (pe_strE e_t) (pa_cons (pe_strE e_r) (pa_cons (pe_strE e_l) pa_nil)))))))
        pss_nil)
        (pss_one (ps_ret (pe_lst (pa_cons (pe_strE e_p) (pa_cons (pe_strE e_q) (pa_cons (pe_strE e_m) pa_nil)))))))
theorem Tx.ok__law_names (T : Tx K mg) : Cl P w K mg base 1 "_law_names" (sp__law_names K) [] := by
  obtain ⟨fd, F⟩ := T.d__law_names
  have ok := fn__law_names (P := P) (w := w) (base := base) T F
  exact ⟨_, fd, _, [], ok, T.g__law_names, F.kp, (FunD.bindsN F fun _ _ _ _ _ _ us hl => match us, hl with | [_], _ => rfl), .nil⟩
theorem fn__law_due (T : Tx K mg) {fd : FuncData} (F : FunD K "_law_due" "_law_due" (defArgs s__law_due) (defBody s__law_due) (defScope s__law_due) [] [] (He.fAd K ("_law_due", none)) fd) : FnG P w K mg base 2 (He.fAd K ("_law_due", none)) fd ["_law_picture_here", "_law_gone"] (sp__law_due K) := by
  refine fnG F sc__law_due (fun vs H Q E h => h.1) (fun cdv A outer s H vs Q E gd hr h => ⟨_, ?_, h.2⟩)
  refine PSs.nox ?_
  exact (pss_cons (ps_set (i := 2) sc__law_due.nd rfl (by first | exact Or.inl rfl | exact Or.inr rfl) (pe_lst pa_nil))
        (pss_cons (ps_for PassesOwn.never rfl (pi_any (pe_callB cr_sortedI (by rfl) T.b_sorted (by decide +kernel) (pa_cons (pe_callTy (call_listDk rfl) (by rfl) T.b_list (by decide +kernel) (pa_cons (pv 0) pa_nil)) pa_nil))) (pg_name (i := 3) sc__law_due.nd rfl (by first | exact Or.inl rfl | exact Or.inr rfl))
        (pss_cons (ps_set (i := 4) sc__law_due.nd rfl (by first | exact Or.inl rfl | exact Or.inr rfl) (pe_dget (u1 hr) (pv 0) (pv 3) fun _ _ => rfl))
        (pss_cons (ps_set (i := 5) sc__law_due.nd rfl (by first | exact Or.inl rfl | exact Or.inr rfl) pe_dnewK)
        (pss_cons (ps_for PassesOwn.never rfl (pi_any (pe_cl (T.ok__law_names) hr (by decide) (fun _ => pz) rfl (pa_cons (pe_fld (pv 4) rfl) pa_nil))) (pg_name (i := 6) sc__law_due.nd rfl (by first | exact Or.inl rfl | exact Or.inr rfl))
        (pss_cons (ps_set (i := 7) sc__law_due.nd rfl (by first | exact Or.inl rfl | exact Or.inr rfl) (pe_dget (u1 hr) (pe_fld (pv 4) rfl) (pv 6) fun _ _ => rfl))
        (C8.pss_cut (ps_if (PW.pt (pw_and (pt_cmpR op_inX (pv 6) (pe_lst (pa_cons (pe_strE e_r) (pa_cons (pe_strE e_p) (pa_cons (pe_strE e_q) pa_nil)))) (by rfl)) (pw_and1 (pt_cmpR op_inX (pv 7) (pv 1) (by rfl)))))
        (pss_one (ps_set (i := 7) sc__law_due.nd rfl (by first | exact Or.inl rfl | exact Or.inr rfl) pe_non))
        pss_nil)
        (C8.pss_cut (ps_if (pt_cmpR op_inX (pv 6) (pe_lst (pa_cons (pe_strE e_l) (pa_cons (pe_strE e_m) pa_nil))) (by rfl))
        (pss_one (ps_setLc (i := 7) (own := [("_law_other", 8)]) rfl sc__law_due.nd rfl rfl (sw_true rfl rfl rfl (by decide +kernel)) (pi_any (pv 7)) (blkOk_by (N := ["_law_picture_here", "_law_gone", "_law_rows", "_law_number_here", "_law_thing", "_law_known", "_law_name", "_law_content", "_law_other"]) (sc := defScope s__law_due) (own := [("_law_other", 8)]) (by decide +kernel)) (fun _ _ _ _ _ => (pg_name (i := 8) sc__law_due.nd rfl (by first | exact Or.inl rfl | exact Or.inr rfl))) (fun _ _ _ _ _ => pts_one (pt_cmpR op_notInX (pv 8) (pv 1) (by rfl))) (fun _ _ _ _ _ => (pv 8))))
        pss_nil)
        (pss_one (ps_dput (u1 hr) (pv 5) (pv 6) (pv 7) rfl))))))
        (pss_one (ps_expr (pe_bm PySem.F.plainAttrs_list PySem.F.slot_list_append PySem.F.type_list_append mt_append (pv 2) (pa_cons (pe_tup (pa_cons (pv 3) (pa_cons (pe_fld (pv 4) rfl) (pa_cons (pe_callB (call_repr gd hr.units) (by rfl) T.b_repr (by decide +kernel) (pa_cons (pe_fz (pv 5)) pa_nil)) pa_nil)))) pa_nil))))))))
        (pss_one (ps_ret (pv 2)))))
theorem Tx.ok__law_due (T : Tx K mg) : ClG P w K mg base 2 "_law_due" (sp__law_due K) [] := by
  obtain ⟨fd, F⟩ := T.d__law_due
  have ok := fn__law_due (P := P) (w := w) (base := base) T F
  exact ⟨_, fd, _, [], ok, T.g__law_due, F.kp, (FunD.bindsN F fun _ _ _ _ _ _ us hl => match us, hl with | [_, _], _ => rfl), .nil⟩
theorem fn_Thing_copied (T : Tx K mg) {fd : FuncData} (F : FunD K "copied" "Thing.copied" (defArgs s_Thing_copied) (defBody s_Thing_copied) (defScope s_Thing_copied) [] [] (He.fAd K ("Thing", some "copied")) fd) : FnOk P w K mg base (L2.CX P w) 4 (He.fAd K ("Thing", some "copied")) fd ["self"] (sp_Thing_copied K) := by
  refine F.ok sc_Thing_copied (fun vs H Q E h => h.1) (fun cdv A outer s H vs Q E hr h => ⟨_, ?_, h.2⟩)
  refine PSs.nox ?_
  exact (pss_one (ps_ret (pe_mq (T.ok_Thing_init) hr (by decide) rfl (pa_cons (pe_fld (pv 0) rfl) (pa_cons (pe_fld (pv 0) rfl) pa_nil)))))
theorem Tx.ok_Thing_copied (T : Tx K mg) : Mt P w K mg base 4 (He.ga K ("Thing" : Str)) "copied" (sp_Thing_copied K) [] := by
  obtain ⟨fd, F⟩ := T.d_Thing_copied
  have ok := fn_Thing_copied (P := P) (w := w) (base := base) T F
  exact ⟨_, fd, _, [], T.cl_Thing, T.me_Thing_copied, ok, (FunD.bindsN F fun _ _ _ _ _ _ us hl => match us, hl with | [_], _ => rfl), .nil⟩
theorem fn_picture_copy (T : Tx K mg) {fd : FuncData} (F : FunD K "picture_copy" "picture_copy" (defArgs s_picture_copy) (defBody s_picture_copy) (defScope s_picture_copy) [] [] (He.fAd K ("picture_copy", none)) fd) : FnOk P w K mg base (L2.CX P w) 5 (He.fAd K ("picture_copy", none)) fd ["picture"] (sp_picture_copy K) := by
  refine F.ok sc_picture_copy (fun vs H Q E h => h.1) (fun cdv A outer s H vs Q E hr h => ⟨_, ?_, h.2⟩)
  refine PSs.nox ?_
  exact (pss_one (ps_ret (pe_fz (pe_lk (pe_dc (own := [("number", 1)]) rfl sc_picture_copy.nd (pi_keys (pv 0)) (blkOk_by (N := ["picture", "number"]) (sc := defScope s_picture_copy) (own := [("number", 1)]) (by decide +kernel)) (fun _ _ _ _ _ => (pg_name (i := 1) sc_picture_copy.nd rfl (by first | exact Or.inl rfl | exact Or.inr rfl))) (fun _ _ _ _ _ => pts_nil) (fun _ _ _ _ _ => (pv 1)) (fun _ _ _ _ _ => (pe_mt0 (T.ok_Thing_copied) hr (by decide) (fun _ => pz) (pe_dget (u1 hr) (pv 0) (pv 1) fun _ _ => rfl))))))))
theorem Tx.ok_picture_copy (T : Tx K mg) : Cl P w K mg base 5 "picture_copy" (sp_picture_copy K) [] := by
  obtain ⟨fd, F⟩ := T.d_picture_copy
  have ok := fn_picture_copy (P := P) (w := w) (base := base) T F
  exact ⟨_, fd, _, [], ok, T.g_picture_copy, F.kp, (FunD.bindsN F fun _ _ _ _ _ _ us hl => match us, hl with | [_], _ => rfl), .nil⟩
theorem fn_Heap_init (T : Tx K mg) {fd : FuncData} (F : FunD K "__init__" "Heap.__init__" (defArgs s_Heap_init) (defBody s_Heap_init) (defScope s_Heap_init) [] [] (He.fAd K ("Heap", some "__init__")) fd) : FnOk P w K mg base (L2.CX P w) 6 (He.fAd K ("Heap", some "__init__")) fd ["self", "pictures"] (sp_Heap_init K) := by
  refine F.ok sc_Heap_init (fun vs H Q E h => h.1) (fun cdv A outer s H vs Q E hr h => ⟨_, ?_, h.2⟩)
  refine PSs.nox ?_
  exact (pss_one (ps_fld (pv 0) (pe_fz (pe_dc (own := [("number", 2)]) rfl sc_Heap_init.nd (pi_keys (pv 1)) (blkOk_by (N := ["self", "pictures", "number"]) (sc := defScope s_Heap_init) (own := [("number", 2)]) (by decide +kernel)) (fun _ _ _ _ _ => (pg_name (i := 2) sc_Heap_init.nd rfl (by first | exact Or.inl rfl | exact Or.inr rfl))) (fun _ _ _ _ _ => pts_nil) (fun _ _ _ _ _ => (pv 2)) (fun _ _ _ _ _ => (pe_cl (T.ok_picture_copy) hr (by decide) (fun _ => pz) rfl (pa_cons (pe_dget (u1 hr) (pv 1) (pv 2) fun _ _ => rfl) pa_nil))))) rfl))
theorem Tx.ok_Heap_init (T : Tx K mg) : Mq P w K mg base 6 "Heap" (He.ga K ("Heap" : Str)) (sp_Heap_init K) [] := by
  obtain ⟨fd, F⟩ := T.d_Heap_init
  have ok := fn_Heap_init (P := P) (w := w) (base := base) T F
  exact ⟨_, fd, _, [], T.mk_Heap, ok, T.gc_Heap, (FunD.bindsN F fun _ _ _ _ _ _ us hl => match us, hl with | [_, _], _ => rfl), .nil⟩
theorem fn_Heap_copied (T : Tx K mg) {fd : FuncData} (F : FunD K "copied" "Heap.copied" (defArgs s_Heap_copied) (defBody s_Heap_copied) (defScope s_Heap_copied) [] [] (He.fAd K ("Heap", some "copied")) fd) : FnOk P w K mg base (L2.CX P w) 8 (He.fAd K ("Heap", some "copied")) fd ["self"] (sp_Heap_copied K) := by
  refine F.ok sc_Heap_copied (fun vs H Q E h => h.1) (fun cdv A outer s H vs Q E hr h => ⟨_, ?_, h.2⟩)
  refine PSs.nox ?_
  exact (pss_one (ps_ret (pe_mq (T.ok_Heap_init) hr (by decide) rfl (pa_cons (pe_fld (pv 0) rfl) pa_nil))))
theorem Tx.ok_Heap_copied (T : Tx K mg) : Mt P w K mg base 8 (He.ga K ("Heap" : Str)) "copied" (sp_Heap_copied K) [] := by
  obtain ⟨fd, F⟩ := T.d_Heap_copied
  have ok := fn_Heap_copied (P := P) (w := w) (base := base) T F
  exact ⟨_, fd, _, [], T.cl_Heap, T.me_Heap_copied, ok, (FunD.bindsN F fun _ _ _ _ _ _ us hl => match us, hl with | [_], _ => rfl), .nil⟩
theorem fn_Thing_eq (T : Tx K mg) {fd : FuncData} (F : FunD K "__eq__" "Thing.__eq__" (defArgs s_Thing_eq) (defBody s_Thing_eq) (defScope s_Thing_eq) [] [] (He.fAd K ("Thing", some "__eq__")) fd) : FnOk P w K mg base (L2.CX P w) 1 (He.fAd K ("Thing", some "__eq__")) fd ["self", "other"] (sp_Thing_eq K) := by
  refine F.ok sc_Thing_eq (fun vs H Q E h => h.1) (fun cdv A outer s H vs Q E hr h => ⟨_, ?_, h.2⟩)
  refine PSs.nox ?_
  exact (pss_cons (ps_if (pt_not (pt_truth (pe_callB call_isi (by rfl) T.b_isinstance (by decide +kernel) (pa_cons (pv 1) (pa_cons (pe_glob rfl T.gc_Thing rfl) pa_nil))) fun _ => rfl))
        (pss_one (ps_ret pe_bl))
        pss_nil)
        (pss_one (ps_ret (pe_and (pe_cmpR (op_eqX hr.units) (pe_fld (pv 0) rfl) (pe_fld (pv 1) rfl) (nomark _)) (pe_one (pe_cmpR (op_eqDk hr.units) (pe_fld (pv 0) rfl) (pe_fld (pv 1) rfl) (nomark _)))))))
theorem Tx.ok_Thing_eq (T : Tx K mg) : Mt P w K mg base 1 (He.ga K ("Thing" : Str)) "__eq__" (sp_Thing_eq K) [] := by
  obtain ⟨fd, F⟩ := T.d_Thing_eq
  have ok := fn_Thing_eq (P := P) (w := w) (base := base) T F
  exact ⟨_, fd, _, [], T.cl_Thing, T.me_Thing_eq, ok, (FunD.bindsN F fun _ _ _ _ _ _ us hl => match us, hl with | [_, _], _ => rfl), .nil⟩
theorem fn_Heap_eq (T : Tx K mg) {fd : FuncData} (F : FunD K "__eq__" "Heap.__eq__" (defArgs s_Heap_eq) (defBody s_Heap_eq) (defScope s_Heap_eq) [] [] (He.fAd K ("Heap", some "__eq__")) fd) : FnOk P w K mg base (L2.CX P w) 5 (He.fAd K ("Heap", some "__eq__")) fd ["self", "other"] (sp_Heap_eq K) := by
  refine F.ok sc_Heap_eq (fun vs H Q E h => h.1) (fun cdv A outer s H vs Q E hr h => ⟨_, ?_, h.2⟩)
  refine PSs.nox ?_
  exact (pss_cons (ps_if (pt_not (pt_truth (pe_callB call_isi (by rfl) T.b_isinstance (by decide +kernel) (pa_cons (pv 1) (pa_cons (pe_glob rfl T.gc_Heap rfl) pa_nil))) fun _ => rfl))
        (pss_one (ps_ret pe_bl))
        pss_nil)
        (pss_one (ps_ret (pe_cmpR (op_eqPP (T.ok_Thing_eq) hr (by decide)) (pe_fld (pv 0) rfl) (pe_fld (pv 1) rfl) (nomark _)))))
theorem Tx.ok_Heap_eq (T : Tx K mg) : Mt P w K mg base 5 (He.ga K ("Heap" : Str)) "__eq__" (sp_Heap_eq K) [] := by
  obtain ⟨fd, F⟩ := T.d_Heap_eq
  have ok := fn_Heap_eq (P := P) (w := w) (base := base) T F
  exact ⟨_, fd, _, [], T.cl_Heap, T.me_Heap_eq, ok, (FunD.bindsN F fun _ _ _ _ _ _ us hl => match us, hl with | [_, _], _ => rfl), .nil⟩
theorem fn_Heap_picture_of (T : Tx K mg) {fd : FuncData} (F : FunD K "picture_of" "Heap.picture_of" (defArgs s_Heap_picture_of) (defBody s_Heap_picture_of) (defScope s_Heap_picture_of) [] [] (He.fAd K ("Heap", some "picture_of")) fd) : FnOk P w K mg base (L2.CX P w) 1 (He.fAd K ("Heap", some "picture_of")) fd ["self", "number"] (sp_Heap_picture_of K) := by
  refine F.ok sc_Heap_picture_of (fun vs H Q E h => h.1) (fun cdv A outer s H vs Q E hr h => ⟨_, ?_, h.2⟩)
  refine PSs.nox ?_
  exact (pss_one (ps_ret (pe_dget (u1 hr) (pe_fld (pv 0) rfl) (pv 1) fun _ _ => rfl)))
theorem Tx.ok_Heap_picture_of (T : Tx K mg) : Mt P w K mg base 1 (He.ga K ("Heap" : Str)) "picture_of" (sp_Heap_picture_of K) [] := by
  obtain ⟨fd, F⟩ := T.d_Heap_picture_of
  have ok := fn_Heap_picture_of (P := P) (w := w) (base := base) T F
  exact ⟨_, fd, _, [], T.cl_Heap, T.me_Heap_picture_of, ok, (FunD.bindsN F fun _ _ _ _ _ _ us hl => match us, hl with | [_, _], _ => rfl), .nil⟩
theorem fn_law (T : Tx K mg) {fd : FuncData} (F : FunD K "law" "law" (defArgs s_law) (defBody s_law) (defScope s_law) [] [] (He.fAd K ("law", none)) fd) : FnG P w K mg base 9 (He.fAd K ("law", none)) fd ["_law_script"] (sp_law K) := by
  refine fnG F sc_law (fun vs H Q E h => h.1) (fun cdv A outer s H vs Q E gd hr h => ⟨_, ?_, h.2⟩)
  refine PSs.nox ?_
  exact (pss_cons (ps_set (i := 1) sc_law.nd rfl (by first | exact Or.inl rfl | exact Or.inr rfl) (pe_cl (T.ok__law_cells) hr (by decide) (fun _ => pz) rfl (pa_cons (pv 0) (pa_cons pe_int pa_nil))))
        (pss_cons (ps_set (i := 2) sc_law.nd rfl (by first | exact Or.inl rfl | exact Or.inr rfl) (pe_cl (T.ok__law_schema) hr (by decide) (fun _ => pz) rfl (pa_cons (pe_cl (T.ok__law_rules) hr (by decide) (fun _ => pz) rfl (pa_cons (pv 1) pa_nil)) (pa_cons pe_bl pa_nil))))
        (pss_cons (ps_set (i := 3) sc_law.nd rfl (by first | exact Or.inl rfl | exact Or.inr rfl) (pe_cl (T.ok__law_picture) hr (by decide) (fun _ => pz) rfl (pa_cons (pv 1) pa_nil)))
        (pss_cons (ps_set (i := 4) sc_law.nd rfl (by first | exact Or.inl rfl | exact Or.inr rfl) (pe_clg (T.ok__law_shown) gd hr (by decide) (fun _ => pz) rfl (pa_cons (pv 3) pa_nil)))
        (pss_cons (ps_setLc (i := 5) (own := [("_law_turn", 6)]) rfl sc_law.nd rfl rfl (sw_true rfl rfl rfl (by decide +kernel)) (pi_range1 rfl T.b_range (pa_cons (pe_cl (T.ok__law_draw) hr (by decide) (fun _ => pz) rfl (pa_cons (pv 1) (pa_cons pe_int pa_nil))) pa_nil)) (blkOk_by (N := ["_law_script", "_law_draws", "_law_schema_here", "_law_picture_here", "_law_kept", "_law_gone", "_law_turn", "_law_found", "_law_heap", "_law_other", "_law_number_here", "_law_row", "_law_mine"]) (sc := defScope s_law) (own := [("_law_turn", 6)]) (by decide +kernel)) (fun _ _ _ _ _ => (pg_name (i := 6) sc_law.nd rfl (by first | exact Or.inl rfl | exact Or.inr rfl))) (fun _ _ _ _ _ => pts_nil) (fun _ _ _ _ _ => (pe_op op_addX pe_int (pe_cl (T.ok__law_draw) hr (by decide) (fun _ => pz) rfl (pa_cons (pv 1) (pa_cons pe_int pa_nil))))))
        (pss_cons (ps_set (i := 7) sc_law.nd rfl (by first | exact Or.inl rfl | exact Or.inr rfl) (pe_cl (T.ok_without_numbers) hr (by decide) (fun _ => pz) rfl (pa_cons (pv 2) (pa_cons (pv 3) (pa_cons (pv 5) pa_nil)))))
        (pss_cons (ps_if (PW.pt (pw_or (pt_cmpR (op_neX hr.units) (pe_clg (T.ok__law_shown) gd hr (by decide) (fun _ => pz) rfl (pa_cons (pv 7) pa_nil)) (pe_clg (T.ok__law_due) gd hr (by decide) (fun _ => pz) rfl (pa_cons (pv 3) (pa_cons (pv 5) pa_nil))) (nomark _)) (pw_or1 (pt_cmpR (op_neX hr.units) (pe_clg (T.ok__law_shown) gd hr (by decide) (fun _ => pz) rfl (pa_cons (pv 3) pa_nil)) (pv 4) (nomark _)))))
        (pss_one (ps_ret pe_bl))
        pss_nil)
        (pss_cons (ps_set (i := 8) sc_law.nd rfl (by first | exact Or.inl rfl | exact Or.inr rfl) (pe_mq (T.ok_Heap_init) hr (by decide) rfl (pa_cons (pe_fz (pe_disp (pps_cons pe_int (pv 3) (pps_cons pe_int (pv 7) pps_nil)) rfl rfl (by decide) (by decide))) pa_nil)))
        (pss_cons (ps_set (i := 9) sc_law.nd rfl (by first | exact Or.inl rfl | exact Or.inr rfl) (pe_mt0 (T.ok_Heap_copied) hr (by decide) (fun _ => pz) (pv 8)))
        (pss_cons (ps_if (PW.pt (pw_or (pt_cmpR (op_own (.inr ⟨rfl, rfl⟩) (T.ok_Heap_eq) T.nq_Heap hr (by decide)) (pv 9) (pv 8) (nomark _)) (pw_or (pt_cmpR (op_own (.inl ⟨rfl, rfl⟩) (T.ok_Heap_eq) T.nq_Heap hr (by decide)) (pv 8) pe_int (nomark _)) (pw_or (pt_cmpR (op_own (.inr ⟨rfl, rfl⟩) (T.ok_Heap_eq) T.nq_Heap hr (by decide)) (pv 8) (pe_mq (T.ok_Heap_init) hr (by decide) rfl (pa_cons (pe_fz (pe_disp (pps_cons pe_int (pv 7) (pps_cons pe_int (pv 3) pps_nil)) rfl rfl (by decide) (by decide))) pa_nil)) (nomark _)) (pw_or1 (pt_cmpR (op_own (.inl ⟨rfl, rfl⟩) (T.ok_Heap_eq) T.nq_Heap hr (by decide)) (pv 8) (pe_mq (T.ok_Heap_init) hr (by decide) rfl (pa_cons (pe_fz (pe_disp (pps_cons pe_int (pv 3) pps_nil) rfl rfl (by decide) (by decide))) pa_nil)) (nomark _)))))))
        (pss_one (ps_ret pe_bl))
        pss_nil)
        (pss_cons (ps_for PassesOwn.never rfl (pi_any (pe_callB cr_sortedI (by rfl) T.b_sorted (by decide +kernel) (pa_cons (pe_callTy (call_listDk rfl) (by rfl) T.b_list (by decide +kernel) (pa_cons (pv 3) pa_nil)) pa_nil))) (pg_name (i := 10) sc_law.nd rfl (by first | exact Or.inl rfl | exact Or.inr rfl))
        (pss_cons (ps_set (i := 11) sc_law.nd rfl (by first | exact Or.inl rfl | exact Or.inr rfl) (pe_dget (u1 hr) (pe_fld (pe_dget (u1 hr) (pv 3) (pv 10) fun _ _ => rfl) rfl) (pe_ifExp (pt_cmpR (op_eqX hr.units) (pe_fld (pe_dget (u1 hr) (pv 3) (pv 10) fun _ _ => rfl) rfl) (pe_strE e_A) (nomark _)) (pe_strE e_l) (pe_strE e_m)) fun _ _ => rfl))
        (pss_one (ps_expr (pe_bm PySem.F.plainAttrs_list PySem.F.slot_list_append PySem.F.type_list_append mt_append (pv 11) (pa_cons pe_int pa_nil))))))
        (pss_cons (ps_if (PW.pt (pw_or (pt_cmpR (op_neX hr.units) (pe_clg (T.ok__law_shown) gd hr (by decide) (fun _ => pz) rfl (pa_cons (pe_mt1 (T.ok_Heap_picture_of) hr (by decide) (fun _ => pz) (pv 8) (pa_cons pe_int pa_nil)) pa_nil)) (pv 4) (nomark _)) (pw_or1 (pt_cmpR (op_own (.inr ⟨rfl, rfl⟩) (T.ok_Heap_eq) T.nq_Heap hr (by decide)) (pv 9) (pv 8) (nomark _)))))
        (pss_one (ps_ret pe_bl))
        pss_nil)
        (pss_cons (ps_set (i := 12) sc_law.nd rfl (by first | exact Or.inl rfl | exact Or.inr rfl) (pe_mt1 (T.ok_Heap_picture_of) hr (by decide) (fun _ => pz) (pv 8) (pa_cons pe_int pa_nil)))
        (pss_cons (ps_expr (pe_dpop2 (pv 12) pe_int pe_non ⟨rfl, rfl, rfl, rfl⟩))
        (pss_one (ps_ret (pe_and (pe_cmpR (op_eqX hr.units) (pe_cmpR (op_own (.inl ⟨rfl, rfl⟩) (T.ok_Heap_eq) T.nq_Heap hr (by decide)) (pv 9) (pv 8) (nomark _)) (pe_cmp (pc_dnotin (u1 hr) pe_int (pv 7))) (nomark _)) (pe_one (pe_cmpR (op_eqX hr.units) (pe_clg (T.ok__law_shown) gd hr (by decide) (fun _ => pz) rfl (pa_cons (pe_mt1 (T.ok_Heap_picture_of) hr (by decide) (fun _ => pz) (pv 9) (pa_cons pe_int pa_nil)) pa_nil)) (pv 4) (nomark _))))))))))))))))))))
theorem Tx.law (T : Tx K mg) : ∃ fd : FuncData, (∀ (s : Shared) (u : Value), BindsTo s fd ⟨[u], []⟩ [("_law_script", u)]) ∧ ∀ base : Heap, FnG P w K mg base 9 (He.ga K "law") fd ["_law_script"] (sp_law K) := by
  obtain ⟨fd, F⟩ := T.d_law
  have b := FunD.bindsA (ps := ["_law_script"]) F fun _ _ _ _ _ _ us hl => match us, hl with | [_], _ => rfl
  exact ⟨fd, fun s v => b s [v] rfl, fun base => fn_law T F⟩
end
end Lw

namespace Lw
open PySem PySem.W PySem.Calls PySem.Spec PyProof.Rows L2 G
def dd__law_cells : He.DefD := ⟨("_law_cells", none), "_law_cells", "_law_cells", defArgs s__law_cells, defBody s__law_cells, defScope s__law_cells, [], []⟩
def dd_Kind_init : He.DefD := ⟨("Kind", some "__init__"), "__init__", "Kind.__init__", defArgs s_Kind_init, defBody s_Kind_init, defScope s_Kind_init, [], []⟩
def dd_Field_init : He.DefD := ⟨("Field", some "__init__"), "__init__", "Field.__init__", defArgs s_Field_init, defBody s_Field_init, defScope s_Field_init, [(.bl false)], []⟩
def dd_IntSort_init : He.DefD := ⟨("IntSort", some "__init__"), "__init__", "IntSort.__init__", defArgs s_IntSort_init, defBody s_IntSort_init, defScope s_IntSort_init, [], []⟩
def dd_TextSort_init : He.DefD := ⟨("TextSort", some "__init__"), "__init__", "TextSort.__init__", defArgs s_TextSort_init, defBody s_TextSort_init, defScope s_TextSort_init, [.non], []⟩
def dd_RefSort_init : He.DefD := ⟨("RefSort", some "__init__"), "__init__", "RefSort.__init__", defArgs s_RefSort_init, defBody s_RefSort_init, defScope s_RefSort_init, [], []⟩
def dd_ListSort_init : He.DefD := ⟨("ListSort", some "__init__"), "__init__", "ListSort.__init__", defArgs s_ListSort_init, defBody s_ListSort_init, defScope s_ListSort_init, [], []⟩
def dd_Schema_init : He.DefD := ⟨("Schema", some "__init__"), "__init__", "Schema.__init__", defArgs s_Schema_init, defBody s_Schema_init, defScope s_Schema_init, [], []⟩
def dd__law_schema : He.DefD := ⟨("_law_schema", none), "_law_schema", "_law_schema", defArgs s__law_schema, defBody s__law_schema, defScope s__law_schema, [], []⟩
def dd__law_draw : He.DefD := ⟨("_law_draw", none), "_law_draw", "_law_draw", defArgs s__law_draw, defBody s__law_draw, defScope s__law_draw, [], []⟩
def dd__law_pick : He.DefD := ⟨("_law_pick", none), "_law_pick", "_law_pick", defArgs s__law_pick, defBody s__law_pick, defScope s__law_pick, [], []⟩
def dd__law_rules : He.DefD := ⟨("_law_rules", none), "_law_rules", "_law_rules", defArgs s__law_rules, defBody s__law_rules, defScope s__law_rules, [], []⟩
def dd_content_copy : He.DefD := ⟨("content_copy", none), "content_copy", "content_copy", defArgs s_content_copy, defBody s_content_copy, defScope s_content_copy, [], []⟩
def dd_Thing_init : He.DefD := ⟨("Thing", some "__init__"), "__init__", "Thing.__init__", defArgs s_Thing_init, defBody s_Thing_init, defScope s_Thing_init, [], []⟩
def dd__law_number : He.DefD := ⟨("_law_number", none), "_law_number", "_law_number", defArgs s__law_number, defBody s__law_number, defScope s__law_number, [], []⟩
def dd__law_list : He.DefD := ⟨("_law_list", none), "_law_list", "_law_list", defArgs s__law_list, defBody s__law_list, defScope s__law_list, [], []⟩
def dd__law_contents : He.DefD := ⟨("_law_contents", none), "_law_contents", "_law_contents", defArgs s__law_contents, defBody s__law_contents, defScope s__law_contents, [], []⟩
def dd__law_picture : He.DefD := ⟨("_law_picture", none), "_law_picture", "_law_picture", defArgs s__law_picture, defBody s__law_picture, defScope s__law_picture, [], []⟩
def dd__law_shown : He.DefD := ⟨("_law_shown", none), "_law_shown", "_law_shown", defArgs s__law_shown, defBody s__law_shown, defScope s__law_shown, [], []⟩
def dd_is_link : He.DefD := ⟨("is_link", none), "is_link", "is_link", defArgs s_is_link, defBody s_is_link, defScope s_is_link, [], []⟩
def dd_cleared : He.DefD := ⟨("cleared", none), "cleared", "cleared", defArgs s_cleared, defBody s_cleared, defScope s_cleared, [], []⟩
def dd_cleared_thing : He.DefD := ⟨("cleared_thing", none), "cleared_thing", "cleared_thing", defArgs s_cleared_thing, defBody s_cleared_thing, defScope s_cleared_thing, [], []⟩
def dd_Schema_kind_of : He.DefD := ⟨("Schema", some "kind_of"), "kind_of", "Schema.kind_of", defArgs s_Schema_kind_of, defBody s_Schema_kind_of, defScope s_Schema_kind_of, [], []⟩
def dd_without_numbers : He.DefD := ⟨("without_numbers", none), "without_numbers", "without_numbers", defArgs s_without_numbers, defBody s_without_numbers, defScope s_without_numbers, [], []⟩
def dd__law_names : He.DefD := ⟨("_law_names", none), "_law_names", "_law_names", defArgs s__law_names, defBody s__law_names, defScope s__law_names, [], []⟩
def dd__law_due : He.DefD := ⟨("_law_due", none), "_law_due", "_law_due", defArgs s__law_due, defBody s__law_due, defScope s__law_due, [], []⟩
def dd_Thing_copied : He.DefD := ⟨("Thing", some "copied"), "copied", "Thing.copied", defArgs s_Thing_copied, defBody s_Thing_copied, defScope s_Thing_copied, [], []⟩
def dd_picture_copy : He.DefD := ⟨("picture_copy", none), "picture_copy", "picture_copy", defArgs s_picture_copy, defBody s_picture_copy, defScope s_picture_copy, [], []⟩
def dd_Heap_init : He.DefD := ⟨("Heap", some "__init__"), "__init__", "Heap.__init__", defArgs s_Heap_init, defBody s_Heap_init, defScope s_Heap_init, [], []⟩
def dd_Heap_copied : He.DefD := ⟨("Heap", some "copied"), "copied", "Heap.copied", defArgs s_Heap_copied, defBody s_Heap_copied, defScope s_Heap_copied, [], []⟩
def dd_Thing_eq : He.DefD := ⟨("Thing", some "__eq__"), "__eq__", "Thing.__eq__", defArgs s_Thing_eq, defBody s_Thing_eq, defScope s_Thing_eq, [], []⟩
def dd_Heap_eq : He.DefD := ⟨("Heap", some "__eq__"), "__eq__", "Heap.__eq__", defArgs s_Heap_eq, defBody s_Heap_eq, defScope s_Heap_eq, [], []⟩
def dd_Heap_picture_of : He.DefD := ⟨("Heap", some "picture_of"), "picture_of", "Heap.picture_of", defArgs s_Heap_picture_of, defBody s_Heap_picture_of, defScope s_Heap_picture_of, [], []⟩
def dd_law : He.DefD := ⟨("law", none), "law", "law", defArgs s_law, defBody s_law, defScope s_law, [], []⟩
def gs : List DefP := []
def fn : List He.DefD := [dd__law_cells, dd_Kind_init, dd_Field_init, dd_IntSort_init, dd_TextSort_init, dd_RefSort_init, dd_ListSort_init, dd_Schema_init, dd__law_schema, dd__law_draw, dd__law_pick, dd__law_rules, dd_content_copy, dd_Thing_init, dd__law_number, dd__law_list, dd__law_contents, dd__law_picture, dd__law_shown, dd_is_link, dd_cleared, dd_cleared_thing, dd_Schema_kind_of, dd_without_numbers, dd__law_names, dd__law_due, dd_Thing_copied, dd_picture_copy, dd_Heap_init, dd_Heap_copied, dd_Thing_eq, dd_Heap_eq, dd_Heap_picture_of, dd_law]
def fa : List He.Fa := [.glo "_law_cells", .glo "_law_schema", .glo "_law_draw", .glo "_law_pick", .glo "_law_rules", .glo "content_copy", .glo "_law_number", .glo "_law_list", .glo "_law_contents", .glo "_law_picture", .glo "_law_shown", .glo "is_link", .glo "cleared", .glo "cleared_thing", .glo "without_numbers", .glo "_law_names", .glo "_law_due", .glo "picture_copy", .glo "law", .free "int", .free "isinstance", .free "len", .free "list", .free "range", .free "repr", .free "sorted", .glo "IntSort", .cls "IntSort", .mkr "IntSort", .noat "IntSort" "high", .noat "IntSort" "low", .glo "TextSort", .cls "TextSort", .mkr "TextSort", .noat "TextSort" "longest", .noat "TextSort" "without", .glo "RefSort", .cls "RefSort", .mkr "RefSort", .noat "RefSort" "kinds", .noat "RefSort" "rule", .glo "ListSort", .cls "ListSort", .mkr "ListSort", .noat "ListSort" "kinds", .glo "Thing", .cls "Thing", .meth "Thing" "__eq__", .meth "Thing" "copied", .mkr "Thing", .noat "Thing" "contents", .noat "Thing" "kind", .glo "Heap", .cls "Heap", .meth "Heap" "__eq__", .meth "Heap" "copied", .meth "Heap" "picture_of", .mkr "Heap", .noat "Heap" "pictures", .glo "Field", .cls "Field", .mkr "Field", .noat "Field" "name", .noat "Field" "needed", .noat "Field" "shape", .glo "Kind", .cls "Kind", .mkr "Kind", .noat "Kind" "fields", .noat "Kind" "key_rows", .noat "Kind" "name", .glo "Schema", .cls "Schema", .meth "Schema" "kind_of", .mkr "Schema", .noat "Schema" "kinds"]
theorem kstr {K : PySem.W.Frag} {h : Heap} {mg : Str → Option Value} (X : K.In h) (G : h.Ns mainGlobals mg) {x z z' : Str} (ez : z = z') (c : (He.Fa.str x z).ok K = true) : ∃ u, mg x = some u ∧ RelV (.str z') u := by
  obtain ⟨t, e⟩ := He.str_ok X G c
  subst ez
  exact ⟨_, e, _, rfl⟩
theorem kint {K : PySem.W.Frag} {h : Heap} {mg : Str → Option Value} (X : K.In h) (G : h.Ns mainGlobals mg) {x : Str} {z : Int} (c : (He.Fa.int x z).ok K = true) : ∃ u, mg x = some u ∧ RelV (.int z) u := by
  obtain ⟨t, e⟩ := He.int_ok X G c
  exact ⟨_, e, _, rfl⟩
def exs : List (PySem.W.Frag → Bool) := [fIn "IntSort", fIsT "IntSort" "list" false, fIs "IntSort" "Heap" false, fIs "IntSort" "ListSort" false, fIs "IntSort" "RefSort" false, fIs "IntSort" "Thing" false, fIn "TextSort", fIsT "TextSort" "list" false, fIs "TextSort" "Heap" false, fIs "TextSort" "ListSort" false, fIs "TextSort" "RefSort" false, fIs "TextSort" "Thing" false, fIn "RefSort", fIsT "RefSort" "list" false, fIs "RefSort" "Heap" false, fIs "RefSort" "ListSort" false, fIs "RefSort" "RefSort" true, fIs "RefSort" "Thing" false, fIn "ListSort", fIsT "ListSort" "list" false, fIs "ListSort" "Heap" false, fIs "ListSort" "ListSort" true, fIs "ListSort" "RefSort" false, fIs "ListSort" "Thing" false, fIn "Thing", fIsT "Thing" "list" false, fIs "Thing" "Heap" false, fIs "Thing" "ListSort" false, fIs "Thing" "RefSort" false, fIs "Thing" "Thing" true, fIn "Heap", fIsT "Heap" "list" false, fIs "Heap" "Heap" true, fIs "Heap" "ListSort" false, fIs "Heap" "RefSort" false, fIs "Heap" "Thing" false, fIn "Field", fIsT "Field" "list" false, fIs "Field" "Heap" false, fIs "Field" "ListSort" false, fIs "Field" "RefSort" false, fIs "Field" "Thing" false, fIn "Kind", fIsT "Kind" "list" false, fIs "Kind" "Heap" false, fIs "Kind" "ListSort" false, fIs "Kind" "RefSort" false, fIs "Kind" "Thing" false, fIn "Schema", fIsT "Schema" "list" false, fIs "Schema" "Heap" false, fIs "Schema" "ListSort" false, fIs "Schema" "RefSort" false, fIs "Schema" "Thing" false, fTIs "NoneType" "Heap" false, fTIs "bool" "Heap" false, fTIs "int" "Heap" false, fTIs "str" "Heap" false, fTIs "list" "Heap" false, fTIs "tuple" "Heap" false, fTIs "dict" "Heap" false, fTIs "NoneType" "ListSort" false, fTIs "bool" "ListSort" false, fTIs "int" "ListSort" false, fTIs "str" "ListSort" false, fTIs "list" "ListSort" false, fTIs "tuple" "ListSort" false, fTIs "dict" "ListSort" false, fTIs "NoneType" "RefSort" false, fTIs "bool" "RefSort" false, fTIs "int" "RefSort" false, fTIs "str" "RefSort" false, fTIs "list" "RefSort" false, fTIs "tuple" "RefSort" false, fTIs "dict" "RefSort" false, fTIs "NoneType" "Thing" false, fTIs "bool" "Thing" false, fTIs "int" "Thing" false, fTIs "str" "Thing" false, fTIs "list" "Thing" false, fTIs "tuple" "Thing" false, fTIs "dict" "Thing" false, neF2B "Heap"]
theorem tx {K : PySem.W.Frag} {h : Heap} {mg : Str → Option Value} (X : K.In h) (G : h.Ns mainGlobals mg) (c : He.SaysD fa fn K) (x : allB exs K = true) (p : SaysP gs K) : Tx K mg where
  d__law_cells := c.def_ 0 (d := dd__law_cells) rfl
  d_Kind_init := c.def_ 1 (d := dd_Kind_init) rfl
  d_Field_init := c.def_ 2 (d := dd_Field_init) rfl
  d_IntSort_init := c.def_ 3 (d := dd_IntSort_init) rfl
  d_TextSort_init := c.def_ 4 (d := dd_TextSort_init) rfl
  d_RefSort_init := c.def_ 5 (d := dd_RefSort_init) rfl
  d_ListSort_init := c.def_ 6 (d := dd_ListSort_init) rfl
  d_Schema_init := c.def_ 7 (d := dd_Schema_init) rfl
  d__law_schema := c.def_ 8 (d := dd__law_schema) rfl
  d__law_draw := c.def_ 9 (d := dd__law_draw) rfl
  d__law_pick := c.def_ 10 (d := dd__law_pick) rfl
  d__law_rules := c.def_ 11 (d := dd__law_rules) rfl
  d_content_copy := c.def_ 12 (d := dd_content_copy) rfl
  d_Thing_init := c.def_ 13 (d := dd_Thing_init) rfl
  d__law_number := c.def_ 14 (d := dd__law_number) rfl
  d__law_list := c.def_ 15 (d := dd__law_list) rfl
  d__law_contents := c.def_ 16 (d := dd__law_contents) rfl
  d__law_picture := c.def_ 17 (d := dd__law_picture) rfl
  d__law_shown := c.def_ 18 (d := dd__law_shown) rfl
  d_is_link := c.def_ 19 (d := dd_is_link) rfl
  d_cleared := c.def_ 20 (d := dd_cleared) rfl
  d_cleared_thing := c.def_ 21 (d := dd_cleared_thing) rfl
  d_Schema_kind_of := c.def_ 22 (d := dd_Schema_kind_of) rfl
  d_without_numbers := c.def_ 23 (d := dd_without_numbers) rfl
  d__law_names := c.def_ 24 (d := dd__law_names) rfl
  d__law_due := c.def_ 25 (d := dd__law_due) rfl
  d_Thing_copied := c.def_ 26 (d := dd_Thing_copied) rfl
  d_picture_copy := c.def_ 27 (d := dd_picture_copy) rfl
  d_Heap_init := c.def_ 28 (d := dd_Heap_init) rfl
  d_Heap_copied := c.def_ 29 (d := dd_Heap_copied) rfl
  d_Thing_eq := c.def_ 30 (d := dd_Thing_eq) rfl
  d_Heap_eq := c.def_ 31 (d := dd_Heap_eq) rfl
  d_Heap_picture_of := c.def_ 32 (d := dd_Heap_picture_of) rfl
  d_law := c.def_ 33 (d := dd_law) rfl
  g__law_cells := He.glo_ok X G (c.fact 0 (f := .glo "_law_cells") rfl)
  g__law_schema := He.glo_ok X G (c.fact 1 (f := .glo "_law_schema") rfl)
  g__law_draw := He.glo_ok X G (c.fact 2 (f := .glo "_law_draw") rfl)
  g__law_pick := He.glo_ok X G (c.fact 3 (f := .glo "_law_pick") rfl)
  g__law_rules := He.glo_ok X G (c.fact 4 (f := .glo "_law_rules") rfl)
  g_content_copy := He.glo_ok X G (c.fact 5 (f := .glo "content_copy") rfl)
  g__law_number := He.glo_ok X G (c.fact 6 (f := .glo "_law_number") rfl)
  g__law_list := He.glo_ok X G (c.fact 7 (f := .glo "_law_list") rfl)
  g__law_contents := He.glo_ok X G (c.fact 8 (f := .glo "_law_contents") rfl)
  g__law_picture := He.glo_ok X G (c.fact 9 (f := .glo "_law_picture") rfl)
  g__law_shown := He.glo_ok X G (c.fact 10 (f := .glo "_law_shown") rfl)
  g_is_link := He.glo_ok X G (c.fact 11 (f := .glo "is_link") rfl)
  g_cleared := He.glo_ok X G (c.fact 12 (f := .glo "cleared") rfl)
  g_cleared_thing := He.glo_ok X G (c.fact 13 (f := .glo "cleared_thing") rfl)
  g_without_numbers := He.glo_ok X G (c.fact 14 (f := .glo "without_numbers") rfl)
  g__law_names := He.glo_ok X G (c.fact 15 (f := .glo "_law_names") rfl)
  g__law_due := He.glo_ok X G (c.fact 16 (f := .glo "_law_due") rfl)
  g_picture_copy := He.glo_ok X G (c.fact 17 (f := .glo "picture_copy") rfl)
  g_law := He.glo_ok X G (c.fact 18 (f := .glo "law") rfl)
  b_int := He.free_ok X G (c.fact 19 (f := .free "int") rfl)
  b_isinstance := He.free_ok X G (c.fact 20 (f := .free "isinstance") rfl)
  b_len := He.free_ok X G (c.fact 21 (f := .free "len") rfl)
  b_list := He.free_ok X G (c.fact 22 (f := .free "list") rfl)
  b_range := He.free_ok X G (c.fact 23 (f := .free "range") rfl)
  b_repr := He.free_ok X G (c.fact 24 (f := .free "repr") rfl)
  b_sorted := He.free_ok X G (c.fact 25 (f := .free "sorted") rfl)
  gc_IntSort := He.glo_ok X G (c.fact 26 (f := .glo "IntSort") rfl)
  cl_IntSort := He.cls_ok (c.fact 27 (f := .cls "IntSort") rfl)
  mk_IntSort := He.mkr_ok (c.fact 28 (f := .mkr "IntSort") rfl)
  no_IntSort_high := He.noat_ok (c.fact 29 (f := .noat "IntSort" "high") rfl)
  no_IntSort_low := He.noat_ok (c.fact 30 (f := .noat "IntSort" "low") rfl)
  gc_TextSort := He.glo_ok X G (c.fact 31 (f := .glo "TextSort") rfl)
  cl_TextSort := He.cls_ok (c.fact 32 (f := .cls "TextSort") rfl)
  mk_TextSort := He.mkr_ok (c.fact 33 (f := .mkr "TextSort") rfl)
  no_TextSort_longest := He.noat_ok (c.fact 34 (f := .noat "TextSort" "longest") rfl)
  no_TextSort_without := He.noat_ok (c.fact 35 (f := .noat "TextSort" "without") rfl)
  gc_RefSort := He.glo_ok X G (c.fact 36 (f := .glo "RefSort") rfl)
  cl_RefSort := He.cls_ok (c.fact 37 (f := .cls "RefSort") rfl)
  mk_RefSort := He.mkr_ok (c.fact 38 (f := .mkr "RefSort") rfl)
  no_RefSort_kinds := He.noat_ok (c.fact 39 (f := .noat "RefSort" "kinds") rfl)
  no_RefSort_rule := He.noat_ok (c.fact 40 (f := .noat "RefSort" "rule") rfl)
  gc_ListSort := He.glo_ok X G (c.fact 41 (f := .glo "ListSort") rfl)
  cl_ListSort := He.cls_ok (c.fact 42 (f := .cls "ListSort") rfl)
  mk_ListSort := He.mkr_ok (c.fact 43 (f := .mkr "ListSort") rfl)
  no_ListSort_kinds := He.noat_ok (c.fact 44 (f := .noat "ListSort" "kinds") rfl)
  gc_Thing := He.glo_ok X G (c.fact 45 (f := .glo "Thing") rfl)
  cl_Thing := He.cls_ok (c.fact 46 (f := .cls "Thing") rfl)
  me_Thing_eq := He.meth_ok (c.fact 47 (f := .meth "Thing" "__eq__") rfl)
  me_Thing_copied := He.meth_ok (c.fact 48 (f := .meth "Thing" "copied") rfl)
  mk_Thing := He.mkr_ok (c.fact 49 (f := .mkr "Thing") rfl)
  no_Thing_contents := He.noat_ok (c.fact 50 (f := .noat "Thing" "contents") rfl)
  no_Thing_kind := He.noat_ok (c.fact 51 (f := .noat "Thing" "kind") rfl)
  gc_Heap := He.glo_ok X G (c.fact 52 (f := .glo "Heap") rfl)
  cl_Heap := He.cls_ok (c.fact 53 (f := .cls "Heap") rfl)
  me_Heap_eq := He.meth_ok (c.fact 54 (f := .meth "Heap" "__eq__") rfl)
  me_Heap_copied := He.meth_ok (c.fact 55 (f := .meth "Heap" "copied") rfl)
  me_Heap_picture_of := He.meth_ok (c.fact 56 (f := .meth "Heap" "picture_of") rfl)
  mk_Heap := He.mkr_ok (c.fact 57 (f := .mkr "Heap") rfl)
  no_Heap_pictures := He.noat_ok (c.fact 58 (f := .noat "Heap" "pictures") rfl)
  gc_Field := He.glo_ok X G (c.fact 59 (f := .glo "Field") rfl)
  cl_Field := He.cls_ok (c.fact 60 (f := .cls "Field") rfl)
  mk_Field := He.mkr_ok (c.fact 61 (f := .mkr "Field") rfl)
  no_Field_name := He.noat_ok (c.fact 62 (f := .noat "Field" "name") rfl)
  no_Field_needed := He.noat_ok (c.fact 63 (f := .noat "Field" "needed") rfl)
  no_Field_shape := He.noat_ok (c.fact 64 (f := .noat "Field" "shape") rfl)
  gc_Kind := He.glo_ok X G (c.fact 65 (f := .glo "Kind") rfl)
  cl_Kind := He.cls_ok (c.fact 66 (f := .cls "Kind") rfl)
  mk_Kind := He.mkr_ok (c.fact 67 (f := .mkr "Kind") rfl)
  no_Kind_fields := He.noat_ok (c.fact 68 (f := .noat "Kind" "fields") rfl)
  no_Kind_key_rows := He.noat_ok (c.fact 69 (f := .noat "Kind" "key_rows") rfl)
  no_Kind_name := He.noat_ok (c.fact 70 (f := .noat "Kind" "name") rfl)
  gc_Schema := He.glo_ok X G (c.fact 71 (f := .glo "Schema") rfl)
  cl_Schema := He.cls_ok (c.fact 72 (f := .cls "Schema") rfl)
  me_Schema_kind_of := He.meth_ok (c.fact 73 (f := .meth "Schema" "kind_of") rfl)
  mk_Schema := He.mkr_ok (c.fact 74 (f := .mkr "Schema") rfl)
  no_Schema_kinds := He.noat_ok (c.fact 75 (f := .noat "Schema" "kinds") rfl)
  if_IntSort := fIn_ok (allB_at x 0 (f := fIn "IntSort") rfl)
  it_IntSort_list := fIsT_ok (allB_at x 1 (f := fIsT "IntSort" "list" false) rfl)
  is_IntSort_Heap := fIs_ok (allB_at x 2 (f := fIs "IntSort" "Heap" false) rfl)
  is_IntSort_ListSort := fIs_ok (allB_at x 3 (f := fIs "IntSort" "ListSort" false) rfl)
  is_IntSort_RefSort := fIs_ok (allB_at x 4 (f := fIs "IntSort" "RefSort" false) rfl)
  is_IntSort_Thing := fIs_ok (allB_at x 5 (f := fIs "IntSort" "Thing" false) rfl)
  if_TextSort := fIn_ok (allB_at x 6 (f := fIn "TextSort") rfl)
  it_TextSort_list := fIsT_ok (allB_at x 7 (f := fIsT "TextSort" "list" false) rfl)
  is_TextSort_Heap := fIs_ok (allB_at x 8 (f := fIs "TextSort" "Heap" false) rfl)
  is_TextSort_ListSort := fIs_ok (allB_at x 9 (f := fIs "TextSort" "ListSort" false) rfl)
  is_TextSort_RefSort := fIs_ok (allB_at x 10 (f := fIs "TextSort" "RefSort" false) rfl)
  is_TextSort_Thing := fIs_ok (allB_at x 11 (f := fIs "TextSort" "Thing" false) rfl)
  if_RefSort := fIn_ok (allB_at x 12 (f := fIn "RefSort") rfl)
  it_RefSort_list := fIsT_ok (allB_at x 13 (f := fIsT "RefSort" "list" false) rfl)
  is_RefSort_Heap := fIs_ok (allB_at x 14 (f := fIs "RefSort" "Heap" false) rfl)
  is_RefSort_ListSort := fIs_ok (allB_at x 15 (f := fIs "RefSort" "ListSort" false) rfl)
  is_RefSort_RefSort := fIs_ok (allB_at x 16 (f := fIs "RefSort" "RefSort" true) rfl)
  is_RefSort_Thing := fIs_ok (allB_at x 17 (f := fIs "RefSort" "Thing" false) rfl)
  if_ListSort := fIn_ok (allB_at x 18 (f := fIn "ListSort") rfl)
  it_ListSort_list := fIsT_ok (allB_at x 19 (f := fIsT "ListSort" "list" false) rfl)
  is_ListSort_Heap := fIs_ok (allB_at x 20 (f := fIs "ListSort" "Heap" false) rfl)
  is_ListSort_ListSort := fIs_ok (allB_at x 21 (f := fIs "ListSort" "ListSort" true) rfl)
  is_ListSort_RefSort := fIs_ok (allB_at x 22 (f := fIs "ListSort" "RefSort" false) rfl)
  is_ListSort_Thing := fIs_ok (allB_at x 23 (f := fIs "ListSort" "Thing" false) rfl)
  if_Thing := fIn_ok (allB_at x 24 (f := fIn "Thing") rfl)
  it_Thing_list := fIsT_ok (allB_at x 25 (f := fIsT "Thing" "list" false) rfl)
  is_Thing_Heap := fIs_ok (allB_at x 26 (f := fIs "Thing" "Heap" false) rfl)
  is_Thing_ListSort := fIs_ok (allB_at x 27 (f := fIs "Thing" "ListSort" false) rfl)
  is_Thing_RefSort := fIs_ok (allB_at x 28 (f := fIs "Thing" "RefSort" false) rfl)
  is_Thing_Thing := fIs_ok (allB_at x 29 (f := fIs "Thing" "Thing" true) rfl)
  if_Heap := fIn_ok (allB_at x 30 (f := fIn "Heap") rfl)
  it_Heap_list := fIsT_ok (allB_at x 31 (f := fIsT "Heap" "list" false) rfl)
  is_Heap_Heap := fIs_ok (allB_at x 32 (f := fIs "Heap" "Heap" true) rfl)
  is_Heap_ListSort := fIs_ok (allB_at x 33 (f := fIs "Heap" "ListSort" false) rfl)
  is_Heap_RefSort := fIs_ok (allB_at x 34 (f := fIs "Heap" "RefSort" false) rfl)
  is_Heap_Thing := fIs_ok (allB_at x 35 (f := fIs "Heap" "Thing" false) rfl)
  if_Field := fIn_ok (allB_at x 36 (f := fIn "Field") rfl)
  it_Field_list := fIsT_ok (allB_at x 37 (f := fIsT "Field" "list" false) rfl)
  is_Field_Heap := fIs_ok (allB_at x 38 (f := fIs "Field" "Heap" false) rfl)
  is_Field_ListSort := fIs_ok (allB_at x 39 (f := fIs "Field" "ListSort" false) rfl)
  is_Field_RefSort := fIs_ok (allB_at x 40 (f := fIs "Field" "RefSort" false) rfl)
  is_Field_Thing := fIs_ok (allB_at x 41 (f := fIs "Field" "Thing" false) rfl)
  if_Kind := fIn_ok (allB_at x 42 (f := fIn "Kind") rfl)
  it_Kind_list := fIsT_ok (allB_at x 43 (f := fIsT "Kind" "list" false) rfl)
  is_Kind_Heap := fIs_ok (allB_at x 44 (f := fIs "Kind" "Heap" false) rfl)
  is_Kind_ListSort := fIs_ok (allB_at x 45 (f := fIs "Kind" "ListSort" false) rfl)
  is_Kind_RefSort := fIs_ok (allB_at x 46 (f := fIs "Kind" "RefSort" false) rfl)
  is_Kind_Thing := fIs_ok (allB_at x 47 (f := fIs "Kind" "Thing" false) rfl)
  if_Schema := fIn_ok (allB_at x 48 (f := fIn "Schema") rfl)
  it_Schema_list := fIsT_ok (allB_at x 49 (f := fIsT "Schema" "list" false) rfl)
  is_Schema_Heap := fIs_ok (allB_at x 50 (f := fIs "Schema" "Heap" false) rfl)
  is_Schema_ListSort := fIs_ok (allB_at x 51 (f := fIs "Schema" "ListSort" false) rfl)
  is_Schema_RefSort := fIs_ok (allB_at x 52 (f := fIs "Schema" "RefSort" false) rfl)
  is_Schema_Thing := fIs_ok (allB_at x 53 (f := fIs "Schema" "Thing" false) rfl)
  ti_NoneType_Heap := fTIs_ok (allB_at x 54 (f := fTIs "NoneType" "Heap" false) rfl)
  ti_bool_Heap := fTIs_ok (allB_at x 55 (f := fTIs "bool" "Heap" false) rfl)
  ti_int_Heap := fTIs_ok (allB_at x 56 (f := fTIs "int" "Heap" false) rfl)
  ti_str_Heap := fTIs_ok (allB_at x 57 (f := fTIs "str" "Heap" false) rfl)
  ti_list_Heap := fTIs_ok (allB_at x 58 (f := fTIs "list" "Heap" false) rfl)
  ti_tuple_Heap := fTIs_ok (allB_at x 59 (f := fTIs "tuple" "Heap" false) rfl)
  ti_dict_Heap := fTIs_ok (allB_at x 60 (f := fTIs "dict" "Heap" false) rfl)
  ti_NoneType_ListSort := fTIs_ok (allB_at x 61 (f := fTIs "NoneType" "ListSort" false) rfl)
  ti_bool_ListSort := fTIs_ok (allB_at x 62 (f := fTIs "bool" "ListSort" false) rfl)
  ti_int_ListSort := fTIs_ok (allB_at x 63 (f := fTIs "int" "ListSort" false) rfl)
  ti_str_ListSort := fTIs_ok (allB_at x 64 (f := fTIs "str" "ListSort" false) rfl)
  ti_list_ListSort := fTIs_ok (allB_at x 65 (f := fTIs "list" "ListSort" false) rfl)
  ti_tuple_ListSort := fTIs_ok (allB_at x 66 (f := fTIs "tuple" "ListSort" false) rfl)
  ti_dict_ListSort := fTIs_ok (allB_at x 67 (f := fTIs "dict" "ListSort" false) rfl)
  ti_NoneType_RefSort := fTIs_ok (allB_at x 68 (f := fTIs "NoneType" "RefSort" false) rfl)
  ti_bool_RefSort := fTIs_ok (allB_at x 69 (f := fTIs "bool" "RefSort" false) rfl)
  ti_int_RefSort := fTIs_ok (allB_at x 70 (f := fTIs "int" "RefSort" false) rfl)
  ti_str_RefSort := fTIs_ok (allB_at x 71 (f := fTIs "str" "RefSort" false) rfl)
  ti_list_RefSort := fTIs_ok (allB_at x 72 (f := fTIs "list" "RefSort" false) rfl)
  ti_tuple_RefSort := fTIs_ok (allB_at x 73 (f := fTIs "tuple" "RefSort" false) rfl)
  ti_dict_RefSort := fTIs_ok (allB_at x 74 (f := fTIs "dict" "RefSort" false) rfl)
  ti_NoneType_Thing := fTIs_ok (allB_at x 75 (f := fTIs "NoneType" "Thing" false) rfl)
  ti_bool_Thing := fTIs_ok (allB_at x 76 (f := fTIs "bool" "Thing" false) rfl)
  ti_int_Thing := fTIs_ok (allB_at x 77 (f := fTIs "int" "Thing" false) rfl)
  ti_str_Thing := fTIs_ok (allB_at x 78 (f := fTIs "str" "Thing" false) rfl)
  ti_list_Thing := fTIs_ok (allB_at x 79 (f := fTIs "list" "Thing" false) rfl)
  ti_tuple_Thing := fTIs_ok (allB_at x 80 (f := fTIs "tuple" "Thing" false) rfl)
  ti_dict_Thing := fTIs_ok (allB_at x 81 (f := fTIs "dict" "Thing" false) rfl)
  nq_Heap := neF2_ok (allB_at x 82 (f := neF2B "Heap") rfl)
abbrev R : PySem.W.OpenRow := PySem.W.OpenLaw.row PySem.Challenge.rw_oneheap_k48_numbers_leave_contents
abbrev hk : PySem.W.Hook := G.hookZ 5 fa fn gs (allB exs) (fun _ => none) none (fun _ => true)
def ob (s : PySem.W.SharedT) : G.AlZ := G.obsZ 5 fa fn gs (allB exs) (fun _ => none) (fun _ => true) (HandSHeadRun.getT s)
theorem ob_eq (s : PySem.W.SharedT) : ob s = hk.obs s.abs := G.obsZ_eq (HandSHeadRun.getT_eq s)
def nm : List Str := [("_wall" : Str), ("IntSort" : Str), ("TextSort" : Str), ("RefSort" : Str), ("ListSort" : Str), ("is_link" : Str), ("Thing" : Str), ("content_copy" : Str), ("picture_copy" : Str), ("cleared" : Str), ("Heap" : Str), ("cleared_thing" : Str), ("without_numbers" : Str), ("Field" : Str), ("Kind" : Str), ("Schema" : Str), ("_law_cells" : Str), ("_law_draw" : Str), ("_law_pick" : Str), ("_law_names" : Str), ("_law_rules" : Str), ("_law_schema" : Str), ("_law_number" : Str), ("_law_list" : Str), ("_law_contents" : Str), ("_law_picture" : Str), ("_law_shown" : Str), ("_law_due" : Str)]
noncomputable abbrev EndR (w : World) (os : OsState) : Option PySem.W.SharedT := HandSHeadRun.endF (HandSHeadRun.stepQ (HandSHeadRun.denQ HandSHeadRun.tabQ) R.prog w) 6000 R.prog w os
abbrev Ks (s : PySem.W.SharedT) : PySem.W.Frag := He.frT (HandSHeadRun.getT s) (asY (HandSHeadRun.getT s) 5)
theorem map2 {α β γ : Type} {o : Option α} {f : α → β} {g : α → γ} {b : β} {c : γ} (h1 : o.map f = some b) (h2 : o.map g = some c) : o.map (fun s => (f s, g s)) = some (b, c) := by
  cases o with
  | none => cases h1
  | some a =>
    injection h1 with h1
    injection h2 with h2
    subst h1 h2
    rfl
theorem mapA {α : Type} {o : Option α} {f g : α → Bool} (h1 : o.map f = some true) (h2 : o.map g = some true) : o.map (fun s => f s && g s) = some true := by
  cases o with
  | none => cases h1
  | some a =>
    injection h1 with h1
    injection h2 with h2
    show some (f a && g a) = _
    rw [h1, h2]
    rfl
theorem run_a (w : World) (os : OsState) : (EndR w os).map (fun s => HandSHeadRun.looksF R.prog (boot_heap w.params) s.abs) = some true := by kernel_rfl
theorem run_b (w : World) (os : OsState) : (EndR w os).map (fun s => HandSHeadRun.seenQ (PySem.W.view R.prog [34]) nm (importedModules R.prog.main.body) (fun s => xlAt (PySem.W.view R.prog [34]) [] s && recOk R.toRowW.records s) s.abs) = some (openGood (PySem.W.view R.prog [34]) nm) := by kernel_rfl
theorem run_c (w : World) (os : OsState) : (EndR w os).map (fun s => (fa.all fun f => f.ok (Ks s))) = some true := by kernel_rfl
theorem run_d (w : World) (os : OsState) : (EndR w os).map (fun s => (fn.all fun d => d.ok (Ks s))) = some true := by kernel_rfl
theorem run_e (w : World) (os : OsState) : (EndR w os).map (fun s => (fn.map fun d => He.fnW (Ks s) d.at_)) = some (fn.map He.DefD.val) := by kernel_rfl
theorem run_f (w : World) (os : OsState) : (EndR w os).map (fun s => ((gs.map fun d => fnA (Ks s) (pAd (Ks s) d.cls d.name)), ((none : FnC)))) = some (gs.map DefP.val, none) := by kernel_rfl
theorem run_g (w : World) (os : OsState) : (EndR w os).map (fun s => (allB exs (Ks s) && ((true) && gs.all fun d => d.ok (Ks s)))) = some true := by kernel_rfl
theorem run_ob (w : World) (os : OsState) : (EndR w os).map (fun s => ob s) = some (hk.val w) := by
  have h := map2 (map2 (mapA (run_c w os) (run_d w os)) (run_e w os)) (map2 (run_f w os) (run_g w os))
  revert h
  generalize EndR w os = z
  cases z with
  | none => intro h; cases h
  | some s =>
    intro h
    injection h with h
    have h1 := congrArg (fun x => x.1) h
    have h2 := congrArg (fun x => x.2.1.1) h
    have h3 := congrArg (fun x => x.2.1.2) h
    have h4 := congrArg (fun x => x.2.2) h
    exact congrArg some (Prod.ext h1 (Prod.ext h2 (Prod.ext h3 h4)))
theorem run (w : World) : HandSHeadRun.RunEq R (PySem.W.view R.prog [34]) hk ob 6000 nm w := fun os => map2 (run_a w os) (map2 (run_b w os) (run_ob w os))
end Lw

local macro_rules | `(tactic| walk_at "go1") => `(tactic| first
  | with_reducible refine G.g_seq ?_
  | (with_reducible show L2.tVar _ _ _ _; refine G.g_var rfl ?_)
  | with_reducible refine G.g_c ?_
  | with_reducible refine G.g_op ?_
  | with_reducible refine G.g_asg ?_
  | with_reducible refine G.g_if ?_
  | with_reducible refine G.g_test ?_
  | with_reducible refine G.g_k ?_
  | with_reducible refine G.g_tru ?_
  | with_reducible refine G.v_truB ?_
  | with_reducible refine G.v_truN ?_
  | with_reducible refine L2.iteT ?_
  | with_reducible refine L2.iteF ?_
  | with_reducible refine G.iteNT ?_
  | with_reducible refine G.iteNF ?_
  | with_reducible refine G.v_addI ?_
  | with_reducible refine G.v_sub ?_
  | with_reducible refine G.v_lt ?_
  | with_reducible refine G.v_le ?_
  | with_reducible refine G.v_gt ?_
  | with_reducible refine G.v_ge ?_
  | with_reducible refine G.v_eqI ?_
  | with_reducible refine G.v_eqT ?_
  | with_reducible refine G.v_eqB ?_
  | with_reducible refine G.v_neI ?_
  | with_reducible refine G.v_neT ?_
  | with_reducible refine G.v_neB ?_
  | with_reducible refine G.v_inC ?_
  | with_reducible refine G.v_notInC ?_
  | with_reducible refine G.v_isN ?_
  | with_reducible refine G.v_isNotN ?_
  | with_reducible refine G.v_isB ?_
  | with_reducible refine G.v_isNotB ?_
  | with_reducible refine G.g_chain ?_
  | with_reducible refine G.v_find ?_
  | with_reducible refine G.g_meth1 ?_
  | with_reducible refine G.g_yes ?_
  | with_reducible refine G.g_lstRg ?_
  | with_reducible refine G.v_intI ?_
  | with_reducible refine G.g_callB ?_
  | with_reducible refine G.g_call ?_
  | with_reducible refine G.g_nil ?_
  | with_reducible refine G.g_cons ?_
  | with_reducible refine G.g_and ?_
  | with_reducible refine G.g_or ?_
  | with_reducible refine G.g_not ?_
  | with_reducible refine G.g_andV ?_
  | with_reducible refine G.g_orV ?_
  | with_reducible refine G.g_notV ?_
  | with_reducible refine G.g_ifE ?_
  | with_reducible refine G.g_un ?_
  | with_reducible refine G.g_tupK ?_
  | with_reducible refine G.g_lstK ?_
  | with_reducible refine G.g_small (Nat.le_of_ble_eq_true rfl) ?_
  | with_reducible refine G.g_drop ?_
  | with_reducible refine G.g_ret ?_
  | with_reducible refine G.g_retN ?_
  | with_reducible refine G.g_next ?_
  | with_reducible refine G.g_brk ?_
  | with_reducible refine G.g_cont ?_
  | with_reducible refine G.g_for ?_
  | with_reducible refine G.g_name ?_
  | with_reducible refine G.g_rng1 ?_
  | with_reducible refine G.g_rng2 ?_
  | with_reducible refine G.g_bm ?_
  | with_reducible refine G.g_bm0 ?_
  | with_reducible refine G.g_tyS ?_
  | with_reducible refine G.g_m1 ?_
  | with_reducible refine G.g_isS ?_
  | with_reducible refine G.v_starts3 ?_
  | with_reducible refine G.g_sl ?_
  | with_reducible refine G.g_no ?_
  | with_reducible refine G.g_part ?_
  | with_reducible refine G.g_isI ?_
  | with_reducible refine G.g_makeK ?_
  | with_reducible refine G.g_fld ?_
  | with_reducible refine G.g_sfld ?_
  | with_reducible refine G.g_asgG ?_
  | with_reducible refine G.g_sub ?_
  | with_reducible refine G.g_gcons ?_
  | with_reducible refine G.g_gnil ?_
  | with_reducible refine G.v_mulI (by unfold L2.CMul; first | (left; omega) | (right; omega)) ?_
  | with_reducible refine G.v_mod (by omega) ?_
  | with_reducible refine G.v_div (by unfold L2.CDiv; omega) ?_
  | with_reducible refine G.v_leS ?_
  | with_reducible refine G.g_raise ?_
  | with_reducible refine G.v_neg ?_
  | with_reducible refine G.g_lcK ?_
  | with_reducible refine G.g_wt ?_
  | with_reducible refine G.g_prop ?_
  | with_reducible refine G.g_joinE ?_
  | with_reducible refine G.g_jsC ?_
  | with_reducible refine G.g_jsN ?_
  | with_reducible refine G.g_fmt ?_
  | with_reducible refine G.g_fz ?_
  | with_reducible refine G.g_dget ?_
  | with_reducible refine G.g_din ?_
  | with_reducible refine G.g_dnin ?_
  | with_reducible refine G.g_dget1 ?_
  | with_reducible refine G.g_dnew ?_
  | with_reducible refine G.g_dput ?_
  | with_reducible refine G.g_dcK ?_
  | with_reducible refine G.gi_keys ?_
  | walk_at "fld")
local macro_rules | `(tactic| walk_at "sm") => `(tactic| first
  | assumption
  | exact L2.Same.refl _
  | exact G.HH.sub (by assumption)
  | (refine L2.Same.trans (by assumption) ?_; walk_at "sm"))
local macro_rules | `(tactic| walk_at "at") => `(tactic| first
  | assumption
  | exact G.At.of
  | (refine G.At.mono ?_ (by assumption); walk_at "sm"))
local macro_rules | `(tactic| walk_at "atl") => `(tactic| first
  | exact G.AtA.nil
  | (refine G.AtA.cons (by walk_at "at") ?_; walk_at "atl"))
local macro_rules | `(tactic| walk_at "er") => `(tactic| first
  | exact fun _ _ b => b
  | exact fun _ _ b => G.Er.mono b (by walk_at "sm")
  | exact fun _ _ b => G.Er.up b
  | exact fun _ _ b => G.Er.up (G.Er.mono b (by walk_at "sm"))
  | exact fun _ _ b => G.Er.up (G.Er.up b)
  | exact fun _ _ b => G.Er.up (G.Er.up (G.Er.mono b (by walk_at "sm")))
  | exact fun _ _ b => G.Er.up (G.Er.up (G.Er.up (G.Er.mono b (by walk_at "sm"))))
  | exact fun _ _ b => G.Er.up (G.Er.up (G.Er.up (G.Er.up (G.Er.mono b (by walk_at "sm"))))))
local macro_rules | `(tactic| walk_at "fld") => `(tactic| fail "no field")
local macro_rules | `(tactic| walk_at "go") => `(tactic| repeat walk_at "go1")

namespace Lw
open PySem PySem.Spec PyProof.Rows L2 G
section
variable {K : PySem.W.Frag} {F F0 H H' : Hp} {Q : VK} {E : XK} {mg : Str → Option Value} {M : List (Addr × HO)} {x m : V}
abbrev o_IntSort (a0 a1 : D) : D := .obj "IntSort" [("low", a0), ("high", a1)]
theorem f_IntSort_low (T : Tx K mg) {a0 a1 : D} (h : At K F0 (o_IntSort a0 a1) x) (s : Same F0 H) (q : ∀ w, At K F0 a0 w → Q w H) : FldK K "low" x H Q := s_fld h s T.cl_IntSort T.no_IntSort_low (lk1 rfl) q
theorem fv_IntSort_low (T : Tx K mg) {a1 : D} (h : At K F0 (o_IntSort (.v m) a1) x) (s : Same F0 H) (q : Q m H) : FldK K "low" x H Q := s_fld h s T.cl_IntSort T.no_IntSort_low (lk1 rfl) fun w e => by rw [At.v_.mp e]; exact q
theorem f_IntSort_high (T : Tx K mg) {a0 a1 : D} (h : At K F0 (o_IntSort a0 a1) x) (s : Same F0 H) (q : ∀ w, At K F0 a1 w → Q w H) : FldK K "high" x H Q := s_fld h s T.cl_IntSort T.no_IntSort_high (lk2 (by decide +kernel) (lk1 rfl)) q
theorem fv_IntSort_high (T : Tx K mg) {a0 : D} (h : At K F0 (o_IntSort a0 (.v m)) x) (s : Same F0 H) (q : Q m H) : FldK K "high" x H Q := s_fld h s T.cl_IntSort T.no_IntSort_high (lk2 (by decide +kernel) (lk1 rfl)) fun w e => by rw [At.v_.mp e]; exact q
theorem mk_IntSort (T : Tx K mg) {a0 a1 : D} {x0 x1 : V} (hh : HH F H M) (h0 : At K F a0 x0) (h1 : At K F a1 x1) (q : ∀ F' H' u, Same F F' → HH F' H' M → At K F' (o_IntSort a0 a1) u → Q u H') : MakeK (He.ga K "IntSort") (sp_IntSort_init K) [x0, x1] Q H E := by
  refine mk_start hh fun F1 H1 v dx s1 hh => ?_
  refine ⟨rfl, ?_⟩
  unfold t_IntSort_init
  walk_at "go"
  refine s_sfld hh T.cl_IntSort T.no_IntSort_low [] rfl (by decide +kernel) (Nat.le_of_ble_eq_true rfl) fun H1'' hh => ?_
  walk_at "go"
  refine s_sfld hh T.cl_IntSort T.no_IntSort_high ["low"] rfl (by decide +kernel) (Nat.le_of_ble_eq_true rfl) fun H1'' hh => ?_
  exact ⟨rfl, mk_end hh (AtF.cons (h0.mono s1) (AtF.cons (h1.mono s1) (AtF.nil))) fun F2 H2 u s2 hh2 ha => q F2 H2 u (s1.trans s2) hh2 ha⟩
abbrev o_TextSort (a0 a1 : D) : D := .obj "TextSort" [("longest", a0), ("without", a1)]
theorem f_TextSort_longest (T : Tx K mg) {a0 a1 : D} (h : At K F0 (o_TextSort a0 a1) x) (s : Same F0 H) (q : ∀ w, At K F0 a0 w → Q w H) : FldK K "longest" x H Q := s_fld h s T.cl_TextSort T.no_TextSort_longest (lk1 rfl) q
theorem fv_TextSort_longest (T : Tx K mg) {a1 : D} (h : At K F0 (o_TextSort (.v m) a1) x) (s : Same F0 H) (q : Q m H) : FldK K "longest" x H Q := s_fld h s T.cl_TextSort T.no_TextSort_longest (lk1 rfl) fun w e => by rw [At.v_.mp e]; exact q
theorem f_TextSort_without (T : Tx K mg) {a0 a1 : D} (h : At K F0 (o_TextSort a0 a1) x) (s : Same F0 H) (q : ∀ w, At K F0 a1 w → Q w H) : FldK K "without" x H Q := s_fld h s T.cl_TextSort T.no_TextSort_without (lk2 (by decide +kernel) (lk1 rfl)) q
theorem fv_TextSort_without (T : Tx K mg) {a0 : D} (h : At K F0 (o_TextSort a0 (.v m)) x) (s : Same F0 H) (q : Q m H) : FldK K "without" x H Q := s_fld h s T.cl_TextSort T.no_TextSort_without (lk2 (by decide +kernel) (lk1 rfl)) fun w e => by rw [At.v_.mp e]; exact q
theorem mk_TextSort (T : Tx K mg) {a0 a1 : D} {x0 x1 : V} (hh : HH F H M) (h0 : At K F a0 x0) (h1 : At K F a1 x1) (q : ∀ F' H' u, Same F F' → HH F' H' M → At K F' (o_TextSort a0 a1) u → Q u H') : MakeK (He.ga K "TextSort") (sp_TextSort_init K) [x0, x1] Q H E := by
  refine mk_start hh fun F1 H1 v dx s1 hh => ?_
  refine ⟨rfl, ?_⟩
  unfold t_TextSort_init
  walk_at "go"
  refine s_sfld hh T.cl_TextSort T.no_TextSort_longest [] rfl (by decide +kernel) (Nat.le_of_ble_eq_true rfl) fun H1'' hh => ?_
  walk_at "go"
  refine s_sfld hh T.cl_TextSort T.no_TextSort_without ["longest"] rfl (by decide +kernel) (Nat.le_of_ble_eq_true rfl) fun H1'' hh => ?_
  exact ⟨rfl, mk_end hh (AtF.cons (h0.mono s1) (AtF.cons (h1.mono s1) (AtF.nil))) fun F2 H2 u s2 hh2 ha => q F2 H2 u (s1.trans s2) hh2 ha⟩
abbrev o_RefSort (a0 a1 : D) : D := .obj "RefSort" [("kinds", a0), ("rule", a1)]
theorem f_RefSort_kinds (T : Tx K mg) {a0 a1 : D} (h : At K F0 (o_RefSort a0 a1) x) (s : Same F0 H) (q : ∀ w, At K F0 a0 w → Q w H) : FldK K "kinds" x H Q := s_fld h s T.cl_RefSort T.no_RefSort_kinds (lk1 rfl) q
theorem fv_RefSort_kinds (T : Tx K mg) {a1 : D} (h : At K F0 (o_RefSort (.v m) a1) x) (s : Same F0 H) (q : Q m H) : FldK K "kinds" x H Q := s_fld h s T.cl_RefSort T.no_RefSort_kinds (lk1 rfl) fun w e => by rw [At.v_.mp e]; exact q
theorem f_RefSort_rule (T : Tx K mg) {a0 a1 : D} (h : At K F0 (o_RefSort a0 a1) x) (s : Same F0 H) (q : ∀ w, At K F0 a1 w → Q w H) : FldK K "rule" x H Q := s_fld h s T.cl_RefSort T.no_RefSort_rule (lk2 (by decide +kernel) (lk1 rfl)) q
theorem fv_RefSort_rule (T : Tx K mg) {a0 : D} (h : At K F0 (o_RefSort a0 (.v m)) x) (s : Same F0 H) (q : Q m H) : FldK K "rule" x H Q := s_fld h s T.cl_RefSort T.no_RefSort_rule (lk2 (by decide +kernel) (lk1 rfl)) fun w e => by rw [At.v_.mp e]; exact q
theorem mk_RefSort (T : Tx K mg) {a1 : D} {a0 : List D} {x0 x1 : V} (hh : HH F H M) (h0 : At K F (.lst a0) x0) (h1 : At K F a1 x1) (q : ∀ F' H' u, Same F F' → HH F' H' M → At K F' (o_RefSort (.lst a0) a1) u → Q u H') : MakeK (He.ga K "RefSort") (sp_RefSort_init K) [x0, x1] Q H E := by
  refine mk_start hh fun F1 H1 v dx s1 hh => ?_
  refine ⟨rfl, ?_⟩
  unfold t_RefSort_init
  walk_at "go"
  refine s_listL h0 hh s1 fun F1' H1' u0 s2 hh h0 => ?_
  replace s1 := s1.trans s2
  walk_at "go"
  refine s_sfld hh T.cl_RefSort T.no_RefSort_kinds [] rfl (by decide +kernel) (Nat.le_of_ble_eq_true rfl) fun H1'' hh => ?_
  walk_at "go"
  refine s_sfld hh T.cl_RefSort T.no_RefSort_rule ["kinds"] rfl (by decide +kernel) (Nat.le_of_ble_eq_true rfl) fun H1'' hh => ?_
  exact ⟨rfl, mk_end hh (AtF.cons h0 (AtF.cons (h1.mono s1) (AtF.nil))) fun F2 H2 u s2 hh2 ha => q F2 H2 u (s1.trans s2) hh2 ha⟩
abbrev o_ListSort (a0 : D) : D := .obj "ListSort" [("kinds", a0)]
theorem f_ListSort_kinds (T : Tx K mg) {a0 : D} (h : At K F0 (o_ListSort a0) x) (s : Same F0 H) (q : ∀ w, At K F0 a0 w → Q w H) : FldK K "kinds" x H Q := s_fld h s T.cl_ListSort T.no_ListSort_kinds (lk1 rfl) q
theorem fv_ListSort_kinds (T : Tx K mg) {z : D} (h : At K F0 (o_ListSort (.v m)) x) (s : Same F0 H) (q : Q m H) : FldK K "kinds" x H Q := s_fld h s T.cl_ListSort T.no_ListSort_kinds (lk1 rfl) fun w e => by rw [At.v_.mp e]; exact q
theorem mk_ListSort (T : Tx K mg) {a0 : List D} {x0 : V} (hh : HH F H M) (h0 : At K F (.lst a0) x0) (q : ∀ F' H' u, Same F F' → HH F' H' M → At K F' (o_ListSort (.lst a0)) u → Q u H') : MakeK (He.ga K "ListSort") (sp_ListSort_init K) [x0] Q H E := by
  refine mk_start hh fun F1 H1 v dx s1 hh => ?_
  refine ⟨rfl, ?_⟩
  unfold t_ListSort_init
  walk_at "go"
  refine s_listL h0 hh s1 fun F1' H1' u0 s2 hh h0 => ?_
  replace s1 := s1.trans s2
  walk_at "go"
  refine s_sfld hh T.cl_ListSort T.no_ListSort_kinds [] rfl (by decide +kernel) (Nat.le_of_ble_eq_true rfl) fun H1'' hh => ?_
  exact ⟨rfl, mk_end hh (AtF.cons h0 (AtF.nil)) fun F2 H2 u s2 hh2 ha => q F2 H2 u (s1.trans s2) hh2 ha⟩
abbrev o_Field (a0 a1 a2 : D) : D := .obj "Field" [("name", a0), ("shape", a1), ("needed", a2)]
theorem f_Field_name (T : Tx K mg) {a0 a1 a2 : D} (h : At K F0 (o_Field a0 a1 a2) x) (s : Same F0 H) (q : ∀ w, At K F0 a0 w → Q w H) : FldK K "name" x H Q := s_fld h s T.cl_Field T.no_Field_name (lk1 rfl) q
theorem fv_Field_name (T : Tx K mg) {a1 a2 : D} (h : At K F0 (o_Field (.v m) a1 a2) x) (s : Same F0 H) (q : Q m H) : FldK K "name" x H Q := s_fld h s T.cl_Field T.no_Field_name (lk1 rfl) fun w e => by rw [At.v_.mp e]; exact q
theorem f_Field_shape (T : Tx K mg) {a0 a1 a2 : D} (h : At K F0 (o_Field a0 a1 a2) x) (s : Same F0 H) (q : ∀ w, At K F0 a1 w → Q w H) : FldK K "shape" x H Q := s_fld h s T.cl_Field T.no_Field_shape (lk2 (by decide +kernel) (lk1 rfl)) q
theorem fv_Field_shape (T : Tx K mg) {a0 a2 : D} (h : At K F0 (o_Field a0 (.v m) a2) x) (s : Same F0 H) (q : Q m H) : FldK K "shape" x H Q := s_fld h s T.cl_Field T.no_Field_shape (lk2 (by decide +kernel) (lk1 rfl)) fun w e => by rw [At.v_.mp e]; exact q
theorem f_Field_needed (T : Tx K mg) {a0 a1 a2 : D} (h : At K F0 (o_Field a0 a1 a2) x) (s : Same F0 H) (q : ∀ w, At K F0 a2 w → Q w H) : FldK K "needed" x H Q := s_fld h s T.cl_Field T.no_Field_needed (lk2 (by decide +kernel) (lk2 (by decide +kernel) (lk1 rfl))) q
theorem fv_Field_needed (T : Tx K mg) {a0 a1 : D} (h : At K F0 (o_Field a0 a1 (.v m)) x) (s : Same F0 H) (q : Q m H) : FldK K "needed" x H Q := s_fld h s T.cl_Field T.no_Field_needed (lk2 (by decide +kernel) (lk2 (by decide +kernel) (lk1 rfl))) fun w e => by rw [At.v_.mp e]; exact q
theorem mk_Field (T : Tx K mg) {a0 a1 a2 : D} {x0 x1 x2 : V} (hh : HH F H M) (h0 : At K F a0 x0) (h1 : At K F a1 x1) (h2 : At K F a2 x2) (q : ∀ F' H' u, Same F F' → HH F' H' M → At K F' (o_Field a0 a1 a2) u → Q u H') : MakeK (He.ga K "Field") (sp_Field_init K) [x0, x1, x2] Q H E := by
  refine mk_start hh fun F1 H1 v dx s1 hh => ?_
  refine ⟨rfl, ?_⟩
  unfold t_Field_init
  walk_at "go"
  refine s_sfld hh T.cl_Field T.no_Field_name [] rfl (by decide +kernel) (Nat.le_of_ble_eq_true rfl) fun H1'' hh => ?_
  walk_at "go"
  refine s_sfld hh T.cl_Field T.no_Field_shape ["name"] rfl (by decide +kernel) (Nat.le_of_ble_eq_true rfl) fun H1'' hh => ?_
  walk_at "go"
  refine s_sfld hh T.cl_Field T.no_Field_needed ["name", "shape"] rfl (by decide +kernel) (Nat.le_of_ble_eq_true rfl) fun H1'' hh => ?_
  exact ⟨rfl, mk_end hh (AtF.cons (h0.mono s1) (AtF.cons (h1.mono s1) (AtF.cons (h2.mono s1) (AtF.nil)))) fun F2 H2 u s2 hh2 ha => q F2 H2 u (s1.trans s2) hh2 ha⟩
abbrev o_Schema (a0 : D) : D := .obj "Schema" [("kinds", a0)]
theorem f_Schema_kinds (T : Tx K mg) {a0 : D} (h : At K F0 (o_Schema a0) x) (s : Same F0 H) (q : ∀ w, At K F0 a0 w → Q w H) : FldK K "kinds" x H Q := s_fld h s T.cl_Schema T.no_Schema_kinds (lk1 rfl) q
theorem fv_Schema_kinds (T : Tx K mg) {z : D} (h : At K F0 (o_Schema (.v m)) x) (s : Same F0 H) (q : Q m H) : FldK K "kinds" x H Q := s_fld h s T.cl_Schema T.no_Schema_kinds (lk1 rfl) fun w e => by rw [At.v_.mp e]; exact q
theorem mk_Schema (T : Tx K mg) {a0 : List D} {x0 : V} (hh : HH F H M) (h0 : At K F (.lst a0) x0) (q : ∀ F' H' u, Same F F' → HH F' H' M → At K F' (o_Schema (.lst a0)) u → Q u H') : MakeK (He.ga K "Schema") (sp_Schema_init K) [x0] Q H E := by
  refine mk_start hh fun F1 H1 v dx s1 hh => ?_
  refine ⟨rfl, ?_⟩
  unfold t_Schema_init
  walk_at "go"
  refine s_listL h0 hh s1 fun F1' H1' u0 s2 hh h0 => ?_
  replace s1 := s1.trans s2
  walk_at "go"
  refine s_sfld hh T.cl_Schema T.no_Schema_kinds [] rfl (by decide +kernel) (Nat.le_of_ble_eq_true rfl) fun H1'' hh => ?_
  exact ⟨rfl, mk_end hh (AtF.cons h0 (AtF.nil)) fun F2 H2 u s2 hh2 ha => q F2 H2 u (s1.trans s2) hh2 ha⟩
end
end Lw
local macro_rules | `(tactic| walk_at "fld") => `(tactic| first
  | (with_reducible refine Lw.fv_IntSort_low (by assumption) (by assumption) (by walk_at "sm") ?_)
  | (with_reducible refine Lw.f_IntSort_low (by assumption) (by assumption) (by walk_at "sm") ?_; intro _ _)
  | (with_reducible refine Lw.fv_IntSort_high (by assumption) (by assumption) (by walk_at "sm") ?_)
  | (with_reducible refine Lw.f_IntSort_high (by assumption) (by assumption) (by walk_at "sm") ?_; intro _ _)
  | (with_reducible refine Lw.fv_TextSort_longest (by assumption) (by assumption) (by walk_at "sm") ?_)
  | (with_reducible refine Lw.f_TextSort_longest (by assumption) (by assumption) (by walk_at "sm") ?_; intro _ _)
  | (with_reducible refine Lw.fv_TextSort_without (by assumption) (by assumption) (by walk_at "sm") ?_)
  | (with_reducible refine Lw.f_TextSort_without (by assumption) (by assumption) (by walk_at "sm") ?_; intro _ _)
  | (with_reducible refine Lw.fv_RefSort_kinds (by assumption) (by assumption) (by walk_at "sm") ?_)
  | (with_reducible refine Lw.f_RefSort_kinds (by assumption) (by assumption) (by walk_at "sm") ?_; intro _ _)
  | (with_reducible refine Lw.fv_RefSort_rule (by assumption) (by assumption) (by walk_at "sm") ?_)
  | (with_reducible refine Lw.f_RefSort_rule (by assumption) (by assumption) (by walk_at "sm") ?_; intro _ _)
  | (with_reducible refine Lw.fv_ListSort_kinds (by assumption) (by assumption) (by walk_at "sm") ?_)
  | (with_reducible refine Lw.f_ListSort_kinds (by assumption) (by assumption) (by walk_at "sm") ?_; intro _ _)
  | (with_reducible refine Lw.fv_Field_name (by assumption) (by assumption) (by walk_at "sm") ?_)
  | (with_reducible refine Lw.f_Field_name (by assumption) (by assumption) (by walk_at "sm") ?_; intro _ _)
  | (with_reducible refine Lw.fv_Field_shape (by assumption) (by assumption) (by walk_at "sm") ?_)
  | (with_reducible refine Lw.f_Field_shape (by assumption) (by assumption) (by walk_at "sm") ?_; intro _ _)
  | (with_reducible refine Lw.fv_Field_needed (by assumption) (by assumption) (by walk_at "sm") ?_)
  | (with_reducible refine Lw.f_Field_needed (by assumption) (by assumption) (by walk_at "sm") ?_; intro _ _)
  | (with_reducible refine Lw.fv_Schema_kinds (by assumption) (by assumption) (by walk_at "sm") ?_)
  | (with_reducible refine Lw.f_Schema_kinds (by assumption) (by assumption) (by walk_at "sm") ?_; intro _ _))


-- fld
namespace Lw
open PySem PySem.Spec PyProof.Rows L2 G
theorem HH.same {F H H' : Hp} {M : List (Addr × HO)} (h : HH F H M) (s : Same H H') : HH F H' M := ⟨h.sub.trans s, h.nd, fun p hp => ⟨s _ _ (h.cell p hp).1, (h.cell p hp).2⟩⟩
/-- the draws' cell: a list of ints, not empty -/
def DrO (o : HO) : Prop := ∃ xs : List Int, xs ≠ [] ∧ xs.length ≤ 64 ∧ o = .lst (xs.map V.int)
section
variable {K : PySem.W.Frag} {F F0 F1 F2 H H' : Hp} {Q : VK} {E : XK} {mg : Str → Option Value} {M : List (Addr × HO)} {x : V} {o : HO} {d : Addr}
theorem rd_cells {a : Addr} {ns : List Int} {n : Nat} (hh : HH F H M) (hS : SqL K F a (ns.map V.int)) (hn0 : 0 < n) (hn : n ≤ 64)
    (q : ∀ H' d o, DrO o → HH F H' ((d, o) :: M) → Q (.ref d) H') : sp__law_cells K [.ref a, .int (n : Int)] H Q E := by
  refine ⟨rfl, ?_⟩
  unfold t__law_cells
  walk_at "go"
  refine o_lst hh (by decide) fun H1 p hh => ?_
  walk_at "go"
  refine g_rngN (n := n) (by omega) ?_
  refine l_range (fun i σ H' => i ≤ n ∧ ∃ (xs : List Int) (v4 v5 : Option V), xs.length = i ∧ σ = [some (.ref a), some (.int n), some (.ref p), v4, v5] ∧ HH F H' ((p, .lst (xs.map V.int)) :: M))
    ⟨Nat.zero_le _, [], none, none, rfl, rfl, hh⟩ ?_ ?_
  · clear hh
    rintro i σ H' hi ⟨_, xs, v4, v5, hl, rfl, hh⟩
    walk_at "go"
    refine g_cut (fun σ' H'' => H' = H'' ∧ ∃ c : Int, σ' = [some (.ref a), some (.int n), some (.ref p), some (.int (0 + i)), some (.int c)]) ?_ ?_
    · walk_at "go"
      refine v_lenSq (hh.sub.seq hS) ?_
      walk_at "go"
      refine ite2 (fun hlt => ?_) (fun hlt => ?_)
      · have hlt' := of_decide_eq_true hlt
        rw [List.length_map] at hlt'
        walk_at "go"
        refine v_ixSq (hh.sub.seq hS) (atN (i := i) (by omega) (List.getElem?_eq_getElem (by rw [List.length_map]; omega))) ?_
        rw [List.getElem_map]
        walk_at "go"
        refine ite2 (fun h0 => ?_) (fun h0 => ?_)
        · walk_at "go"
          exact ⟨rfl, _, rfl⟩
        · walk_at "go"
          exact ⟨rfl, _, rfl⟩
      · walk_at "go"
        exact ⟨rfl, _, rfl⟩
    rintro σ' H'' ⟨rfl, c, rfl⟩
    refine g_cut (fun σ' H'' => H' = H'' ∧ ∃ c : Int, σ' = [some (.ref a), some (.int n), some (.ref p), some (.int (0 + i)), some (.int c)]) ?_ ?_
    · walk_at "go"
      refine ite2 (fun hlt => ?_) (fun hlt => ?_)
      · walk_at "go"
        exact ⟨rfl, _, rfl⟩
      · walk_at "go"
        exact ⟨rfl, _, rfl⟩
    rintro σ' H'' ⟨rfl, c, rfl⟩
    walk_at "go"
    refine o_tyL (i := 0) hh rfl ?_
    walk_at "go"
    refine o_app0 hh (by rw [List.length_map]; omega) fun H7 hh => ?_
    refine ⟨by omega, xs ++ [c], some (.int (0 + i)), some (.int c), by simp [hl], rfl, ?_⟩
    rw [List.map_append]
    exact hh
  · rintro σ H' ⟨_, xs, v4, v5, hl, rfl, hh⟩
    walk_at "go"
    exact q _ p _ ⟨xs, fun z => by rw [z] at hl; simp at hl; omega, by omega, rfl⟩ hh
theorem rd_draw {b : Int} (hh : HH F H ((d, o) :: M)) (ho : DrO o) (hb : 0 < b ∧ b < 1073741824) (q : ∀ v H' o', 0 ≤ v → v < b → DrO o' → HH F H' ((d, o') :: M) → Q (.int v) H') : sp__law_draw K [.ref d, .int b] H Q E := by
  obtain ⟨xs, hx, hxl, rfl⟩ := ho
  refine ⟨rfl, ?_⟩
  unfold t__law_draw
  refine g_cut (fun σ' H' => σ' = [some (.ref d), some (.int b), none] ∧ ∃ (y : Int) (ys : List Int), ys.length + 1 ≤ 64 ∧ HH F H' ((d, .lst ((y :: ys).map V.int)) :: M)) ?_ ?_
  · obtain ⟨y, ys, rfl⟩ : ∃ y ys, xs = y :: ys := by
      cases xs with
      | nil => exact absurd rfl hx
      | cons y ys => exact ⟨y, ys, rfl⟩
    walk_at "go"
    refine v_ixL (hh.get (i := 0) rfl) (atN (i := 0) rfl rfl) ?_
    walk_at "go"
    refine ite2 (fun h0 => ?_) (fun h0 => ?_)
    · walk_at "go"
      refine o_lenL (i := 0) hh rfl ?_
      walk_at "go"
      refine ite2 (fun h1 => ?_) (fun h1 => ?_)
      · have h1' := of_decide_eq_true h1
        rw [List.length_map] at h1'
        cases ys with
        | nil => simp at h1'
        | cons z zs =>
          walk_at "go"
          refine o_tyL (i := 0) hh rfl ?_
          walk_at "go"
          refine .inr ⟨_, _, 0, 0, _, rfl, rfl, hh.get (i := 0) rfl, by decide, by decide, (ixN_seq (j := 0) (by simp [ixN]; omega)).1, rfl, ?_⟩
          exact ⟨rfl, z, zs, by simp at hxl ⊢; omega, hh.set0⟩
      · walk_at "go"
        exact ⟨rfl, y, ys, hxl, hh⟩
    · walk_at "go"
      exact ⟨rfl, y, ys, hxl, hh⟩
  clear hh
  rintro σ' H' ⟨rfl, y, ys, hl, hh⟩
  walk_at "go"
  refine v_ixL (hh.get (i := 0) rfl) (atN (i := 0) rfl rfl) ?_
  walk_at "go"
  refine v_ixL (hh.get (i := 0) rfl) (atN (i := 0) rfl rfl) ?_
  walk_at "go"
  refine v_setL (j := 0) (hh.get (i := 0) rfl) (by simp [ixN]) ?_
  walk_at "go"
  exact q _ _ _ (Int.emod_nonneg _ (by omega)) (Int.emod_lt_of_pos _ hb.1) ⟨y / b :: ys, by simp, by simpa using hl, rfl⟩ hh.set0
theorem rd_pick {ds : List D} (hh : HH F H ((d, o) :: M)) (ho : DrO o) (hx : At K F0 (.lst ds) x) (s : Same F0 F) (hn : 0 < ds.length) (hl : ds.length ≤ 1000000) (q : ∀ (i : Nat) (e : D) (v : V) H' o', ds[i]? = some e → At K F e v → DrO o' → HH F H' ((d, o') :: M) → Q v H') : sp__law_pick K [.ref d, x] H Q E := by
  refine ⟨rfl, ?_⟩
  unfold t__law_pick
  walk_at "go"
  refine a_lenL (hx.mono s) hh ?_
  walk_at "go"
  refine rd_draw hh ho ⟨by omega, by omega⟩ fun v H' o' h0 h1 ho hh => ?_
  obtain ⟨i, rfl⟩ := Int.eq_ofNat_of_zero_le h0
  have hi : i < ds.length := by omega
  refine a_ixL (i := i) (hx.mono s) hh rfl (List.getElem?_eq_getElem hi) fun w hw => ?_
  exact q i _ w H' o' (List.getElem?_eq_getElem hi) hw ho hh
end
theorem AtA.ci {K : PySem.W.Frag} {F : Hp} {d : D} {ds : List D} {us : List V} (h : AtA K F (d :: ds) us) : ∃ u us', us = u :: us' ∧ At K F d u ∧ AtA K F ds us' := by unfold AtA at h; exact h
theorem AtA.ni {K : PySem.W.Frag} {F : Hp} {us : List V} (h : AtA K F [] us) : us = [] := by unfold AtA at h; exact h
end Lw

-- fld
namespace Lw
open PySem PySem.Spec PyProof.Rows L2 G
/-! ### things: flat fields, and behind them one list -/
inductive Th where
  | A (a t r : V) (l : List Int)
  | B (p q : V) (m : List Int)
def Th.kind : Th → List Nat
  | .A .. => q_A
  | .B .. => q_B
def Th.fl : Th → List (List Nat × V)
  | .A a t r _ => [(q_a, a), (q_t, t), (q_r, r)]
  | .B p q _ => [(q_p, p), (q_q, q)]
def Th.ln : Th → List Nat
  | .A .. => q_l
  | .B .. => q_m
def Th.ls : Th → List Int
  | .A _ _ _ l => l
  | .B _ _ m => m
/-- a number from 0 to 9, or None -/
def Nm (v : V) : Prop := v = .non ∨ ∃ i : Int, v = .int i ∧ 0 ≤ i ∧ i ≤ 9
def Tx3 (v : V) : Prop := v = .non ∨ ∃ z ∈ [q_empty, q_b, q_ab], v = .str ⟨z.toArray⟩
def LsOk (ns : List Int) : Prop := ns.length ≤ 8 ∧ ∀ n ∈ ns, 0 ≤ n ∧ n ≤ 9
def Th.ok : Th → Prop
  | .A a t r l => Nm a ∧ Tx3 t ∧ Nm r ∧ LsOk l
  | .B p q m => Nm p ∧ Nm q ∧ LsOk m
def Fl (v : V) : Prop := Nm v ∨ Tx3 v
theorem Th.ok.fl {t : Th} (h : t.ok) : ∀ p ∈ t.fl, Fl p.2 := by
  cases t with
  | A a t r l =>
    obtain ⟨h1, h2, h3, _⟩ := h
    intro p hp
    rcases List.mem_cons.mp hp with rfl | hp
    · exact .inl h1
    rcases List.mem_cons.mp hp with rfl | hp
    · exact .inr h2
    rcases List.mem_cons.mp hp with rfl | hp
    · exact .inl h3
    cases hp
  | B p q m =>
    obtain ⟨h1, h2, _⟩ := h
    intro p hp
    rcases List.mem_cons.mp hp with rfl | hp
    · exact .inl h1
    rcases List.mem_cons.mp hp with rfl | hp
    · exact .inl h2
    cases hp
theorem Th.ok.ls {t : Th} (h : t.ok) : LsOk t.ls := by
  cases t with
  | A => exact h.2.2.2
  | B => exact h.2.2
theorem Fl.flat {v : V} (h : Fl v) : flatV v = true := by
  rcases h with (rfl | ⟨_, rfl, _⟩) | (rfl | ⟨_, _, rfl⟩) <;> rfl
theorem fl_keys {t : Th} : (t.fl.map fun p => kT p.1).Nodup ∧ ∀ p ∈ t.fl, kT p.1 ≠ kT t.ln := by
  cases t with
  | A a t r l =>
    refine ⟨by show [kT q_a, kT q_t, kT q_r].Nodup; decide, fun p hp => ?_⟩
    have h : ∀ z ∈ [q_a, q_t, q_r], kT z ≠ kT q_l := by decide
    have hp : p ∈ [(q_a, a), (q_t, t), (q_r, r)] := hp
    exact h p.1 (List.mem_map.mpr ⟨p, hp, rfl⟩)
  | B a t l =>
    refine ⟨by show [kT q_p, kT q_q].Nodup; decide, fun p hp => ?_⟩
    have h : ∀ z ∈ [q_p, q_q], kT z ≠ kT q_m := by decide
    have hp : p ∈ [(q_p, a), (q_q, t)] := hp
    exact h p.1 (List.mem_map.mpr ⟨p, hp, rfl⟩)
theorem val_none {kvs : List (L2.Key × V)} {k : L2.Key} (h : k ∉ kvs.map (·.1)) : valV kvs k = none := by
  cases e : valV kvs k with
  | none => rfl
  | some w =>
    unfold valV at e
    obtain ⟨kv, h1, _⟩ := Option.map_eq_some_iff.mp e
    have h2 := List.find?_some h1
    exact (h (List.mem_map.mpr ⟨kv, List.mem_of_find?_eq_some h1, of_decide_eq_true h2⟩)).elim
theorem nd_take {α : Type} : ∀ {ks : List α} {i : Nat} {k : α}, ks.Nodup → ks[i]? = some k → k ∉ ks.take i
  | [], _, _, _, e => by cases e
  | _ :: _, 0, _, _, _ => by rw [List.take_zero]; exact List.not_mem_nil
  | a :: ks, i + 1, k, nd, e => by
    rw [List.nodup_cons] at nd
    rw [List.getElem?_cons_succ] at e
    rw [List.take_succ_cons, List.mem_cons, not_or]
    exact ⟨fun z => nd.1 (by rw [← z]; exact List.mem_of_getElem? e), nd_take nd.2 e⟩
/-- contents, the list being the object at l -/
def Th.ck (t : Th) (l : Addr) : List (L2.Key × D) := (t.fl.map fun p => (kT p.1, D.v p.2)) ++ [(kT t.ln, .v (.ref l))]
abbrev cR (t : Th) (l : Addr) : D := .dk (t.ck l)
abbrev dR (t : Th) (l : Addr) : D := .obj "Thing" [("kind", .t t.kind), ("contents", cR t l)]
/-- its list may be read -/
def RL (F : Hp) (M : List (Addr × HO)) (l : Addr) (ns : List Int) : Prop := F l = some (.lst (ns.map V.int)) ∨ (l, HO.lst (ns.map V.int)) ∈ M
theorem RL.at_ {F F' H' : Hp} {M M' : List (Addr × HO)} {l : Addr} {ns : List Int} (h : RL F M l ns) (s : Same F F') (hh : HH F' H' M') (m : ∀ p ∈ M, p ∈ M') : H' l = some (.lst (ns.map V.int)) := by
  rcases h with h | h
  · exact hh.sub _ _ (s _ _ h)
  · exact (hh.cell _ (m _ h)).1
theorem RL.mono {F F' : Hp} {M M' : List (Addr × HO)} {l : Addr} {ns : List Int} (h : RL F M l ns) (s : Same F F') (m : ∀ p ∈ M, p ∈ M') : RL F' M' l ns := h.imp (fun h => s _ _ h) fun h => m _ h
theorem ck_vals {K : PySem.W.Frag} {F : Hp} {t : Th} {l : Addr} {gs : List (L2.Key × V)} (h : AtK K F (t.ck l) gs) : gs = (t.fl.map fun p => (kT p.1, p.2)) ++ [(kT t.ln, .ref l)] := by
  unfold Th.ck at h
  generalize t.fl = fs at h ⊢
  induction fs generalizing gs with
  | nil =>
    obtain ⟨u, us, rfl, h1, h2⟩ := h.ci
    rw [At.v_.mp h1, h2.ni]
    rfl
  | cons p fs ih =>
    obtain ⟨u, us, rfl, h1, h2⟩ := h.ci
    rw [At.v_.mp h1, ih h2]
    rfl
theorem ck_at {K : PySem.W.Frag} {F : Hp} {t : Th} {l : Addr} : AtK K F (t.ck l) ((t.fl.map fun p => (kT p.1, p.2)) ++ [(kT t.ln, .ref l)]) := by
  unfold Th.ck
  generalize t.fl = fs
  induction fs with
  | nil => exact AtK.cons At.of AtK.nil
  | cons p fs ih => exact AtK.cons At.of ih
theorem valD_app {k : L2.Key} {a b : List (L2.Key × D)} (h : ∀ p ∈ a, p.1 ≠ k) : valD (a ++ b) k = valD b k := by
  induction a with
  | nil => rfl
  | cons p a ih =>
    rw [List.cons_append, show p = (p.1, p.2) from rfl, valD_neg (h p (List.mem_cons_self ..))]
    exact ih fun q hq => h q (List.mem_cons_of_mem _ hq)
theorem ck_ln {t : Th} {l : Addr} : valD (t.ck l) (kT t.ln) = some (.v (.ref l)) := by
  unfold Th.ck
  rw [valD_app]
  · exact valD_pos
  · intro p hp
    obtain ⟨q, hq, rfl⟩ := List.mem_map.mp hp
    exact fl_keys.2 q hq
theorem ck_fl {t : Th} {l : Addr} {p : List Nat × V} (hp : p ∈ t.fl) : valD (t.ck l) (kT p.1) = some (.v p.2) := by
  unfold Th.ck
  have nd := (fl_keys (t := t)).1
  revert hp nd
  generalize t.fl = fs
  intro hp nd
  induction fs with
  | nil => cases hp
  | cons q fs ih =>
    rw [List.map_cons, List.nodup_cons] at nd
    rw [List.map_cons, List.cons_append]
    rcases List.mem_cons.mp hp with rfl | hp
    · exact valD_pos
    · rw [valD_neg (fun e => nd.1 (by rw [e]; exact List.mem_map.mpr ⟨p, hp, rfl⟩))]
      exact ih hp nd.2
section
variable {K : PySem.W.Frag} {F F0 F1 F2 H H' : Hp} {Q : VK} {E : XK} {mg : Str → Option Value} {M : List (Addr × HO)} {x y : V} {o : HO} {d l : Addr}
theorem v_isiLF (f : Fl x) (q : Q (.bl false) H) : rIsi K [x, .ty "list"] H Q := by
  refine isi_flat ?_ q
  rcases f with (rfl | ⟨_, rfl, _⟩) | (rfl | ⟨_, _, rfl⟩)
  · exact (by decide +kernel : kitB "NoneType" "list" = some false)
  · exact (by decide +kernel : kitB "int" "list" = some false)
  · exact (by decide +kernel : kitB "NoneType" "list" = some false)
  · exact (by decide +kernel : kitB "str" "list" = some false)
theorem rd_copyV (f : Fl x) (q : Q x H) : sp_content_copy K [x] H Q E := by
  refine ⟨rfl, ?_⟩
  unfold t_content_copy
  walk_at "go"
  refine v_isiLF f ?_
  walk_at "go"
  exact q
theorem v_listR {vs : List V} (h : H l = some (.lst vs)) (q : ∀ p, H p = none → Q (.ref p) (upd H p (.lst vs))) : rListX K [.ref l] H Q := .inl ⟨l, vs, rfl, .inl (SqL.of h), q⟩
theorem rd_copyL {ns : List Int} (h : H l = some (.lst (ns.map V.int))) (q : ∀ p, H p = none → Q (.ref p) (upd H p (.lst (ns.map V.int)))) : sp_content_copy K [.ref l] H Q E := by
  refine ⟨rfl, ?_⟩
  unfold t_content_copy
  walk_at "go"
  refine v_isiL h ?_
  walk_at "go"
  exact v_listR h q
/-- a thing is made of contents that stand still: its list is a new cell -/
theorem mk_ThingR (T : Tx K mg) {t : Th} (ht : ∀ p ∈ t.fl, Fl p.2) (hh : HH F H M) (hy : At K F (cR t l) y) (hl : RL F M l t.ls) (q : ∀ F' H' u l', Same F F' → HH F' H' ((l', .lst (t.ls.map V.int)) :: M) → At K F' (dR t l') u → Q u H') :
    MakeK (He.ga K "Thing") (sp_Thing_init K) [.str ⟨t.kind.toArray⟩, y] Q H E := by
  refine mk_start hh fun F1 H1 v dx s1 hh => ?_
  refine ⟨rfl, ?_⟩
  unfold t_Thing_init
  walk_at "go"
  refine s_sfld hh T.cl_Thing T.no_Thing_kind [] rfl (by decide +kernel) (Nat.le_of_ble_eq_true rfl) fun H2 hh => ?_
  walk_at "go"
  obtain ⟨a, od, vs, rfl, hf, hv⟩ := (hy.mono s1).dk_
  obtain rfl := ck_vals hv
  refine v_ovK (hh.sub _ _ hf) fun D hD => ?_
  have len : ((t.fl.map fun p => (kT p.1, p.2)) ++ [(kT t.ln, V.ref l)]).length = t.fl.length + 1 := by simp
  have nd : ((t.fl.map fun p => (kT p.1, p.2)).map (·.1)).Nodup := by
    have e : ((t.fl.map fun p => (kT p.1, p.2)).map (·.1)) = t.fl.map fun p => kT p.1 := by rw [List.map_map]; rfl
    rw [e]
    exact fl_keys.1
  have newk : ∀ i p, t.fl[i]? = some p → valV ((t.fl.map fun p => (kT p.1, p.2)).take i) (kT p.1) = none := by
    intro i p e
    refine val_none ?_
    rw [List.map_take]
    refine nd_take nd ?_
    rw [List.getElem?_map, List.getElem?_map, e]
    rfl
  refine dc_keys (fun i H' => (i ≤ t.fl.length → HH F1 H' ((D, .dK ((t.fl.map fun p => (kT p.1, p.2)).take i)) :: (v, .ins (He.ga K "Thing") dx ([] ++ [(("kind" : Str), V.str ⟨t.kind.toArray⟩)])) :: M)) ∧
      (i = t.fl.length + 1 → ∃ l', HH F1 H' ((l', .lst (t.ls.map V.int)) :: (D, .dK ((t.fl.map fun p => (kT p.1, p.2)) ++ [(kT t.ln, .ref l')])) :: (v, .ins (He.ga K "Thing") dx ([] ++ [(("kind" : Str), V.str ⟨t.kind.toArray⟩)])) :: M)) ∧ i ≤ t.fl.length + 1)
    ⟨fun _ => by rw [List.take_zero]; exact hh.new hD, fun e => by omega, Nat.zero_le _⟩ (fun i H' h => ?_) (fun i k w H' e h => ?_) (fun H' h => ?_)
  · rcases Nat.lt_or_ge i (t.fl.length + 1) with z | z
    · exact (h.1 (by omega)).sub _ _ hf
    · obtain ⟨l', h2⟩ := h.2.1 (by omega)
      exact h2.sub _ _ hf
  · rcases Nat.lt_or_ge i t.fl.length with z | z
    · have h1 := h.1 (by omega)
      rw [List.getElem?_append_left (by rw [List.length_map]; exact z), List.getElem?_map, List.getElem?_eq_getElem z] at e
      obtain ⟨rfl, rfl⟩ := Prod.mk.inj (Option.some.inj e)
      show gName 3 (.str ⟨(t.fl[i]).1.toArray⟩) _ _ _
      walk_at "go"
      refine ⟨rfl, ?_⟩
      walk_at "go"
      refine s_dgetT (hy.mono s1) h1.sub (ck_fl (List.getElem_mem z)) fun u hu => ?_
      obtain rfl := At.v_.mp hu
      refine rd_copyV (E := fun _ _ _ => False) (ht _ (List.getElem_mem z)) ?_
      refine v_putD (k := kT (t.fl[i]).1) (h1.get (i := 0) rfl) (by rw [List.length_take, List.length_map]; cases t <;> (simp [Th.fl] at z ⊢ <;> omega)) ⟨fun _ => ?_, fun e => by omega, by omega⟩
      have e2 : putK ((t.fl.map fun p => (kT p.1, p.2)).take i) (kT (t.fl[i]).1) (t.fl[i]).2 = (t.fl.map fun p => (kT p.1, p.2)).take (i + 1) := by
        rw [putK_new _ (newk i _ (List.getElem?_eq_getElem z)), List.take_add_one, List.getElem?_map, List.getElem?_eq_getElem z]
        rfl
      rw [e2]
      exact h1.set0
    · have ei : i = t.fl.length := by
        have := (List.getElem?_eq_some_iff.mp e).1
        rw [len] at this
        omega
      subst ei
      have h1 := h.1 (Nat.le_refl _)
      rw [List.getElem?_append_right (by rw [List.length_map]; exact Nat.le_refl _), List.length_map, Nat.sub_self] at e
      obtain ⟨rfl, rfl⟩ := Prod.mk.inj (Option.some.inj e)
      rw [List.take_of_length_le (by rw [List.length_map]; exact Nat.le_refl _)] at h1
      show gName 3 (.str ⟨t.ln.toArray⟩) _ _ _
      walk_at "go"
      refine ⟨rfl, ?_⟩
      walk_at "go"
      refine s_dgetT (hy.mono s1) h1.sub ck_ln fun u hu => ?_
      obtain rfl := At.v_.mp hu
      refine rd_copyL (E := fun _ _ _ => False) (hl.at_ s1 h1 fun p hp => List.mem_cons_of_mem _ (List.mem_cons_of_mem _ hp)) fun p hp => ?_
      have h2 := h1.new (o := .lst (t.ls.map V.int)) hp
      refine v_putD (k := kT t.ln) (h2.get (i := 1) rfl) (by rw [List.length_map]; cases t <;> (simp [Th.fl])) ⟨fun e => by omega, fun _ => ⟨p, ?_⟩, by omega⟩
      have e2 : putK (t.fl.map fun p => (kT p.1, p.2)) (kT t.ln) (.ref p) = (t.fl.map fun p => (kT p.1, p.2)) ++ [(kT t.ln, .ref p)] := by
        refine putK_new _ (val_none fun z => ?_)
        rw [List.map_map] at z
        obtain ⟨q, hq, e⟩ := List.mem_map.mp z
        exact fl_keys.2 q hq e
      rw [e2]
      exact h2.set1
  · rw [len] at h
    obtain ⟨l', h2⟩ := h.2.1 rfl
    refine o_fz h2.swap fun F3 H3 od s3 hh hF => ?_
    walk_at "go"
    refine s_sfld hh.swap T.cl_Thing T.no_Thing_contents ["kind"] rfl (by decide +kernel) (Nat.le_of_ble_eq_true rfl) fun H4 hh => ?_
    refine ⟨rfl, mk_end hh (AtF.cons At.of (AtF.cons (At.mkK hF ck_at) AtF.nil)) fun F5 H5 u s5 hh5 ha => q F5 H5 u l' (s1.trans (s3.trans s5)) hh5 ha⟩
variable {F0 : Hp} {t : Th}
theorem fk_kind (T : Tx K mg) (h : At K F0 (dR t l) x) (s : Same F0 H) (q : Q (.str ⟨t.kind.toArray⟩) H) : FldK K "kind" x H Q := s_fld h s T.cl_Thing T.no_Thing_kind (lk1 rfl) fun w e => by rw [At.v_.mp e]; exact q
theorem fk_contents (T : Tx K mg) (h : At K F0 (dR t l) x) (s : Same F0 H) (q : ∀ w, At K F0 (cR t l) w → Q w H) : FldK K "contents" x H Q := s_fld h s T.cl_Thing T.no_Thing_contents (lk2 (by decide +kernel) (lk1 rfl)) q
end
end Lw

-- fld
namespace Lw
open PySem PySem.Spec PyProof.Rows L2 G
/-! ### things told as data -/
def vP : V → PyData
  | .non => .none
  | .bl b => .bool b
  | .int i => .int i
  | .str z => .str z
  | _ => .none
def lP (ns : List Int) : PyData := .list (ns.map .int)
def ctP (t : Th) (ns : List Int) : PyData := .dict ((t.fl.map fun p => (PyData.str ⟨p.1.toArray⟩, vP p.2)) ++ [(.str ⟨t.ln.toArray⟩, lP ns)])
structure Sm (u : PyData) : Prop where
  s : u.showable = true
  l : u.leavesShort 13 = true
  b : u.bulk ≤ 2
  dz : u.depth = 0
  c : u.canLay0 = true
  o : PyData.strOk u.shown = true
def smB (d : PyData) : Bool := d.showable && (d.leavesShort 13 && (decide (d.bulk ≤ 2) && (decide (d.depth = 0) && (d.canLay0 && PyData.strOk d.shown))))
theorem smB_ok {d : PyData} (h : smB d = true) : Sm d := by
  unfold smB at h
  simp only [Bool.and_eq_true, decide_eq_true_eq] at h
  exact ⟨h.1, h.2.1, h.2.2.1, h.2.2.2.1, h.2.2.2.2.1, h.2.2.2.2.2⟩
theorem sm_int {n : Int} (h0 : 0 ≤ n) (h1 : n ≤ 9) : Sm (.int n) := by
  obtain ⟨m, rfl⟩ := Int.eq_ofNat_of_zero_le h0
  have h : ∀ k < 10, smB (.int (k : Nat)) = true := by decide +kernel
  exact smB_ok (h m (by omega))
theorem Fl.sm {v : V} (h : Fl v) : Sm (vP v) := by
  rcases h with (rfl | ⟨i, rfl, h0, h1⟩) | (rfl | ⟨z, hz, rfl⟩)
  · exact smB_ok (by decide +kernel)
  · exact sm_int h0 h1
  · exact smB_ok (by decide +kernel)
  · have h : ∀ z ∈ [q_empty, q_b, q_ab], smB (.str ⟨z.toArray⟩) = true := by decide +kernel
    exact smB_ok (h z hz)
theorem Fl.dp {K : PySem.W.Frag} {H : Hp} {v : V} (h : Fl v) : Dp K H v (vP v) := by
  rcases h with (rfl | ⟨i, rfl, h0, h1⟩) | (rfl | ⟨z, hz, rfl⟩)
  · exact .non
  · exact .int i
  · exact .non
  · exact .str _
theorem dp_ints {K : PySem.W.Frag} {H : Hp} : ∀ {ns : List Int}, DpAll K H (ns.map V.int) (ns.map PyData.int)
  | [] => .nil
  | n :: ns => .cons (.int n) dp_ints
theorem dp_list {K : PySem.W.Frag} {H : Hp} {l : Addr} {ns : List Int} (h : H l = some (.lst (ns.map V.int))) : Dp K H (.ref l) (lP ns) := .lst (SqL.of h) dp_ints
theorem ints_show : ∀ {ns : List Int}, (∀ n ∈ ns, 0 ≤ n ∧ n ≤ 9) → PyData.showableAll (ns.map PyData.int) = true ∧ PyData.leavesShortAll 13 (ns.map PyData.int) = true ∧ PyData.bulkAll (ns.map PyData.int) = ns.length ∧ (∀ t ∈ PyData.shownAll (ns.map PyData.int), PyData.strOk t = true)
  | [], _ => by simp [PyData.showableAll, PyData.leavesShortAll, PyData.bulkAll, PyData.shownAll]
  | n :: ns, h => by
    obtain ⟨h1, h2, h3, h4⟩ := ints_show fun m hm => h m (List.mem_cons_of_mem _ hm)
    have s := sm_int (h n (List.mem_cons_self ..)).1 (h n (List.mem_cons_self ..)).2
    rw [List.map_cons, PyData.showableAll, PyData.leavesShortAll, PyData.bulkAll, PyData.shownAll, h1, h2, h3, s.s, s.l, PyData.bulk, List.length_cons]
    refine ⟨rfl, rfl, by omega, fun t ht => ?_⟩
    rcases List.mem_cons.mp ht with rfl | ht
    · exact s.o
    · exact h4 t ht
theorem ints_lay : ∀ {ns : List Int}, PyData.canLayAll0 (ns.map PyData.int) = true ∧ PyData.depthAll (ns.map PyData.int) = 0
  | [] => by simp [PyData.canLayAll0, PyData.depthAll]
  | n :: ns => by
    obtain ⟨h1, h2⟩ := ints_lay (ns := ns)
    rw [List.map_cons, PyData.canLayAll0, PyData.depthAll, h1, h2, PyData.canLay0, PyData.depth]
    exact ⟨rfl, rfl⟩
/-! texts made of proper signs -/
theorem okS_app {a b : Str} (ha : PyData.strOk a = true) (hb : PyData.strOk b = true) : PyData.strOk (a ++ b) = true := by
  show (a.cps ++ b.cps).all _ = true
  rw [Array.all_append, Bool.and_eq_true]
  exact ⟨ha, hb⟩
theorem okS_join {sep : Str} (hs : PyData.strOk sep = true) : ∀ {ps : List Str}, (∀ p ∈ ps, PyData.strOk p = true) → PyData.strOk (Str.join sep ps) = true
  | [], _ => (by decide +kernel : PyData.strOk Str.empty = true)
  | [x], h => h x (List.mem_cons_self ..)
  | x :: y :: r, h => okS_app (okS_app (h x (List.mem_cons_self ..)) hs) (okS_join hs fun p hp => h p (List.mem_cons_of_mem _ hp))
theorem okS_from : ∀ {ts : List Str} {k : Nat} {acc : Str}, PyData.strOk acc = true → (∀ t ∈ ts, PyData.strOk t = true) → PyData.strOk (textFrom k acc ts) = true
  | [], _, _, h, _ => h
  | t :: ts, k, acc, h, ht => by
    rw [textFrom]
    refine okS_from (okS_app (okS_app h ?_) (ht t (List.mem_cons_self ..))) fun u hu => ht u (List.mem_cons_of_mem _ hu)
    split <;> decide +kernel
theorem okS_list {ts : List Str} (h : ∀ t ∈ ts, PyData.strOk t = true) : PyData.strOk (listText ts) = true := okS_app (okS_from (by decide +kernel) h) (by decide +kernel)
theorem lP_sm {ns : List Int} (h : LsOk ns) : (lP ns).showable = true ∧ (lP ns).leavesShort 13 = true ∧ (lP ns).bulk ≤ 8 ∧ (lP ns).depth = 1 ∧ PyData.strOk (lP ns).shown = true := by
  obtain ⟨h1, h2, h3, h4⟩ := ints_show h.2
  unfold lP
  rw [PyData.showable, PyData.leavesShort, PyData.bulk, PyData.depth, PyData.shown, ints_lay.2, h1, h2, h3]
  exact ⟨rfl, rfl, h.1, rfl, okS_list h4⟩
theorem lP_lay {ns : List Int} : (lP ns).canLay0 = true ∧ (lP ns).depth = 1 := by
  unfold lP
  rw [PyData.canLay0, PyData.depth, ints_lay.1, ints_lay.2]
  exact ⟨rfl, rfl⟩
theorem eqv_ints : ∀ {ns ms : List Int}, PyData.eqvAll (ns.map PyData.int) (ms.map PyData.int) = decide (ns = ms)
  | [], [] => by simp [PyData.eqvAll]
  | [], _ :: _ => by simp [PyData.eqvAll]
  | _ :: _, [] => by simp [PyData.eqvAll]
  | n :: ns, m :: ms => by
    rw [List.map_cons, List.map_cons, PyData.eqvAll, eqv_ints, PyData.eqv]
    by_cases h1 : n = m
    · subst h1
      rw [beq_self_eq_true, Bool.true_and]
      exact decide_eq_decide.mpr ⟨fun h => by rw [h], fun h => (List.cons.inj h).2⟩
    · rw [show (n == m) = false from beq_eq_false_iff_ne.mpr h1, Bool.false_and, decide_eq_false (fun h => h1 (List.cons.inj h).1)]
theorem eqv_l {ns ms : List Int} : PyData.eqv (lP ns) (lP ms) = decide (ns = ms) := by unfold lP; rw [PyData.eqv, eqv_ints]
theorem kv_sm {kvs : List (PyData × PyData)} {b : Nat} (h : ∀ p ∈ kvs, p.1.showable = true ∧ p.2.showable = true ∧ p.1.leavesShort 13 = true ∧ p.2.leavesShort 13 = true ∧ p.1.bulk + p.2.bulk ≤ b ∧ p.1.depth ≤ 1 ∧ p.2.depth ≤ 1 ∧ PyData.strOk p.1.shown = true ∧ PyData.strOk p.2.shown = true) :
    PyData.showableKv kvs = true ∧ PyData.leavesShortKv 13 kvs = true ∧ PyData.bulkKv kvs ≤ (b + 2) * kvs.length ∧ PyData.depthKv kvs ≤ 1 ∧ ∀ t ∈ PyData.shownKv kvs, PyData.strOk t = true := by
  induction kvs with
  | nil => simp [PyData.showableKv, PyData.leavesShortKv, PyData.bulkKv, PyData.depthKv, PyData.shownKv]
  | cons p kvs ih =>
    obtain ⟨i1, i2, i3, i4, i5⟩ := ih fun q hq => h q (List.mem_cons_of_mem _ hq)
    obtain ⟨h1, h2, h3, h4, h5, h6, h7, h8, h9⟩ := h p (List.mem_cons_self ..)
    obtain ⟨u, v⟩ := p
    rw [PyData.showableKv, PyData.leavesShortKv, PyData.bulkKv, PyData.depthKv, PyData.shownKv, i1, i2, h1, h2, h3, h4, List.length_cons, Nat.mul_succ]
    refine ⟨rfl, rfl, by dsimp only at h5; omega, by dsimp only at h6 h7; omega, fun t ht => ?_⟩
    rcases List.mem_cons.mp ht with rfl | ht
    · exact okS_app (okS_app h8 (by decide +kernel)) h9
    · exact i5 t ht
theorem key_sm : ∀ z ∈ [q_a, q_t, q_r, q_l, q_p, q_q, q_m], smB (.str ⟨z.toArray⟩) = true := by decide +kernel
theorem fl_mem {t : Th} : (∀ p ∈ t.fl, p.1 ∈ [q_a, q_t, q_r, q_l, q_p, q_q, q_m]) ∧ t.ln ∈ [q_a, q_t, q_r, q_l, q_p, q_q, q_m] ∧ t.fl.length ≤ 3 := by
  cases t with
  | A a t r l =>
    refine ⟨fun p hp => ?_, by show q_l ∈ _; decide, by show 3 ≤ 3; decide⟩
    have h : ∀ z ∈ [q_a, q_t, q_r], z ∈ [q_a, q_t, q_r, q_l, q_p, q_q, q_m] := by decide
    exact h p.1 (List.mem_map.mpr ⟨p, (show p ∈ [(q_a, a), (q_t, t), (q_r, r)] from hp), rfl⟩)
  | B a t l =>
    refine ⟨fun p hp => ?_, by show q_m ∈ _; decide, by show 2 ≤ 3; decide⟩
    have h : ∀ z ∈ [q_p, q_q], z ∈ [q_a, q_t, q_r, q_l, q_p, q_q, q_m] := by decide
    exact h p.1 (List.mem_map.mpr ⟨p, (show p ∈ [(q_p, a), (q_q, t)] from hp), rfl⟩)
theorem ctP_sm {t : Th} {ns : List Int} (ht : ∀ p ∈ t.fl, Fl p.2) (h : LsOk ns) : (ctP t ns).showable = true ∧ (ctP t ns).leavesShort 13 = true ∧ (ctP t ns).bulk ≤ 2 ^ 20 ∧ (ctP t ns).depth ≤ 60 ∧ PyData.strOk (ctP t ns).shown = true := by
  obtain ⟨l1, l2, l3, l4, l5⟩ := lP_sm h
  obtain ⟨m1, m2, m3⟩ := fl_mem (t := t)
  have k := kv_sm (b := 10) (kvs := (t.fl.map fun p => (PyData.str ⟨p.1.toArray⟩, vP p.2)) ++ [(.str ⟨t.ln.toArray⟩, lP ns)]) fun p hp => by
    rcases List.mem_append.mp hp with hp | hp
    · obtain ⟨q, hq, rfl⟩ := List.mem_map.mp hp
      have s1 := smB_ok (key_sm _ (m1 q hq))
      have s2 := (ht q hq).sm
      exact ⟨s1.s, s2.s, s1.l, s2.l, by have := s1.b; have := s2.b; show (PyData.str ⟨q.1.toArray⟩).bulk + (vP q.2).bulk ≤ 10; omega, by rw [s1.dz]; decide, by rw [s2.dz]; decide, s1.o, s2.o⟩
    · rw [List.mem_singleton.mp hp]
      have s1 := smB_ok (key_sm _ m2)
      exact ⟨s1.s, l1, s1.l, l2, by have := s1.b; show (PyData.str ⟨t.ln.toArray⟩).bulk + (lP ns).bulk ≤ 10; omega, by rw [s1.dz]; decide, by rw [l4]; decide, s1.o, l5⟩
  obtain ⟨k1, k2, k3, k4, k5⟩ := k
  unfold ctP
  rw [PyData.showable, PyData.leavesShort, PyData.bulk, PyData.depth, PyData.shown]
  rw [List.length_append, List.length_map] at k3
  refine ⟨k1, k2, ?_, by omega, okS_app (okS_app (by decide +kernel) (okS_join (by decide +kernel) k5)) (by decide +kernel)⟩
  have : (10 + 2) * (t.fl.length + 1) ≤ 48 := Nat.mul_le_mul_left 12 (by omega : t.fl.length + 1 ≤ 4)
  have e20 : (2 : Nat) ^ 20 = 1048576 := by decide
  rw [e20]
  simp only [List.length_singleton] at k3
  omega
section
variable {K : PySem.W.Frag} {F F0 F1 F2 H H' : Hp} {Q : VK} {E : XK} {mg : Str → Option Value} {M : List (Addr × HO)} {x y : V} {o : HO} {d l l' : Addr} {t t' : Th} {ns ms : List Int}
theorem ct_dp (ht : ∀ p ∈ t.fl, Fl p.2) (hl : H l = some (.lst (ns.map V.int))) : DpAll K H (((t.fl.map fun p => (kT p.1, p.2)) ++ [(kT t.ln, V.ref l)]).map (·.2)) ((t.fl.map fun p => vP p.2) ++ [lP ns]) := by
  revert ht
  generalize t.fl = fs
  generalize t.ln = ln
  intro ht
  induction fs with
  | nil => exact .cons (dp_list hl) .nil
  | cons p fs ih => exact .cons (ht p (List.mem_cons_self ..)).dp (ih fun q hq => ht q (List.mem_cons_of_mem _ hq))
theorem s_repr (ht : ∀ p ∈ t.fl, Fl p.2) (h : At K F0 (cR t l) x) (s : Same F0 H) (hl : H l = some (.lst (ns.map V.int))) (hn : LsOk ns) (q : Q (.str (ctP t ns).shown) H) : rRepr K [x] H Q := by
  obtain ⟨a, od, vs, rfl, _, hr, hv⟩ := h.dkR s
  obtain rfl := ck_vals hv
  obtain ⟨k1, k2, k3, k4, _⟩ := ctP_sm ht hn
  have e : PyData.dict (((((t.fl.map fun p => (kT p.1, p.2)) ++ [(kT t.ln, V.ref l)]).map fun kv => keyP kv.1)).zip ((t.fl.map fun p => vP p.2) ++ [lP ns])) = ctP t ns := by
    unfold ctP
    generalize t.fl = fs
    congr 1
    induction fs with
    | nil => rfl
    | cons p fs ih =>
      show (keyP (kT p.1), vP p.2) :: _ = _ :: _
      rw [List.cons.injEq]
      exact ⟨rfl, ih⟩
  have dq := Dq.d (K := K) hr (ct_dp ht hl)
  rw [e] at dq
  exact ⟨_, _, rfl, dq, k1, k2, k3, k4, q⟩
theorem s_reprV (f : Fl x) (q : Q (.str (vP x).shown) H) : rRepr K [x] H Q :=
  ⟨_, _, rfl, .p f.dp, f.sm.s, f.sm.l, Nat.le_trans f.sm.b (by decide), by rw [f.sm.dz]; decide, q⟩
theorem s_reprL (hl : H l = some (.lst (ns.map V.int))) (hn : LsOk ns) (q : Q (.str (lP ns).shown) H) : rRepr K [.ref l] H Q := by
  obtain ⟨k1, k2, k3, k4, _⟩ := lP_sm hn
  exact ⟨_, _, rfl, .p (dp_list hl), k1, k2, Nat.le_trans k3 (by decide), by rw [k4]; decide, q⟩
theorem fl_lay : ∀ {fs : List (List Nat × V)}, (∀ p ∈ fs, Fl p.2) → PyData.canLayAll0 ((fs.map fun p => vP p.2) ++ [lP ns]) = true ∧ PyData.depthAll ((fs.map fun p => vP p.2) ++ [lP ns]) ≤ 1
  | [], _ => by
    show PyData.canLayAll0 [lP ns] = true ∧ PyData.depthAll [lP ns] ≤ 1
    rw [PyData.canLayAll0, PyData.canLayAll0, PyData.depthAll, PyData.depthAll, lP_lay.1, lP_lay.2]
    decide
  | p :: fs, h => by
    obtain ⟨h1, h2⟩ := fl_lay fun q hq => h q (List.mem_cons_of_mem _ hq)
    have s := (h p (List.mem_cons_self ..)).sm
    rw [List.map_cons, List.cons_append, PyData.canLayAll0, PyData.depthAll, s.c, s.dz, h1]
    exact ⟨rfl, by omega⟩
theorem fl_eqv : ∀ {fs : List (List Nat × V)}, (∀ p ∈ fs, Fl p.2) → PyData.eqvAll ((fs.map fun p => vP p.2) ++ [lP ns]) ((fs.map fun p => vP p.2) ++ [lP ms]) = decide (ns = ms)
  | [], _ => by
    show PyData.eqvAll [lP ns] [lP ms] = _
    rw [PyData.eqvAll, PyData.eqvAll, eqv_l, Bool.and_true]
  | p :: fs, h => by
    rw [List.map_cons, List.cons_append, List.cons_append, PyData.eqvAll, fl_eqv fun q hq => h q (List.mem_cons_of_mem _ hq), SeqAt.eqv_refl _ (h p (List.mem_cons_self ..)).sm.c, Bool.true_and]
end
end Lw

-- fld
namespace Lw
open PySem PySem.Spec PyProof.Rows L2 G
section
variable {K : PySem.W.Frag} {F F0 F1 F2 H H' : Hp} {Q : VK} {E : XK} {mg : Str → Option Value} {M : List (Addr × HO)} {x y : V} {o : HO} {d l l' : Addr} {t t' : Th} {ns ms : List Int}
/-- two things that differ in their lists alone -/
theorem rd_eq (T : Tx K mg) (hx : At K F0 (dR t l) x) (hy : At K F1 (dR t' l') y) (s0 : Same F0 H) (s1 : Same F1 H) (ek : t.kind = t'.kind) (ef : t.fl = t'.fl) (en : t.ln = t'.ln) (ht : ∀ p ∈ t.fl, Fl p.2)
    (hl : H l = some (.lst (ns.map V.int))) (hm : H l' = some (.lst (ms.map V.int))) (q : Q (.bl (decide (ns = ms))) H) : sp_Thing_eq K [x, y] H Q E := by
  refine ⟨rfl, ?_⟩
  unfold t_Thing_eq
  walk_at "go"
  refine s_isi hy s1 T.cl_Thing T.if_Thing T.is_Thing_Thing ?_
  walk_at "go"
  refine fk_kind T hx s0 ?_
  walk_at "go"
  refine fk_kind T hy s1 ?_
  walk_at "go"
  rw [ek, decide_eq_true rfl]
  walk_at "go"
  refine fk_contents T hx s0 fun c hc => ?_
  walk_at "go"
  refine fk_contents T hy s1 fun c' hc' => ?_
  obtain ⟨a, od, vs, rfl, _, hr, hv⟩ := hc.dkR s0
  obtain ⟨b, od', vs', rfl, _, hr', hv'⟩ := hc'.dkR s1
  obtain rfl := ck_vals hv
  obtain rfl := ck_vals hv'
  have ht' : ∀ p ∈ t'.fl, Fl p.2 := by rw [← ef]; exact ht
  refine ⟨a, b, _, _, _, _, rfl, rfl, hr, hr', by rw [ef, en]; simp, ct_dp ht hl, ct_dp ht' hm, (fl_lay ht).1, (fl_lay ht').1, Nat.le_trans (fl_lay ht).2 (by decide), ?_⟩
  rw [← ef, fl_eqv ht]
  exact q
theorem rd_eqI (T : Tx K mg) {i : Int} (q : Q (.bl false) H) : sp_Thing_eq K [x, .int i] H Q E := by
  refine ⟨rfl, ?_⟩
  unfold t_Thing_eq
  walk_at "go"
  refine ⟨_, _, _, _, false, rfl, .own _, .base (.int i), T.ti_int_Thing, ?_⟩
  walk_at "go"
  exact q
theorem rd_copied (T : Tx K mg) (ht : ∀ p ∈ t.fl, Fl p.2) (hh : HH F H M) (hx : At K F (dR t l) x) (hl : RL F M l t.ls) (q : ∀ F' H' u l', Same F F' → HH F' H' ((l', .lst (t.ls.map V.int)) :: M) → At K F' (dR t l') u → Q u H') :
    sp_Thing_copied K [x] H Q E := by
  refine ⟨rfl, ?_⟩
  unfold t_Thing_copied
  walk_at "go"
  refine fk_kind T hx hh.sub ?_
  walk_at "go"
  refine fk_contents T hx hh.sub fun c hc => ?_
  walk_at "go"
  exact mk_ThingR T ht hh hc hl q
end
end Lw

-- fld
namespace Lw
open PySem PySem.Spec PyProof.Rows L2 G
/-! ### the law's schema, the draws -/
inductive Sh where
  | i
  | t
  | r (ks : List (List Nat)) (z : List Nat)
  | l (ks : List (List Nat))
def Sh.d : Sh → D
  | .i => o_IntSort (.i 0) (.i 9)
  | .t => o_TextSort (.i 4) .n
  | .r ks z => o_RefSort (.lst (ks.map D.t)) (.t z)
  | .l ks => o_ListSort (.lst (ks.map D.t))
structure Fdd where
  name : List Nat
  sh : Sh
  need : Bool
def Fdd.d (f : Fdd) : D := o_Field (.t f.name) f.sh.d (.b f.need)
structure Kdd where
  name : List Nat
  fs : List Fdd
  keys : List (List (List Nat))
abbrev dTs (r : List (List Nat)) : D := .lst (r.map D.t)
abbrev Kdd.d (k : Kdd) : D := .obj "Kind" [("name", .t k.name), ("fields", .lst (k.fs.map Fdd.d)), ("key_rows", .lst (k.keys.map dTs))]
def kA (r0 : List Nat) (b : Bool) : Kdd := ⟨q_A, [⟨q_a, .i, b⟩, ⟨q_t, .t, false⟩, ⟨q_r, .r [q_A, q_B] r0, false⟩, ⟨q_l, .l [q_A], false⟩], [[q_a, q_t]]⟩
def kB (r1 r2 : List Nat) (b : Bool) : Kdd := ⟨q_B, [⟨q_p, .r [q_A] r1, b⟩, ⟨q_q, .r [q_B] r2, false⟩, ⟨q_m, .l [q_A, q_B], false⟩], [[q_q]]⟩
abbrev dSch (r0 r1 r2 : List Nat) (b : Bool) : D := o_Schema (.lst ([kA r0 b, kB r1 r2 b].map Kdd.d))
def l_ru : List (List Nat) := [q_clears, q_refuses, q_takes]
/-! pictures -/
abbrev Pic := List (Int × Th × Addr)
def pK (ps : Pic) : List (L2.Key × D) := ps.map fun p => (kI p.1, dR p.2.1 p.2.2)
abbrev dPic (ps : Pic) : D := .dk (pK ps)
def putP (ps : Pic) (n : Int) (t : Th × Addr) : Pic := if (ps.any fun p => decide (p.1 = n)) = true then ps.map (fun p => if p.1 = n then (n, t) else p) else ps ++ [(n, t)]
structure PicOk (F : Hp) (M : List (Addr × HO)) (ps : Pic) : Prop where
  nd : (ps.map (·.1)).Nodup
  th : ∀ p ∈ ps, p.2.1.ok
  ls : ∀ p ∈ ps, RL F M p.2.2 p.2.1.ls
theorem PicOk.mono {F F' : Hp} {M M' : List (Addr × HO)} {ps : Pic} (h : PicOk F M ps) (s : Same F F') (m : ∀ p ∈ M, p ∈ M') : PicOk F' M' ps := ⟨h.nd, h.th, fun p hp => (h.ls p hp).mono s m⟩
theorem putP_keys {ps : Pic} {n : Int} {t : Th × Addr} (h : (ps.map (·.1)).Nodup) : ((putP ps n t).map (·.1)).Nodup := by
  unfold putP
  split
  · rw [List.map_map]
    have e : ((fun x : Int × Th × Addr => x.1) ∘ fun p => if p.1 = n then (n, t) else p) = fun p : Int × Th × Addr => p.1 := by
      funext p
      show (if p.1 = n then (n, t) else p).1 = p.1
      split
      · rename_i h; exact h.symm
      · rfl
    rw [e]
    exact h
  · rename_i hn
    rw [List.map_append, List.nodup_append]
    refine ⟨h, by simp, fun a ha b hb e => hn ?_⟩
    obtain ⟨p, hp, rfl⟩ := List.mem_map.mp ha
    rw [List.map_cons, List.map_nil, List.mem_singleton] at hb
    exact List.any_eq_true.mpr ⟨p, hp, decide_eq_true (e.trans hb)⟩
theorem putP_mem {ps : Pic} {n : Int} {t : Th × Addr} {p : Int × Th × Addr} (h : p ∈ putP ps n t) : p = (n, t) ∨ p ∈ ps := by
  unfold putP at h
  split at h
  · obtain ⟨q, hq, rfl⟩ := List.mem_map.mp h
    by_cases c : q.1 = n
    · rw [if_pos c]; exact .inl rfl
    · rw [if_neg c]; exact .inr hq
  · rcases List.mem_append.mp h with h | h
    · exact .inr h
    · exact .inl (List.mem_singleton.mp h)
theorem at_map {K : PySem.W.Frag} {F : Hp} {n : Int} {t : Th × Addr} {u : V} (ht : At K F (dR t.1 t.2) u) : ∀ {ps : Pic} {kvs : List (L2.Key × V)}, AtK K F (pK ps) kvs →
    AtK K F (pK (ps.map fun p => if p.1 = n then (n, t) else p)) (kvs.map fun kv => if kv.1 = kI n then (kv.1, u) else kv)
  | [], kvs, h => by rw [AtK.ni h]; exact AtK.nil
  | p :: ps, kvs, h => by
    obtain ⟨z, us, rfl, h1, h2⟩ := AtK.ci h
    show AtK K F (pK ((if p.1 = n then (n, t) else p) :: _)) ((if (kI p.1 : L2.Key) = kI n then (kI p.1, u) else (kI p.1, z)) :: _)
    by_cases c : p.1 = n
    · rw [if_pos c, if_pos (show (kI p.1 : L2.Key) = kI n by rw [c])]
      show AtK K F ((kI n, dR t.1 t.2) :: _) ((kI p.1, u) :: _)
      rw [c]
      exact AtK.cons ht (at_map ht h2)
    · rw [if_neg c, if_neg (show ¬(kI p.1 : L2.Key) = kI n from fun e => c (Sum.inl.inj e))]
      exact AtK.cons h1 (at_map ht h2)
theorem at_any {K : PySem.W.Frag} {F : Hp} {n : Int} : ∀ {ps : Pic} {kvs : List (L2.Key × V)}, AtK K F (pK ps) kvs → (kvs.any fun kv => decide (kv.1 = kI n)) = (ps.any fun p => decide (p.1 = n))
  | [], kvs, h => by rw [AtK.ni h]; rfl
  | p :: ps, kvs, h => by
    obtain ⟨z, us, rfl, _, h2⟩ := AtK.ci h
    rw [List.any_cons, List.any_cons, at_any h2]
    congr 1
    exact decide_eq_decide.mpr ⟨fun e => Sum.inl.inj e, fun e => by show kI p.1 = _; rw [e]⟩
theorem at_put {K : PySem.W.Frag} {F : Hp} {n : Int} {t : Th × Addr} {u : V} {ps : Pic} {kvs : List (L2.Key × V)} (h : AtK K F (pK ps) kvs) (ht : At K F (dR t.1 t.2) u) : AtK K F (pK (putP ps n t)) (putK kvs (kI n) u) := by
  unfold putP putK
  rw [at_any h]
  split
  · exact at_map ht h
  · have : pK (ps ++ [(n, t)]) = pK ps ++ [(kI n, dR t.1 t.2)] := by unfold pK; rw [List.map_append]; rfl
    rw [this]
    exact AtK.snoc h ht
section
variable {K : PySem.W.Frag} {F F0 F1 F2 H H' : Hp} {Q : VK} {E : XK} {mg : Str → Option Value} {M : List (Addr × HO)} {x y z : V} {o : HO} {d l l' : Addr} {t t' : Th} {ns ms : List Int}
theorem mk_Kind (T : Tx K mg) {k : Kdd} {fv kv : V} (hh : HH F H M) (hf : At K F (.lst (k.fs.map Fdd.d)) fv) (hk : At K F (.lst (k.keys.map dTs)) kv) (hkl : k.keys.length ≤ 1000) (q : ∀ F' H' u, Same F F' → HH F' H' M → At K F' k.d u → Q u H') :
    MakeK (He.ga K "Kind") (sp_Kind_init K) [.str ⟨k.name.toArray⟩, fv, kv] Q H E := by
  refine mk_start hh fun F1 H1 y dx s1 hh => ?_
  refine ⟨rfl, ?_⟩
  unfold t_Kind_init
  walk_at "go"
  refine s_sfld hh T.cl_Kind T.no_Kind_name [] rfl (by decide +kernel) (Nat.le_of_ble_eq_true rfl) fun H2 hh => ?_
  walk_at "go"
  refine s_listL hf hh s1 fun F3 H3 u3 s3 hh hu3 => ?_
  walk_at "go"
  refine s_sfld hh T.cl_Kind T.no_Kind_fields ["name"] rfl (by decide +kernel) (Nat.le_of_ble_eq_true rfl) fun H4 hh => ?_
  walk_at "go"
  refine gi_list ?_
  walk_at "go"
  refine a_lcL (e := dTs) (f := dTs) (hk.mono (s1.trans s3)) hh (by rw [sl16]; omega) (fun k => some k) (fun y w F' H' c' P N hy hw sF hh' hP hN => ?_) fun F5 H5 u5 s5 hh hu5 => ?_
  · walk_at "go"
    refine ⟨rfl, ?_⟩
    walk_at "go"
    exact s_listL hw hh' (Same.refl _) fun F6 H6 u6 s6 hh6 hu6 => hP F6 H6 u6 y s6 hh6 rfl hu6
  rw [List.filterMap_some] at hu5
  walk_at "go"
  refine s_sfld hh T.cl_Kind T.no_Kind_key_rows ["name", "fields"] rfl (by decide +kernel) (Nat.le_of_ble_eq_true rfl) fun H6 hh => ?_
  exact ⟨rfl, mk_end hh (AtF.cons At.of (AtF.cons (hu3.mono s5) (AtF.cons hu5 AtF.nil))) fun F7 H7 u s7 hh7 ha => q F7 H7 u (s1.trans (s3.trans (s5.trans s7))) hh7 ha⟩
theorem fk_name (T : Tx K mg) {k : Kdd} (h : At K F0 k.d x) (s : Same F0 H) (q : Q (.str ⟨k.name.toArray⟩) H) : FldK K "name" x H Q := s_fld h s T.cl_Kind T.no_Kind_name (lk1 rfl) fun w e => by rw [At.v_.mp e]; exact q
theorem fk_fields (T : Tx K mg) {k : Kdd} (h : At K F0 k.d x) (s : Same F0 H) (q : ∀ w, At K F0 (.lst (k.fs.map Fdd.d)) w → Q w H) : FldK K "fields" x H Q := s_fld h s T.cl_Kind T.no_Kind_fields (lk2 (by decide +kernel) (lk1 rfl)) q
theorem rd_schema (T : Tx K mg) {r0 r1 r2 : List Nat} {b : Bool} (hh : HH F H M) (hx : At K F (.lst ([r0, r1, r2].map D.t)) x) (q : ∀ F' H' u, Same F F' → HH F' H' M → At K F' (dSch r0 r1 r2 b) u → Q u H') : sp__law_schema K [x, .bl b] H Q E := by
  refine ⟨rfl, ?_⟩
  unfold t__law_schema
  walk_at "go"
  refine mk_IntSort T hh At.of At.of fun F1 H1 u1 s1 hh h1 => ?_
  walk_at "go"
  refine mk_Field T hh At.of h1 At.of fun F2 H2 u2 s2 hh h2 => ?_
  walk_at "go"
  refine g_makeD ?_
  walk_at "go"
  refine g_makeD ?_
  walk_at "go"
  refine mk_TextSort T hh At.of At.of fun F3 H3 u3 s3 hh h3 => ?_
  walk_at "go"
  refine mk_Field T hh At.of h3 At.of fun F4 H4 u4 s4 hh h4 => ?_
  walk_at "go"
  refine g_makeD ?_
  walk_at "go"
  refine s_lst (K := K) (ds := [q_A, q_B].map D.t) hh (AtA.ofFlat (g := svv) (xs := [q_A, q_B])) (by show 2 ≤ 1000; decide) fun F5 H5 u5 s5 hh h5 => ?_
  walk_at "go"
  refine a_ixL (i := 0) (d := D.t r0) (hx.mono (s1.trans (s2.trans (s3.trans (s4.trans s5))))) hh rfl rfl fun w hw => ?_
  walk_at "go"
  refine mk_RefSort T hh h5 hw fun F6 H6 u6 s6 hh h6 => ?_
  walk_at "go"
  refine mk_Field T hh At.of h6 At.of fun F7 H7 u7 s7 hh h7 => ?_
  walk_at "go"
  refine g_makeD ?_
  walk_at "go"
  refine s_lst (K := K) (ds := [q_A].map D.t) hh (AtA.ofFlat (g := svv) (xs := [q_A])) (by show 1 ≤ 1000; decide) fun F8 H8 u8 s8 hh h8 => ?_
  walk_at "go"
  refine mk_ListSort T hh h8 fun F9 H9 u9 s9 hh h9 => ?_
  walk_at "go"
  refine mk_Field T hh At.of h9 At.of fun F10 H10 u10 s10 hh h10 => ?_
  walk_at "go"
  refine s_lst (K := K) (ds := (kA r0 b).fs.map Fdd.d) hh (AtA.cons (h2.mono (by walk_at "sm")) (AtA.cons (h4.mono (by walk_at "sm")) (AtA.cons (h7.mono (by walk_at "sm")) (AtA.cons h10 AtA.nil)))) (by show 4 ≤ 1000; decide) fun F11 H11 u11 s11 hh h11 => ?_
  walk_at "go"
  refine s_lst (K := K) (ds := [q_a, q_t].map D.t) hh (AtA.ofFlat (g := svv) (xs := [q_a, q_t])) (by show 2 ≤ 1000; decide) fun F12 H12 u12 s12 hh h12 => ?_
  walk_at "go"
  refine s_lst (K := K) (ds := (kA r0 b).keys.map dTs) hh (AtA.cons h12 AtA.nil) (by show 1 ≤ 1000; decide) fun F13 H13 u13 s13 hh h13 => ?_
  walk_at "go"
  refine mk_Kind T (k := kA r0 b) hh (h11.mono (s12.trans s13)) h13 (by show 1 ≤ 1000; decide) fun F14 H14 u14 s14 hh h14 => ?_
  have sa : Same F F14 := s1.trans (s2.trans (s3.trans (s4.trans (s5.trans (s6.trans (s7.trans (s8.trans (s9.trans (s10.trans (s11.trans (s12.trans (s13.trans s14))))))))))))
  clear s1 s2 s3 s4 s5 s6 s7 s8 s9 s10 s11 s12 s13 s14 h1 h2 h3 h4 h5 h6 h7 h8 h9 h10 h11 h12 h13 hw
  walk_at "go"
  refine s_lst (K := K) (ds := [q_A].map D.t) hh (AtA.ofFlat (g := svv) (xs := [q_A])) (by show 1 ≤ 1000; decide) fun F1 H1 u1 s1 hh h1 => ?_
  walk_at "go"
  refine a_ixL (i := 1) (d := D.t r1) (hx.mono (sa.trans s1)) hh rfl rfl fun w hw => ?_
  walk_at "go"
  refine mk_RefSort T hh h1 hw fun F2 H2 u2 s2 hh h2 => ?_
  walk_at "go"
  refine mk_Field T hh At.of h2 At.of fun F3 H3 u3 s3 hh h3 => ?_
  walk_at "go"
  refine g_makeD ?_
  walk_at "go"
  refine s_lst (K := K) (ds := [q_B].map D.t) hh (AtA.ofFlat (g := svv) (xs := [q_B])) (by show 1 ≤ 1000; decide) fun F4 H4 u4 s4 hh h4 => ?_
  walk_at "go"
  refine a_ixL (i := 2) (d := D.t r2) (hx.mono (sa.trans (s1.trans (s2.trans (s3.trans s4))))) hh rfl rfl fun w hw2 => ?_
  walk_at "go"
  refine mk_RefSort T hh h4 hw2 fun F5 H5 u5 s5 hh h5 => ?_
  walk_at "go"
  refine mk_Field T hh At.of h5 At.of fun F6 H6 u6 s6 hh h6 => ?_
  walk_at "go"
  refine g_makeD ?_
  walk_at "go"
  refine s_lst (K := K) (ds := [q_A, q_B].map D.t) hh (AtA.ofFlat (g := svv) (xs := [q_A, q_B])) (by show 2 ≤ 1000; decide) fun F7 H7 u7 s7 hh h7 => ?_
  walk_at "go"
  refine mk_ListSort T hh h7 fun F8 H8 u8 s8 hh h8 => ?_
  walk_at "go"
  refine mk_Field T hh At.of h8 At.of fun F9 H9 u9 s9 hh h9 => ?_
  walk_at "go"
  refine s_lst (K := K) (ds := (kB r1 r2 b).fs.map Fdd.d) hh (AtA.cons (h3.mono (by walk_at "sm")) (AtA.cons (h6.mono (by walk_at "sm")) (AtA.cons h9 AtA.nil))) (by show 3 ≤ 1000; decide) fun F11 H11 u11 s11 hh h11 => ?_
  walk_at "go"
  refine s_lst (K := K) (ds := [q_q].map D.t) hh (AtA.ofFlat (g := svv) (xs := [q_q])) (by show 1 ≤ 1000; decide) fun F12 H12 u12 s12 hh h12 => ?_
  walk_at "go"
  refine s_lst (K := K) (ds := (kB r1 r2 b).keys.map dTs) hh (AtA.cons h12 AtA.nil) (by show 1 ≤ 1000; decide) fun F13 H13 u13 s13 hh h13 => ?_
  walk_at "go"
  refine mk_Kind T (k := kB r1 r2 b) hh (h11.mono (s12.trans s13)) h13 (by show 1 ≤ 1000; decide) fun F15 H15 u15 s15 hh h15 => ?_
  walk_at "go"
  refine s_lst (K := K) (ds := [kA r0 b, kB r1 r2 b].map Kdd.d) hh (AtA.cons (h14.mono (by walk_at "sm")) (AtA.cons h15 AtA.nil)) (by show 2 ≤ 1000; decide) fun F16 H16 u16 s16 hh h16 => ?_
  walk_at "go"
  exact mk_Schema T hh h16 fun F17 H17 u17 s17 hh h17 => q F17 H17 u17 (by walk_at "sm") hh h17
end
end Lw

-- fld
namespace Lw
open PySem PySem.Spec PyProof.Rows L2 G
section
variable {K : PySem.W.Frag} {F F0 F1 F2 H H' : Hp} {Q : VK} {E : XK} {mg : Str → Option Value} {M : List (Addr × HO)} {x y z : V} {o : HO} {d l l' : Addr} {t t' : Th} {ns ms : List Int}
theorem rd_rules (hh : HH F H ((d, o) :: M)) (ho : DrO o) (q : ∀ F' H' o' u r0 r1 r2, r0 ∈ l_ru → r1 ∈ l_ru → r2 ∈ l_ru → Same F F' → DrO o' → HH F' H' ((d, o') :: M) → At K F' (.lst ([r0, r1, r2].map D.t)) u → Q u H') : sp__law_rules K [.ref d] H Q E := by
  refine ⟨rfl, ?_⟩
  unfold t__law_rules
  walk_at "go"
  refine g_rngN (n := 3) (by decide) fun Dl hD => ?_
  refine c_range (fun i H' => i ≤ 3 ∧ ∃ F' o rs, Same F F' ∧ DrO o ∧ rs.length = i ∧ (∀ r ∈ rs, r ∈ l_ru) ∧ HH F' H' ((Dl, .lst (rs.map svv)) :: (d, o) :: M)) ⟨Nat.zero_le _, F, o, [], Same.refl _, ho, rfl, (fun _ h => nomatch h), hh.new hD⟩ ?_ ?_
  · clear hh ho
    rintro i H' hi ⟨_, F', o, rs, s, ho, hl, hr, hh⟩
    walk_at "go"
    refine ⟨rfl, ?_⟩
    walk_at "go"
    refine s_lst (K := K) (ds := l_ru.map D.t) hh.swap (AtA.ofFlat (g := svv) (xs := l_ru)) (by show 3 ≤ 1000; decide) fun F2 H2 u s2 hh hu => ?_
    walk_at "go"
    refine rd_pick hh ho hu (Same.refl _) (by decide) (by decide) fun j e v H3 o' he hv ho hh => ?_
    rw [List.getElem?_map] at he
    obtain ⟨z, hz, rfl⟩ := Option.map_eq_some_iff.mp he
    obtain rfl := At.v_.mp hv
    refine v_put (hh.get (i := 1) rfl) (by rw [List.length_map, sl16]; omega) ⟨by omega, F2, o', rs ++ [z], s.trans s2, ho, by rw [List.length_append, hl]; rfl, fun r h => ?_, ?_⟩
    · rcases List.mem_append.mp h with h | h
      · exact hr r h
      · rw [List.mem_singleton.mp h]; exact List.mem_of_getElem? hz
    · rw [List.map_append]
      exact hh.swap.set0
  · rintro H' ⟨_, F', o, rs, s, ho, hl, hr, hh⟩
    match rs, hl with
    | [r0, r1, r2], _ =>
      exact q _ _ o _ r0 r1 r2 (hr r0 (by simp)) (hr r1 (by simp)) (hr r2 (by simp)) (s.trans hh.frzS) ho hh.frz (At.mkL upd_same (AtA.ofFlat (g := svv) (xs := [r0, r1, r2])))
end
end Lw

-- fld
namespace Lw
open PySem PySem.Spec PyProof.Rows L2 G
/-! ### contents and pictures drawn -/
theorem nin {ks : List L2.Key} {k : L2.Key} (h : (ks.all fun j => decide (j ≠ k)) = true) : k ∉ ks := fun hm => of_decide_eq_true (List.all_eq_true.mp h k hm) rfl
theorem pick_mem {K : PySem.W.Frag} {F : Hp} {xs : List V} {i : Nat} {e : D} {v : V} (he : (xs.map D.v)[i]? = some e) (hv : At K F e v) : v ∈ xs := by
  rw [List.getElem?_map] at he
  obtain ⟨z, hz, rfl⟩ := Option.map_eq_some_iff.mp he
  rw [At.v_.mp hv]
  exact List.mem_of_getElem? hz
theorem flatI : ∀ {ns : List Int}, (ns.map V.int).all flatV = true
  | [] => rfl
  | n :: ns => by rw [List.map_cons, List.all_cons, flatI]; rfl
section
variable {K : PySem.W.Frag} {F F0 F1 F2 H H' : Hp} {Q : VK} {E : XK} {mg : Str → Option Value} {M : List (Addr × HO)} {x y z : V} {o : HO} {d l l' : Addr} {t t' : Th} {ns ms : List Int}
theorem rd_number (hh : HH F H ((d, o) :: M)) (ho : DrO o) (q : ∀ v H' o', Nm v → DrO o' → HH F H' ((d, o') :: M) → Q v H') : sp__law_number K [.ref d] H Q E := by
  refine ⟨rfl, ?_⟩
  unfold t__law_number
  walk_at "go"
  refine rd_draw hh ho ⟨by decide, by decide⟩ fun v H1 o1 h0 h1 ho hh => ?_
  walk_at "go"
  refine ite2 (fun z => ?_) (fun z => ?_)
  · walk_at "go"
    exact q _ _ o1 (.inl rfl) ho hh
  · walk_at "go"
    exact q _ _ o1 (.inr ⟨v, rfl, h0, by omega⟩) ho hh
theorem rd_list (hh : HH F H ((d, o) :: M)) (ho : DrO o) (q : ∀ F' H' o' l ns, LsOk ns → Same F F' → DrO o' → HH F' H' ((d, o') :: M) → F' l = some (.lst (ns.map V.int)) → Q (.ref l) H') : sp__law_list K [.ref d] H Q E := by
  refine ⟨rfl, ?_⟩
  unfold t__law_list
  walk_at "go"
  refine o_lst1 hh (by decide) fun H1 p hh => ?_
  walk_at "go"
  refine rd_draw hh ho ⟨by decide, by decide⟩ fun v H2 o2 h0 h1 ho hh => ?_
  walk_at "go"
  refine g_rngI (by omega) (by omega) ?_
  have hv : v.toNat ≤ 4 := by omega
  refine l_range (fun i σ H' => i ≤ v.toNat ∧ ∃ (ns : List Int) (o : HO) (v2 v3 : Option V), ns.length ≤ i ∧ (∀ n ∈ ns, 0 ≤ n ∧ n ≤ 9) ∧ σ = [some (.ref d), some (.ref p), v2, v3] ∧ DrO o ∧ HH F H' ((d, o) :: (p, .lst (ns.map V.int)) :: M))
    ⟨Nat.zero_le _, [], o2, none, none, Nat.le_refl _, (fun _ h => nomatch h), rfl, ho, hh⟩ ?_ ?_
  · clear hh ho
    rintro i σ H' hi ⟨_, ns, o, v2, v3, hl, hn, rfl, ho, hh⟩
    walk_at "go"
    refine rd_draw hh ho ⟨by decide, by decide⟩ fun w H3 o3 h2 h3 ho hh => ?_
    walk_at "go"
    refine v_notInL (SqL.of (hh.get (i := 1) rfl)) rfl flatI ?_
    walk_at "go"
    refine ite2 (fun z => ?_) (fun z => ?_)
    · walk_at "go"
      refine o_tyL (i := 1) hh rfl ?_
      walk_at "go"
      refine o_app1 hh (by rw [List.length_map]; omega) fun H4 hh => ?_
      refine ⟨by omega, ns ++ [1 + w], o3, _, _, by rw [List.length_append]; show ns.length + 1 ≤ _; omega, fun n h => ?_, rfl, ho, ?_⟩
      · rcases List.mem_append.mp h with h | h
        · exact hn n h
        · rw [List.mem_singleton.mp h]; omega
      · rw [List.map_append]
        exact hh
    · walk_at "go"
      exact ⟨by omega, ns, o3, _, _, by omega, hn, rfl, ho, hh⟩
  · rintro σ H' ⟨_, ns, o, v2, v3, hl, hn, rfl, ho, hh⟩
    walk_at "go"
    exact q _ _ o p ns ⟨by omega, hn⟩ hh.frz1S ho hh.frz1 upd_same
abbrev l_pa : List V := [.non, .int 0, .int 1, .int 2, .int 9]
abbrev l_pt : List V := [.non, svv q_empty, svv q_b, svv q_ab]
theorem pa_nm : ∀ v ∈ l_pa, Nm v := by
  intro v h
  simp only [List.mem_cons, List.not_mem_nil, or_false] at h
  rcases h with rfl | rfl | rfl | rfl | rfl
  · exact .inl rfl
  · exact .inr ⟨_, rfl, by decide, by decide⟩
  · exact .inr ⟨_, rfl, by decide, by decide⟩
  · exact .inr ⟨_, rfl, by decide, by decide⟩
  · exact .inr ⟨_, rfl, by decide, by decide⟩
theorem pt_tx : ∀ v ∈ l_pt, Tx3 v := by
  intro v h
  simp only [List.mem_cons, List.not_mem_nil, or_false] at h
  rcases h with rfl | rfl | rfl | rfl
  · exact .inl rfl
  · exact .inr ⟨_, List.mem_cons_self .., rfl⟩
  · exact .inr ⟨_, List.mem_cons_of_mem _ (List.mem_cons_self ..), rfl⟩
  · exact .inr ⟨_, List.mem_cons_of_mem _ (List.mem_cons_of_mem _ (List.mem_cons_self ..)), rfl⟩
theorem rd_contents {k : List Nat} (hk : k = q_A ∨ k = q_B) (hh : HH F H ((d, o) :: M)) (ho : DrO o)
    (q : ∀ F' H' u o' t l, t.kind = k → t.ok → Same F F' → DrO o' → HH F' H' ((d, o') :: M) → At K F' (cR t l) u → F' l = some (.lst (t.ls.map V.int)) → Q u H') : sp__law_contents K [.ref d, .str ⟨k.toArray⟩] H Q E := by
  refine ⟨rfl, ?_⟩
  unfold t__law_contents
  walk_at "go"
  refine o_dnew1 hh fun H1 c hh => ?_
  walk_at "go"
  rcases hk with rfl | rfl
  · rw [decide_eq_true rfl]
    walk_at "go"
    refine s_lst (K := K) (ds := l_pa.map D.v) hh (AtA.cons At.of (AtA.cons At.of (AtA.cons At.of (AtA.cons At.of (AtA.cons At.of AtA.nil))))) (by show 5 ≤ 1000; decide) fun F2 H2 u2 s2 hh h2 => ?_
    walk_at "go"
    refine rd_pick hh ho h2 (Same.refl _) (by decide) (by decide) fun j e va H3 o3 he hv ho hh => ?_
    have na := pa_nm _ (pick_mem he hv)
    walk_at "go"
    refine o_dput1 (k := kT q_a) hh (by decide) fun H4 hh => ?_
    replace hh : HH F2 H4 ((d, o3) :: (c, .dK [(kT q_a, va)]) :: M) := hh
    walk_at "go"
    refine s_lst (K := K) (ds := l_pt.map D.v) hh (AtA.cons At.of (AtA.cons At.of (AtA.cons At.of (AtA.cons At.of AtA.nil)))) (by show 4 ≤ 1000; decide) fun F5 H5 u5 s5 hh h5 => ?_
    walk_at "go"
    refine rd_pick hh ho h5 (Same.refl _) (by decide) (by decide) fun j e vt H6 o6 he hv ho hh => ?_
    have nt := pt_tx _ (pick_mem he hv)
    walk_at "go"
    refine o_dput1 (k := kT q_t) hh (by show 1 < 1000000; decide) fun H7 hh => ?_
    rw [show putK [(kT q_a, va)] (kT q_t) vt = [(kT q_a, va), (kT q_t, vt)] from putK_new _ (val_none (nin (ks := [kT q_a]) (by decide)))] at hh
    walk_at "go"
    refine rd_number hh ho fun vr H8 o8 nr ho hh => ?_
    walk_at "go"
    refine o_dput1 (k := kT q_r) hh (by show 2 < 1000000; decide) fun H9 hh => ?_
    rw [show putK [(kT q_a, va), (kT q_t, vt)] (kT q_r) vr = [(kT q_a, va), (kT q_t, vt), (kT q_r, vr)] from putK_new _ (val_none (nin (ks := [kT q_a, kT q_t]) (by decide)))] at hh
    walk_at "go"
    refine rd_list hh ho fun F10 H10 o10 l ns hls s10 ho hh hl => ?_
    walk_at "go"
    refine o_dput1 (k := kT q_l) hh (by show 3 < 1000000; decide) fun H11 hh => ?_
    rw [show putK [(kT q_a, va), (kT q_t, vt), (kT q_r, vr)] (kT q_l) (.ref l) = [(kT q_a, va), (kT q_t, vt), (kT q_r, vr), (kT q_l, .ref l)] from putK_new _ (val_none (nin (ks := [kT q_a, kT q_t, kT q_r]) (by decide)))] at hh
    walk_at "go"
    refine o_fz hh.swap fun F12 H12 od s12 hh hF => ?_
    exact q F12 H12 _ o10 (.A va vt vr ns) l rfl ⟨na, nt, nr, hls⟩ (s2.trans (s5.trans (s10.trans s12))) ho hh (At.mkK hF (ck_at (t := .A va vt vr ns))) (s12 _ _ hl)
  · rw [decide_eq_false (by decide)]
    walk_at "go"
    refine rd_number hh ho fun va H8 o8 na ho hh => ?_
    walk_at "go"
    refine o_dput1 (k := kT q_p) hh (by decide) fun H9 hh => ?_
    replace hh : HH F H9 ((d, o8) :: (c, .dK [(kT q_p, va)]) :: M) := hh
    walk_at "go"
    refine rd_number hh ho fun vt H8 o8 nt ho hh => ?_
    walk_at "go"
    refine o_dput1 (k := kT q_q) hh (by show 1 < 1000000; decide) fun H9 hh => ?_
    rw [show putK [(kT q_p, va)] (kT q_q) vt = [(kT q_p, va), (kT q_q, vt)] from putK_new _ (val_none (nin (ks := [kT q_p]) (by decide)))] at hh
    walk_at "go"
    refine rd_list hh ho fun F10 H10 o10 l ns hls s10 ho hh hl => ?_
    walk_at "go"
    refine o_dput1 (k := kT q_m) hh (by show 2 < 1000000; decide) fun H11 hh => ?_
    rw [show putK [(kT q_p, va), (kT q_q, vt)] (kT q_m) (.ref l) = [(kT q_p, va), (kT q_q, vt), (kT q_m, .ref l)] from putK_new _ (val_none (nin (ks := [kT q_p, kT q_q]) (by decide)))] at hh
    walk_at "go"
    refine o_fz hh.swap fun F12 H12 od s12 hh hF => ?_
    exact q F12 H12 _ o10 (.B va vt ns) l rfl ⟨na, nt, hls⟩ (s10.trans s12) ho hh (At.mkK hF (ck_at (t := .B va vt ns))) (s12 _ _ hl)
theorem rd_picture (T : Tx K mg) (hh : HH F H ((d, o) :: M)) (ho : DrO o) (q : ∀ F' H' u o' ps, PicOk F' [] ps → (∀ p ∈ ps, 1 ≤ p.1 ∧ p.1 ≤ 9) → ps.length ≤ 7 → Same F F' → DrO o' → HH F' H' ((d, o') :: M) → At K F' (dPic ps) u → Q u H') : sp__law_picture K [.ref d] H Q E := by
  refine ⟨rfl, ?_⟩
  unfold t__law_picture
  walk_at "go"
  refine o_dnew1 hh fun H1 c hh => ?_
  walk_at "go"
  refine rd_draw hh ho ⟨by decide, by decide⟩ fun v H2 o2 h0 h1 ho hh => ?_
  walk_at "go"
  refine g_rngI (by omega) (by omega) ?_
  have hv : v.toNat ≤ 7 := by omega
  refine l_range (fun i σ H' => i ≤ v.toNat ∧ ∃ (F' : Hp) (ps : Pic) (kvs : List (L2.Key × V)) (o : HO) (v2 v3 v4 : Option V), kvs.length ≤ i ∧ σ = [some (.ref d), some (.ref c), v2, v3, v4] ∧ Same F F' ∧ DrO o ∧ HH F' H' ((d, o) :: (c, .dK kvs) :: M) ∧ AtK K F' (pK ps) kvs ∧ PicOk F' [] ps ∧ ∀ p ∈ ps, 1 ≤ p.1 ∧ p.1 ≤ 9)
    ⟨Nat.zero_le _, F, [], [], o2, none, none, none, Nat.le_refl _, rfl, Same.refl _, ho, hh, AtK.nil, ⟨.nil, (fun _ h => nomatch h), fun _ h => nomatch h⟩, fun _ h => nomatch h⟩ ?_ ?_
  · clear hh ho
    rintro i σ H' hi ⟨_, F', ps, kvs, o, v2, v3, v4, hl, rfl, s, ho, hh, hk, ok, hr⟩
    walk_at "go"
    refine rd_draw hh ho ⟨by decide, by decide⟩ fun w H3 o3 h2 h3 ho hh => ?_
    walk_at "go"
    refine s_lst (K := K) (ds := [q_A, q_B].map D.t) hh (AtA.ofFlat (g := svv) (xs := [q_A, q_B])) (by show 2 ≤ 1000; decide) fun F4 H4 u4 s4 hh h4 => ?_
    walk_at "go"
    refine rd_pick hh ho h4 (Same.refl _) (by decide) (by decide) fun j e kv H5 o5 he hv ho hh => ?_
    rw [List.getElem?_map] at he
    obtain ⟨k, hz, rfl⟩ := Option.map_eq_some_iff.mp he
    obtain rfl := At.v_.mp hv
    have hkk : k = q_A ∨ k = q_B := by
      have := List.mem_of_getElem? hz
      simpa using this
    walk_at "go"
    refine rd_contents hkk hh ho fun F6 H6 u6 o6 t l ek ht s6 ho hh hc hl6 => ?_
    walk_at "go"
    rw [← ek]
    refine mk_ThingR T ht.fl hh hc (.inl hl6) fun F7 H7 u7 l' s7 hh hu7 => ?_
    have hh8 := hh.frz
    have s8 := hh.frzS
    walk_at "go"
    refine o_dput1 (k := kI (1 + w)) hh8 (by omega) fun H9 hh => ?_
    have sa := s4.trans (s6.trans (s7.trans s8))
    refine ⟨by omega, _, putP ps (1 + w) (t, l'), _, o6, _, _, _, Nat.le_trans (length_putK _ _ _) (by omega), rfl, s.trans sa, ho, hh, at_put (t := (t, l')) (hk.mono sa) (hu7.mono s8), ⟨putP_keys ok.nd, fun p hp => ?_, fun p hp => ?_⟩, fun p hp => ?_⟩
    · rcases putP_mem hp with rfl | hp
      · exact ht
      · exact ok.th p hp
    · rcases putP_mem hp with rfl | hp
      · exact .inl upd_same
      · exact (ok.ls p hp).mono sa fun _ h => h
    · rcases putP_mem hp with rfl | hp
      · exact ⟨by show (1 : Int) ≤ 1 + w; omega, by show (1 : Int) + w ≤ 9; omega⟩
      · exact hr p hp
  · rintro σ H' ⟨_, F', ps, kvs, o, v2, v3, v4, hl, rfl, s, ho, hh, hk, ok, hr⟩
    walk_at "go"
    refine o_fz hh.swap fun F12 H12 od s12 hh hF => ?_
    exact q F12 H12 _ o ps (ok.mono s12 fun _ h => h) hr (by have := hk.len; unfold pK at this; rw [List.length_map] at this; omega) (s.trans s12) ho hh (At.mkK hF (hk.mono s12))
end
end Lw

-- fld
namespace G
open PySem PySem.Spec PyProof.Rows L2
theorem AtF.non {K : PySem.W.Frag} {F : Hp} {f : Str} : ∀ {fs : List (Str × D)} {gs : List (Str × V)}, AtF K F fs gs → (fs.map (·.1)).contains f = false → gs.lookup f = none
  | [], gs, h, _ => by unfold AtF at h; rw [h]; rfl
  | (g, d') :: fs, gs, h, e => by
    unfold AtF at h
    obtain ⟨u, us, rfl, h1, h⟩ := h
    rw [List.map_cons, List.contains_cons, Bool.or_eq_false_iff] at e
    rw [List.lookup_cons, e.1]
    exact AtF.non h e.2
section
variable {K : PySem.W.Frag} {F F0 F' H H' : Hp} {x y w : V} {M : List (Addr × HO)} {Q : VK} {S : Hp → Prop} {σ : L2.St}
/-- a method of an object that stands -/
theorem s_meth {c m : Str} {fs : List (Str × D)} (h : At K F0 (.obj c fs) x) (s : Same F0 H) (ks : List Str) (e : fs.map (·.1) = ks) (n : ks.contains m = false) (q : S H) : MethK (He.ga K c) m x H S := by
  obtain ⟨a, dx, vs, rfl, hF, hv⟩ := h.obj_
  exact v_meth (s _ _ hF) (hv.non (by rw [e]; exact n)) q
/-- those of a list of numbers for which p holds, as a new cell -/
theorem i_lc {g : TG} {tt : TT} {te : TE} {ws : List Nat} {l : Addr} {ns : List Int} {p : Int → Bool} (hh : HH F H M) (hl : F l = some (.lst (ns.map V.int)) ∨ (l, HO.lst (ns.map V.int)) ∈ M) (hz : ns.length ≤ 1000)
    (hs : ∀ n H' c (P : V → Hp → Prop) (N : Hp → Prop), n ∈ ns → HH F H' (c :: M) → (p n = true → P (.int n) H') → (p n = false → N H') → g (.int n) (wipe σ ws) H' fun σ2 H2 => wipe σ2 ws = wipe σ ws ∧ tt σ2 H2 fun b H3 => if b = true then te σ2 H3 (fun v H4 => P v H4) else N H3)
    (q : ∀ H' D, HH F H' ((D, .lst ((ns.filter p).map V.int)) :: M) → Q (.ref D) H') : OvL K (fun J H1 => LcK J g tt te σ ws H1 Q) (.ref l) H := by
  have rd : ∀ {H' : Hp} {M' : List (Addr × HO)}, HH F H' M' → (∀ z ∈ M, z ∈ M') → H' l = some (.lst (ns.map V.int)) := fun h m => by
    rcases hl with e | e
    · exact h.sub _ _ e
    · exact (h.cell _ (m _ e)).1
  refine v_ovL (SqL.of (rd hh fun _ h => h)) fun Dl hD => ?_
  refine c_list (xs := ns.map V.int) (fun i H' => HH F H' ((Dl, .lst (((ns.take i).filter p).map V.int)) :: M)) (hh.new hD) (fun i H' _ h => SqL.of (rd h fun _ m => List.mem_cons_of_mem _ m)) (fun i v H' hv h => ?_) (fun H' h => ?_)
  · rw [List.getElem?_map] at hv
    obtain ⟨n, hn, rfl⟩ := Option.map_eq_some_iff.mp hv
    have et : ns.take (i + 1) = ns.take i ++ [n] := by rw [List.take_add_one, hn]; rfl
    refine hs n H' _ _ _ (List.mem_of_getElem? hn) h (fun hp => ?_) (fun hp => ?_)
    · refine v_put (h.get (i := 0) rfl) ?_ ?_
      · have := List.length_filter_le p (ns.take i)
        rw [List.length_map, sl16]
        rw [List.length_take] at this
        omega
      · rw [et, List.filter_append, List.filter_cons, hp]
        show HH F _ ((Dl, .lst (((ns.take i).filter p ++ [n]).map V.int)) :: M)
        rw [List.map_append]
        exact h.set0
    · rw [et, List.filter_append, List.filter_cons, hp]
      show HH F _ ((Dl, .lst (((ns.take i).filter p ++ []).map V.int)) :: M)
      rw [List.append_nil]
      exact h
  · rw [List.length_map, List.take_length] at h
    exact q _ Dl h
end
end G
namespace Lw
open PySem PySem.Spec PyProof.Rows L2 G
/-! ### what contents tell -/
def fnd (ps : Pic) (n : Int) : Option (Th × Addr) := (ps.find? fun p => decide (p.1 = n)).map (·.2)
theorem fnd_val {n : Int} : ∀ {ps : Pic}, valD (pK ps) (kI n) = (fnd ps n).map fun t => dR t.1 t.2
  | [] => rfl
  | p :: ps => by
    show valD ((kI p.1, dR p.2.1 p.2.2) :: pK ps) _ = _
    unfold fnd
    rw [List.find?_cons]
    by_cases c : p.1 = n
    · rw [c, valD_pos, decide_eq_true rfl]
      rfl
    · rw [valD_neg (fun e => c (Sum.inl.inj e)), decide_eq_false c]
      exact fnd_val
theorem fnd_mem {ps : Pic} {n : Int} {t : Th × Addr} (h : fnd ps n = some t) : (n, t) ∈ ps := by
  unfold fnd at h
  obtain ⟨p, h1, rfl⟩ := Option.map_eq_some_iff.mp h
  have h2 := List.find?_some h1
  have h2 : p.1 = n := of_decide_eq_true h2
  have h3 := List.mem_of_find?_eq_some h1
  rw [← h2]
  exact h3
theorem fnd_some {ps : Pic} {n : Int} (h : n ∈ ps.map (·.1)) : ∃ t, fnd ps n = some t := by
  obtain ⟨p, hp, rfl⟩ := List.mem_map.mp h
  cases e : fnd ps p.1 with
  | some t => exact ⟨t, rfl⟩
  | none =>
    unfold fnd at e
    rw [Option.map_eq_none_iff] at e
    exact (List.find?_eq_none.mp e p hp (decide_eq_true rfl)).elim
section
variable {K : PySem.W.Frag} {F F0 F1 F2 H H' : Hp} {Q : VK} {E : XK} {mg : Str → Option Value} {M : List (Addr × HO)} {x y z kv : V} {o : HO} {d l l' : Addr} {t t' : Th} {ns ms : List Int} {ps : Pic} {ks : List (List Nat)}
theorem HH.ofS (s : Same F H) : HH F H [] := ⟨s, .nil, fun _ h => nomatch h⟩
theorem rd_kind_of (T : Tx K mg) {rows : List Kdd} {k : Kdd} {z : List Nat} (hx : At K F0 (o_Schema (.lst (rows.map Kdd.d))) x) (s : Same F0 H) (e : rows.find? (fun k => decide (k.name = z)) = some k) (q : ∀ w, At K F0 k.d w → Q w H) : sp_Schema_kind_of K [x, .str ⟨z.toArray⟩] H Q E := by
  refine ⟨rfl, ?_⟩
  unfold t_Schema_kind_of
  walk_at "go"
  refine gi_list ?_
  walk_at "go"
  rename_i w hw
  refine a_forL (e := Kdd.d) hw (HH.ofS s) (fun r σ H' => H' = H ∧ r.find? (fun k => decide (k.name = z)) = some k ∧ ∃ v2, σ = [some x, some (.str ⟨z.toArray⟩), v2]) (fun _ _ _ h => h.1 ▸ s) ⟨rfl, e, none, rfl⟩ ?_ ?_
  · rintro k' r u σ H' hu ⟨rfl, e, v2, rfl⟩
    walk_at "go"
    refine fk_name T hu s ?_
    walk_at "go"
    rw [List.find?_cons] at e
    by_cases c : k'.name = z
    · rw [decide_eq_true c] at e ⊢
      cases e
      walk_at "go"
      exact q u hu
    · rw [decide_eq_false c] at e ⊢
      walk_at "go"
      exact ⟨rfl, e, _, rfl⟩
  · rintro σ H' ⟨_, e, _⟩
    cases e
def isL : Sh → Bool
  | .l _ => true
  | _ => false
def isR : Sh → Bool
  | .r _ _ => true
  | _ => false
end
end Lw

local macro_rules | `(tactic| walk_at "rd1") => `(tactic| first
  | walk_at "go1"
  | (with_reducible refine Lw.r_meth (by assumption) (by assumption) (by decide +kernel) ?_)
  | (with_reducible refine Lw.p_now (by assumption) (by assumption) (by assumption) ?_; intro _ _))
local macro_rules | `(tactic| walk_at "rd") => `(tactic| repeat walk_at "rd1")
-- rd
namespace G
open PySem PySem.Spec PyProof.Rows L2
/-! ### plain data, equal or not -/
structure Pd {α : Type} (e : α → D) (f : α → PyData) (n : Nat) (ok : α → Prop) : Prop where
  dp : ∀ {K : PySem.W.Frag} {F : Hp} (x : α) (v : V), At K F (e x) v → Dp K F v (f x)
  lay : ∀ x, ok x → PyData.canLay0 (f x) = true
  dep : ∀ x, PyData.depth (f x) ≤ n
  eq : ∀ x y, PyData.eqv (f x) (f y) = true ↔ x = y
section
variable {α : Type} {e : α → D} {f : α → PyData} {n : Nat} {ok : α → Prop} {K : PySem.W.Frag} {F F0 F1 H : Hp} {Q : VK} {x y : V}
theorem Pd.all (P : Pd e f n ok) : ∀ {xs : List α} {vs : List V}, AtA K F (xs.map e) vs → DpAll K F vs (xs.map f)
  | [], vs, h => by rw [Lw.AtA.ni h]; exact .nil
  | a :: xs, vs, h => by
    obtain ⟨u, us, rfl, h1, h2⟩ := Lw.AtA.ci h
    exact .cons (P.dp a u h1) (P.all h2)
theorem Pd.layA (P : Pd e f n ok) : ∀ {xs : List α}, (∀ x ∈ xs, ok x) → PyData.canLayAll0 (xs.map f) = true
  | [], _ => by simp [PyData.canLayAll0]
  | a :: xs, h => by rw [List.map_cons, PyData.canLayAll0, P.lay a (h a (List.mem_cons_self ..)), P.layA fun x hx => h x (List.mem_cons_of_mem _ hx)]; rfl
theorem Pd.depA (P : Pd e f n ok) : ∀ {xs : List α}, PyData.depthAll (xs.map f) ≤ n
  | [] => by simp [PyData.depthAll]
  | a :: xs => by
    rw [List.map_cons, PyData.depthAll]
    exact Nat.max_le.mpr ⟨P.dep a, P.depA⟩
theorem Pd.eqA (P : Pd e f n ok) : ∀ {xs ys : List α}, PyData.eqvAll (xs.map f) (ys.map f) = true ↔ xs = ys
  | [], [] => by simp [PyData.eqvAll]
  | [], _ :: _ => by simp [PyData.eqvAll]
  | _ :: _, [] => by simp [PyData.eqvAll]
  | a :: xs, b :: ys => by rw [List.map_cons, List.map_cons, PyData.eqvAll, Bool.and_eq_true, P.eq, P.eqA, List.cons.injEq]
theorem Pd.list (P : Pd e f n ok) : Pd (fun xs : List α => .lst (xs.map e)) (fun xs => .list (xs.map f)) (n + 1) (fun xs => ∀ x ∈ xs, ok x) where
  dp := fun xs v h => by
    obtain ⟨a, vs, rfl, h, t⟩ := At.lst_ h
    exact .lst h (P.all t)
  lay := fun xs h => by rw [PyData.canLay0]; exact P.layA h
  dep := fun xs => by rw [PyData.depth]; exact Nat.succ_le_succ P.depA
  eq := fun xs ys => by rw [PyData.eqv, P.eqA, ]
theorem Pd.tup (P : Pd e f n ok) : Pd (fun xs : List α => .tup (xs.map e)) (fun xs => .tuple (xs.map f)) (n + 1) (fun xs => ∀ x ∈ xs, ok x) where
  dp := fun xs v h => by
    obtain ⟨a, vs, rfl, h, t⟩ := At.tup_ h
    exact .tup h (P.all t)
  lay := fun xs h => by rw [PyData.canLay0]; exact P.layA h
  dep := fun xs => by rw [PyData.depth]; exact Nat.succ_le_succ P.depA
  eq := fun xs ys => by rw [PyData.eqv, P.eqA]
/-- a text or a number -/
inductive Tn where
  | t (z : List Nat)
  | i (n : Int)
  deriving DecidableEq
def Tn.d : Tn → D
  | .t z => D.t z
  | .i n => D.i n
def Tn.p : Tn → PyData
  | .t z => .str ⟨z.toArray⟩
  | .i n => .int n
def Tn.small : Tn → Prop
  | .t z => z.all (· < 1114112) = true
  | .i _ => True
theorem sokT {z : List Nat} (h : z.all (· < 1114112) = true) : PyData.strOk ⟨z.toArray⟩ = true := by
  show z.toArray.all _ = true
  rw [List.all_toArray]
  exact h
theorem pd_tn : Pd Tn.d Tn.p 0 Tn.small where
  dp := fun x v h => by
    cases x with
    | t z => rw [At.v_.mp h]; exact .str _
    | i n => rw [At.v_.mp h]; exact .int _
  lay := fun x h => by
    cases x with
    | t z => unfold Tn.p; rw [PyData.canLay0]; exact sokT h
    | i n => unfold Tn.p; rw [PyData.canLay0]
  dep := fun x => by
    cases x with
    | t z => unfold Tn.p; rw [PyData.depth]; exact Nat.le_refl _
    | i n => unfold Tn.p; rw [PyData.depth]; exact Nat.le_refl _
  eq := fun x y => by
    cases x <;> cases y <;> simp [Tn.p, PyData.eqv]
theorem pd_t : Pd D.t (fun z => .str ⟨z.toArray⟩) 0 (fun z => z.all (· < 1114112) = true) where
  dp := fun x v h => by rw [At.v_.mp h]; exact .str _
  lay := fun x h => by rw [PyData.canLay0]; exact sokT h
  dep := fun x => by rw [PyData.depth]; exact Nat.le_refl _
  eq := fun x y => by simp [PyData.eqv]
theorem Pd.shp (P : Pd e f n ok) (hn : n ≤ 64) {a : α} (h : ok a) : SeqAt.shaped (f a) = true := by
  unfold SeqAt.shaped
  rw [P.lay a h, decide_eq_true (Nat.le_trans (P.dep a) hn)]
  rfl
theorem Pd.dec [DecidableEq α] (P : Pd e f n ok) (a b : α) : PyData.eqv (f a) (f b) = decide (a = b) := by
  by_cases h : a = b
  · rw [decide_eq_true h]; exact (P.eq a b).mpr h
  · rw [decide_eq_false h]
    cases e : PyData.eqv (f a) (f b) with
    | false => rfl
    | true => exact absurd ((P.eq a b).mp e) h
theorem s_neP [DecidableEq α] (P : Pd e f n ok) (hn : n ≤ 64) {a b : α} (hx : At K F0 (e a) x) (hy : At K F1 (e b) y) (s0 : Same F0 H) (s1 : Same F1 H) (oa : ok a) (ob : ok b) (q : Q (.bl (!decide (a = b))) H) : rNeX K x y H Q := by
  refine v_neD (P.dp a x (hx.mono s0)) (P.dp b y (hy.mono s1)) (P.shp hn oa) (P.shp hn ob) ?_
  rw [P.dec]
  exact q
theorem s_eqP [DecidableEq α] (P : Pd e f n ok) (hn : n ≤ 64) {a b : α} (hx : At K F0 (e a) x) (hy : At K F1 (e b) y) (s0 : Same F0 H) (s1 : Same F1 H) (oa : ok a) (ob : ok b) (q : Q (.bl (decide (a = b))) H) : rEqX K x y H Q := by
  refine v_eqD (P.dp a x (hx.mono s0)) (P.dp b y (hy.mono s1)) (P.shp hn oa) (P.shp hn ob) ?_
  rw [P.dec]
  exact q
end
end G

-- fld
namespace Lw
open PySem PySem.Spec PyProof.Rows L2 G
/-! ### pictures told; the law's first half -/
abbrev er (p : Int × Th × Addr) : Int × Th := (p.1, p.2.1)
def fndT (qs : List (Int × Th)) (n : Int) : Option Th := (qs.find? fun p => decide (p.1 = n)).map (·.2)
theorem fnd_er {n : Int} : ∀ {ps : Pic}, fndT (ps.map er) n = (fnd ps n).map (·.1)
  | [] => rfl
  | p :: ps => by
    unfold fndT fnd
    rw [List.map_cons, List.find?_cons, List.find?_cons]
    by_cases c : p.1 = n
    · rw [decide_eq_true (show (er p).1 = n from c)]
      rfl
    · rw [decide_eq_false (show ¬(er p).1 = n from c)]
      exact fnd_er
def shC (t : Th) : List Nat := (ctP t t.ls).shown.cps.toList
def rowT (qs : List (Int × Th)) (n : Int) : List Tn := match fndT qs n with
  | some t => [.i n, .t t.kind, .t (shC t)]
  | none => []
def shR (qs : List (Int × Th)) : List (List Tn) := (srt (qs.map (·.1))).map (rowT qs)
abbrev dRow (r : List Tn) : D := .tup (r.map Tn.d)
abbrev dSh (ps : Pic) : D := .lst ((shR (ps.map er)).map dRow)
theorem er_fst {ps : Pic} : (ps.map er).map (·.1) = ps.map (·.1) := by rw [List.map_map]; rfl
theorem srt_mem {ns : List Int} {n : Int} : n ∈ srt ns ↔ n ∈ ns := srt_perm.mem_iff
theorem pK_keys {ps : Pic} : (pK ps).map (·.1) = (ps.map (·.1)).map Sum.inl := by unfold pK; rw [List.map_map, List.map_map]; rfl
theorem sh_ok {ps : Pic} (h : ∀ p ∈ ps, p.2.1.ok) : ∀ r ∈ shR (ps.map er), ∀ c ∈ r, c.small := by
  intro r hr c hc
  unfold shR at hr
  obtain ⟨n, _, rfl⟩ := List.mem_map.mp hr
  unfold rowT at hc
  rw [fnd_er] at hc
  cases e : fnd ps n with
  | none => rw [e] at hc; cases hc
  | some t =>
    rw [e] at hc
    have ht := h _ (fnd_mem e)
    have hc : c ∈ [Tn.i n, Tn.t t.1.kind, Tn.t (shC t.1)] := hc
    simp only [List.mem_cons, List.not_mem_nil, or_false] at hc
    rcases hc with rfl | rfl | rfl
    · trivial
    · show (t.1.kind.all fun x => decide (x < 1114112)) = true
      cases t.1 with
      | A => exact (by decide : (q_A.all fun x => decide (x < 1114112)) = true)
      | B => exact (by decide : (q_B.all fun x => decide (x < 1114112)) = true)
    · have o := (ctP_sm ht.fl ht.ls).2.2.2.2
      show ((ctP t.1 t.1.ls).shown.cps.toList.all fun x => decide (x < 1114112)) = true
      have o : ((ctP t.1 t.1.ls).shown.cps.all fun x => decide (x < 1114112)) = true := o
      rw [← Array.all_toList] at o
      exact o
section
variable {K : PySem.W.Frag} {F F0 F1 F2 F3 H H' : Hp} {Q : VK} {E : XK} {mg : Str → Option Value} {M : List (Addr × HO)} {x y kv fv rv tv : V} {o : HO} {d l l' : Addr} {t t' : Th} {ns ms : List Int} {ps : Pic} {ks : List (List Nat)} {k z : List Nat}
theorem rd_shown (T : Tx K mg) (hh : HH F H M) (hx : At K F (dPic ps) x) (ok : PicOk F M ps) (hz : ps.length ≤ 1000) (q : ∀ F' H' u, Same F F' → HH F' H' M → At K F' (dSh ps) u → Q u H') : sp__law_shown K [x] H Q E := by
  refine ⟨rfl, ?_⟩
  unfold t__law_shown
  walk_at "go"
  refine gi_list ?_
  walk_at "go"
  refine s_listK hx hh (Same.refl _) pK_keys fun F1 H1 u1 s1 hh h1 => ?_
  walk_at "go"
  refine s_sorted h1 hh (Same.refl _) fun F2 H2 u2 s2 hh h2 => ?_
  refine a_lcL (e := D.i) (f := dRow) h2 hh (by rw [sl16]; have := (srt_perm (ns := ps.map (·.1))).length_eq; rw [List.length_map] at this; omega) (fun n => some (rowT (ps.map er) n)) (fun n w F' H' c P N hn hw sF hh' hP hN => ?_) fun F3 H3 u3 s3 hh h3 => ?_
  · obtain rfl := At.v_.mp hw
    obtain ⟨t, e⟩ := fnd_some (srt_mem.mp hn)
    have hm := fnd_mem e
    have sa : Same F F' := s1.trans (s2.trans sF)
    have ev : valD (pK ps) (kI n) = some (dR t.1 t.2) := by rw [fnd_val, e]; rfl
    have ht := ok.th _ hm
    walk_at "go"
    refine ⟨rfl, ?_⟩
    walk_at "go"
    refine s_dgetI (hx.mono sa) hh'.sub ev fun w hw => ?_
    refine fk_kind T hw hh'.sub ?_
    walk_at "go"
    refine s_dgetI (hx.mono sa) hh'.sub ev fun w hw => ?_
    refine fk_contents T hw hh'.sub fun w hw => ?_
    walk_at "go"
    refine s_repr ht.fl hw hh'.sub ((ok.ls _ hm).at_ sa hh' fun p hp => List.mem_cons_of_mem _ hp) ht.ls ?_
    walk_at "go"
    have er_ : rowT (ps.map er) n = [.i n, .t t.1.kind, .t (shC t.1)] := by unfold rowT; rw [fnd_er, e]; rfl
    refine s_tup (ds := (rowT (ps.map er) n).map Tn.d) hh' ?_ (by show 3 ≤ 1000; decide) fun F4 H4 u4 s4 hh4 h4 => hP F4 H4 u4 _ s4 hh4 rfl h4
    rw [er_]
    refine AtA.cons At.of (AtA.cons At.of (AtA.cons ?_ AtA.nil))
    show At K F' (D.t (shC t.1)) _
    rw [show (V.str (ctP t.1 t.1.ls).shown) = svv (shC t.1) by unfold shC; simp]
    exact At.of
  · rw [List.filterMap_eq_map'] at h3
    have e : (srt (ps.map (·.1))).map (rowT (ps.map er)) = shR (ps.map er) := by unfold shR; rw [er_fst]
    rw [e] at h3
    exact q F3 H3 u3 (s1.trans (s2.trans s3)) hh h3
/-- told twice: the same -/
theorem sh_ne {ps ps' : Pic} (e : ps.map er = ps'.map er) (hx : At K F0 (dSh ps) x) (hy : At K F1 (dSh ps') y) (s0 : Same F0 H) (s1 : Same F1 H) (h : ∀ p ∈ ps, p.2.1.ok) (q : Q (.bl false) H) : rNeX K x y H Q := by
  have hx : At K F0 (.lst ((shR (ps.map er)).map dRow)) x := hx
  have hy : At K F1 (.lst ((shR (ps.map er)).map dRow)) y := by rw [e]; exact hy
  refine s_neP (pd_tn.tup).list (by decide) hx hy s0 s1 (sh_ok h) (sh_ok h) ?_
  rw [decide_eq_true rfl]
  exact q
theorem sh_eq {ps ps' : Pic} (e : ps.map er = ps'.map er) (hx : At K F0 (dSh ps) x) (hy : At K F1 (dSh ps') y) (s0 : Same F0 H) (s1 : Same F1 H) (h : ∀ p ∈ ps, p.2.1.ok) (q : Q (.bl true) H) : rEqX K x y H Q := by
  have hx : At K F0 (.lst ((shR (ps.map er)).map dRow)) x := hx
  have hy : At K F1 (.lst ((shR (ps.map er)).map dRow)) y := by rw [e]; exact hy
  refine s_eqP (pd_tn.tup).list (by decide) hx hy s0 s1 (sh_ok h) (sh_ok h) ?_
  rw [decide_eq_true rfl]
  exact q
end
end Lw

-- fld
namespace Lw
open PySem PySem.Spec PyProof.Rows L2 G
/-! ### copies; the law k39 -/
theorem nd_inj {α β : Type} {f : α → β} : ∀ {xs : List α}, (xs.map f).Nodup → ∀ {x y : α}, x ∈ xs → y ∈ xs → f x = f y → x = y
  | [], _, _, _, h, _, _ => nomatch h
  | a :: xs, nd, x, y, hx, hy, e => by
    rw [List.map_cons, List.nodup_cons] at nd
    rcases List.mem_cons.mp hx with h1 | h1 <;> rcases List.mem_cons.mp hy with h2 | h2
    · rw [h1, h2]
    · exact (nd.1 (by rw [← h1, e]; exact List.mem_map.mpr ⟨y, h2, rfl⟩)).elim
    · exact (nd.1 (by rw [← h2, ← e]; exact List.mem_map.mpr ⟨x, h1, rfl⟩)).elim
    · exact nd_inj nd.2 h1 h2 e
theorem fnd_of {ps : Pic} {p : Int × Th × Addr} (nd : (ps.map (·.1)).Nodup) (h : p ∈ ps) : fnd ps p.1 = some p.2 := by
  obtain ⟨t, e⟩ := fnd_some (List.mem_map.mpr ⟨p, h, rfl⟩)
  have := nd_inj nd h (fnd_mem e) rfl
  rw [e, this]
abbrev cell (p : Int × Th × Addr) : Addr × HO := (p.2.2, .lst (p.2.1.ls.map V.int))
end Lw

-- fld
namespace G
open PySem PySem.Spec PyProof.Rows L2
section
variable {K : PySem.W.Frag} {F : Hp} {x : V}
theorem At.intL {ns : List Int} (h : At K F (.lst (ns.map D.i)) x) : ∃ l, x = .ref l ∧ F l = some (.lst (ns.map V.int)) := by
  obtain ⟨a, vs, rfl, h, t⟩ := h.lstR
  have e := t.flat (g := V.int)
  subst e
  exact ⟨a, rfl, h⟩
theorem inV_i {n : Int} : ∀ {ns : List Int}, inV (.int n) (ns.map V.int) = ns.contains n
  | [] => rfl
  | m :: ns => by
    have ih := inV_i (n := n) (ns := ns)
    unfold inV at ih ⊢
    rw [List.map_cons, List.any_cons, ih, List.contains_cons]
    congr 1
    show (m == n) = (n == m)
    rw [Bool.eq_iff_iff, beq_iff_eq, beq_iff_eq]
    exact eq_comm
theorem inV_n : ∀ {ns : List Int}, inV .non (ns.map V.int) = false
  | [] => rfl
  | m :: ns => by
    have ih := inV_n (ns := ns)
    unfold inV at ih ⊢
    rw [List.map_cons, List.any_cons, ih]
    rfl
end
end G
namespace Lw
open PySem PySem.Spec PyProof.Rows L2 G
/-! ### numbers leave contents -/
abbrev dL (ns : List Int) : D := .lst (ns.map D.i)
def clV (g : List Int) : V → V
  | .int n => if g.contains n = true then .non else .int n
  | v => v
def clL (g : List Int) (l : List Int) : List Int := l.filter fun n => !g.contains n
def clT (g : List Int) : Th → Th
  | .A a t r l => .A a t (clV g r) (clL g l)
  | .B p q m => .B (clV g p) (clV g q) (clL g m)
theorem clV_nm {g : List Int} {v : V} (h : Nm v) : Nm (clV g v) := by
  rcases h with rfl | ⟨i, rfl, h0, h1⟩
  · exact .inl rfl
  · unfold clV
    dsimp only
    split
    · exact .inl rfl
    · exact .inr ⟨i, rfl, h0, h1⟩
theorem ls_filter {ns : List Int} {p : Int → Bool} (h : LsOk ns) : LsOk (ns.filter p) := ⟨Nat.le_trans (List.length_filter_le _ _) h.1, fun n hn => h.2 n (List.mem_filter.mp hn).1⟩
theorem clT_ok {g : List Int} {t : Th} (h : t.ok) : (clT g t).ok := by
  cases t with
  | A a t r l => exact ⟨h.1, h.2.1, clV_nm h.2.2.1, ls_filter h.2.2.2⟩
  | B p q m => exact ⟨clV_nm h.1, clV_nm h.2.1, ls_filter h.2.2⟩
theorem clT_kind {g : List Int} {t : Th} : (clT g t).kind = t.kind := by cases t <;> rfl
theorem clT_ln {g : List Int} {t : Th} : (clT g t).ln = t.ln := by cases t <;> rfl
theorem clT_ls {g : List Int} {t : Th} : (clT g t).ls = clL g t.ls := by cases t <;> rfl
theorem clT_fl {g : List Int} {t : Th} : (clT g t).fl.length = t.fl.length := by cases t <;> rfl
def kOf (r0 r1 r2 : List Nat) (b : Bool) : Th → Kdd
  | .A .. => kA r0 b
  | .B .. => kB r1 r2 b
theorem kOf_find {r0 r1 r2 : List Nat} {b : Bool} {t : Th} : ([kA r0 b, kB r1 r2 b].find? fun k => decide (k.name = t.kind)) = some (kOf r0 r1 r2 b t) := by cases t <;> rfl
def Slot (r0 r1 r2 : List Nat) (b : Bool) (g : List Int) (t : Th) (i : Nat) (p : List Nat × V) : Prop := ∃ (f : Fdd) (w : V), (kOf r0 r1 r2 b t).fs[i]? = some f ∧ f.name = p.1 ∧ isL f.sh = false ∧ (clT g t).fl[i]? = some (p.1, w) ∧ [q_l, q_m].contains p.1 = false ∧
  ((isR f.sh = false ∧ w = p.2 ∧ [q_r, q_p, q_q].contains p.1 = false) ∨ (isR f.sh = true ∧ Nm p.2 ∧ w = clV g p.2 ∧ [q_r, q_p, q_q].contains p.1 = true))
theorem slot {r0 r1 r2 : List Nat} {b : Bool} {g : List Int} {t : Th} (ht : t.ok) {i : Nat} {p : List Nat × V} (e : t.fl[i]? = some p) : Slot r0 r1 r2 b g t i p := by
  cases t with
  | A a t r l =>
    obtain ⟨h1, h2, h3, h4⟩ := ht
    match i, e with
    | 0, e => cases e; exact ⟨_, _, rfl, rfl, rfl, rfl, rfl, .inl ⟨rfl, rfl, rfl⟩⟩
    | 1, e => cases e; exact ⟨_, _, rfl, rfl, rfl, rfl, rfl, .inl ⟨rfl, rfl, rfl⟩⟩
    | 2, e => cases e; exact ⟨_, _, rfl, rfl, rfl, rfl, rfl, .inr ⟨rfl, h3, rfl, rfl⟩⟩
    | n + 3, e => cases e
  | B p q m =>
    obtain ⟨h1, h2, h4⟩ := ht
    match i, e with
    | 0, e => cases e; exact ⟨_, _, rfl, rfl, rfl, rfl, rfl, .inr ⟨rfl, h1, rfl, rfl⟩⟩
    | 1, e => cases e; exact ⟨_, _, rfl, rfl, rfl, rfl, rfl, .inr ⟨rfl, h2, rfl, rfl⟩⟩
    | n + 2, e => cases e
theorem slotL {r0 r1 r2 : List Nat} {b : Bool} {t : Th} : ∃ f : Fdd, (kOf r0 r1 r2 b t).fs[t.fl.length]? = some f ∧ f.name = t.ln ∧ isL f.sh = true ∧ (kOf r0 r1 r2 b t).fs.length = t.fl.length + 1 ∧ [q_l, q_m].contains t.ln = true ∧ [q_r, q_p, q_q].contains t.ln = false := by
  cases t with
  | A a t r l => exact ⟨_, rfl, rfl, rfl, rfl, rfl, rfl⟩
  | B p q m => exact ⟨_, rfl, rfl, rfl, rfl, rfl, rfl⟩
abbrev flK (t : Th) : List (L2.Key × V) := t.fl.map fun p => (kT p.1, p.2)
theorem flK_nd {t : Th} : ((flK t).map (·.1)).Nodup := by
  have e : ((flK t).map (·.1)) = t.fl.map fun p => kT p.1 := by unfold flK; rw [List.map_map]; rfl
  rw [e]
  exact fl_keys.1
theorem flK_new {t : Th} {i : Nat} {z : List Nat} {w : V} (e : t.fl[i]? = some (z, w)) : putK ((flK t).take i) (kT z) w = (flK t).take (i + 1) := by
  rw [putK_new _ (val_none ?_), List.take_add_one, List.getElem?_map, e]
  · rfl
  · rw [List.map_take]
    refine nd_take flK_nd ?_
    rw [List.getElem?_map, List.getElem?_map, e]
    rfl
theorem flK_last {t : Th} {w : V} : putK (flK t) (kT t.ln) w = flK t ++ [(kT t.ln, w)] := by
  refine putK_new _ (val_none fun z => ?_)
  rw [List.map_map] at z
  obtain ⟨q, hq, e⟩ := List.mem_map.mp z
  exact fl_keys.2 q hq e
theorem flK_all {t : Th} : (flK t).take t.fl.length = flK t := List.take_of_length_le (by unfold flK; rw [List.length_map]; exact Nat.le_refl _)
theorem fl_len {t : Th} : t.fl.length ≤ 3 := by cases t <;> (simp [Th.fl])
section
variable {K : PySem.W.Frag} {F F0 F1 F2 H H' : Hp} {Q : VK} {E : XK} {mg : Str → Option Value} {M : List (Addr × HO)} {x y z kv tv gv scv : V} {o : HO} {d l l' : Addr} {t t' : Th} {ns ms g : List Int} {ps : Pic}
theorem rd_pictureC (T : Tx K mg) (hh : HH F H ((d, o) :: M)) (ho : DrO o) (q : ∀ F' H' u o' ps M', PicOk F' M' ps → (∀ p ∈ ps, (p.2.2, HO.lst (p.2.1.ls.map V.int)) ∈ M') → ps.length ≤ 7 → Same F F' → DrO o' → HH F' H' ((d, o') :: M') → At K F' (dPic ps) u → Q u H') : sp__law_picture K [.ref d] H Q E := by
  refine ⟨rfl, ?_⟩
  unfold t__law_picture
  walk_at "go"
  refine o_dnew1 hh fun H1 c hh => ?_
  walk_at "go"
  refine rd_draw hh ho ⟨by decide, by decide⟩ fun v H2 o2 h0 h1 ho hh => ?_
  walk_at "go"
  refine g_rngI (by omega) (by omega) ?_
  have hv : v.toNat ≤ 7 := by omega
  refine l_range (fun i σ H' => i ≤ v.toNat ∧ ∃ (F' : Hp) (ps : Pic) (kvs : List (L2.Key × V)) (o : HO) (M' : List (Addr × HO)) (v2 v3 v4 : Option V), kvs.length ≤ i ∧ σ = [some (.ref d), some (.ref c), v2, v3, v4] ∧ Same F F' ∧ DrO o ∧ HH F' H' ((d, o) :: (c, .dK kvs) :: M') ∧ AtK K F' (pK ps) kvs ∧
      (ps.map (·.1)).Nodup ∧ (∀ p ∈ ps, p.2.1.ok) ∧ ∀ p ∈ ps, (p.2.2, HO.lst (p.2.1.ls.map V.int)) ∈ M')
    ⟨Nat.zero_le _, F, [], [], o2, M, none, none, none, Nat.le_refl _, rfl, Same.refl _, ho, hh, AtK.nil, .nil, (fun _ h => nomatch h), fun _ h => nomatch h⟩ ?_ ?_
  · clear hh ho
    rintro i σ H' hi ⟨_, F', ps, kvs, o, M', v2, v3, v4, hl, rfl, s, ho, hh, hk, nd, ok, hm⟩
    walk_at "go"
    refine rd_draw hh ho ⟨by decide, by decide⟩ fun w H3 o3 h2 h3 ho hh => ?_
    walk_at "go"
    refine s_lst (K := K) (ds := [q_A, q_B].map D.t) hh (AtA.ofFlat (g := svv) (xs := [q_A, q_B])) (by show 2 ≤ 1000; decide) fun F4 H4 u4 s4 hh h4 => ?_
    walk_at "go"
    refine rd_pick hh ho h4 (Same.refl _) (by decide) (by decide) fun j e kv H5 o5 he hv ho hh => ?_
    rw [List.getElem?_map] at he
    obtain ⟨k, hz, rfl⟩ := Option.map_eq_some_iff.mp he
    obtain rfl := At.v_.mp hv
    have hkk : k = q_A ∨ k = q_B := by
      have := List.mem_of_getElem? hz
      simpa using this
    walk_at "go"
    refine rd_contents hkk hh ho fun F6 H6 u6 o6 t l ek ht s6 ho hh hc hl6 => ?_
    walk_at "go"
    rw [← ek]
    refine mk_ThingR T ht.fl hh hc (.inl hl6) fun F7 H7 u7 l' s7 hh hu7 => ?_
    replace hh := hh.perm (List.perm_append_comm_assoc [_] [_, _] _)
    walk_at "go"
    refine o_dput1 (k := kI (1 + w)) hh (by omega) fun H9 hh => ?_
    have sa := s4.trans (s6.trans s7)
    refine ⟨by omega, _, putP ps (1 + w) (t, l'), _, o6, _, _, _, _, Nat.le_trans (length_putK _ _ _) (by omega), rfl, s.trans sa, ho, hh, at_put (t := (t, l')) (hk.mono sa) hu7, putP_keys nd, fun p hp => ?_, fun p hp => ?_⟩
    · rcases putP_mem hp with rfl | hp
      · exact ht
      · exact ok p hp
    · rcases putP_mem hp with rfl | hp
      · exact List.mem_cons_self ..
      · exact List.mem_cons_of_mem _ (hm p hp)
  · rintro σ H' ⟨_, F', ps, kvs, o, M', v2, v3, v4, hl, rfl, s, ho, hh, hk, nd, ok, hm⟩
    walk_at "go"
    refine o_fz hh.swap fun F12 H12 od s12 hh hF => ?_
    have hm2 : ∀ p ∈ ps, (p.2.2, HO.lst (p.2.1.ls.map V.int)) ∈ (d, o) :: M' := fun p hp => List.mem_cons_of_mem _ (hm p hp)
    exact q F12 H12 _ o ps M' ⟨nd, ok, fun p hp => .inr (hm p hp)⟩ hm (by have := hk.len; unfold pK at this; rw [List.length_map] at this; omega) (s.trans s12) ho hh (At.mkK hF (hk.mono s12))
theorem rd_is_link (T : Tx K mg) {sh : Sh} (h : At K F0 sh.d x) (s : Same F0 H) (q : Q (.bl (isR sh || isL sh)) H) : sp_is_link K [x] H Q E := by
  refine ⟨rfl, ?_⟩
  unfold t_is_link
  walk_at "go"
  cases sh with
  | i =>
    refine s_isi h s T.cl_IntSort T.if_IntSort T.is_IntSort_RefSort ?_
    walk_at "go"
    exact s_isi h s T.cl_IntSort T.if_IntSort T.is_IntSort_ListSort q
  | t =>
    refine s_isi h s T.cl_TextSort T.if_TextSort T.is_TextSort_RefSort ?_
    walk_at "go"
    exact s_isi h s T.cl_TextSort T.if_TextSort T.is_TextSort_ListSort q
  | r _ _ =>
    refine s_isi h s T.cl_RefSort T.if_RefSort T.is_RefSort_RefSort ?_
    walk_at "go"
    exact q
  | l _ =>
    refine s_isi h s T.cl_ListSort T.if_ListSort T.is_ListSort_RefSort ?_
    walk_at "go"
    exact s_isi h s T.cl_ListSort T.if_ListSort T.is_ListSort_ListSort q
theorem rd_clearedV (f : Nm x) (hg : At K F0 (dL g) y) (s : Same F0 H) (q : Q (clV g x) H) : sp_cleared K [x, y] H Q E := by
  refine ⟨rfl, ?_⟩
  unfold t_cleared
  obtain ⟨a, rfl, ha⟩ := hg.intL
  walk_at "go"
  refine v_isiLF (.inl f) ?_
  walk_at "go"
  rcases f with rfl | ⟨i, rfl, _⟩
  · refine v_inL (SqL.of (s _ _ ha)) rfl flatI ?_
    rw [inV_n]
    walk_at "go"
    exact q
  · refine v_inL (SqL.of (s _ _ ha)) rfl flatI ?_
    rw [inV_i]
    unfold clV at q
    dsimp only at q
    cases e : g.contains i with
    | true =>
      rw [if_pos e] at q
      walk_at "go"
      exact q
    | false =>
      rw [if_neg (by rw [e]; decide)] at q
      walk_at "go"
      exact q
theorem rd_clearedL (hh : HH F H M) (hl : RL F M l ns) (hz : ns.length ≤ 1000) (hg : At K F (dL g) y) (q : ∀ H' D, HH F H' ((D, .lst ((clL g ns).map V.int)) :: M) → Q (.ref D) H') : sp_cleared K [.ref l, y] H Q E := by
  refine ⟨rfl, ?_⟩
  unfold t_cleared
  obtain ⟨a, rfl, ha⟩ := hg.intL
  walk_at "go"
  refine v_isiL (hl.at_ (Same.refl _) hh fun _ h => h) ?_
  walk_at "go"
  refine gi_list ?_
  walk_at "go"
  refine i_lc (p := fun n => !g.contains n) hh hl hz (fun n H' c P N hn h2 hP hN => ?_) fun H2 D hh => q H2 D hh
  walk_at "go"
  refine ⟨rfl, ?_⟩
  walk_at "go"
  refine v_notInL (SqL.of (h2.sub _ _ ha)) rfl flatI ?_
  rw [inV_i]
  cases e2 : g.contains n with
  | true =>
    walk_at "go"
    exact hN (by rw [e2]; rfl)
  | false =>
    walk_at "go"
    exact hP (by rw [e2]; rfl)
end
end Lw

-- fld
namespace Lw
open PySem PySem.Spec PyProof.Rows L2 G
section
variable {K : PySem.W.Frag} {F F0 F1 F2 H H' : Hp} {Q : VK} {E : XK} {mg : Str → Option Value} {M : List (Addr × HO)} {x y z kv tv gv scv : V} {o : HO} {d l l' : Addr} {t t' : Th} {ns ms g : List Int} {ps : Pic}
theorem at_ix {α : Type} {e : α → D} {xs : List α} {us : List V} {i : Nat} {v : V} (h : AtA K F (xs.map e) us) (hv : us[i]? = some v) : ∃ y, xs[i]? = some y ∧ At K F (e y) v := by
  obtain ⟨dd, h1, h2⟩ := h.at_ hv
  rw [List.getElem?_map] at h1
  obtain ⟨y, h3, rfl⟩ := Option.map_eq_some_iff.mp h1
  exact ⟨y, h3, h2⟩
theorem rd_cleared_thing (T : Tx K mg) {r0 r1 r2 : List Nat} {b : Bool} (ht : t.ok) (hh : HH F H M) (hk : At K F (kOf r0 r1 r2 b t).d kv) (htv : At K F (dR t l) tv) (hl : RL F M l t.ls) (hg : At K F (dL g) gv)
    (q : ∀ F' H' u l', Same F F' → HH F' H' M → F' l' = some (.lst ((clT g t).ls.map V.int)) → At K F' (dR (clT g t) l') u → Q u H') : sp_cleared_thing K [kv, tv, gv] H Q E := by
  refine ⟨rfl, ?_⟩
  unfold t_cleared_thing
  walk_at "go"
  refine o_dnew hh fun H1 c hh => ?_
  walk_at "go"
  refine gi_list ?_
  walk_at "go"
  refine fk_fields T hk hh.sub fun w hw => ?_
  obtain ⟨a, us, rfl, hs, hu⟩ := hw.lst_
  obtain ⟨fL, e1, e2, e3, e4, _, _⟩ := slotL (r0 := r0) (r1 := r1) (r2 := r2) (b := b) (t := t)
  have hul : us.length = t.fl.length + 1 := by rw [hu.len, List.length_map, e4]
  refine v_ovL (hh.sub.seq hs) (l_list (xs := us) (fun i σ H' => (i ≤ t.fl.length ∧ ∃ v4 v5, σ = [some kv, some tv, some gv, some (.ref c), v4, v5] ∧ HH F H' ((c, .dK ((flK (clT g t)).take i)) :: M)) ∨ (i = t.fl.length + 1 ∧ ∃ D v4 v5, σ = [some kv, some tv, some gv, some (.ref c), v4, v5] ∧ HH F H' ((D, .lst ((clL g t.ls).map V.int)) :: (c, .dK (flK (clT g t) ++ [(kT (clT g t).ln, .ref D)])) :: M)))
    (.inl ⟨Nat.zero_le _, none, none, rfl, by rw [List.take_zero]; exact hh⟩) (fun i σ H' _ h => ?_) (fun i v σ H' hv h => ?_) (fun σ H' h => ?_))
  · rcases h with ⟨_, _, _, _, h⟩ | ⟨_, _, _, _, _, h⟩
    · exact h.sub.seq hs
    · exact h.sub.seq hs
  · clear hh
    obtain ⟨f, hf, hfv⟩ := at_ix hu hv
    unfold Fdd.d at hfv
    rcases h with ⟨hi, v4, v5, rfl, hh⟩ | ⟨rfl, _⟩
    · rcases Nat.lt_or_ge i t.fl.length with z | z
      · obtain ⟨f', w, s1, s2, s3, s4, s5, s6⟩ := slot (r0 := r0) (r1 := r1) (r2 := r2) (b := b) (g := g) ht (List.getElem?_eq_getElem z)
        rw [s1] at hf
        cases hf
        have hm : ((t.fl[i]).1, (t.fl[i]).2) ∈ t.fl := List.getElem_mem z
        have fin : ∀ {S : Hp → Prop}, (∀ H6, HH F H6 ((c, .dK ((flK (clT g t)).take (i + 1))) :: M) → S H6) → DpK S (.ref c) (.str ⟨(t.fl[i]).1.toArray⟩) w H' := fun q2 =>
          o_dput0 (k := kT (t.fl[i]).1) hh (by rw [List.length_take]; have := fl_len (t := t); omega) fun H6 hh => q2 H6 (by rw [flK_new s4] at hh; exact hh)
        walk_at "go"
        refine fk_contents T htv hh.sub fun cw hcw => ?_
        walk_at "go"
        rw [s2]
        refine s_dgetT hcw hh.sub (ck_fl hm) fun w2 hw2 => ?_
        rw [At.v_.mp hw2]
        refine g_thr ?_
        walk_at "go"
        refine rd_is_link T (sh := f.sh) (by assumption) hh.sub ?_
        rw [s3, Bool.or_false]
        rcases s6 with ⟨i1, rfl, _⟩ | ⟨i1, i2, rfl, _⟩
        · rw [i1]
          walk_at "go"
          rw [s2]
          exact fin fun H6 hh => Or.inl ⟨by omega, _, _, rfl, hh⟩
        · rw [i1]
          walk_at "go"
          refine rd_clearedV i2 hg hh.sub ?_
          walk_at "go"
          rw [s2]
          exact fin fun H6 hh => Or.inl ⟨by omega, _, _, rfl, hh⟩
      · obtain rfl : i = t.fl.length := by omega
        rw [e1] at hf
        cases hf
        rw [← clT_fl (g := g), flK_all] at hh
        walk_at "go"
        refine fk_contents T htv hh.sub fun cw hcw => ?_
        walk_at "go"
        rw [e2]
        refine s_dgetT hcw hh.sub ck_ln fun w2 hw2 => ?_
        rw [At.v_.mp hw2]
        refine g_thr ?_
        walk_at "go"
        refine rd_is_link T (sh := fL.sh) (by assumption) hh.sub ?_
        rw [e3, Bool.or_true]
        walk_at "go"
        refine rd_clearedL hh (hl.mono (Same.refl _) fun p hp => List.mem_cons_of_mem _ hp) (by have := ht.ls.1; omega) hg fun H5 D hh => ?_
        walk_at "go"
        rw [e2, ← clT_ln (g := g) (t := t)]
        refine o_dput1 (k := kT (clT g t).ln) hh (by unfold flK; rw [List.length_map]; have := fl_len (t := clT g t); omega) fun H6 hh => ?_
        rw [flK_last] at hh
        exact .inr ⟨rfl, D, _, _, rfl, hh⟩
    · have := (List.getElem?_eq_some_iff.mp hv).1
      omega
  · clear hh
    rw [hul] at h
    rcases h with ⟨hi, _⟩ | ⟨_, D, v4, v5, rfl, hh⟩
    · omega
    · walk_at "go"
      refine fk_kind T htv hh.sub ?_
      walk_at "go"
      refine o_fz hh.swap fun F2 H2 od s2 hh hF => ?_
      rw [← clT_kind (g := g)]
      refine mk_ThingR T (clT_ok ht).fl hh (At.mkK hF ck_at) (.inr (by rw [clT_ls]; exact List.mem_cons_self ..)) fun F3 H3 u l' s3 hh hu => ?_
      have hh2 := hh.drop1
      exact q _ _ u l' (s2.trans (s3.trans hh2.frzS)) hh2.frz upd_same (hu.mono hh2.frzS)
theorem er_clear {p p' : Int × Th × Addr} {g : List Int} (h : er p' = (p.1, clT g p.2.1)) : er p' = (fun q : Int × Th => (q.1, clT g q.2)) (er p) := h
theorem rd_without (T : Tx K mg) {r0 r1 r2 : List Nat} {b : Bool} (hh : HH F H M) (hsc : At K F (dSch r0 r1 r2 b) scv) (hx : At K F (dPic ps) x) (ok : PicOk F M ps) (hz : ps.length ≤ 1000) (hg : At K F (dL g) gv)
    (q : ∀ F' H' u ps2, ps2.map er = (ps.map er).map (fun p => (p.1, clT g p.2)) → PicOk F' [] ps2 → Same F F' → HH F' H' M → At K F' (dPic ps2) u → Q u H') : sp_without_numbers K [scv, x, gv] H Q E := by
  refine ⟨rfl, ?_⟩
  unfold t_without_numbers
  walk_at "go"
  refine o_dnew hh fun H1 c hh => ?_
  walk_at "go"
  refine a_forK hx hh.sub (fun r σ H' => ∃ done rest F' ps2 kvs v4 v5, ps = done ++ rest ∧ r = pK rest ∧ ps2.map er = (done.map er).map (fun p => (p.1, clT g p.2)) ∧ PicOk F' [] ps2 ∧ kvs.length = done.length ∧ σ = [some scv, some x, some gv, some (.ref c), v4, v5] ∧ Same F F' ∧ HH F' H' ((c, .dK kvs) :: M) ∧ AtK K F' (pK ps2) kvs)
    (fun _ _ _ ⟨_, _, _, _, _, _, _, _, _, _, _, _, _, s, h, _⟩ => s.trans h.sub) ⟨[], ps, F, [], [], none, none, rfl, rfl, rfl, ⟨.nil, (fun _ h => nomatch h), fun _ h => nomatch h⟩, rfl, rfl, Same.refl _, hh, AtK.nil⟩ ?_ ?_
  · clear hh
    rintro k dd r σ H' ⟨done, rest, F', ps2, kvs, v4, v5, e0, er', ee, ok2, hkl, rfl, s, hh, hk⟩
    cases rest with
    | nil => cases er'
    | cons p rest =>
      cases er'
      have hm : p ∈ ps := by rw [e0]; exact List.mem_append_right _ (List.mem_cons_self ..)
      have ht := ok.th _ hm
      show gName 4 (.int p.1) _ _ _
      walk_at "go"
      refine s_dgetI (hx.mono s) hh.sub (d := dR p.2.1 p.2.2) (by rw [fnd_val, fnd_of ok.nd hm]; rfl) fun tv htv => ?_
      walk_at "go"
      refine s_meth (hsc.mono s) hh.sub ["kinds"] rfl (by decide +kernel) ?_
      walk_at "go"
      refine fk_kind T htv hh.sub ?_
      walk_at "go"
      refine rd_kind_of T (hsc.mono s) hh.sub (kOf_find (b := b)) fun kv hkv => ?_
      walk_at "go"
      refine rd_cleared_thing T (r0 := r0) (r1 := r1) (r2 := r2) (b := b) ht hh hkv htv ((ok.ls _ hm).mono s fun p hp => List.mem_cons_of_mem _ hp) (hg.mono s) fun F2 H2 u l' s2 hh hl' hu => ?_
      have hdl : done.length ≤ 1000 := by have := congrArg List.length e0; rw [List.length_append] at this; omega
      have e2 : ps2.map (·.1) = done.map (·.1) := by
        have := congrArg (List.map fun p : Int × Th => p.1) ee
        rw [List.map_map, List.map_map, List.map_map] at this
        exact this
      have nin2 : p.1 ∉ done.map (·.1) := by
        have nd := ok.nd
        rw [e0, List.map_append, List.map_cons, List.nodup_append] at nd
        exact fun h => nd.2.2 _ h _ (List.mem_cons_self ..) rfl
      have hn : valV kvs (kI p.1) = none := by
        refine val_none ?_
        rw [hk.keys, show (pK ps2).map (·.1) = (ps2.map (·.1)).map Sum.inl from pK_keys, e2]
        intro h
        obtain ⟨n, hn, e⟩ := List.mem_map.mp h
        obtain rfl := Sum.inl.inj e
        exact nin2 hn
      walk_at "go"
      refine o_dput0 (k := kI p.1) hh (by omega) fun H3 hh => ?_
      rw [putK_new _ hn] at hh
      refine ⟨done ++ [p], rest, F2, ps2 ++ [(p.1, clT g p.2.1, l')], _, _, _, by rw [e0, List.append_assoc]; rfl, rfl, ?_, ⟨?_, fun x hx => ?_, fun x hx => ?_⟩, by rw [List.length_append, List.length_append, hkl]; rfl, rfl, s.trans s2, hh, ?_⟩
      · rw [List.map_append, ee, List.map_append, List.map_append]
        rfl
      · rw [List.map_append, List.nodup_append]
        refine ⟨ok2.nd, by simp, fun a ha b hb e => ?_⟩
        rw [List.map_cons, List.map_nil, List.mem_singleton] at hb
        rw [e2, e, hb] at ha
        exact nin2 ha
      · rcases List.mem_append.mp hx with h | h
        · exact ok2.th x h
        · rw [List.mem_singleton.mp h]; exact clT_ok ht
      · rcases List.mem_append.mp hx with h | h
        · exact (ok2.ls x h).mono s2 fun _ h => h
        · rw [List.mem_singleton.mp h]; exact .inl hl'
      · have e3 : pK (ps2 ++ [(p.1, clT g p.2.1, l')]) = pK ps2 ++ [(kI p.1, dR (clT g p.2.1) l')] := by unfold pK; rw [List.map_append]; rfl
        rw [e3]
        exact AtK.snoc (hk.mono s2) hu
  · clear hh
    rintro σ H' ⟨done, rest, F', ps2, kvs, v4, v5, e0, er', ee, ok2, hkl, rfl, s, hh, hk⟩
    cases rest with
    | cons p rest => cases er'
    | nil =>
      rw [List.append_nil] at e0
      subst e0
      walk_at "go"
      refine o_fz hh fun F2 H2 od s2 hh hF => ?_
      exact q F2 H2 _ ps2 ee (ok2.mono s2 fun _ h => h) (s.trans s2) hh (At.mkK hF (hk.mono s2))
theorem rd_law_names (hh : HH F H M) (q : ∀ F' H' u, Same F F' → HH F' H' M → At K F' (.lst ((t.fl.map (·.1) ++ [t.ln]).map D.t)) u → Q u H') : sp__law_names K [.str ⟨t.kind.toArray⟩] H Q E := by
  refine ⟨rfl, ?_⟩
  unfold t__law_names
  walk_at "go"
  cases t with
  | A a t r l =>
    rw [show decide ((Th.A a t r l).kind = q_A) = true from rfl]
    walk_at "go"
    exact s_lst (K := K) (ds := [q_a, q_t, q_r, q_l].map D.t) hh (AtA.ofFlat (g := svv) (xs := [q_a, q_t, q_r, q_l])) (by show 4 ≤ 1000; decide) q
  | B p q' m =>
    rw [show decide ((Th.B p q' m).kind = q_A) = false from rfl]
    walk_at "go"
    exact s_lst (K := K) (ds := [q_p, q_q, q_m].map D.t) hh (AtA.ofFlat (g := svv) (xs := [q_p, q_q, q_m])) (by show 3 ≤ 1000; decide) q
end
end Lw

-- fld
namespace Lw
open PySem PySem.Spec PyProof.Rows L2 G
theorem fndT_map {f : Th → Th} {n : Int} : ∀ {qs : List (Int × Th)}, fndT (qs.map fun p => (p.1, f p.2)) n = (fndT qs n).map f
  | [] => rfl
  | p :: qs => by
    unfold fndT
    rw [List.map_cons, List.find?_cons, List.find?_cons]
    by_cases c : p.1 = n
    · rw [decide_eq_true c]
      rfl
    · rw [decide_eq_false c]
      exact fndT_map
abbrev clQ (g : List Int) (ps : Pic) : List (Int × Th) := (ps.map er).map fun p => (p.1, clT g p.2)
abbrev dShQ (qs : List (Int × Th)) : D := .lst ((shR qs).map dRow)
theorem clQ_keys {g : List Int} {ps : Pic} : (clQ g ps).map (·.1) = ps.map (·.1) := by unfold clQ; rw [List.map_map, List.map_map]; rfl
section
variable {K : PySem.W.Frag} {F F0 F1 F2 H H' : Hp} {Q : VK} {E : XK} {mg : Str → Option Value} {M : List (Addr × HO)} {x y z kv tv gv scv : V} {o : HO} {d l l' : Addr} {t t' : Th} {ns ms g : List Int} {ps : Pic}
theorem rd_due (T : Tx K mg) (hh : HH F H M) (hx : At K F (dPic ps) x) (ok : PicOk F M ps) (hz : ps.length ≤ 1000) (hg : At K F (dL g) gv) (q : ∀ F' H' u, Same F F' → HH F' H' M → At K F' (dShQ (clQ g ps)) u → Q u H') : sp__law_due K [x, gv] H Q E := by
  refine ⟨rfl, ?_⟩
  unfold t__law_due
  walk_at "go"
  refine o_lst hh (by decide) fun H1 R hh => ?_
  walk_at "go"
  refine gi_list ?_
  walk_at "go"
  refine s_listK hx hh (Same.refl _) pK_keys fun F1 H1 u1 s1 hh h1 => ?_
  walk_at "go"
  refine s_sorted h1 hh (Same.refl _) fun F2 H2 u2 s2 hh h2 => ?_
  have hsl := (srt_perm (ns := ps.map (·.1))).length_eq
  rw [List.length_map] at hsl
  refine a_forL (e := D.i) h2 hh (fun r σ H' => ∃ F' done us v3 v4 v5 v6 v7 v8, srt (ps.map (·.1)) = done ++ r ∧ σ = [some x, some gv, some (.ref R), v3, v4, v5, v6, v7, v8] ∧ Same F2 F' ∧ HH F' H' ((R, .lst us) :: M) ∧ AtA K F' ((done.map (rowT (clQ g ps))).map dRow) us)
    (fun _ _ _ ⟨_, _, _, _, _, _, _, _, _, _, _, s, h, _⟩ => s.trans h.sub) ⟨F2, [], [], none, none, none, none, none, none, rfl, rfl, Same.refl _, hh, AtA.nil⟩ ?_ ?_
  · clear hh
    rintro n r u σ H' hu ⟨F', done, us, v3, v4, v5, v6, v7, v8, er_, rfl, s, hh, hus⟩
    obtain rfl := At.v_.mp hu
    have hn : n ∈ ps.map (·.1) := srt_mem.mp (by rw [er_]; exact List.mem_append_right _ (List.mem_cons_self ..))
    obtain ⟨⟨t, l⟩, e⟩ := fnd_some hn
    have hm := fnd_mem e
    have ht := ok.th _ hm
    have sa : Same F F' := s1.trans (s2.trans s)
    have hl : RL F' M l t.ls := (ok.ls _ hm).mono sa fun _ h => h
    walk_at "go"
    refine s_dgetI (hx.mono sa) hh.sub (d := dR t l) (by rw [fnd_val, e]; rfl) fun tv htv => ?_
    walk_at "go"
    refine o_dnew hh fun H3 c hh => ?_
    walk_at "go"
    refine gi_list ?_
    walk_at "go"
    refine fk_kind T htv hh.sub ?_
    walk_at "go"
    refine rd_law_names (t := t) hh fun F4 H4 u4 s4 hh h4 => ?_
    obtain ⟨a4, us4, rfl, hs4, hu4⟩ := h4.lst_
    have hul : us4.length = t.fl.length + 1 := by rw [hu4.len, List.length_map, List.length_append, List.length_map]; rfl
    obtain ⟨ga, rfl, hga⟩ := (hg.mono (sa.trans s4)).intL
    refine v_ovL (hh.sub.seq hs4) (l_list (xs := us4) (fun i σ H' => (i ≤ t.fl.length ∧ ∃ F5 v6 v7, σ = [some x, some (.ref ga), some (.ref R), some (.int n), some tv, some (.ref c), v6, v7, v8] ∧ Same F4 F5 ∧ HH F5 H' ((c, .dK ((flK (clT g t)).take i)) :: (R, .lst us) :: M)) ∨
        (i = t.fl.length + 1 ∧ ∃ F5 D v6 v7 v8, σ = [some x, some (.ref ga), some (.ref R), some (.int n), some tv, some (.ref c), v6, v7, v8] ∧ Same F4 F5 ∧ HH F5 H' ((D, .lst ((clL g t.ls).map V.int)) :: (c, .dK (flK (clT g t) ++ [(kT (clT g t).ln, .ref D)])) :: (R, .lst us) :: M)))
      (.inl ⟨Nat.zero_le _, F4, v6, v7, rfl, Same.refl _, by rw [List.take_zero]; exact hh⟩) (fun i σ H' _ h => ?_) (fun i v σ H' hv h => ?_) (fun σ H' h => ?_))
    · rcases h with ⟨_, _, _, _, _, s5, h⟩ | ⟨_, _, _, _, _, _, _, s5, h⟩
      · exact h.sub.seq (s5.seq hs4)
      · exact h.sub.seq (s5.seq hs4)
    · clear hh
      obtain ⟨zn, hzn, hzv⟩ := at_ix hu4 hv
      obtain rfl := At.v_.mp hzv
      rcases h with ⟨hi, F5, v6, v7, rfl, s5, hh⟩ | ⟨rfl, _⟩
      · have sb : Same F' F5 := s4.trans s5
        rcases Nat.lt_or_ge i t.fl.length with z | z
        · rw [List.getElem?_append_left (by rw [List.length_map]; exact z), List.getElem?_map, List.getElem?_eq_getElem z] at hzn
          cases hzn
          obtain ⟨f', w, q1, q2, q3, q4, q5, q6⟩ := slot (r0 := []) (r1 := []) (r2 := []) (b := false) (g := g) ht (List.getElem?_eq_getElem z)
          have hm2 : ((t.fl[i]).1, (t.fl[i]).2) ∈ t.fl := List.getElem_mem z
          walk_at "go"
          refine fk_contents T (htv.mono sb) hh.sub fun cw hcw => ?_
          walk_at "go"
          refine s_dgetT hcw hh.sub (ck_fl hm2) fun w2 hw2 => ?_
          rw [At.v_.mp hw2]
          refine g_thr ?_
          walk_at "go"
          refine s_lst (K := K) (ds := [q_r, q_p, q_q].map D.t) hh (AtA.ofFlat (g := svv) (xs := [q_r, q_p, q_q])) (by show 3 ≤ 1000; decide) fun F6 H6 u6 s6 hh h6 => ?_
          refine s_inL h6 hh.sub ?_
          have sec : ∀ {S : L2.St → Hp → Prop} {bk ct : L2.St → Hp → Prop} {rt : VK} {v7 : V} {H7 : Hp}, HH F6 H7 ((c, .dK ((flK (clT g t)).take i)) :: (R, .lst us) :: M) → v7 = w → (∀ F8 H8, Same F6 F8 → HH F8 H8 ((c, .dK ((flK (clT g t)).take (i + 1))) :: (R, .lst us) :: M) → S [some x, some (.ref ga), some (.ref R), some (.int n), some tv, some (.ref c), some (.str ⟨(t.fl[i]).1.toArray⟩), some w, v8] H8) →
              C8.tCut (tIfS (tTest (tOp (rInX K) (tVar 6) (tLst (tCons (tC (.str ⟨q_l.toArray⟩)) (tCons (tC (.str ⟨q_m.toArray⟩)) tNil))))) (tAsg (tLc (iAny K (tVar 7)) (gName 8) (tTest (tOp (rNotInX K) (tVar 8) (tVar 1))) (tVar 8) [8]) (gName 7)) tNext) (sDPut (tVar 5) (tVar 6) (tVar 7))
                ⟨S, rt, bk, ct⟩ [some x, some (.ref ga), some (.ref R), some (.int n), some tv, some (.ref c), some (.str ⟨(t.fl[i]).1.toArray⟩), some v7, v8] H7 := by
            rintro S bk ct rt v7 H7 hh rfl q7
            refine g_thr ?_
            walk_at "go"
            refine s_lst (K := K) (ds := [q_l, q_m].map D.t) hh (AtA.ofFlat (g := svv) (xs := [q_l, q_m])) (by show 2 ≤ 1000; decide) fun F8 H8 u8 s8 hh h8 => ?_
            refine s_inL h8 hh.sub ?_
            rw [q5]
            walk_at "go"
            refine o_dput0 (k := kT (t.fl[i]).1) hh (by rw [List.length_take]; have := fl_len (t := t); omega) fun H9 hh => ?_
            rw [flK_new q4] at hh
            exact q7 F8 H9 s8 hh
          rcases q6 with ⟨_, i2, i3⟩ | ⟨_, i2, i3, i4⟩
          · rw [i3]
            walk_at "go"
            exact sec hh i2.symm fun F8 H8 s8 hh => Or.inl ⟨by omega, F8, _, _, rfl, s5.trans (s6.trans s8), hh⟩
          · rw [i4]
            walk_at "go"
            have hga6 := hh.sub _ _ (s6 _ _ (s5 _ _ hga))
            rcases i2 with e5 | ⟨j, e5, _⟩
            · rw [e5]
              refine v_inL (SqL.of hga6) rfl flatI ?_
              rw [inV_n]
              walk_at "go"
              exact sec hh (by rw [i3, e5]; rfl) fun F8 H8 s8 hh => Or.inl ⟨by omega, F8, _, _, rfl, s5.trans (s6.trans s8), hh⟩
            · rw [e5]
              refine v_inL (SqL.of hga6) rfl flatI ?_
              rw [inV_i]
              cases e6 : g.contains j with
              | true =>
                walk_at "go"
                exact sec hh (by rw [i3, e5]; unfold clV; dsimp only; rw [if_pos e6]) fun F8 H8 s8 hh => Or.inl ⟨by omega, F8, _, _, rfl, s5.trans (s6.trans s8), hh⟩
              | false =>
                walk_at "go"
                exact sec hh (by rw [i3, e5]; unfold clV; dsimp only; rw [if_neg (by rw [e6]; decide)]) fun F8 H8 s8 hh => Or.inl ⟨by omega, F8, _, _, rfl, s5.trans (s6.trans s8), hh⟩
        · obtain rfl : i = t.fl.length := by omega
          rw [List.getElem?_append_right (by rw [List.length_map]; exact Nat.le_refl _), List.length_map, Nat.sub_self] at hzn
          cases hzn
          rw [← clT_fl (g := g), flK_all] at hh
          obtain ⟨fL, _, _, _, _, i5, i6⟩ := slotL (r0 := []) (r1 := []) (r2 := []) (b := false) (t := t)
          walk_at "go"
          refine fk_contents T (htv.mono sb) hh.sub fun cw hcw => ?_
          walk_at "go"
          refine s_dgetT hcw hh.sub ck_ln fun w2 hw2 => ?_
          rw [At.v_.mp hw2]
          refine g_thr ?_
          walk_at "go"
          refine s_lst (K := K) (ds := [q_r, q_p, q_q].map D.t) hh (AtA.ofFlat (g := svv) (xs := [q_r, q_p, q_q])) (by show 3 ≤ 1000; decide) fun F6 H6 u6 s6 hh h6 => ?_
          refine s_inL h6 hh.sub ?_
          rw [i6]
          walk_at "go"
          refine g_thr ?_
          walk_at "go"
          refine s_lst (K := K) (ds := [q_l, q_m].map D.t) hh (AtA.ofFlat (g := svv) (xs := [q_l, q_m])) (by show 2 ≤ 1000; decide) fun F8 H8 u8 s8 hh h8 => ?_
          refine s_inL h8 hh.sub ?_
          rw [i5]
          walk_at "go"
          refine gi_list ?_
          walk_at "go"
          have sc : Same F' F8 := sb.trans (s6.trans s8)
          refine i_lc (p := fun n => !g.contains n) hh (hl.mono sc fun p hp => List.mem_cons_of_mem _ (List.mem_cons_of_mem _ hp)) (Nat.le_trans ht.ls.1 (by decide)) (fun m H' c' P N hm h2 hP hN => ?_) fun H9 D hh => ?_
          · walk_at "go"
            refine ⟨rfl, ?_⟩
            walk_at "go"
            refine v_notInL (SqL.of (h2.sub _ _ (s8 _ _ (s6 _ _ (s5 _ _ hga))))) rfl flatI ?_
            rw [inV_i]
            cases e2 : g.contains m with
            | true =>
              walk_at "go"
              exact hN (by rw [e2]; rfl)
            | false =>
              walk_at "go"
              exact hP (by rw [e2]; rfl)
          · walk_at "go"
            rw [← clT_ln (g := g) (t := t)]
            refine o_dput1 (k := kT (clT g t).ln) hh (by unfold flK; rw [List.length_map]; have := fl_len (t := clT g t); omega) fun H10 hh => ?_
            rw [flK_last] at hh
            exact Or.inr ⟨rfl, F8, D, _, _, _, rfl, s5.trans (s6.trans s8), hh⟩
      · have := (List.getElem?_eq_some_iff.mp hv).1
        omega
    · clear hh
      rw [hul] at h
      rcases h with ⟨hi, _⟩ | ⟨_, F5, D, v6, v7, v8, rfl, s5, hh⟩
      · omega
      · walk_at "go"
        refine o_tyL (i := 2) hh rfl ?_
        walk_at "go"
        refine fk_kind T (htv.mono (s4.trans s5)) hh.sub ?_
        walk_at "go"
        refine o_fz hh.swap fun F6 H6 od s6 hh hF => ?_
        have ht2 := clT_ok (g := g) ht
        walk_at "go"
        refine s_repr (t := clT g t) ht2.fl (At.mkK hF ck_at) (Same.refl _ |>.trans hh.sub) (ns := clL g t.ls) (hh.get (i := 0) rfl) (ls_filter ht.ls) ?_
        walk_at "go"
        have er2 : rowT (clQ g ps) n = [.i n, .t t.kind, .t (shC (clT g t))] := by
          unfold rowT clQ
          rw [fndT_map, fnd_er, e]
          show [Tn.i n, Tn.t (clT g t).kind, .t (shC (clT g t))] = _
          rw [clT_kind]
        refine s_tup (K := K) (ds := (rowT (clQ g ps) n).map Tn.d) hh ?_ (by show 3 ≤ 1000; decide) fun F7 H7 u7 s7 hh h7 => ?_
        · rw [er2]
          refine AtA.cons At.of (AtA.cons At.of (AtA.cons ?_ AtA.nil))
          show At K F6 (G.D.t (shC (clT g t))) _
          rw [show (V.str (ctP (clT g t) (clL g t.ls)).shown) = svv (shC (clT g t)) by unfold shC; rw [clT_ls]]
          exact At.of
        · walk_at "go"
          have hul2 : us.length ≤ 1000 := by
            have h := hus.len
            rw [List.length_map, List.length_map] at h
            have := congrArg List.length er_
            rw [List.length_append] at this
            omega
          refine o_app1 hh (by omega) fun H8 hh => ?_
          refine ⟨F7, done ++ [n], us ++ [u7], _, _, _, _, _, _, by rw [er_, List.append_assoc]; rfl, rfl, s.trans (s4.trans (s5.trans (s6.trans s7))), hh.drop, ?_⟩
          rw [List.map_append]
          exact AtA.snocM (e := dRow) (hus.mono (s4.trans (s5.trans (s6.trans s7)))) h7
  · clear hh
    rintro σ H' ⟨F', done, us, v3, v4, v5, v6, v7, v8, er_, rfl, s, hh, hus⟩
    rw [List.append_nil] at er_
    walk_at "go"
    have e3 : done.map (rowT (clQ g ps)) = shR (clQ g ps) := by unfold shR; rw [clQ_keys, er_]
    rw [e3] at hus
    exact q _ _ _ (s1.trans (s2.trans (s.trans hh.frzS))) hh.frz (frz_lst (hh.out (i := 0) rfl) hus)
end
end Lw

-- fld
namespace Lw
open PySem PySem.Spec PyProof.Rows L2 G
/-! ### heaps: their pictures' dicts by address -/
theorem er_mem {ps ps' : Pic} (e : ps'.map er = ps.map er) {n : Int} {t' : Th × Addr} (h : fnd ps' n = some t') : ∃ l, fnd ps n = some (t'.1, l) := by
  have h2 : fndT (ps.map er) n = some t'.1 := by rw [← e, fnd_er, h]; rfl
  rw [fnd_er] at h2
  obtain ⟨t, h3, h4⟩ := Option.map_eq_some_iff.mp h2
  exact ⟨t.2, by rw [h3, ← h4]⟩
/-- a picture's dict that may be walked: it stands in F, or as a locked cell -/
def PicR (K : PySem.W.Frag) (F : Hp) (M : List (Addr × HO)) (ps : Pic) (a : Addr) : Prop := ∃ od vs, (F a = some (.frz od (.dK vs)) ∨ (a, HO.frz od (.dK vs)) ∈ M) ∧ AtK K F (pK ps) vs
/-- .. or it is a cell -/
def PicS (K : PySem.W.Frag) (F : Hp) (M : List (Addr × HO)) (ps : Pic) (a : Addr) : Prop := PicR K F M ps a ∨ ∃ vs, (a, HO.dK vs) ∈ M ∧ AtK K F (pK ps) vs
structure Rw where
  key : Int
  ad : Addr
  ps : Pic
  ob : HO
abbrev Rw.cell (r : Rw) : Addr × HO := (r.ad, r.ob)
/-- a dict's cell, locked or not -/
def CellOk (fr : Bool) (ob : HO) (vs : List (L2.Key × V)) : Prop := if fr = true then ∃ od, ob = .frz od (.dK vs) else ob = .dK vs
abbrev Rw.kv (r : Rw) : L2.Key × V := (kI r.key, .ref r.ad)
abbrev Rw.er (r : Rw) : Int × List (Int × Th) := (r.key, r.ps.map Lw.er)
abbrev hK (es : List (Int × Addr)) : List (L2.Key × D) := es.map fun e => (kI e.1, D.v (.ref e.2))
abbrev hV (es : List (Int × Addr)) : List (L2.Key × V) := es.map fun e => (kI e.1, V.ref e.2)
abbrev hD (es : List (Int × Addr)) : D := .obj "Heap" [("pictures", .dk (hK es))]
abbrev Rw.ka (r : Rw) : Int × Addr := (r.key, r.ad)
section
variable {K : PySem.W.Frag} {F F0 F1 F2 H H' : Hp} {Q R : VK} {E : XK} {mg : Str → Option Value} {M M' : List (Addr × HO)} {x y z kv tv gv scv : V} {o : HO} {a b c d l l' : Addr} {t t' : Th} {ns ms g : List Int} {ps ps' : Pic} {es fs : List (Int × Addr)}
theorem hK_at : AtK K F (hK es) (hV es) := by
  induction es with
  | nil => exact AtK.nil
  | cons e es ih => exact AtK.cons At.of ih
theorem hK_vals {gs : List (L2.Key × V)} (h : AtK K F (hK es) gs) : gs = hV es := by
  induction es generalizing gs with
  | nil => exact h.ni
  | cons e es ih =>
    obtain ⟨u, us, rfl, h1, h2⟩ := h.ci
    rw [At.v_.mp h1, ih h2]
    rfl
theorem PicR.mono (h : PicR K F M ps a) (s : Same F F1) (m : ∀ p ∈ M, p ∈ M') : PicR K F1 M' ps a := by
  obtain ⟨od, vs, h1, h2⟩ := h
  exact ⟨od, vs, h1.imp (fun h => s _ _ h) fun h => m _ h, h2.mono s⟩
theorem PicS.mono (h : PicS K F M ps a) (s : Same F F1) (m : ∀ p ∈ M, p ∈ M') : PicS K F1 M' ps a := by
  rcases h with h | ⟨vs, h1, h2⟩
  · exact .inl (h.mono s m)
  · exact .inr ⟨vs, m _ h1, h2.mono s⟩
theorem pc_core (T : Tx K mg) (hh : HH F H M) (hx : PicR K F M ps a) (ok : PicOk F M ps) (hz : ps.length ≤ 1000)
    (q : ∀ F' H' Dd kvs ps', ps'.map er = ps.map er → Same F F' → PicOk F' [] ps' → HH F' H' ((Dd, .dK kvs) :: M) → AtK K F' (pK ps') kvs → R (.ref Dd) H') :
    tDc (iKeys (tVar 0)) (gName 1) tYes (tVar 1) (tMethD (He.ga K "Thing") "copied" (sp_Thing_copied K) [] Ez (tDGet (tVar 0) (tVar 1)) tNil) [1] [some (.ref a), none] H R := by
  walk_at "go"
  obtain ⟨od, vs, hf, hv⟩ := hx
  have hget : ∀ {F' H' : Hp} {M' : List (Addr × HO)}, Same F F' → HH F' H' M' → (∀ p ∈ M, p ∈ M') → H' a = some (.frz od (.dK vs)) := fun s h m => by
    rcases hf with e | e
    · exact h.sub _ _ (s _ _ e)
    · exact (h.cell _ (m _ e)).1
  refine v_ovK (hget (Same.refl _) hh fun _ h => h) fun Dd hD => ?_
  have hlen : vs.length = ps.length := by rw [hv.len]; unfold pK; rw [List.length_map]
  refine dc_keys (fun i H' => ∃ F' done kvs, done.map er = (ps.take i).map er ∧ Same F F' ∧ PicOk F' [] done ∧ HH F' H' ((Dd, .dK kvs) :: M) ∧ AtK K F' (pK done) kvs ∧ kvs.length ≤ i)
    ⟨F, [], [], rfl, Same.refl _, ⟨.nil, (fun _ h => nomatch h), fun _ h => nomatch h⟩, hh.new hD, AtK.nil, Nat.le_refl _⟩ (fun i H' ⟨F', _, _, _, s, _, h, _⟩ => hget s h fun _ m => List.mem_cons_of_mem _ m) (fun i k w H' e h => ?_) (fun H' h => ?_)
  · obtain ⟨F', done, kvs, ed, s, okd, hh, hk, hl⟩ := h
    have hi : i < ps.length := by rw [← hlen]; exact (List.getElem?_eq_some_iff.mp e).1
    have hp : ps[i]? = some ps[i] := List.getElem?_eq_getElem hi
    have ek : k = kI (ps[i]).1 := by
      have h1 := congrArg (fun l => l[i]?) hv.keys
      rw [List.getElem?_map, List.getElem?_map, e] at h1
      unfold pK at h1
      rw [List.getElem?_map, hp] at h1
      exact Option.some.inj h1
    subst ek
    have hm : ps[i] ∈ ps := List.getElem_mem hi
    have ht := ok.th _ hm
    have hg := hget s hh fun _ m => List.mem_cons_of_mem _ m
    show gName 1 (.int (ps[i]).1) _ _ _
    walk_at "go"
    refine ⟨rfl, ?_⟩
    walk_at "go"
    obtain ⟨tv, etv, htv⟩ := (hv.mono s).val (k := kI (ps[i]).1) (d := dR (ps[i]).2.1 (ps[i]).2.2) (by rw [fnd_val, fnd_of ok.nd hm]; rfl)
    refine v_dget (k := kI (ps[i]).1) (.inr ⟨od, hg⟩) etv ?_
    refine s_meth htv hh.sub ["kind", "contents"] rfl (by decide +kernel) ?_
    walk_at "go"
    refine rd_copied T ht.fl hh htv ((ok.ls _ hm).mono s fun p hp => List.mem_cons_of_mem _ hp) fun F2 H2 u l' s2 hh hu => ?_
    have s3 := hh.frzS
    have hl' : upd F2 l' (.lst ((ps[i]).2.1.ls.map V.int)) l' = some (.lst ((ps[i]).2.1.ls.map V.int)) := upd_same
    replace hh := hh.frz
    have e2 : done.map (·.1) = (ps.take i).map (·.1) := by
      have := congrArg (List.map fun p : Int × Th => p.1) ed
      rw [List.map_map, List.map_map] at this
      exact this
    have nin2 : (ps[i]).1 ∉ done.map (·.1) := by
      rw [e2, List.map_take]
      exact nd_take ok.nd (by rw [List.getElem?_map, hp]; rfl)
    have hn : valV kvs (kI (ps[i]).1) = none := by
      refine val_none ?_
      rw [hk.keys, pK_keys]
      intro h
      obtain ⟨n, hn, e⟩ := List.mem_map.mp h
      obtain rfl := Sum.inl.inj e
      exact nin2 hn
    refine v_putD (k := kI (ps[i]).1) (hh.get (i := 0) rfl) (by omega) ⟨_, done ++ [((ps[i]).1, (ps[i]).2.1, l')], putK kvs (kI (ps[i]).1) u, ?_, s.trans (s2.trans s3), ⟨?_, fun x hx => ?_, fun x hx => ?_⟩, hh.set0, ?_, Nat.le_trans (length_putK _ _ _) (Nat.succ_le_succ hl)⟩
    · rw [List.map_append, ed, List.take_add_one, hp, List.map_append]
      rfl
    · rw [List.map_append, List.nodup_append]
      refine ⟨okd.nd, by simp, fun a ha b hb e => ?_⟩
      rw [List.map_cons, List.map_nil, List.mem_singleton] at hb
      rw [e, hb] at ha
      exact nin2 ha
    · rcases List.mem_append.mp hx with h | h
      · exact okd.th x h
      · rw [List.mem_singleton.mp h]; exact ht
    · rcases List.mem_append.mp hx with h | h
      · exact (okd.ls x h).mono (s2.trans s3) fun _ h => h
      · rw [List.mem_singleton.mp h]; exact .inl hl'
    · rw [putK_new _ hn]
      have e3 : pK (done ++ [((ps[i]).1, (ps[i]).2.1, l')]) = pK done ++ [(kI (ps[i]).1, dR (ps[i]).2.1 l')] := by unfold pK; rw [List.map_append]; rfl
      rw [e3]
      exact AtK.snoc (hk.mono (s2.trans s3)) (hu.mono s3)
  · obtain ⟨F', done, kvs, ed, s, okd, hh, hk, hl⟩ := h
    rw [hlen, List.take_length] at ed
    exact q F' H' Dd kvs done ed s okd hh hk
theorem fz_b (fr : Bool) {kvs : List (L2.Key × V)} (hh : HH F H ((a, .dK kvs) :: M)) (q : ∀ H' ob, CellOk fr ob kvs → HH F H' ((a, ob) :: M) → Q (.ref a) H') : FzK Q (.ref a) H := by
  cases fr with
  | false => exact .inl (q H _ rfl hh)
  | true => exact .inr ⟨a, kvs, rfl, hh.get (i := 0) rfl, fun od => q _ _ ⟨od, rfl⟩ hh.set0⟩
/-- a picture is copied; the new dict is a cell -/
theorem rd_pcopy (T : Tx K mg) (hh : HH F H M) (fr : Bool) (hx : PicS K F M ps a) (ok : PicOk F M ps) (hz : ps.length ≤ 1000)
    (q : ∀ F' H' Dd ob kvs ps', CellOk fr ob kvs → ps'.map er = ps.map er → Same F F' → PicOk F' [] ps' → HH F' H' ((Dd, ob) :: M) → AtK K F' (pK ps') kvs → Q (.ref Dd) H') : sp_picture_copy K [.ref a] H Q E := by
  refine ⟨rfl, ?_⟩
  unfold t_picture_copy
  refine g_ret ?_
  refine g_fz ?_
  rcases hx with hx | ⟨vs, hm, hv⟩
  · exact lk_no (pc_core T hh hx ok hz fun F' H' Dd kvs ps' e s ok' hh hk => fz_b fr hh fun H2 ob c hh => q F' H2 Dd ob kvs ps' c e s ok' hh hk)
  · obtain ⟨ma, mb, em⟩ := List.append_of_mem hm
    subst em
    have h1 := hh.perm (M' := (a, .dK vs) :: (ma ++ mb)) List.perm_middle
    refine lk_yes h1 fun od H1 h2 => ?_
    have ok2 : PicOk F ((a, HO.frz od (.dK vs)) :: (ma ++ mb)) ps := ⟨ok.nd, ok.th, fun p hp => by
      rcases ok.ls p hp with h | h
      · exact .inl h
      · refine .inr ?_
        rcases List.mem_append.mp h with h | h
        · exact List.mem_cons_of_mem _ (List.mem_append_left _ h)
        · rcases List.mem_cons.mp h with h | h
          · cases h
          · exact List.mem_cons_of_mem _ (List.mem_append_right _ h)⟩
    refine pc_core T h2 ⟨od, vs, .inr (List.mem_cons_self ..), hv⟩ ok2 hz fun F' H' Dd kvs ps' e s ok' hh hk => ?_
    refine ⟨hh.get (i := 1) rfl, ?_⟩
    have h3 := hh.set1 (o' := .dK vs)
    exact fz_b fr (h3.perm (.cons _ List.perm_middle.symm)) fun H2 ob c hh => q F' H2 Dd ob kvs ps' c e s ok' hh hk
end
end Lw

-- fld
namespace Lw
open PySem PySem.Spec PyProof.Rows L2 G
section
variable {K : PySem.W.Frag} {F F0 F1 F2 H H' : Hp} {Q R : VK} {E : XK} {mg : Str → Option Value} {M M' : List (Addr × HO)} {x y z kv tv gv scv : V} {o : HO} {a b c d l l' : Addr} {t t' : Th} {ns ms g : List Int} {ps ps' : Pic} {es fs : List (Int × Addr)}
theorem hV_val : ∀ {srcs : List (Int × Addr × Pic)} {i : Nat}, (srcs.map (·.1)).Nodup → (hi : i < srcs.length) → valV (hV (srcs.map fun e => (e.1, e.2.1))) (kI (srcs[i]).1) = some (.ref (srcs[i]).2.1)
  | [], _, _, hi => by cases hi
  | e0 :: srcs, 0, nd, hi => valV_pos (p := (kI e0.1, V.ref e0.2.1)) rfl
  | e0 :: srcs, i + 1, nd, hi => by
    rw [List.map_cons, List.nodup_cons] at nd
    have hi2 : i < srcs.length := by simpa using hi
    have hm2 : srcs[i] ∈ srcs := List.getElem_mem hi2
    rw [List.getElem_cons_succ]
    show valV ((kI e0.1, V.ref e0.2.1) :: hV (srcs.map fun e => (e.1, e.2.1))) _ = _
    rw [valV_neg (p := (kI e0.1, V.ref e0.2.1)) (fun z => nd.1 (by rw [Sum.inl.inj z]; exact List.mem_map.mpr ⟨_, hm2, rfl⟩))]
    exact hV_val nd.2 hi2
/-- a heap is made: each new picture's dict is a cell -/
theorem mk_Heap (T : Tx K mg) (fr : Int → Bool) {srcs : List (Int × Addr × Pic)} (hh : HH F H M) (hx : At K F (.dk (hK (srcs.map fun e => (e.1, e.2.1)))) x) (nd : (srcs.map (·.1)).Nodup) (hl : srcs.length ≤ 15) (hs : ∀ e ∈ srcs, PicS K F M e.2.2 e.2.1 ∧ PicOk F M e.2.2 ∧ e.2.2.length ≤ 1000)
    (q : ∀ F' H' u (rs : List Rw), (rs.reverse.map Rw.er) = srcs.map (fun e => (e.1, e.2.2.map er)) → Same F F' → HH F' H' (rs.map Rw.cell ++ M) → (∀ r ∈ rs, (∃ vs, CellOk (fr r.key) r.ob vs ∧ AtK K F' (pK r.ps) vs) ∧ PicOk F' [] r.ps) → At K F' (hD (rs.reverse.map Rw.ka)) u → Q u H') : MakeK (He.ga K "Heap") (sp_Heap_init K) [x] Q H E := by
  refine mk_start hh fun F1 H1 v dx s1 hh => ?_
  refine ⟨rfl, ?_⟩
  unfold t_Heap_init
  walk_at "go"
  obtain ⟨a, od, vs, rfl, hf, hv⟩ := (hx.mono s1).dk_
  obtain rfl := hK_vals hv
  refine v_ovK (hh.sub _ _ hf) fun D hD => ?_
  have len : (hV (srcs.map fun e => (e.1, e.2.1))).length = srcs.length := by unfold hV; rw [List.length_map, List.length_map]
  refine dc_keys (fun i H' => ∃ (F' : Hp) (rs : List Rw), (rs.reverse.map Rw.er) = (srcs.take i).map (fun e => (e.1, e.2.2.map er)) ∧ Same F1 F' ∧ (∀ r ∈ rs, (∃ vs, CellOk (fr r.key) r.ob vs ∧ AtK K F' (pK r.ps) vs) ∧ PicOk F' [] r.ps) ∧ HH F' H' ((D, .dK (rs.reverse.map Rw.kv)) :: (v, .ins (He.ga K "Heap") dx []) :: (rs.map Rw.cell ++ M)))
    ⟨F1, [], rfl, Same.refl _, (fun _ h => nomatch h), hh.new hD⟩ (fun i H' ⟨F', _, _, s, _, h⟩ => h.sub _ _ (s _ _ hf)) (fun i k w H' e h => ?_) (fun H' h => ?_)
  · obtain ⟨F', rs, er1, s, hr, hh⟩ := h
    have hi : i < srcs.length := by rw [← len]; exact (List.getElem?_eq_some_iff.mp e).1
    have hp : srcs[i]? = some srcs[i] := List.getElem?_eq_getElem hi
    have hm : srcs[i] ∈ srcs := List.getElem_mem hi
    have e1 : (k, w) = (kI (srcs[i]).1, V.ref (srcs[i]).2.1) := by
      unfold hV at e
      rw [List.getElem?_map, List.getElem?_map, hp] at e
      exact (Option.some.inj e).symm
    obtain ⟨rfl, rfl⟩ := Prod.mk.inj e1
    have sa : Same F F' := s1.trans s
    obtain ⟨p1, p2, p3⟩ := hs _ hm
    show gName 2 (.int (srcs[i]).1) _ _ _
    walk_at "go"
    refine ⟨rfl, ?_⟩
    walk_at "go"
    have hval := hV_val nd hi
    refine v_dget (k := kI (srcs[i]).1) (.inr ⟨od, hh.sub _ _ (s _ _ hf)⟩) hval ?_
    walk_at "go"
    refine rd_pcopy T (E := fun _ _ _ => False) hh (fr (srcs[i]).1) (p1.mono sa fun p hp => List.mem_cons_of_mem _ (List.mem_cons_of_mem _ (List.mem_append_right _ hp))) (p2.mono sa fun p hp => List.mem_cons_of_mem _ (List.mem_cons_of_mem _ (List.mem_append_right _ hp))) p3 fun F2 H2 Dd ob kvs ps' hc ee s2 ok2 hh hk => ?_
    have hrl : rs.length ≤ 15 := by
      have := congrArg List.length er1
      rw [List.length_map, List.length_reverse, List.length_map, List.length_take] at this
      omega
    have nin2 : (srcs[i]).1 ∉ (rs.reverse.map Rw.er).map (·.1) := by
      rw [er1, List.map_map]
      have e5 : ((srcs.take i).map ((fun x : Int × List (Int × Th) => x.1) ∘ fun e => (e.1, e.2.2.map er))) = (srcs.map (·.1)).take i := by rw [List.map_take]; rfl
      rw [e5]
      exact nd_take nd (by rw [List.getElem?_map, hp]; rfl)
    have hn : valV (rs.reverse.map Rw.kv) (kI (srcs[i]).1) = none := by
      refine val_none fun h => nin2 ?_
      rw [List.map_map] at h ⊢
      obtain ⟨r, h1, h2⟩ := List.mem_map.mp h
      exact List.mem_map.mpr ⟨r, h1, Sum.inl.inj h2⟩
    refine v_putD (k := kI (srcs[i]).1) (hh.get (i := 1) rfl) (by rw [List.length_map, List.length_reverse]; omega) ⟨F2, ⟨(srcs[i]).1, Dd, ps', ob⟩ :: rs, ?_, s.trans s2, fun r hr' => ?_, ?_⟩
    · rw [List.reverse_cons, List.map_append, er1, List.take_add_one, hp, List.map_append]
      show _ ++ [((srcs[i]).1, ps'.map er)] = _
      rw [ee]
      rfl
    · rcases List.mem_cons.mp hr' with rfl | hr'
      · exact ⟨⟨kvs, hc, hk⟩, ok2⟩
      · obtain ⟨⟨vs, h1, h2⟩, h3⟩ := hr r hr'
        exact ⟨⟨vs, h1, h2.mono s2⟩, h3.mono s2 fun _ h => h⟩
    · have h3 := hh.set1 (o' := .dK (putK (rs.reverse.map Rw.kv) (kI (srcs[i]).1) (.ref Dd)))
      have e6 : ((⟨(srcs[i]).1, Dd, ps', ob⟩ :: rs : List Rw).reverse.map Rw.kv) = putK (rs.reverse.map Rw.kv) (kI (srcs[i]).1) (.ref Dd) := by
        rw [putK_new _ hn, List.reverse_cons, List.map_append]
        rfl
      rw [e6]
      exact h3.perm (List.perm_append_comm_assoc [_] [_, _] _)
  · obtain ⟨F', rs, er1, s, hr, hh⟩ := h
    rw [len, List.take_length] at er1
    refine o_fz hh fun F3 H3 od s3 hh hF => ?_
    walk_at "go"
    refine s_sfld hh T.cl_Heap T.no_Heap_pictures [] rfl (by decide +kernel) (Nat.le_of_ble_eq_true rfl) fun H4 hh => ?_
    have hat : At K F3 (.dk (hK (rs.reverse.map Rw.ka))) (.ref D) := At.mkK (vs := rs.reverse.map Rw.kv) hF (by
      have := hK_at (K := K) (F := F3) (es := rs.reverse.map Rw.ka)
      unfold hV at this
      rw [List.map_map] at this
      exact this)
    exact ⟨rfl, mk_end hh (AtF.cons hat AtF.nil) fun F5 H5 u s5 hh5 ha => q F5 H5 u rs er1 (s1.trans (s.trans (s3.trans s5))) hh5 (fun r h => by
      obtain ⟨⟨vs, h1, h2⟩, h3⟩ := hr r h
      exact ⟨⟨vs, h1, h2.mono (s3.trans s5)⟩, h3.mono (s3.trans s5) fun _ h => h⟩) ha⟩
theorem fh_pictures (T : Tx K mg) (h : At K F0 (hD es) x) (s : Same F0 H) (q : ∀ w, At K F0 (.dk (hK es)) w → Q w H) : FldK K "pictures" x H Q := s_fld h s T.cl_Heap T.no_Heap_pictures (lk1 rfl) q
theorem rd_picture_of (T : Tx K mg) {k : Int} (h : At K F0 (hD es) x) (s : Same F0 H) (e : valV (hV es) (kI k) = some (.ref a)) (q : Q (.ref a) H) : sp_Heap_picture_of K [x, .int k] H Q E := by
  refine ⟨rfl, ?_⟩
  unfold t_Heap_picture_of
  walk_at "go"
  refine fh_pictures T h s fun w hw => ?_
  obtain ⟨b, od, vs, rfl, hf, hv⟩ := hw.dk_
  obtain rfl := hK_vals hv
  walk_at "go"
  exact v_dget (k := kI k) (.inr ⟨od, s _ _ hf⟩) e q
/-! heaps compared -/
theorem teq (T : Tx K mg) {p : Int × Th × Addr} {l' : Addr} (ok : PicOk F [] ps) (hp : p ∈ ps) (hl' : F l' = some (.lst (p.2.1.ls.map V.int))) (s : Same F H) (hx : At K F (dR p.2.1 p.2.2) x) (hy : At K F (dR p.2.1 l') y) : TEq (He.ga K "Thing") (sp_Thing_eq K) H x y true := by
  obtain ⟨a, dx, vs, ex, ha, _⟩ := hx.obj_
  obtain ⟨b, dy, us, ey, hb, _⟩ := hy.obj_
  subst ex ey
  have hl : F p.2.2 = some (.lst (p.2.1.ls.map V.int)) := by
    rcases ok.ls p hp with h | h
    · exact h
    · cases h
  refine ⟨rfl, a, dx, vs, b, dy, us, rfl, rfl, s _ _ ha, s _ _ hb, ?_⟩
  refine rd_eq T hx hy s s rfl rfl rfl (ok.th p hp).fl (s _ _ hl) (s _ _ hl') ?_
  exact ⟨by rw [decide_eq_true rfl], rfl⟩
theorem hit_pic (T : Tx K mg) {va vb : List (L2.Key × V)} (ok : PicOk F [] ps) (ok' : PicOk F [] ps') (ee : ps.map er = ps'.map er) (s : Same F H) (hb : AtK K F (pK ps') vb) : ∀ {qs : Pic} {va : List (L2.Key × V)}, (∀ p ∈ qs, p ∈ ps) → AtK K F (pK qs) va → HitV (TEq (He.ga K "Thing") (sp_Thing_eq K) H) vb va true
  | [], va, _, h => by rw [AtK.ni h]; exact .nil
  | p :: qs, va, hq, h => by
    obtain ⟨u, us, rfl, h1, h2⟩ := AtK.ci h
    have hp := hq p (List.mem_cons_self ..)
    obtain ⟨l', e'⟩ := er_mem ee (fnd_of ok.nd hp)
    obtain ⟨w, hw, ha⟩ := hb.val (k := kI p.1) (d := dR p.2.1 l') (by rw [fnd_val, e']; rfl)
    have hl' : F l' = some (.lst (p.2.1.ls.map V.int)) := by
      rcases ok'.ls _ (fnd_mem e') with h | h
      · exact h
      · cases h
    have h3 := hit_pic T (va := va) ok ok' ee s hb (qs := qs) (fun p hp => hq p (List.mem_cons_of_mem _ hp)) h2
    exact .hit (e := true) (b := true) hw (teq T ok hp hl' s h1 ha) h3
def PicD (K : PySem.W.Frag) (F H : Hp) (ps : Pic) (a : Addr) : Prop := ∃ od vs, H a = some (.frz od (.dK vs)) ∧ AtK K F (pK ps) vs
theorem deq_pic (T : Tx K mg) (ok : PicOk F [] ps) (ok' : PicOk F [] ps') (ee : ps.map er = ps'.map er) (s : Same F H) (ha : PicD K F H ps a) (hb : PicD K F H ps' b) : DEq (TEq (He.ga K "Thing") (sp_Thing_eq K) H) H (.ref a) (.ref b) true := by
  obtain ⟨oa, va, h1, h2⟩ := ha
  obtain ⟨ob, vb, h3, h4⟩ := hb
  refine ⟨a, b, oa, ob, va, vb, true, rfl, rfl, h1, h3, fun _ => hit_pic T (va := va) ok ok' ee s h4 (fun _ h => h) h2, fun _ => rfl, ?_⟩
  have e1 := h2.len
  have e2 := h4.len
  unfold pK at e1 e2
  rw [List.length_map] at e1 e2
  have e3 := congrArg List.length ee
  rw [List.length_map, List.length_map] at e3
  rw [e1, e2, e3, beq_self_eq_true]
  rfl
theorem deq_len {D : V → V → Bool → Prop} {oa ob : Obj} {va vb : List (L2.Key × V)} (h1 : H a = some (.frz oa (.dK va))) (h2 : H b = some (.frz ob (.dK vb))) (n : va.length ≠ vb.length) : DEq D H (.ref a) (.ref b) false :=
  ⟨a, b, oa, ob, va, vb, true, rfl, rfl, h1, h2, fun e => (n e).elim, fun _ => rfl, by rw [beq_eq_false_iff_ne.mpr n]; rfl⟩
theorem deq_two {D : V → V → Bool → Prop} {k1 k2 : Int} {a1 a2 b1 b2 : Addr} {e1 e2 : Bool} {oa ob : Obj} (h1 : H a = some (.frz oa (.dK (hV [(k1, a1), (k2, a2)])))) (h2 : H b = some (.frz ob (.dK (hV fs)))) (l : fs.length = 2)
    (v1 : valV (hV fs) (kI k1) = some (.ref b1)) (v2 : valV (hV fs) (kI k2) = some (.ref b2)) (d1 : D (.ref a1) (.ref b1) e1) (d2 : D (.ref a2) (.ref b2) e2) (hs : a = b → (e1 && e2) = true) : DEq D H (.ref a) (.ref b) (e1 && e2) := by
  refine ⟨a, b, oa, ob, _, _, e1 && e2, rfl, rfl, h1, h2, fun _ => ?_, hs, ?_⟩
  · have h := HitV.hit (k := kI k1) v1 d1 (.hit (k := kI k2) v2 d2 (.nil (D := D)))
    rw [Bool.and_true] at h
    exact h
  · unfold hV
    rw [List.length_map, List.length_map, l]
    rfl
/-- heap == heap, by what is said of their pictures' dicts -/
theorem rd_heap_eq (T : Tx K mg) (hx : At K F0 (hD es) x) (hy : At K F1 (hD fs) y) (s0 : Same F0 H) (s1 : Same F1 H)
    (q : ∀ a b oa ob, F0 a = some (.frz oa (.dK (hV es))) → F1 b = some (.frz ob (.dK (hV fs))) → rEqPP (He.ga K "Thing") (sp_Thing_eq K) (.ref a) (.ref b) H Q) : sp_Heap_eq K [x, y] H Q E := by
  refine ⟨rfl, ?_⟩
  unfold t_Heap_eq
  walk_at "go"
  refine s_isi hy s1 T.cl_Heap T.if_Heap T.is_Heap_Heap ?_
  walk_at "go"
  refine fh_pictures T hx s0 fun w hw => ?_
  walk_at "go"
  refine fh_pictures T hy s1 fun w2 hw2 => ?_
  obtain ⟨a, oa, va, rfl, ha, hva⟩ := hw.dk_
  obtain ⟨b, ob, vb, rfl, hb, hvb⟩ := hw2.dk_
  obtain rfl := hK_vals hva
  obtain rfl := hK_vals hvb
  exact q a b oa ob ha hb
theorem rd_heap_eqI (T : Tx K mg) {i : Int} (q : Q (.bl false) H) : sp_Heap_eq K [x, .int i] H Q E := by
  refine ⟨rfl, ?_⟩
  unfold t_Heap_eq
  walk_at "go"
  refine ⟨_, _, _, _, false, rfl, .own _, .base (.int i), T.ti_int_Heap, ?_⟩
  walk_at "go"
  exact q
theorem s_ownH (T : Tx K mg) {neg : Bool} (hx : At K F0 (hD es) x) (hy : At K F1 (hD fs) y) (s0 : Same F0 H) (s1 : Same F1 H)
    (q : ∀ a b oa ob, F0 a = some (.frz oa (.dK (hV es))) → F1 b = some (.frz ob (.dK (hV fs))) → rEqPP (He.ga K "Thing") (sp_Thing_eq K) (.ref a) (.ref b) H (fun v H' => ∃ t, v = .bl t ∧ Q (.bl (if neg then !t else t)) H')) : rOwn neg K (He.ga K "Heap") (sp_Heap_eq K) x y H Q := by
  obtain ⟨a, dx, us, ex, ha, _⟩ := hx.obj_
  obtain ⟨b, dy, gs, ey, hb, _⟩ := hy.obj_
  subst ex ey
  exact ⟨a, dx, us, rfl, s0 _ _ ha, .inl ⟨b, _, dy, gs, rfl, s1 _ _ hb, T.nq_Heap.2.1⟩, rd_heap_eq T hx hy s0 s1 q⟩
theorem s_ownHI (T : Tx K mg) {neg : Bool} {i : Int} (hx : At K F0 (hD es) x) (s0 : Same F0 H) (q : Q (.bl (if neg then !false else false)) H) : rOwn neg K (He.ga K "Heap") (sp_Heap_eq K) x (.int i) H Q := by
  obtain ⟨a, dx, us, ex, ha, _⟩ := hx.obj_
  subst ex
  exact ⟨a, dx, us, rfl, s0 _ _ ha, .inr ⟨⟨i, rfl⟩, T.nq_Heap.2.2⟩, rd_heap_eqI T ⟨_, rfl, q⟩⟩
end
end Lw

-- fld
namespace Lw
open PySem PySem.Spec PyProof.Rows L2 G
theorem rs_two {rs : List Rw} {x y : Int × List (Int × Th)} (e : rs.reverse.map Rw.er = [x, y]) : ∃ r1 r2, rs = [r2, r1] ∧ r1.er = x ∧ r2.er = y := by
  match rs, e with
  | [r2, r1], e =>
    have e : [r1.er, r2.er] = [x, y] := e
    exact ⟨r1, r2, rfl, (List.cons.inj e).1, (List.cons.inj (List.cons.inj e).2).1⟩
  | [], e => cases e
  | [_], e => have := congrArg List.length e; simp at this
  | _ :: _ :: _ :: _, e => have := congrArg List.length e; simp at this
theorem rs_one {rs : List Rw} {x : Int × List (Int × Th)} (e : rs.reverse.map Rw.er = [x]) : ∃ r1, rs = [r1] ∧ r1.er = x := by
  match rs, e with
  | [r1], e =>
    have e : [r1.er] = [x] := e
    exact ⟨r1, rfl, (List.cons.inj e).1⟩
  | [], e => cases e
  | _ :: _ :: _, e => have := congrArg List.length e; simp at this
theorem rw_er {r : Rw} {k : Int} {qs : List (Int × Th)} (e : r.er = (k, qs)) : r.key = k ∧ r.ps.map er = qs := Prod.mk.inj e
section
variable {K : PySem.W.Frag} {F F0 F1 F2 H H' : Hp} {Q R : VK} {E : XK} {mg : Str → Option Value} {M M' : List (Addr × HO)} {x y z kv tv gv scv : V} {o : HO} {a b c d l l' a1 a2 : Addr} {t t' : Th} {ns ms g : List Int} {ps ps' : Pic} {es fs : List (Int × Addr)} {σ : L2.St}
theorem g_disp {trs : List (TE × TE)} (h : ∀ p, H p = none → tPairs trs σ (upd H p (.dK [])) fun ps H2 => H2 p = some (.dK []) ∧ ∃ kvs : List (L2.Key × V), ps = kvs.map (fun kv => (kV kv.1, kv.2)) ∧ kvs.length ≤ 15 ∧ Q (.ref p) (upd H2 p (.dK (mergeK [] kvs)))) : tDisp trs σ H Q := h
theorem g_pairs {tk tv : TE} {r : List (TE × TE)} {S : List (V × V) → Hp → Prop} (h : tk σ H fun x H1 => tv σ H1 fun y H2 => tPairs r σ H2 fun ps H3 => S ((x, y) :: ps) H3) : tPairs ((tk, tv) :: r) σ H S := h
theorem g_pairs0 {S : List (V × V) → Hp → Prop} (h : S [] H) : tPairs [] σ H S := h
theorem o_disp2 {k1 k2 : Int} {i j : Nat} (hh : HH F H M) (ne : kI k1 ≠ kI k2) (e1 : σ[i]? = some (some (.ref a1))) (e2 : σ[j]? = some (some (.ref a2))) (q : ∀ F' H' u, Same F F' → HH F' H' M → At K F' (.dk (hK [(k1, a1), (k2, a2)])) u → Q u H') :
    tDisp [(tC (.int k1), tVar i), (tC (.int k2), tVar j)] σ H (FzK Q) := by
  refine g_disp fun p hp => ?_
  replace hh := hh.new (o := .dK []) hp
  refine g_pairs ?_
  refine g_c ?_
  refine ⟨_, e1, ?_⟩
  refine g_pairs ?_
  refine g_c ?_
  refine ⟨_, e2, ?_⟩
  refine g_pairs0 ?_
  refine ⟨hh.get (i := 0) rfl, hV [(k1, a1), (k2, a2)], rfl, by show 2 ≤ 15; decide, ?_⟩
  have em : mergeK [] (hV [(k1, a1), (k2, a2)]) = hV [(k1, a1), (k2, a2)] := by
    show putK (putK [] (kI k1) (V.ref a1)) (kI k2) (.ref a2) = _
    rw [show putK [] (kI k1) (V.ref a1) = [(kI k1, V.ref a1)] from rfl]
    refine putK_new _ (val_none fun h => ne ?_)
    exact (List.mem_singleton.mp h).symm
  rw [em]
  exact o_fz hh.set0 fun F1 H1 od s1 hh hF => q F1 H1 _ s1 hh (At.mkK hF hK_at)
theorem o_disp1 {k1 : Int} {i : Nat} (hh : HH F H M) (e1 : σ[i]? = some (some (.ref a1))) (q : ∀ F' H' u, Same F F' → HH F' H' M → At K F' (.dk (hK [(k1, a1)])) u → Q u H') : tDisp [(tC (.int k1), tVar i)] σ H (FzK Q) := by
  refine g_disp fun p hp => ?_
  replace hh := hh.new (o := .dK []) hp
  refine g_pairs ?_
  refine g_c ?_
  refine ⟨_, e1, ?_⟩
  refine g_pairs0 ?_
  refine ⟨hh.get (i := 0) rfl, hV [(k1, a1)], rfl, by show 1 ≤ 15; decide, ?_⟩
  rw [show mergeK [] (hV [(k1, a1)]) = hV [(k1, a1)] from rfl]
  exact o_fz hh.set0 fun F1 H1 od s1 hh hF => q F1 H1 _ s1 hh (At.mkK hF hK_at)
theorem pic_ref (h : At K F (dPic ps) x) : ∃ a od vs, x = .ref a ∧ F a = some (.frz od (.dK vs)) ∧ AtK K F (pK ps) vs := h.dk_
theorem rd_hcopied (T : Tx K mg) {es : List (Int × Addr)} (hx : At K F0 (hD es) x) (s : Same F0 H) (q : ∀ w, At K F0 (.dk (hK es)) w → MakeK (He.ga K "Heap") (sp_Heap_init K) [w] Q H E0) : sp_Heap_copied K [x] H Q E := by
  refine ⟨rfl, ?_⟩
  unfold t_Heap_copied
  walk_at "go"
  refine fh_pictures T hx s fun w hw => ?_
  walk_at "go"
  exact q w hw
theorem g_dpop2 {td ty tx : TE} (h : td σ H fun x H1 => ∃ a, x = .ref a ∧ IsD H1 a ∧ ty σ H1 fun y H2 => tx σ H2 fun z H3 => ∃ kvs k, H3 a = some (.dK kvs) ∧ y = kV k ∧ (∀ v, valV kvs k = some v → Q v (upd H3 a (.dK (dropK kvs k)))) ∧ (valV kvs k = none → Q z H3)) : tDPop2 td ty tx σ H Q := h
theorem drop_len {kvs : List (L2.Key × V)} {k : L2.Key} {v : V} (h : valV kvs k = some v) : (dropK kvs k).length < kvs.length := by
  unfold valV at h
  obtain ⟨kv, h1, _⟩ := Option.map_eq_some_iff.mp h
  have h0 := List.find?_some h1
  have h2 : kv.1 = k := of_decide_eq_true h0
  unfold dropK
  exact List.length_filter_lt_length_iff_exists.mpr ⟨kv, List.mem_of_find?_eq_some h1, by rw [h2]; simp⟩
end
end Lw

-- fld
namespace Lw
open PySem PySem.Spec PyProof.Rows L2 G
section
variable {K : PySem.W.Frag} {mg : Str → Option Value}
theorem law48 (T : Tx K mg) (H : Hp) (a : Addr) (ns0 : List Int) (hl : ns0.length ≤ 63) (hO : Only H) (hS : SqL K H a (ns0.map V.int)) : sp_law K [.ref a] H (fun v _ => v = .bl true) fun _ _ _ => False := by
  refine ⟨rfl, ?_⟩
  unfold t_law
  walk_at "go"
  refine rd_cells (n := 35) HH.start hS (by decide) (by decide) fun H1 d o ho hh => ?_
  walk_at "go"
  refine rd_rules hh ho fun F1 H2 o rv r0 r1 r2 m0 m1 m2 s1 ho hh hrv => ?_
  walk_at "go"
  refine rd_schema T (b := false) hh hrv fun F2 H3 scv s2 hh hsc => ?_
  walk_at "go"
  refine rd_pictureC T hh ho fun F3 H4 pv o ps C ok hC hp7 s3 ho hh hpv => ?_
  have hpl : ps.length ≤ 1000 := by omega
  walk_at "go"
  refine rd_shown T hh hpv (ok.mono (Same.refl _) fun p hp => List.mem_cons_of_mem _ hp) hpl fun F4 H5 kp s4 hh hkp => ?_
  walk_at "go"
  refine rd_draw hh ho ⟨by decide, by decide⟩ fun na H6 o h0 h1 ho hh => ?_
  walk_at "go"
  refine g_rngI (by omega) (by omega) fun Dl hDl => ?_
  refine c_range (fun i H' => i ≤ na.toNat ∧ ∃ o ns, DrO o ∧ ns.length = i ∧ HH F4 H' ((Dl, .lst (ns.map V.int)) :: (d, o) :: C)) ⟨Nat.zero_le _, o, [], ho, rfl, hh.new hDl⟩ ?_ ?_
  · clear hh ho
    rintro i H' hi ⟨_, o, ns, ho, hl, hh⟩
    walk_at "go"
    refine ⟨rfl, ?_⟩
    walk_at "go"
    refine rd_draw hh.swap ho ⟨by decide, by decide⟩ fun a H1 o1 h0 h1 ho hh => ?_
    walk_at "go"
    refine v_put (hh.get (i := 1) rfl) (by rw [List.length_map, sl16]; omega) ⟨by omega, o1, ns ++ [1 + a], ho, by rw [List.length_append, hl]; rfl, ?_⟩
    rw [List.map_append]
    exact hh.swap.set0
  clear hh ho
  rintro H6 ⟨_, o, g, ho, hgl, hh⟩
  have hg : At K (upd F4 Dl (.lst (g.map V.int))) (dL g) (.ref Dl) := At.mkL upd_same (AtA.ofFlat (g := V.int))
  have s5 := hh.frzS
  replace hh := hh.frz
  generalize upd F4 Dl (.lst (g.map V.int)) = F5 at hg s5 hh
  walk_at "go"
  have ok5 : PicOk F5 ((d, o) :: C) ps := ok.mono (s4.trans s5) fun p hp => List.mem_cons_of_mem _ hp
  have hpv5 := hpv.mono (s4.trans s5)
  refine rd_without T hh (hsc.mono (s3.trans (s4.trans s5))) hpv5 ok5 hpl hg fun F6 H7 fv ps2 ee ok2 s6 hh hfv => ?_
  have ps2l : ps2.length ≤ 1000 := by
    have := congrArg List.length ee
    rw [List.length_map, List.length_map, List.length_map] at this
    omega
  walk_at "go"
  refine rd_shown T hh hfv (ok2.mono (Same.refl _) fun _ h => (nomatch h)) ps2l fun F7 H8 sv s7 hh hsv => ?_
  walk_at "go"
  refine rd_due T hh (hpv5.mono (s6.trans s7)) (ok5.mono (s6.trans s7) fun _ h => h) hpl (hg.mono (s6.trans s7)) fun F8 H9 dv s8 hh hdv => ?_
  have hdv2 : At K F8 (dSh ps2) dv := by
    show At K F8 (dShQ (ps2.map er)) dv
    rw [ee]
    exact hdv
  walk_at "go"
  refine sh_ne rfl hsv hdv2 (s8.trans hh.sub) hh.sub ok2.th ?_
  walk_at "go"
  have s68 := s6.trans (s7.trans s8)
  refine rd_shown T hh (hpv5.mono s68) (ok5.mono s68 fun _ h => h) hpl fun F9 H10 kp2 s9 hh hkp2 => ?_
  walk_at "go"
  have s59 := s68.trans s9
  refine sh_ne rfl hkp2 hkp hh.sub ((s5.trans s59).trans hh.sub) ok5.th ?_
  walk_at "go"
  -- the first heap
  obtain ⟨pa, opd, pvs, rfl, hpf, hpk⟩ := pic_ref (hpv5.mono s59)
  obtain ⟨fa, ofd, fvs, rfl, hff, hfk⟩ := pic_ref (hfv.mono (s7.trans (s8.trans s9)))
  have ok9 : PicOk F9 ((d, o) :: C) ps := ok5.mono s59 fun _ h => h
  have ok29 : PicOk F9 [] ps2 := ok2.mono (s7.trans (s8.trans s9)) fun _ h => h
  refine o_disp2 (K := K) (k1 := 3) (k2 := 4) hh (by decide) rfl rfl fun F10 H11 hx s10 hh hhx => ?_
  walk_at "go"
  refine mk_Heap T (fun k => decide (k = 3)) (srcs := [(3, pa, ps), (4, fa, ps2)]) hh hhx (by show [(3 : Int), 4].Nodup; decide) (by show 2 ≤ 15; decide) (fun e he => ?_) fun F11 H12 hv rs ers s11 hh hrs hhv => ?_
  · rcases List.mem_cons.mp he with rfl | he
    · exact ⟨.inl ⟨opd, pvs, .inl (s10 _ _ hpf), hpk.mono s10⟩, ok9.mono s10 fun _ h => h, hpl⟩
    · rw [List.mem_singleton.mp he]
      exact ⟨.inl ⟨ofd, fvs, .inl (s10 _ _ hff), hfk.mono s10⟩, ok29.mono s10 fun _ h => (nomatch h), ps2l⟩
  obtain ⟨r3, r4, rfl, y3, y4⟩ := rs_two ers
  obtain ⟨k3, e3⟩ := rw_er y3
  clear y3
  obtain ⟨k4, e4⟩ := rw_er y4
  clear y4
  obtain ⟨⟨v3, c3, at3⟩, ok3⟩ := hrs r3 (List.mem_cons_of_mem _ (List.mem_cons_self ..))
  obtain ⟨⟨v4, c4, at4⟩, ok4⟩ := hrs r4 (List.mem_cons_self ..)
  obtain ⟨q3, a3, p3, o3⟩ := r3
  obtain ⟨q4, a4, p4, o4⟩ := r4
  dsimp only at k3 e3 k4 e4 c3 at3 ok3 c4 at4 ok4
  subst k3 k4
  obtain ⟨od3, rfl⟩ : ∃ od, o3 = .frz od (.dK v3) := c3
  obtain rfl : o4 = .dK v4 := c4
  have hhv : At K F11 (hD [(3, a3), (4, a4)]) hv := hhv
  have hh : HH F11 H12 ((a4, .dK v4) :: (a3, .frz od3 (.dK v3)) :: (d, o) :: C) := hh
  have s12 := hh.frz1S
  replace hh := hh.frz1
  have hf3 : upd F11 a3 (.frz od3 (.dK v3)) a3 = some (.frz od3 (.dK v3)) := upd_same
  generalize upd F11 a3 (.frz od3 (.dK v3)) = F12 at s12 hh hf3
  replace hhv := hhv.mono s12
  replace at3 := at3.mono s12
  replace at4 := at4.mono s12
  replace ok3 := ok3.mono s12 fun _ h => h
  replace ok4 := ok4.mono s12 fun _ h => h
  have hn4 : F12 a4 = none := hh.out (i := 0) rfl
  have p3l : p3.length ≤ 1000 := by have := congrArg List.length e3; rw [List.length_map, List.length_map] at this; omega
  have p4l : p4.length ≤ 1000 := by have := congrArg List.length e4; rw [List.length_map, List.length_map] at this; omega
  walk_at "go"
  -- its copy
  refine s_meth hhv hh.sub ["pictures"] rfl (by decide +kernel) ?_
  walk_at "go"
  refine rd_hcopied T hhv hh.sub fun w hw => ?_
  refine mk_Heap T (fun _ => true) (srcs := [(3, a3, p3), (4, a4, p4)]) hh hw (by show [(3 : Int), 4].Nodup; decide) (by show 2 ≤ 15; decide) (fun e he => ?_) fun F13 H13 ov rs ers s13 hh hrs hov => ?_
  · rcases List.mem_cons.mp he with rfl | he
    · exact ⟨.inl ⟨od3, v3, .inl hf3, at3⟩, ok3.mono (Same.refl _) fun _ h => (nomatch h), p3l⟩
    · rw [List.mem_singleton.mp he]
      exact ⟨.inr ⟨v4, List.mem_cons_self .., at4⟩, ok4.mono (Same.refl _) fun _ h => (nomatch h), p4l⟩
  obtain ⟨r5, r6, rfl, y5, y6⟩ := rs_two ers
  obtain ⟨k5, e5⟩ := rw_er y5
  clear y5
  obtain ⟨k6, e6⟩ := rw_er y6
  clear y6
  obtain ⟨⟨v5, c5, at5⟩, ok5'⟩ := hrs r5 (List.mem_cons_of_mem _ (List.mem_cons_self ..))
  obtain ⟨⟨v6, c6, at6⟩, ok6⟩ := hrs r6 (List.mem_cons_self ..)
  obtain ⟨q5, a5, p5, o5⟩ := r5
  obtain ⟨q6, a6, p6, o6⟩ := r6
  dsimp only at k5 e5 k6 e6 c5 at5 ok5' c6 at6 ok6
  subst k5 k6
  obtain ⟨od5, rfl⟩ : ∃ od, o5 = .frz od (.dK v5) := c5
  obtain ⟨od6, rfl⟩ : ∃ od, o6 = .frz od (.dK v6) := c6
  have hov : At K F13 (hD [(3, a5), (4, a6)]) ov := hov
  have hh : HH F13 H13 ((a6, .frz od6 (.dK v6)) :: (a5, .frz od5 (.dK v5)) :: (a4, .dK v4) :: (d, o) :: C) := hh
  obtain ⟨F14, s14, hh, hc⟩ := HH.frzAll (C := [(a6, .frz od6 (.dK v6)), (a5, .frz od5 (.dK v5))]) hh
  have hf6 : F14 a6 = some (.frz od6 (.dK v6)) := hc _ (List.mem_cons_self ..)
  have hf5 : F14 a5 = some (.frz od5 (.dK v5)) := hc _ (List.mem_cons_of_mem _ (List.mem_cons_self ..))
  replace hov := hov.mono s14
  replace at5 := at5.mono s14
  replace at6 := at6.mono s14
  replace ok5' := ok5'.mono s14 fun _ h => h
  replace ok6 := ok6.mono s14 fun _ h => h
  have sX := s13.trans s14
  replace hhv := hhv.mono sX
  replace at3 := at3.mono sX
  replace at4 := at4.mono sX
  replace ok3 := ok3.mono sX fun _ h => h
  replace ok4 := ok4.mono sX fun _ h => h
  replace hf3 := sX _ _ hf3
  -- other against heap, whatever else stands
  have cmp : ∀ {F' H' : Hp} {M : List (Addr × HO)} {neg : Bool} {Q : VK}, Same F14 F' → HH F' H' ((a4, .dK v4) :: M) → Q (.bl (!neg)) H' → rOwn neg K (He.ga K "Heap") (sp_Heap_eq K) ov hv H' Q := by
    intro F' H' M neg Q s h q
    refine s_ownH T (hov.mono s) (hhv.mono s) h.sub h.sub fun x y ox oy hx hy => .inr ⟨a4, v4, h.get (i := 0) rfl, true && true, fun od => ?_, true, rfl, by cases neg <;> exact q⟩
    have h' := h.set0 (o' := .frz od (.dK v4))
    have s' := s.trans h'.sub
    exact deq_two (k1 := 3) (k2 := 4) (fs := [(3, a3), (4, a4)]) (h'.sub _ _ hx) (h'.sub _ _ hy) rfl rfl rfl (deq_pic T ok5' ok3 e5 s' ⟨od5, v5, s' _ _ hf5, at5⟩ ⟨od3, v3, s' _ _ hf3, at3⟩)
      (deq_pic T ok6 ok4 e6 s' ⟨od6, v6, s' _ _ hf6, at6⟩ ⟨od, v4, h'.get (i := 0) rfl, at4⟩) (fun _ => rfl)
  have sY := s10.trans (s11.trans (s12.trans sX))
  have hpf := sY _ _ hpf
  have hff := sY _ _ hff
  replace hpk := hpk.mono sY
  replace hfk := hfk.mono sY
  walk_at "go"
  refine cmp (Same.refl _) hh ?_
  walk_at "go"
  refine s_ownHI T hhv hh.sub ?_
  rw [if_neg (by decide)]
  walk_at "go"
  refine o_disp2 (K := K) (k1 := 4) (k2 := 3) hh (by decide) rfl rfl fun F15 H14 hx2 s15 hh hhx2 => ?_
  walk_at "go"
  have okp : PicOk F15 ((a4, .dK v4) :: (d, o) :: C) ps := ok9.mono (sY.trans s15) fun p hp => List.mem_cons_of_mem _ hp
  have okf : PicOk F15 ((a4, .dK v4) :: (d, o) :: C) ps2 := ok29.mono (sY.trans s15) fun _ h => (nomatch h)
  refine mk_Heap T (fun _ => true) (srcs := [(4, fa, ps2), (3, pa, ps)]) hh hhx2 (by show [(4 : Int), 3].Nodup; decide) (by show 2 ≤ 15; decide) (fun e he => ?_) fun F16 H15 nv rs ers s16 hh hrs hnv => ?_
  · rcases List.mem_cons.mp he with rfl | he
    · exact ⟨.inl ⟨ofd, fvs, .inl (s15 _ _ hff), hfk.mono s15⟩, okf, ps2l⟩
    · rw [List.mem_singleton.mp he]
      exact ⟨.inl ⟨opd, pvs, .inl (s15 _ _ hpf), hpk.mono s15⟩, okp, hpl⟩
  obtain ⟨r7, r8, rfl, y7, y8⟩ := rs_two ers
  obtain ⟨k7, e7⟩ := rw_er y7
  clear y7
  obtain ⟨k8, e8⟩ := rw_er y8
  clear y8
  obtain ⟨⟨v7, c7, at7⟩, ok7⟩ := hrs r7 (List.mem_cons_of_mem _ (List.mem_cons_self ..))
  obtain ⟨⟨v8, c8, at8⟩, ok8⟩ := hrs r8 (List.mem_cons_self ..)
  obtain ⟨q7, a7, p7, o7⟩ := r7
  obtain ⟨q8, a8, p8, o8⟩ := r8
  dsimp only at k7 e7 k8 e8 c7 at7 ok7 c8 at8 ok8
  subst k7 k8
  obtain ⟨od7, rfl⟩ : ∃ od, o7 = .frz od (.dK v7) := c7
  obtain ⟨od8, rfl⟩ : ∃ od, o8 = .frz od (.dK v8) := c8
  have hnv : At K F16 (hD [(4, a7), (3, a8)]) nv := hnv
  have hh : HH F16 H15 ((a8, .frz od8 (.dK v8)) :: (a7, .frz od7 (.dK v7)) :: (a4, .dK v4) :: (d, o) :: C) := hh
  obtain ⟨F17, s17, hh, hc⟩ := HH.frzAll (C := [(a8, .frz od8 (.dK v8)), (a7, .frz od7 (.dK v7))]) hh
  have hf8 : F17 a8 = some (.frz od8 (.dK v8)) := hc _ (List.mem_cons_self ..)
  have hf7 : F17 a7 = some (.frz od7 (.dK v7)) := hc _ (List.mem_cons_of_mem _ (List.mem_cons_self ..))
  have s57 := s15.trans (s16.trans s17)
  refine s_ownH T (hhv.mono s57) (hnv.mono s17) hh.sub hh.sub fun x y ox oy hx hy => .inr ⟨a4, v4, hh.get (i := 0) rfl, true && true, fun od => ?_, true, rfl, ?_⟩
  · have h' := hh.set0 (o' := .frz od (.dK v4))
    have s' := h'.sub
    exact deq_two (k1 := 3) (k2 := 4) (fs := [(4, a7), (3, a8)]) (s' _ _ hx) (s' _ _ hy) rfl rfl rfl (deq_pic T (ok3.mono s57 fun _ h => h) (ok8.mono s17 fun _ h => h) (e3.trans e8.symm) s' ⟨od3, v3, s' _ _ (s57 _ _ hf3), at3.mono s57⟩ ⟨od8, v8, s' _ _ hf8, at8.mono s17⟩)
      (deq_pic T (ok4.mono s57 fun _ h => h) (ok7.mono s17 fun _ h => h) (e4.trans e7.symm) s' ⟨od, v4, h'.get (i := 0) rfl, at4.mono s57⟩ ⟨od7, v7, s' _ _ hf7, at7.mono s17⟩) (fun _ => rfl)
  rw [if_pos rfl]
  walk_at "go"
  refine o_disp1 (K := K) (k1 := 3) hh rfl fun F18 H16 hx3 s18 hh hhx3 => ?_
  walk_at "go"
  have s58 := s57.trans s18
  have okp3 : PicOk F18 ((a4, .dK v4) :: (d, o) :: C) ps := ok9.mono (sY.trans s58) fun p hp => List.mem_cons_of_mem _ hp
  refine mk_Heap T (fun _ => true) (srcs := [(3, pa, ps)]) hh hhx3 (by show [(3 : Int)].Nodup; decide) (by show 1 ≤ 15; decide) (fun e he => ?_) fun F19 H17 nv2 rs ers s19 hh hrs hnv2 => ?_
  · rw [List.mem_singleton.mp he]
    exact ⟨.inl ⟨opd, pvs, .inl (s58 _ _ hpf), hpk.mono s58⟩, okp3, hpl⟩
  obtain ⟨r9, rfl, e9⟩ := rs_one ers
  have hnv2 : At K F19 (hD [r9.ka]) nv2 := hnv2
  have hh : HH F19 H17 ([r9.cell] ++ ((a4, .dK v4) :: (d, o) :: C)) := hh
  replace hh := hh.drop
  have s59' := s58.trans s19
  refine s_ownH T (hhv.mono s59') hnv2 hh.sub hh.sub fun x y ox oy hx hy => .inl ⟨false, deq_len (hh.sub _ _ hx) (hh.sub _ _ hy) (by show 2 ≠ 1; decide), false, rfl, ?_⟩
  rw [if_neg (by decide)]
  walk_at "go"
  -- the first picture's lists are changed
  refine gi_list ?_
  walk_at "go"
  have hpvA : At K F19 (dPic ps) (.ref pa) := At.mkK (s59' _ _ hpf) (hpk.mono s59')
  refine s_listK hpvA hh (Same.refl _) pK_keys fun F20 H18 u20 s20 hh h20 => ?_
  walk_at "go"
  refine s_sorted h20 hh (Same.refl _) fun F21 H19 u21 s21 hh h21 => ?_
  have sL := s20.trans s21
  have hsl := (srt_perm (ns := ps.map (·.1))).length_eq
  rw [List.length_map] at hsl
  refine a_forL (e := D.i) h21 hh (fun r σ H' => ∃ F' C' w10 w11, (∀ n ∈ r, n ∈ ps.map (·.1)) ∧ (∀ p ∈ ps, ∃ ns : List Int, ns.length + r.length ≤ 100 ∧ (p.2.2, HO.lst (ns.map V.int)) ∈ C') ∧ σ = [some (.ref a), some (.ref d), some scv, some (.ref pa), some kp, some (.ref Dl), none, some (.ref fa), some hv, some ov, w10, w11, none] ∧ Same F21 F' ∧ HH F' H' ((a4, .dK v4) :: (d, o) :: C'))
    (fun _ _ _ ⟨_, _, _, _, _, _, _, s, h⟩ => s.trans h.sub) ⟨F21, C, none, none, fun n hn => srt_mem.mp hn, fun p hp => ⟨p.2.1.ls, by have : p.2.1.ls.length ≤ 8 := (ok.th p hp).ls.1; omega, hC p hp⟩, rfl, Same.refl _, hh⟩ ?_ ?_
  · clear hh
    rintro n r u σ H' hu ⟨F', C', w10, w11, hr, hC', rfl, s, hh⟩
    obtain rfl := At.v_.mp hu
    obtain ⟨⟨th, l⟩, e⟩ := fnd_some (hr n (List.mem_cons_self ..))
    have hm := fnd_mem e
    have hpvB := hpvA.mono (sL.trans s)
    have ev : valD (pK ps) (kI n) = some (dR th l) := by rw [fnd_val, e]; rfl
    obtain ⟨ns, hns, hmem⟩ := hC' _ hm
    rw [List.length_cons] at hns
    have fin : ∀ {nx : L2.St → Hp → Prop} {bk ct : L2.St → Hp → Prop} {rt : VK}, (∀ H'', (∃ F' C' w10 w11, (∀ n ∈ r, n ∈ ps.map (·.1)) ∧ (∀ p ∈ ps, ∃ ns : List Int, ns.length + r.length ≤ 100 ∧ (p.2.2, HO.lst (ns.map V.int)) ∈ C') ∧ [some (V.ref a), some (.ref d), some scv, some (.ref pa), some kp, some (.ref Dl), none, some (.ref fa), some hv, some ov, some (.int n), some (.ref l), none] = [some (.ref a), some (.ref d), some scv, some (.ref pa), some kp, some (.ref Dl), none, some (.ref fa), some hv, some ov, w10, w11, none] ∧ Same F21 F' ∧ HH F' H'' ((a4, .dK v4) :: (d, o) :: C')) →
        nx [some (V.ref a), some (.ref d), some scv, some (.ref pa), some kp, some (.ref Dl), none, some (.ref fa), some hv, some ov, some (.int n), some (.ref l), none] H'') →
        (tDrop (tBM K "list" rAppend (tVar 11) (tCons (tC (.int 99)) tNil))) ⟨nx, rt, bk, ct⟩ [some (V.ref a), some (.ref d), some scv, some (.ref pa), some kp, some (.ref Dl), none, some (.ref fa), some hv, some ov, some (.int n), some (.ref l), none] H' := by
      intro nx bk ct rt q
      obtain ⟨ma, mb, em⟩ := List.append_of_mem hmem
      subst em
      have h2 := hh.perm (M' := (l, .lst (ns.map V.int)) :: ([(a4, .dK v4), (d, o)] ++ (ma ++ mb))) (by
        have h := List.perm_middle (a := (l, HO.lst (ns.map V.int))) (l₁ := [(a4, HO.dK v4), (d, o)] ++ ma) (l₂ := mb)
        rw [List.append_assoc] at h
        rw [List.append_assoc] at h
        exact h)
      walk_at "go"
      refine o_tyL (i := 0) h2 rfl ?_
      walk_at "go"
      refine o_app0 h2 (by rw [List.length_map]; omega) fun H5 h3 => ?_
      refine q H5 ⟨F', (l, .lst (ns.map V.int ++ [.int 99])) :: (ma ++ mb), _, _, fun n hn => hr n (List.mem_cons_of_mem _ hn), fun p hp => ?_, rfl, s, h3.perm (List.perm_append_comm_assoc [_] [_, _] _)⟩
      by_cases ep : p.2.2 = l
      · refine ⟨ns ++ [99], by rw [List.length_append]; show ns.length + 1 + _ ≤ _; omega, ?_⟩
        rw [ep, List.map_append]
        exact List.mem_cons_self ..
      · obtain ⟨ms, h4, h5⟩ := hC' p hp
        rw [List.length_cons] at h4
        refine ⟨ms, by omega, List.mem_cons_of_mem _ ?_⟩
        rcases List.mem_append.mp h5 with h5 | h5
        · exact List.mem_append_left _ h5
        · rcases List.mem_cons.mp h5 with h5 | h5
          · exact (ep (Prod.mk.inj h5).1).elim
          · exact List.mem_append_right _ h5
    walk_at "go"
    refine s_dgetI hpvB hh.sub ev fun tv htv => ?_
    refine fk_contents T htv hh.sub fun cw hcw => ?_
    walk_at "go"
    refine s_dgetI hpvB hh.sub ev fun tv2 htv2 => ?_
    refine fk_kind T htv2 hh.sub ?_
    walk_at "go"
    cases th with
    | A ca ct cr cl =>
      rw [show decide ((Th.A ca ct cr cl).kind = q_A) = true from rfl]
      walk_at "go"
      refine s_dgetT hcw hh.sub (ck_ln (t := .A ca ct cr cl)) fun w hw => ?_
      rw [At.v_.mp hw]
      exact fin fun H'' h => h
    | B ca ct cl =>
      rw [show decide ((Th.B ca ct cl).kind = q_A) = false from rfl]
      walk_at "go"
      refine s_dgetT hcw hh.sub (ck_ln (t := .B ca ct cl)) fun w hw => ?_
      rw [At.v_.mp hw]
      exact fin fun H'' h => h
  clear hh
  rintro σ H20 ⟨F22, C', w10, w11, _, _, rfl, s22, hh⟩
  have sZ := s59'.trans (sL.trans s22)
  replace hhv := hhv.mono sZ
  walk_at "go"
  refine s_meth hhv hh.sub ["pictures"] rfl (by decide +kernel) ?_
  walk_at "go"
  refine rd_picture_of T (es := [(3, a3), (4, a4)]) hhv hh.sub rfl ?_
  refine rd_shown (E := fun _ _ _ => False) T hh (At.mkK (sZ _ _ hf3) (at3.mono sZ)) (ok3.mono sZ fun _ h => (nomatch h)) p3l fun F23 H21 w23 s23 hh h23 => ?_
  walk_at "go"
  have sK : Same F4 F22 := s5.trans (s59.trans (sY.trans sZ))
  refine sh_ne e3 h23 hkp hh.sub ((sK.trans s23).trans hh.sub) ok3.th ?_
  walk_at "go"
  refine cmp (sZ.trans s23) hh ?_
  walk_at "go"
  have sW := sZ.trans s23
  replace hhv := hhv.mono s23
  refine s_meth hhv hh.sub ["pictures"] rfl (by decide +kernel) ?_
  walk_at "go"
  refine rd_picture_of T (es := [(3, a3), (4, a4)]) hhv hh.sub rfl ?_
  walk_at "go"
  refine g_dpop2 ?_
  walk_at "go"
  refine ⟨a4, rfl, .inl ⟨v4, .inl (hh.get (i := 0) rfl)⟩, ?_⟩
  walk_at "go"
  have ein : (valV v4 (kI 1)).isSome = (valD (pK ps2) (kI 1)).isSome := by
    rw [isS_AtK at4, fnd_val, fnd_val]
    have h1 := fnd_er (n := 1) (ps := p4)
    have h2 := fnd_er (n := 1) (ps := ps2)
    rw [e4] at h1
    rw [h1] at h2
    have h3 := congrArg Option.isSome h2
    simpa using h3
  have fin : ∀ {F' H' : Hp} {M : List (Addr × HO)}, Same F14 F' → HH F' H' M → (tOp (rEqX K) (tCallSD (sp__law_shown K) [] Ez (tCons (tMethD (He.ga K ("Heap" : Str)) ("picture_of" : Str) (sp_Heap_picture_of K) [] Ez (tVar 9) (tCons (tC (.int 3)) tNil)) tNil)) (tVar 4))
      [some (V.ref a), some (.ref d), some scv, some (.ref pa), some kp, some (.ref Dl), none, some (.ref fa), some hv, some ov, w10, w11, some (.ref a4)] H' fun v _ => v = .bl true := by
    intro F' H' M s h
    walk_at "go"
    refine s_meth (hov.mono s) h.sub ["pictures"] rfl (by decide +kernel) ?_
    walk_at "go"
    refine rd_picture_of T (es := [(3, a5), (4, a6)]) (hov.mono s) h.sub rfl ?_
    refine rd_shown (E := fun _ _ _ => False) T h (At.mkK (s _ _ hf5) (at5.mono s)) (ok5'.mono s fun _ h => (nomatch h)) (by have := congrArg List.length e5; rw [List.length_map, List.length_map] at this; omega) fun F24 H22 w24 s24 hh h24 => ?_
    walk_at "go"
    exact sh_eq (e5.trans e3) h24 hkp hh.sub ((s5.trans (s59.trans (sY.trans (s.trans s24)))).trans hh.sub) ok5'.th rfl
  refine ⟨v4, kI 1, hh.get (i := 0) rfl, rfl, fun pv hpv1 => ?_, fun hpn => ?_⟩
  · have h5 := hh.set0 (o' := .dK (dropK v4 (kI 1)))
    walk_at "go"
    refine s_ownH T (hov.mono sW) hhv h5.sub h5.sub fun x y ox oy hx hy => .inr ⟨a4, dropK v4 (kI 1), h5.get (i := 0) rfl, true && false, fun od => ?_, false, rfl, ?_⟩
    · have h' := h5.set0 (o' := .frz od (.dK (dropK v4 (kI 1))))
      have s' := sW.trans h'.sub
      refine deq_two (k1 := 3) (k2 := 4) (fs := [(3, a3), (4, a4)]) (h'.sub _ _ hx) (h'.sub _ _ hy) rfl rfl rfl (deq_pic T ok5' ok3 e5 s' ⟨od5, v5, s' _ _ hf5, at5⟩ ⟨od3, v3, s' _ _ hf3, at3⟩)
        (deq_len (s' _ _ hf6) (h'.get (i := 0) rfl) ?_) (fun z => ?_)
      · have h1 := drop_len hpv1
        have h2 := at6.len
        have h3 := at4.len
        unfold pK at h2 h3
        rw [List.length_map] at h2 h3
        have h4 := congrArg List.length e6
        rw [List.length_map, List.length_map] at h4
        omega
      · have hnF := h5.out (i := 0) rfl
        have hfF := sW _ _ hf6
        rw [z] at hx
        rw [hx] at hy
        have h1 := congrArg (fun z : Option HO => match z with | some (.frz _ (.dK vs)) => vs | _ => []) hy
        have h2 : [(kI 3, V.ref a5), (kI 4, V.ref a6)] = [(kI 3, V.ref a3), (kI 4, V.ref a4)] := h1
        have h3 : V.ref a6 = V.ref a4 := (Prod.mk.inj (List.cons.inj (List.cons.inj h2).2).1).2
        rw [V.ref.inj h3, hnF] at hfF
        cases hfF
    · rw [if_neg (by decide)]
      walk_at "go"
      refine s_dinI (At.mkK (sW _ _ hff) (hfk.mono sW)) h5.sub ?_
      rw [if_pos rfl, ← ein, hpv1]
      walk_at "go"
      rw [show decide (false = !(some pv).isSome) = true from rfl]
      rw [if_pos rfl]
      exact fin sW h5
  · walk_at "go"
    refine cmp sW hh ?_
    walk_at "go"
    refine s_dinI (At.mkK (sW _ _ hff) (hfk.mono sW)) hh.sub ?_
    rw [if_pos rfl, ← ein, hpn]
    walk_at "go"
    rw [show decide ((!false) = !(none : Option V).isSome) = true from rfl]
    rw [if_pos rfl]
    exact fin sW hh
end
end Lw

open PySem PySem.W PySem.Calls PyProof.Rows
set_option maxHeartbeats 0 in
theorem PySem.Challenge.cw_oneheap_k48_numbers_leave_contents_holds : PySem.Challenge.rw_oneheap_k48_numbers_leave_contents.Holds := by
  w_on; o_law
  refine HandSHeadRun.head_any (r := OpenLaw.row PySem.Challenge.rw_oneheap_k48_numbers_leave_contents) (q := view (OpenLaw.row PySem.Challenge.rw_oneheap_k48_numbers_leave_contents).prog [34]) (H := Lw.hk) (ob := Lw.ob) (M := 6000) (loose := Lw.nm) (d := HandSHeadRun.topDef (OpenLaw.row PySem.Challenge.rw_oneheap_k48_numbers_leave_contents).prog 34) (kwd := []) Lw.ob_eq
    (by kernel_rfl) (fun s => by kernel_rfl) Lw.run (by kernel_rfl) (by kernel_rfl) (by kernel_rfl) (by rfl) (by first | assumption | decide +kernel) (by decide +kernel) ⟨rfl, rfl, rfl, rfl, rfl, by decide +kernel⟩ ?hw ?hc
  case hw => w_witness2
  case hc =>
    refine G.walk_ofG (l := PySem.Challenge.rw_oneheap_k48_numbers_leave_contents) (n := 63) (k := 9) (x := "_law_script") rfl (by decide) (by kernel_rfl) ⟨rfl, by decide, by decide⟩ ?F
    intro w mg fa h Y G hmg0
    obtain ⟨K, KX, c⟩ := Y
    have hmg : mg ("law" : PySem.Str) = some (.ref fa) := by
      have e : (HandSHeadRun.topDef (OpenLaw.row PySem.Challenge.rw_oneheap_k48_numbers_leave_contents).prog 34).name = ("law" : PySem.Str) := by kernel_rfl
      rw [← e]
      exact hmg0
    have T := Lw.tx KX G c.d c.more c.p
    have e : fa = He.ga K "law" := by
      have z := hmg.symm.trans T.g_law
      cases z
      rfl
    subst e
    obtain ⟨fd, hb, hF⟩ := T.law (P := (PySem.Challenge.rw_oneheap_k48_numbers_leave_contents).prog) (w := w)
    exact ⟨K, fd, Lw.sp_law K, KX, hb, fun H a ns hl hO hS => Lw.law48 T H a ns hl hO hS, hF⟩
